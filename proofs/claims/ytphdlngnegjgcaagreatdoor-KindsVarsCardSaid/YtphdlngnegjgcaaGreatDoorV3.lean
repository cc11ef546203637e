/- Words of the proof, part 3; nothing is claimed here. -/
import Derived.Test.YtphdlngnegjgcaaGreatDoorV2
set_option linter.unusedVariables false
set_option linter.unusedSimpArgs false
namespace Go.Proofs.YtphdlngnegjgcaaGreatDoor
open Go
abbrev ooO:=Option LS
abbrev ooW:=Option LE
abbrev ooC:=Option Int
abbrev ooA:=Option Bool
abbrev ooD:=Option aan
abbrev oof:=Option aah
abbrev ooJ:=Option aao
abbrev ooQ:=Option aaa
abbrev oog:=Option (List Int)
abbrev oob:=Option (aaq×LE)
abbrev ooc:=Option (aaq×LS)
abbrev ooh:=Option (Bool×Int)
abbrev ooX:=Option (aaq×Int)
abbrev ooN:=Option (aaq×aae)
abbrev ooT:=Option (abw×Bool)
abbrev ooU:=Option (Except Int LE)
abbrev ooY:=Option (aaq×aah)
abbrev ood:=Option (aaq×aap)
abbrev ooe:=Option (aaq×aab)
abbrev ooI:=Option (aaa×Int)
abbrev ooB:=Option (aaj×Bool)
abbrev ooE:=Option (aau×Bool)
abbrev ooP:=Option ((List Int)×Int)
abbrev ooZ:=Option (aaq×Int×LS)
abbrev ooa:=Option (Except Int aah)
abbrev ooS:=Option (Except Int (aab×LB))
abbrev ooV:=Option (aaa×aaa×Int)
abbrev ooL:=Option (aao×(List Int)×Bool)
abbrev ooK:=Option (Except Int (aaf×LS))
abbrev ooF:=Option (Except Int (aaf×aae))
abbrev ooR:=Option (Except Int (aaa×aaa))
abbrev ooH:=Option (aaa×(List (List Int))×Int)
abbrev ooG:=Option (Except Int (aaf×aae×LS))
abbrev ooM:=Option (Except Int (aaf×aap×LS))
structure am8 where
 f121:LE→ooW
def ae6(k:Nat)(F:am8)  : LE→Nat→LE→ooW
 | [],b,a=>some a
 | (.mk d e f g h)::i,b,a=>(F.f121 h).bind fun j=>(aaC (decide ((a.length+1)*64≤140737488355328)) ((ae6 k F i) (b+1) (a++[(aah.mk d e f g j)])))
def aqf(k:Nat)(F:am8):LE→ooW:=fun a=>ae6 k F a 0 ([]:LE)
def agC(k0:Nat):Nat→am8
 | 0=>{ f121:=fun _=>none }
 | k+1=>{ f121:=aqf k0 (agC k0 k) }
def f121(k:Nat):LE→ooW:=(agC k k).f121
structure aqN where
 f89:LS→ooO
def ais(k:Nat)(F:aqN)(b:LS)(d:Nat)(e:Int)(f:BA)(g:Int)(h:BA)(i j:Int)(l:LE)(m n o:LS)(nx1:Nat→LS→ooO):LC→Nat→LC→ooO
 | [],p,a=>aaC (decide ((b.length+1)*184≤140737488355328)) (nx1 (d+1) (b++[(aae.mk e f g h i j l m n o a)]))
 | (.mk q r s t u)::v,p,a=>(f121 k t).bind fun x=>((F.f89 u).bind fun y=>(aaC (decide ((a.length+1)*80≤140737488355328)) ((ais k F b d e f g h i j l m n o nx1 v) (p+1) (a++[(aap.mk q r s x y)]))))
def agF(k:Nat)(F:aqN)  : LS→Nat→LS→ooO
 | [],b,a=>some a
 | (.mk d e f g h i j l m n o)::p,b,a=>(f121 k j).bind fun q=>((F.f89 l).bind fun r=>((F.f89 m).bind fun s=>((F.f89 n).bind fun t=>(ais k F a b d e f g h i q r s t (agF k F p) o 0 ([]:LC)))))
def awe(k:Nat)(F:aqN):LS→ooO:=fun a=>agF k F a 0 ([]:LS)
def ajz(k0:Nat):Nat→aqN
 | 0=>{ f89:=fun _=>none }
 | k+1=>{ f89:=awe k0 (ajz k0 k) }
def f89(k:Nat):LS→ooO:=(ajz k k).f89
def ahn(k:Nat)  : LF→Nat→LF→ooQ
 | [],b,a=>some (aaa.mk a)
 | (.mk e d f g h i)::j,b,a=>aaC (decide ((([]:LP).length+d.length)*24≤140737488355328)) ((f89 k i).bind fun l=>(aaC (decide ((a.length+1)*88≤140737488355328)) ((ahn k j) (b+1) (a++[(aab.mk e (([]:LP)++d) f g h l)]))))
def f62(k:Nat):aaa→ooQ:=fun a =>
 match a with
 | .mk b=>ahn k b 0 ([]:LF)
structure asF where
 f90:LE→ooW
def ahw(k:Nat)(F:asF)  : LE→Nat→LE→ooW
 | [],b,a=>some a
 | (.mk d e f j g)::h,b,a=>(F.f90 g).bind fun i=>(aaC (decide ((a.length+1)*64≤140737488355328)) ((ahw k F h) (b+1) (a++[(aah.mk d e f 0 i)])))
def auh(k:Nat)(F:asF):LE→ooW:=fun a=>ahw k F a 0 ([]:LE)
def akI(k0:Nat):Nat→asF
 | 0=>{ f90:=fun _=>none }
 | k+1=>{ f90:=auh k0 (akI k0 k) }
def f90(k:Nat):LE→ooW:=(akI k k).f90
structure aqr where
 f63:LS→ooO
def ain(k:Nat)(F:aqr)(b:LS)(d:Nat)(e:Int)(f g:BA)(h:Int)(i:LE)(j l m:LS)(nx1:Nat→LS→ooO):LC→Nat→LC→ooO
 | [],n,a=>aaC (decide ((b.length+1)*184≤140737488355328)) (nx1 (d+1) (b++[(aae.mk e f 0 g 0 h i j l m a)]))
 | (.mk o p v q r)::s,n,a=>(f90 k q).bind fun t=>((F.f63 r).bind fun u=>(aaC (decide ((a.length+1)*80≤140737488355328)) ((ain k F b d e f g h i j l m nx1 s) (n+1) (a++[(aap.mk o p 0 t u)]))))
def agA(k:Nat)(F:aqr)  : LS→Nat→LS→ooO
 | [],b,a=>some a
 | (.mk d e s f t g h i j l m)::n,b,a=>(f90 k h).bind fun o=>((F.f63 i).bind fun p=>((F.f63 j).bind fun q=>((F.f63 l).bind fun r=>(ain k F a b d e f g o p q r (agA k F n) m 0 ([]:LC)))))
def avg(k:Nat)(F:aqr):LS→ooO:=fun a=>agA k F a 0 ([]:LS)
def ai8(k0:Nat):Nat→aqr
 | 0=>{ f63:=fun _=>none }
 | k+1=>{ f63:=avg k0 (ai8 k0 k) }
def f63(k:Nat):LS→ooO:=(ai8 k k).f63
def aiu(k:Nat)  : Nat→LF→Int→ooQ
 | 0,_,_=>none
 | j760+1,b,a=>cond (decide (a<(b.length:Int))) ((idxO b a).bind fun (.mk d e f g j h)=>((f63 k h).bind fun i=>((aiu k j760) ((b.set a.toNat (aab.mk d e f g 0 h)).set a.toNat (aab.mk d e f g 0 i)) (w64 (a+1))))) (some (aaa.mk b))
def f39(k:Nat):aaa→ooQ:=fun a =>
 match a with
 | .mk b=>(f62 k (aaa.mk b)).bind fun (.mk d)=>(aiu k k d 0)
def akD(k:Nat)(a b:Int)(e:Bool)(d:Int)(f:Bool):ooD:=cond f (some (aan.mk (w64 (a+1)) (imax b d) true)) (some (aan.mk (w64 (a+1)) (imax b d) e))
def f114(k:Nat):aan→Int→ooD:=fun f a =>
 match f,a with
 | .mk b d e,a=>cond (decide ((w64 (b+1))>600)) (akD k b d e a true) (akD k b d e a (decide (a>16)))
def f115(k:Nat):aan→Bool→ooD:=fun e a =>
 match e,a with
 | .mk b d f,a=>cond (!a) (some (aan.mk b d true)) (some (aan.mk b d f))
def ajk(k:Nat)(a:Bool):ooA:=some a
def f139(k:Nat):Int→ooA:=fun a=>cond (decide (a≥97)) (ajk k (decide (a≤122))) (ajk k false)
def ajt(k:Nat)(a:Bool):ooA:=some a
def f140(k:Nat):Int→ooA:=fun a=>cond (decide (a≥48)) (ajt k (decide (a≤57))) (ajt k false)
def f167(k:Nat):Option LB:=some [⟨#[97,102,116,101,114]⟩,⟨#[97,119,97,105,116]⟩,⟨#[98,111,111,108]⟩,⟨#[98,114,101,97,107]⟩,⟨#[98,117,102,102,101,114]⟩,⟨#[99,97,110,99,101,108]⟩,⟨#[99,97,116,99,104]⟩,⟨#[99,104,97,110]⟩,⟨#[99,108,111,115,101]⟩,⟨#[99,111,110,116,105,110,117,101]⟩,⟨#[100,114,111,112]⟩,⟨#[101,97,99,104]⟩,⟨#[101,108,115,101]⟩,⟨#[101,109,105,116]⟩,⟨#[102,97,108,115,101]⟩,⟨#[102,105,110,97,108,108,121]⟩,⟨#[102,108,111,119]⟩,⟨#[102,110]⟩,⟨#[102,114,111,109]⟩,⟨#[104,111,108,100]⟩,⟨#[105,102]⟩,⟨#[105,110,116]⟩,⟨#[108,101,116]⟩,⟨#[108,111,99,107]⟩,⟨#[110,101,119]⟩,⟨#[110,111,119]⟩,⟨#[111,108,100]⟩,⟨#[112,114,111,100,117,99,101]⟩,⟨#[114,101,99,101,105,118,101]⟩,⟨#[114,101,116,117,114,110]⟩,⟨#[115,99,111,112,101]⟩,⟨#[115,101,108,101,99,116]⟩,⟨#[115,101,110,100]⟩,⟨#[115,104,105,101,108,100]⟩,⟨#[115,108,101,101,112]⟩,⟨#[115,112,97,119,110]⟩,⟨#[115,117,112,101,114,118,105,115,101,100]⟩,⟨#[116,97,115,107]⟩,⟨#[116,101,120,116]⟩,⟨#[116,104,114,111,119]⟩,⟨#[116,114,117,101]⟩,⟨#[116,114,121]⟩,⟨#[117,115,101]⟩,⟨#[119,104,105,108,101]⟩,⟨#[119,105,116,104,105,110]⟩,⟨#[121,105,101,108,100]⟩]
def ag8(k:Nat)(a:BA):LB→Nat→ooA
 | [],b=>some false
 | d::e,b=>cond (seq d a) (some true) ((ag8 k a e) (b+1))
def f141(k:Nat):BA→ooA:=fun a=>(f167 k ).bind fun b=>(ag8 k a b 0)
def ahM(k:Nat)(a:Bool):ooA:=some a
def ah4(k a:Nat)(b:Bool)(nx1:Nat→ooA):ooA:=cond b (some false) (nx1 (a+1))
def adU(k:Nat)(a:BA):List UInt8→Nat→ooA
 | [],b=>cond (decide ((a.size:Int)≥1)) (cond (decide ((a.size:Int)≤12)) ((f141 k a).bind fun f=>(ahM k (!f))) (ahM k false)) (ahM k false)
 | e::d,b=>(f139 k (e.toNat:Int)).bind fun g=>(cond (!g) (cond ((b:Int)==0) (ah4 k b true (adU k a d)) ((f140 k (e.toNat:Int)).bind fun h=>(ah4 k b (!h) (adU k a d)))) (ah4 k b false (adU k a d)))
def f117(k:Nat):BA→ooA:=fun a=>adU k a a.data.toList 0
def ajB(k:Nat)(a:Int)(b:Bool):ooT:=cond b (some ((abw.mk 1 1 0 false true 0),true)) (cond (a==22) (some ((abw.mk 0 1 0 false true 1),true)) (cond (a==23) (some ((abw.mk 0 0 0 false true 0),true)) (cond (a==24) (some ((abw.mk 0 0 2 false true 3),true)) (cond (a==25) (some ((abw.mk 1 1 1 false true 0),true)) (cond (a==28) (some ((abw.mk 0 600 1 true true 66),true)) (some ((abw.mk 0 0 0 false false 0),false)))))))
def af0(k:Nat)(a:Int)(b:Bool):ooT:=cond b (some ((abw.mk 0 0 0 false false 0),true)) (cond (a==17) (some ((abw.mk 0 1 0 false false 0),true)) (cond (a==20) (some ((abw.mk 1 1 0 false true 1),true)) (cond (a==21) (ajB k a (a==21)) (ajB k a (a==26)))))
def aeg(k:Nat)(a:Int)(b:Bool):ooT:=cond b (some ((abw.mk 1 1 0 false false 0),true)) (cond (a==13) (af0 k a (a==13)) (cond (a==18) (af0 k a (a==18)) (cond (a==19) (af0 k a (a==19)) (af0 k a (a==27)))))
def akA(k:Nat)(a:Int)(b:Bool):ooT:=cond b (some ((abw.mk 0 600 2 true false 0),true)) (cond (a==5) (some ((abw.mk 1 1 2 false false 0),true)) (cond (a==6) (some ((abw.mk 1 1 2 false false 1),true)) (cond (a==10) (some ((abw.mk 2 2 0 false false 0),true)) (cond (a==11) (aeg k a (a==11)) (cond (a==12) (aeg k a (a==12)) (cond (a==14) (aeg k a (a==14)) (cond (a==15) (aeg k a (a==15)) (cond (a==16) (aeg k a (a==16)) (aeg k a (a==29))))))))))
def ahp(k:Nat)(a:Int)(b:Bool):ooT:=cond b (some ((abw.mk 1 1 1 false false 0),true)) (cond (a==7) (some ((abw.mk 1 1 1 false false 2),true)) (cond (a==9) (some ((abw.mk 0 0 1 false false 0),true)) (cond (a==3) (akA k a (a==3)) (akA k a (a==4)))))
def f168(k:Nat):Int→ooT:=fun a=>cond (a==1) (ahp k a (a==1)) (cond (a==2) (ahp k a (a==2)) (ahp k a (a==8)))
def ajK(k a:Nat)(b:Bool)(nx1:Nat→ooA):ooA:=cond b (some false) (nx1 (a+1))
def aeb(k:Nat)(a:BA):List UInt8→Nat→ooA
 | [],b=>some (decide ((a.size:Int)≤60))
 | d::e,b=>cond (decide ((d.toNat:Int)<32)) (ajK k b true (aeb k a e)) (ajK k b (decide ((d.toNat:Int)>126)) (aeb k a e))
def f116(k:Nat):BA→ooA:=fun a=>aeb k a a.data.toList 0
structure ak9 where
 f84:aan→aah→Int→Bool→ooD
def agE(k:Nat)(F:ak9)(e:Int)(f:Bool):LE→Nat→Int→Int→Bool→ooD
 | [],g,b,d,a=>some (aan.mk b d a)
 | (.mk h i j l m)::n,g,b,d,a=>cond (!a) ((F.f84 (aan.mk b d a) (aah.mk h i j l m) (w64 (e+1)) f).bind fun (.mk o p q)=>((agE k F e f n) (g+1) o p q)) (some (aan.mk b d a))
def acl(k:Nat)(F:ak9)(a:LE)(b:Int)(d:Bool)(e f:Int)(g:Bool)(h:Int):ooD:=(f115 k (aan.mk e f g) ((a.length:Int)==h)).bind fun (.mk i j l)=>agE k F b d a 0 i j l
def anP(k:Nat)(F:ak9)(h i:Int)(j:BA)(a:LE)(b:Int)(d:Bool)(e f:Int)(g l:Bool):ooD:=cond l (cond (i==0) ((f115 k (aan.mk e f g) (seq j ⟨#[]⟩)).bind fun (.mk m n o)=>(acl k F a b d m n o 1)) ((f115 k (aan.mk e f g) false).bind fun (.mk p q r)=>(acl k F a b d p q r 1))) (cond (decide (h≥7)) (cond (decide (h≤19)) (cond (i==0) ((f115 k (aan.mk e f g) (seq j ⟨#[]⟩)).bind fun (.mk s t u)=>(acl k F a b d s t u 2)) ((f115 k (aan.mk e f g) false).bind fun (.mk v x y)=>(acl k F a b d v x y 2))) ((f115 k (aan.mk e f g) false).bind fun (.mk z A B)=>(acl k F a b d z A B 2))) ((f115 k (aan.mk e f g) false).bind fun (.mk C D G)=>(acl k F a b d C D G 2)))
def akT(k:Nat)(F:ak9)(h i:Int)(j:BA)(a:LE)(b:Int)(d:Bool)(e f:Int)(g:Bool):ooD:=cond (h==1) (cond (decide (i≥0)) (cond (decide (i≤1000000000000)) ((f115 k (aan.mk e f g) (seq j ⟨#[]⟩)).bind fun (.mk l m n)=>(acl k F a b d l m n 0)) ((f115 k (aan.mk e f g) false).bind fun (.mk o p q)=>(acl k F a b d o p q 0))) ((f115 k (aan.mk e f g) false).bind fun (.mk r s t)=>(acl k F a b d r s t 0))) (cond (h==2) (cond (i==0) ((f115 k (aan.mk e f g) (seq j ⟨#[]⟩)).bind fun (.mk u v x)=>(acl k F a b d u v x 0)) (cond (i==1) ((f115 k (aan.mk e f g) (seq j ⟨#[]⟩)).bind fun (.mk y z A)=>(acl k F a b d y z A 0)) ((f115 k (aan.mk e f g) false).bind fun (.mk B C D)=>(acl k F a b d B C D 0)))) (cond (h==3) (cond (i==0) ((f116 k j).bind fun G=>((f115 k (aan.mk e f g) G).bind fun (.mk I J N)=>(acl k F a b d I J N 0))) ((f115 k (aan.mk e f g) false).bind fun (.mk O S U)=>(acl k F a b d O S U 0))) (cond (h==4) (cond (i==0) ((f117 k j).bind fun V=>((f115 k (aan.mk e f g) V).bind fun (.mk W X Y)=>(acl k F a b d W X Y 0))) ((f115 k (aan.mk e f g) false).bind fun (.mk Z ab ac)=>(acl k F a b d Z ab ac 0))) (cond (h==5) (anP k F h i j a b d e f g true) (anP k F h i j a b d e f g (h==6))))))
def aoH(k:Nat)(F:ak9):aan→aah→Int→Bool→ooD:=fun o p a b =>
 match o,p,a,b with
 | .mk e f d,.mk g h i q j,a,b=>cond d (some (aan.mk e f d)) ((f114 k (aan.mk e f d) a).bind fun (.mk l m n)=>(cond b ((f115 k (aan.mk l m n) true).bind fun (.mk r s t)=>(akT k F g h i j a b r s t)) ((f115 k (aan.mk l m n) (q==0)).bind fun (.mk u v x)=>(akT k F g h i j a b u v x))))
def akp(k0:Nat):Nat→ak9
 | 0=>{ f84:=fun _ _ _ _=>none }
 | k+1=>{ f84:=aoH k0 (akp k0 k) }
def f84(k:Nat):aan→aah→Int→Bool→ooD:=(akp k k).f84
structure abk where
 f118:aan→LS→Int→ooD
 f142:aan→aae→Int→ooD
 f169:aan→aap→Int→ooD
def ae5(k:Nat)(F:abk)(e:Int):LS→Nat→Int→Int→Bool→ooD
 | [],f,b,d,a=>some (aan.mk b d a)
 | (.mk g h i j l m n o p q r)::s,f,b,d,a=>cond (!a) ((F.f142 (aan.mk b d a) (aae.mk g h i j l m n o p q r) e).bind fun (.mk t u v)=>((ae5 k F e s) (f+1) t u v)) (some (aan.mk b d a))
def arx(k:Nat)(F:abk):aan→LS→Int→ooD:=fun d a b =>
 match d,a,b with
 | .mk e f g,a,b=>ae5 k F b a 0 e f g
def aeI(k:Nat)(F:abk)(a:Nat)(b d:Int)(e:Bool)(nx1:Nat→Int→Int→Bool→ooD):ooD:=nx1 (a+1) b d e
def acU(k:Nat)(F:abk)(f:LC)(g:Int):LC→Nat→Int→Int→Bool→ooD
 | [],b,d,e,a=>some (aan.mk d e a)
 | (.mk h n o p q)::i,b,d,e,a=>cond (!a) ((F.f169 (aan.mk d e a) (aap.mk h n o p q) (w64 (g+1))).bind fun (.mk j l m)=>(cond (h != 4) ((f115 k (aan.mk j l m) true).bind fun (.mk r s t)=>(aeI k F b r s t (acU k F f g i))) ((f115 k (aan.mk j l m) ((b:Int)==(w64 ((f.length:Int) - 1)))).bind fun (.mk u v x)=>(aeI k F b u v x (acU k F f g i))))) (some (aan.mk d e a))
def ae8(k:Nat)(F:abk)(d e f:LS)(b:LC)(a g h:Int)(i:Bool):ooD:=(F.f118 (aan.mk g h i) d (w64 (a+1))).bind fun (.mk j l m)=>(F.f118 (aan.mk j l m) e (w64 (a+1))).bind fun (.mk n o p)=>((F.f118 (aan.mk n o p) f (w64 (a+1))).bind fun (.mk q r s)=>(acU k F b a b 0 q r s))
def abI(k:Nat)(F:abk)(f g h:LS)(i:LC)(b:Int):LE→Nat→Int→Int→Bool→ooD
 | [],j,d,e,a=>ae8 k F f g h i b d e a
 | (.mk l m n o p)::q,j,d,e,a=>cond (!a) ((f84 k (aan.mk d e a) (aah.mk l m n o p) (w64 (b+1)) false).bind fun (.mk r s t)=>((abI k F f g h i b q) (j+1) r s t)) (ae8 k F f g h i b d e a)
def aj0(k:Nat)(F:abk)(a:LE)(b d e:LS)(f:LC)(g h i:Int)(j:Bool):ooD:=abI k F b d e f g a 0 h i j
def adW(k:Nat)(F:abk)(l:Int)(b:LE)(d e f:LS)(a:LC)(g h i:Int)(j:Bool):ooD:=cond ((l==27)==(decide ((a.length:Int)>0))) ((f115 k (aan.mk h i j) (decide ((a.length:Int)≤4))).bind fun (.mk m n o)=>(aj0 k F b d e f a g m n o)) ((f115 k (aan.mk h i j) false).bind fun (.mk p q r)=>(aj0 k F b d e f a g p q r))
def ahJ(k:Nat)(F:abk)(a:Int)(n:BA)(m:Int)(b:LE)(d e f:LS)(g:LC)(h i j:Int)(l:Bool):ooD:=cond (a==6) (cond (m==0) ((f115 k (aan.mk i j l) true).bind fun (.mk o p q)=>(adW k F a b d e f g h o p q)) ((f115 k (aan.mk i j l) (!seq n ⟨#[]⟩)).bind fun (.mk r s t)=>(adW k F a b d e f g h r s t))) (cond (a==24) (cond (decide (m>0)) ((f115 k (aan.mk i j l) (((m.tmod 2)==1)==(!seq n ⟨#[]⟩))).bind fun (.mk u v x)=>(adW k F a b d e f g h u v x)) ((f115 k (aan.mk i j l) false).bind fun (.mk y z A)=>(adW k F a b d e f g h y z A))) (cond (a==28) ((f115 k (aan.mk i j l) (decide ((m.tmod 4)<3))).bind fun (.mk B C D)=>(adW k F a b d e f g h B C D)) (adW k F a b d e f g h i j l)))
def aed(k:Nat)(F:abk)(a:Int)(e:BA)(b:Int)(f:LE)(g h d:LS)(i:LC)(j l m:Int)(n:Bool):ooD:=cond ((d.length:Int)==0) ((f115 k (aan.mk l m n) true).bind fun (.mk o p q)=>(ahJ k F a e b f g h d i j o p q)) (cond (a==24) ((f115 k (aan.mk l m n) (decide (b≥2))).bind fun (.mk r s t)=>(ahJ k F a e b f g h d i j r s t)) ((f115 k (aan.mk l m n) false).bind fun (.mk u v x)=>(ahJ k F a e b f g h d i j u v x)))
def ahC(k:Nat)(F:abk)(a:Int)(e:BA)(b:Int)(f:LE)(g d h:LS)(i:LC)(j l m:Int)(n:Bool):ooD:=cond ((d.length:Int)==0) ((f115 k (aan.mk l m n) true).bind fun (.mk o p q)=>(aed k F a e b f g d h i j o p q)) (cond (a==20) (cond (b==1) ((f115 k (aan.mk l m n) true).bind fun (.mk r s t)=>(aed k F a e b f g d h i j r s t)) (cond (a==24) ((f115 k (aan.mk l m n) ((b.tmod 2)==1)).bind fun (.mk u v x)=>(aed k F a e b f g d h i j u v x)) ((f115 k (aan.mk l m n) false).bind fun (.mk y z A)=>(aed k F a e b f g d h i j y z A)))) (cond (a==24) ((f115 k (aan.mk l m n) ((b.tmod 2)==1)).bind fun (.mk B C D)=>(aed k F a e b f g d h i j B C D)) ((f115 k (aan.mk l m n) false).bind fun (.mk G I J)=>(aed k F a e b f g d h i j G I J))))
def ae4(k:Nat)(F:abk)(b:Int)(d:BA)(e:Int)(f:LE)(a g h:LS)(i:LC)(j:Int)(o:Bool)(l m:Int)(n:Bool):ooD:=cond o ((f115 k (aan.mk l m n) true).bind fun (.mk p q r)=>(ahC k F b d e f a g h i j p q r)) ((f115 k (aan.mk l m n) ((a.length:Int)==0)).bind fun (.mk s t u)=>(ahC k F b d e f a g h i j s t u))
def ab5(k:Nat)(F:abk)(a:Int)(b p:BA)(d:Int)(e:LE)(f g h:LS)(i:LC)(j:Int)(q l:Bool)(m n:Int)(o:Bool):ooD:=cond q ((f117 k p).bind fun r=>(cond r ((f115 k (aan.mk m n o) true).bind fun (.mk s t u)=>(ae4 k F a b d e f g h i j l s t u)) (cond (!q) ((f115 k (aan.mk m n o) (seq p ⟨#[]⟩)).bind fun (.mk v x y)=>(ae4 k F a b d e f g h i j l v x y)) ((f115 k (aan.mk m n o) false).bind fun (.mk z A B)=>(ae4 k F a b d e f g h i j l z A B))))) (cond (!q) ((f115 k (aan.mk m n o) (seq p ⟨#[]⟩)).bind fun (.mk C D G)=>(ae4 k F a b d e f g h i j l C D G)) ((f115 k (aan.mk m n o) false).bind fun (.mk I J N)=>(ae4 k F a b d e f g h i j l I J N)))
def adu(k:Nat)(F:abk)(b:Int)(a d:BA)(e:Int)(f:LE)(g h i:LS)(j:LC)(l r:Int)(m n:Bool)(o p:Int)(q:Bool):ooD:=cond (r==0) (cond (seq a ⟨#[]⟩) ((f115 k (aan.mk o p q) true).bind fun (.mk s t u)=>(ab5 k F b a d e f g h i j l m n s t u)) (cond (r==1) ((f117 k a).bind fun v=>(cond v ((f115 k (aan.mk o p q) true).bind fun (.mk x y z)=>(ab5 k F b a d e f g h i j l m n x y z)) (cond (r==2) ((f117 k a).bind fun A=>((f115 k (aan.mk o p q) A).bind fun (.mk B C D)=>(ab5 k F b a d e f g h i j l m n B C D))) ((f115 k (aan.mk o p q) false).bind fun (.mk G I J)=>(ab5 k F b a d e f g h i j l m n G I J))))) (cond (r==2) ((f117 k a).bind fun N=>((f115 k (aan.mk o p q) N).bind fun (.mk O S U)=>(ab5 k F b a d e f g h i j l m n O S U))) ((f115 k (aan.mk o p q) false).bind fun (.mk V W X)=>(ab5 k F b a d e f g h i j l m n V W X))))) (cond (r==1) ((f117 k a).bind fun Y=>(cond Y ((f115 k (aan.mk o p q) true).bind fun (.mk Z ab ac)=>(ab5 k F b a d e f g h i j l m n Z ab ac)) (cond (r==2) (cond (seq a ⟨#[]⟩) ((f115 k (aan.mk o p q) true).bind fun (.mk ad ae af)=>(ab5 k F b a d e f g h i j l m n ad ae af)) ((f117 k a).bind fun ai=>((f115 k (aan.mk o p q) ai).bind fun (.mk aj ak al)=>(ab5 k F b a d e f g h i j l m n aj ak al)))) ((f115 k (aan.mk o p q) false).bind fun (.mk am an ao)=>(ab5 k F b a d e f g h i j l m n am an ao))))) (cond (r==2) (cond (seq a ⟨#[]⟩) ((f115 k (aan.mk o p q) true).bind fun (.mk ap aq ar)=>(ab5 k F b a d e f g h i j l m n ap aq ar)) ((f117 k a).bind fun au=>((f115 k (aan.mk o p q) au).bind fun (.mk av aw ax)=>(ab5 k F b a d e f g h i j l m n av aw ax)))) ((f115 k (aan.mk o p q) false).bind fun (.mk ay az aA)=>(ab5 k F b a d e f g h i j l m n ay az aA))))
def aiV(k:Nat)(F:abk):aan→aae→Int→ooD:=fun v x a =>
 match v,x,a with
 | .mk t u s,.mk e f y g z b d h i j l,a=>cond s (some (aan.mk t u s)) ((f114 k (aan.mk t u s) a).bind fun (.mk m n o)=>((f168 k e).bind fun (.mk A B p q r C,D)=>(cond D (cond (decide ((d.length:Int)≥A)) (cond (decide ((d.length:Int)≤B)) (cond (decide (b≥0)) (cond (decide (b≤C)) (cond (y==0) ((f115 k (aan.mk m n o) (z==0)).bind fun (.mk G I J)=>(adu k F e f g b d h i j l a p q r G I J)) ((f115 k (aan.mk m n o) false).bind fun (.mk N O S)=>(adu k F e f g b d h i j l a p q r N O S))) ((f115 k (aan.mk m n o) false).bind fun (.mk U V W)=>(adu k F e f g b d h i j l a p q r U V W))) ((f115 k (aan.mk m n o) false).bind fun (.mk X Y Z)=>(adu k F e f g b d h i j l a p q r X Y Z))) ((f115 k (aan.mk m n o) false).bind fun (.mk ab ac ad)=>(adu k F e f g b d h i j l a p q r ab ac ad))) ((f115 k (aan.mk m n o) false).bind fun (.mk ae af ai)=>(adu k F e f g b d h i j l a p q r ae af ai))) ((f115 k (aan.mk m n o) false).bind fun (.mk aj ak al)=>(adu k F e f g b d h i j l a p q r aj ak al)))))
def aeT(k:Nat)(F:abk)(a:LS)(b d e:Int)(f:Bool):ooD:=(F.f118 (aan.mk d e f) a (w64 (b+1))).bind fun (.mk g h i)=>some (aan.mk g h i)
def ac3(k:Nat)(F:abk)(f:LS)(b:Int):LE→Nat→Int→Int→Bool→ooD
 | [],g,d,e,a=>aeT k F f b d e a
 | (.mk h i j l m)::n,g,d,e,a=>cond (!a) ((f84 k (aan.mk d e a) (aah.mk h i j l m) (w64 (b+1)) false).bind fun (.mk o p q)=>((ac3 k F f b n) (g+1) o p q)) (aeT k F f b d e a)
def ae0(k:Nat)(F:abk)(a:LE)(b:LS)(d e f:Int)(g:Bool):ooD:=ac3 k F b d a 0 e f g
def agj(k:Nat)(F:abk)(h:Int)(i:BA)(a:LE)(b:LS)(d e f:Int)(g:Bool):ooD:=cond (h==1) ((f117 k i).bind fun j=>(cond j ((f115 k (aan.mk e f g) true).bind fun (.mk l m n)=>(ae0 k F a b d l m n)) (cond (h != 1) ((f115 k (aan.mk e f g) (seq i ⟨#[]⟩)).bind fun (.mk o p q)=>(ae0 k F a b d o p q)) ((f115 k (aan.mk e f g) false).bind fun (.mk r s t)=>(ae0 k F a b d r s t))))) (cond (h != 1) ((f115 k (aan.mk e f g) (seq i ⟨#[]⟩)).bind fun (.mk u v x)=>(ae0 k F a b d u v x)) ((f115 k (aan.mk e f g) false).bind fun (.mk y z A)=>(ae0 k F a b d y z A)))
def ahK(k:Nat)(F:abk)(a:Int)(d:BA)(j:Int)(b:LE)(e:LS)(f g h:Int)(i:Bool)(l:Int):ooD:=cond (decide (a≥1)) (cond (decide (a≤4)) (cond ((b.length:Int)==l) ((f115 k (aan.mk g h i) (j==0)).bind fun (.mk m n o)=>(agj k F a d b e f m n o)) ((f115 k (aan.mk g h i) false).bind fun (.mk p q r)=>(agj k F a d b e f p q r))) ((f115 k (aan.mk g h i) false).bind fun (.mk s t u)=>(agj k F a d b e f s t u))) ((f115 k (aan.mk g h i) false).bind fun (.mk v x y)=>(agj k F a d b e f v x y))
def air(k:Nat)(F:abk):aan→aap→Int→ooD:=fun l m a =>
 match l,m,a with
 | .mk n o p,.mk b d e f g,a=>(f114 k (aan.mk n o p) a).bind fun (.mk h i j)=>(cond (b==2) (ahK k F b d e f g a h i j 2) (cond (b==4) (ahK k F b d e f g a h i j 0) (ahK k F b d e f g a h i j 1)))
def aaX(k0:Nat):Nat→abk
 | 0=>{ f118:=fun _ _ _=>none,f142:=fun _ _ _=>none,f169:=fun _ _ _=>none }
 | k+1=>{ f118:=arx k0 (aaX k0 k),f142:=aiV k0 (aaX k0 k),f169:=air k0 (aaX k0 k) }
def f118(k:Nat):aan→LS→Int→ooD:=(aaX k k).f118
def f142(k:Nat):aan→aae→Int→ooD:=(aaX k k).f142
def f169(k:Nat):aan→aap→Int→ooD:=(aaX k k).f169
def ap1(k:Nat)(a b:Int)(d:Bool):ooD:=some (aan.mk a b d)
def agy(k a:Nat)(b:LS)(d e:Int)(f:Bool)(nx1:Nat→Int→Int→Bool→ooD):ooD:=(f118 k (aan.mk d e f) b 1).bind fun (.mk g h i)=>nx1 (a+1) g h i
def al9(k a:Nat)(b d:Int)(e:Bool)(nx2:Nat→Int→Int→Bool→ooD):ooD:=nx2 (a+1) b d e
def afv(k e:Nat)(f:LS)(nx1:Nat→Int→Int→Bool→ooD):LP→Nat→Int→Int→Bool→ooD
 | [],g,b,d,a=>agy k e f b d a nx1
 | (.mk j i)::h,g,b,d,a=>cond (!a) ((f117 k j).bind fun l=>(cond l (cond (decide (i≥1)) ((f115 k (aan.mk b d a) (decide (i≤6))).bind fun (.mk m n o)=>(al9 k g m n o (afv k e f nx1 h))) ((f115 k (aan.mk b d a) false).bind fun (.mk p q r)=>(al9 k g p q r (afv k e f nx1 h)))) ((f115 k (aan.mk b d a) false).bind fun (.mk s t u)=>(al9 k g s t u (afv k e f nx1 h))))) (agy k e f b d a nx1)
def afk(k a:Nat)(b:LP)(d:LS)(e f:Int)(g:Bool)(nx1:Nat→Int→Int→Bool→ooD):ooD:=afv k a d nx1 b 0 e f g
def abV(k:Nat)  : LF→Nat→Int→Int→Bool→ooD
 | [],a,j,l,i=>ap1 k j l i
 | (.mk o b m p n d)::e,a,j,l,i=>cond (!i) ((f114 k (aan.mk j l i) 0).bind fun (.mk f g h)=>((f117 k o).bind fun q=>(cond q (cond (decide ((b.length:Int)≤4)) (cond (decide (m≥0)) (cond (decide (m≤6)) (cond (!p) ((f115 k (aan.mk f g h) (n==0)).bind fun (.mk r s t)=>(afk k a b d r s t (abV k e))) (cond (m==0) ((f115 k (aan.mk f g h) (n==0)).bind fun (.mk u v x)=>(afk k a b d u v x (abV k e))) ((f115 k (aan.mk f g h) false).bind fun (.mk y z A)=>(afk k a b d y z A (abV k e))))) ((f115 k (aan.mk f g h) false).bind fun (.mk B C D)=>(afk k a b d B C D (abV k e)))) ((f115 k (aan.mk f g h) false).bind fun (.mk G I J)=>(afk k a b d G I J (abV k e)))) ((f115 k (aan.mk f g h) false).bind fun (.mk N O S)=>(afk k a b d N O S (abV k e)))) ((f115 k (aan.mk f g h) false).bind fun (.mk U V W)=>(afk k a b d U V W (abV k e)))))) (ap1 k j l i)
def anj(k:Nat)(a:LF)(b d:Int)(e:Bool):ooD:=abV k a 0 b d e
def f85(k:Nat):aaa→ooD:=fun b =>
 match b with
 | .mk a=>cond (decide ((a.length:Int)≥1)) ((f115 k (aan.mk 0 0 false) (decide ((a.length:Int)≤16))).bind fun (.mk d e f)=>(anj k a d e f)) ((f115 k (aan.mk 0 0 false) false).bind fun (.mk g h i)=>(anj k a g h i))
def f59(k:Nat):aaa→ooA:=fun a =>
 match a with
 | .mk b=>(f85 k (aaa.mk b)).bind fun (.mk e f d)=>(some (!d))
def anD(k:Nat)(a:Bool):ooA:=some a
def f37(k:Nat):aaa→ooA:=fun b =>
 match b with
 | .mk a=>cond (decide ((a.length:Int)≤16)) ((f39 k (aaa.mk a)).bind fun (.mk d)=>((f59 k (aaa.mk d)).bind fun e=>(anD k e))) (anD k false)
def aeh(k:Nat)(b:BA):LF→Nat→ooC
 | [],a=>some (-1)
 | (.mk d f g h i j)::e,a=>cond (seq d b) (some (a:Int)) ((aeh k b e) (a+1))
def f60(k:Nat):LF→BA→ooC:=fun a b=>aeh k b a 0
def agt(k:Nat)(b:LF)(d:BA)(e:LP)(f:Int)(g:Bool)(h:Int)(i:LS)(a:LB)(j:(List Int))(l m:Int)(n:BA):List Int→Nat→ooX
 | [],o=>some ((aaq.mk b (aab.mk d e f g h i) a j l m),(-1))
 | p::q,o=>(idxO a p).bind fun r=>(cond (seq r n) (some ((aaq.mk b (aab.mk d e f g h i) a j l m),p)) ((agt k b d e f g h i a j l m n q) (o+1)))
def f119(k:Nat):aaq→BA→ooX:=fun d a =>
 match d,a with
 | .mk e (.mk f g h i j l) m b n o,a=>agt k e f g h i j l m b n o a b 0
def anF(k:Nat)(a:LF)(b:BA)(d:LP)(e:Int)(f:Bool)(g:Int)(h:LS)(i:LB)(j:(List Int))(l m n:Int)(o:Bool):Option aaq:=cond o (some (aaq.mk a (aab.mk b d e f g h) i j l n)) (some (aaq.mk a (aab.mk b d e f g h) i j l m))
def f88(k:Nat):aaq→Bool→Int→Option aaq:=fun p b a =>
 match p,b,a with
 | .mk e (.mk f g h i j l) m n o d,b,a=>cond (!b) (anF k e f g h i j l m n o d a (d==0)) (anF k e f g h i j l m n o d a false)
def f86(k:Nat):aaq→BA→ooX:=fun e a =>
 match e,a with
 | .mk f (.mk g h i j l m) n o p q,a=>(f119 k (aaq.mk f (aab.mk g h i j l m) n o p q) a).bind fun (.mk r (.mk s t u v x y) z A B C,D)=>((f88 k (aaq.mk r (aab.mk s t u v x y) z A B C) (decide (D<0)) 21).bind fun (.mk G (.mk I J N O S U) b d V W)=>(aaC (decide ((b.length+1)*16≤140737488355328)) (aaC (decide ((d.length+1)*8≤140737488355328)) (some ((aaq.mk G (aab.mk I J N O S U) (b++[a]) (d++[(b.length:Int)]) V W),(b.length:Int))))))
structure ahf where
 f143:aaq→LE→oob
 f170:aaq→aah→ooY
def ae9(k:Nat)(F:ahf)  : LE→Nat→LF→BA→LP→Int→Bool→Int→LS→LB→(List Int)→Int→Int→LE→oob
 | [],o,b,d,e,f,g,h,i,j,l,m,n,a=>some ((aaq.mk b (aab.mk d e f g h i) j l m n),a)
 | (.mk p q r s t)::u,o,b,d,e,f,g,h,i,j,l,m,n,a=>(F.f170 (aaq.mk b (aab.mk d e f g h i) j l m n) (aah.mk p q r s t)).bind fun (.mk v (.mk x y z A B C) D G I J,.mk N O S U V)=>(aaC (decide ((a.length+1)*64≤140737488355328)) ((ae9 k F u) (o+1) v x y z A B C D G I J (a++[(aah.mk N O S U V)])))
def arE(k:Nat)(F:ahf):aaq→LE→oob:=fun b a =>
 match b,a with
 | .mk d (.mk e f g h i j) l m n o,a=>ae9 k F a 0 d e f g h i j l m n o ([]:LE)
def aj6(k:Nat)(F:ahf)(a b:Int)(d:BA)(e:LE)(f:LF)(g:BA)(h:LP)(i:Int)(j:Bool)(l:Int)(m:LS)(n:LB)(o:List Int)(p q r:Int):ooY:=(F.f143 (aaq.mk f (aab.mk g h i j l m) n o p q) e).bind fun (.mk s (.mk t u v x y z) A B C D,G)=>some ((aaq.mk s (aab.mk t u v x y z) A B C D),(aah.mk a b d r G))
def alN(k:Nat)(F:ahf):aaq→aah→ooY:=fun s t =>
 match s,t with
 | .mk d (.mk e f g h i j) l m n o,.mk a p b u q=>cond (a==4) ((f119 k (aaq.mk d (aab.mk e f g h i j) l m n o) b).bind fun (.mk v (.mk x y z A B C) D G I J,r)=>((f88 k (aaq.mk v (aab.mk x y z A B C) D G I J) (decide (r≥0)) 20).bind fun (.mk N (.mk O S U V W X) Y Z ab ac)=>(aj6 k F a p b q N O S U V W X Y Z ab ac r))) (aj6 k F a p b q d e f g h i j l m n o u)
def adb(k0:Nat):Nat→ahf
 | 0=>{ f143:=fun _ _=>none,f170:=fun _ _=>none }
 | k+1=>{ f143:=arE k0 (adb k0 k),f170:=alN k0 (adb k0 k) }
def f143(k:Nat):aaq→LE→oob:=(adb k k).f143
def f170(k:Nat):aaq→aah→ooY:=(adb k k).f170
def f144(k:Nat):aaq→aae→ooX:=fun p q =>
 match p,q with
 | .mk a (.mk d e f g h i) j l m n,.mk r aq ar s au av t aw ax ay az=>(f60 k a s).bind fun b=>(cond (decide (b<0)) ((f88 k (aaq.mk a (aab.mk d e f g h i) j l m n) false 20).bind fun (.mk u (.mk v x y z A B) C D G I)=>(some ((aaq.mk u (aab.mk v x y z A B) C D G I),0))) ((idxO a b).bind fun (.mk aA aB aG J aH aI)=>((f88 k (aaq.mk a (aab.mk d e f g h i) j l m n) (J==(r==28)) 25).bind fun (.mk o (.mk N O S U V W) X Y Z ab)=>((idxO o b).bind fun (.mk aK ac aL aM aN aP)=>((f88 k (aaq.mk o (aab.mk N O S U V W) X Y Z ab) ((t.length:Int)==(ac.length:Int)) 24).bind fun (.mk ad (.mk ae af ai aj ak al) am an ao ap)=>(some ((aaq.mk ad (aab.mk ae af ai aj ak al) am an ao ap),b)))))))
def adr(k:Nat)(a:Bool):ooA:=cond a (some true) (some false)
def f145(k:Nat):Int→ooA:=fun a=>cond (a==1) (adr k (a==1)) (cond (a==3) (adr k (a==3)) (cond (a==4) (adr k (a==4)) (cond (a==5) (adr k (a==5)) (cond (a==6) (adr k (a==6)) (cond (a==7) (adr k (a==7)) (cond (a==8) (adr k (a==8)) (adr k (a==9))))))))
structure aex where
 f87:aaq→LS→Int→ooc
 f120:aaq→aae→ooN
 f146:aaq→BA→LS→Int→ooZ
 f147:aaq→aap→ood
def aib(k:Nat)(F:aex)(a:(List Int))(p:Int):LS→Nat→LF→BA→LP→Int→Bool→Int→LS→LB→(List Int)→Int→Int→LS→ooc
 | [],q,e,f,g,h,i,j,l,m,b,n,o,d=>aaC (decide (0≤(a.length:Int)∧(a.length:Int)≤(b.length:Int))) (some ((aaq.mk e (aab.mk f g h i j l) m (b.take (a.length:Int).toNat) (w64 (n - p)) o),d))
 | (.mk r s t u v x y z A B C)::D,q,e,f,g,h,i,j,l,m,b,n,o,d=>(F.f120 (aaq.mk e (aab.mk f g h i j l) m b n o) (aae.mk r s t u v x y z A B C)).bind fun (.mk G (.mk I J N O S U) V W X Y,.mk Z ab ac ad ae af ai aj ak al am)=>(aaC (decide ((d.length+1)*184≤140737488355328)) ((aib k F a p D) (q+1) G I J N O S U V W X Y (d++[(aae.mk Z ab ac ad ae af ai aj ak al am)])))
def aqp(k:Nat)(F:aex):aaq→LS→Int→ooc:=fun e b a =>
 match e,b,a with
 | .mk f (.mk g h i j l m) n d o p,b,a=>aib k F d a b 0 f g h i j l m n d (w64 (o+a)) p ([]:LS)
def abW(k:Nat)(F:aex)(a:Int)(b d:BA)(e:Int)(f:LE)(g h:Int)(i j l:LS)(m:LC)(n:LF)(o:BA)(p:LP)(q:Int)(r:Bool)(s:Int)(t:LS)(u:LB)(v:List Int)(x y:Int):ooN:=some ((aaq.mk n (aab.mk o p q r s t) u v x y),(aae.mk a b h d g e f i j l m))
def akn(k:Nat)(F:aex)(a:Int)(b d:BA)(e:Int)(f:LS)(g:LC)(h:LE)(i:Int)(j:LS)(l:LF)(m:BA)(n:LP)(o:Int)(p:Bool)(q:Int)(r:LS)(s:LB)(t:List Int)(u v x:Int)(y:LS):ooN:=(F.f87 (aaq.mk l (aab.mk m n o p q r) s t u v) f 0).bind fun (.mk z (.mk A B C D G I) J N O S,U)=>abW k F a b d e h i x j y U g z A B C D G I J N O S
def ag9(k:Nat)(F:aex)(o:Int)(p q:BA)(r:Int)(s t u:LS)(v:LE)(x y:Int):LC→Nat→LF→BA→LP→Int→Bool→Int→LS→LB→(List Int)→Int→Int→LC→ooN
 | [],z,b,d,e,f,g,h,i,j,l,m,n,a=>abW k F o p q r v x y s t u a b d e f g h i j l m n
 | (.mk A B C D G)::I,z,b,d,e,f,g,h,i,j,l,m,n,a=>(F.f147 (aaq.mk b (aab.mk d e f g h i) j l m n) (aap.mk A B C D G)).bind fun (.mk J (.mk N O S U V W) X Y Z ab,.mk ac ad ae af ai)=>(aaC (decide ((a.length+1)*80≤140737488355328)) ((ag9 k F o p q r s t u v x y I) (z+1) J N O S U V W X Y Z ab (a++[(aap.mk ac ad ae af ai)])))
def agq(k:Nat)(F:aex)(a:Int)(b g:BA)(d:Int)(o h i:LS)(j:LC)(e:LE)(l:Int)(p:LF)(q:BA)(r:LP)(m:Int)(n:Bool)(s:Int)(t:LS)(u:LB)(v:List Int)(f x y:Int)(V:Bool):ooN:=cond V ((f88 k (aaq.mk p (aab.mk q r m n s t) u v f x) (decide (f>0)) 22).bind fun (.mk W (.mk X Y Z ab ac ad) ae af ai aj)=>(abW k F a b g d e l y o h i j W X Y Z ab ac ad ae af ai aj)) (cond (a==6) (cond (d==0) ((f88 k (aaq.mk p (aab.mk q r m n s t) u v f x) true 22).bind fun (.mk ak (.mk al am an ao ap aq) ar au av aw)=>(abW k F a b g d e l y o h i j ak al am an ao ap aq ar au av aw)) ((f88 k (aaq.mk p (aab.mk q r m n s t) u v f x) (decide (f>0)) 22).bind fun (.mk ax (.mk ay az aA aB aG aH) aI aK aL aM)=>(abW k F a b g d e l y o h i j ax ay az aA aB aG aH aI aK aL aM))) (cond (a==29) ((f88 k (aaq.mk p (aab.mk q r m n s t) u v f x) n 22).bind fun (.mk aN (.mk aP aT aU aV aW aX) aY aZ a0 a1)=>(abW k F a b g d e l y o h i j aN aP aT aU aV aW aX aY aZ a0 a1)) (cond (a==17) ((f88 k (aaq.mk p (aab.mk q r m n s t) u v f x) (((e.length:Int)==1)==(m != 0)) 22).bind fun (.mk a2 (.mk a3 a4 a5 a6 a7 a8) a9 ba bb bd)=>(abW k F a b g d e l y o h i j a2 a3 a4 a5 a6 a7 a8 a9 ba bb bd)) (cond (a==25) ((F.f146 (aaq.mk p (aab.mk q r m n s t) u v f x) b o 0).bind fun (.mk be (.mk bf bg bh bi bj bk) bm bn bo bp,bq,br)=>(abW k F a b g d e l bq br h i j be bf bg bh bi bj bk bm bn bo bp)) (cond (a==28) ((F.f146 (aaq.mk p (aab.mk q r m n s t) u v f x) b o 1).bind fun (.mk bs (.mk bu bv bw bx bz bB) bD bE bF bG,bH,bI)=>(abW k F a b g d e l bH bI h i j bs bu bv bw bx bz bB bD bE bF bG)) (cond (a==21) ((F.f87 (aaq.mk p (aab.mk q r m n s t) u v f x) o 1).bind fun (.mk bJ (.mk bK bL bM bP bQ bR) bS bT bU bV,bW)=>(abW k F a b g d e l y bW h i j bJ bK bL bM bP bQ bR bS bT bU bV)) (cond (a==24) ((F.f87 (aaq.mk p (aab.mk q r m n s t) u v f x) o 0).bind fun (.mk z (.mk A B C D G I) J N O S,U)=>(cond ((d.tmod 2)==1) ((F.f146 (aaq.mk z (aab.mk A B C D G I) J N O S) b h 0).bind fun (.mk bX (.mk bY bZ b0 b1 b2 b3) b4 b5 b6 b7,b8,b9)=>(akn k F a b g d i j e l U bX bY bZ b0 b1 b2 b3 b4 b5 b6 b7 b8 b9)) (akn k F a b g d i j e l U z A B C D G I J N O S y h))) (cond (a==27) (ag9 k F a b g d o h i e l y j 0 p q r m n s t u v f x ([]:LC)) ((F.f87 (aaq.mk p (aab.mk q r m n s t) u v f x) o 0).bind fun (.mk cb (.mk cc ce cf ch ci cj) ck cl cm cn,co)=>((F.f87 (aaq.mk cb (aab.mk cc ce cf ch ci cj) ck cl cm cn) h 0).bind fun (.mk cq (.mk cr cs ct cu cw cx) cy cz cA cC,cD)=>(abW k F a b g d e l y co cD i j cq cr cs ct cu cw cx cy cz cA cC)))))))))))
def adN(k:Nat)(F:aex)(a:Int)(b d:BA)(e:Int)(f g h:LS)(i:LC)(j:LE)(l:Int)(m:LF)(n:BA)(o:LP)(p:Int)(q:Bool)(r:Int)(s:LS)(t:LB)(u:List Int)(v x y:Int):ooN:=cond (a==2) ((f119 k (aaq.mk m (aab.mk n o p q r s) t u v x) b).bind fun (.mk A (.mk B C D G I J) N O S U,z)=>((f88 k (aaq.mk A (aab.mk B C D G I J) N O S U) (decide (z≥0)) 20).bind fun (.mk V (.mk W X Y Z ab ac) ad ae af ai)=>(abW k F a b d e j l z f g h i V W X Y Z ab ac ad ae af ai))) (cond (a==18) (agq k F a b d e f g h i j l m n o p q r s t u v x y (a==18)) (agq k F a b d e f g h i j l m n o p q r s t u v x y (a==19)))
def aha(k:Nat)(F:aex)(b:Int)(a:BA)(y:Int)(d:BA)(e:Int)(f g h:LS)(i:LC)(j:LE)(l:LF)(m:BA)(n:LP)(o:Int)(p:Bool)(q:Int)(r:LS)(s:LB)(t:List Int)(u v x:Int)(z:Bool):ooN:=cond z ((f86 k (aaq.mk l (aab.mk m n o p q r) s t u v) a).bind fun (.mk A (.mk B C D G I J) N O S U,V)=>(adN k F b a d e f g h i j x A B C D G I J N O S U V)) (adN k F b a d e f g h i j x l m n o p q r s t u v y)
def af6(k:Nat)(F:aex)(a:Int)(b:BA)(d:Int)(e:BA)(f:Int)(g h i:LS)(j:LC)(l:LE)(m:LF)(n:BA)(o:LP)(p:Int)(q:Bool)(r:Int)(s:LS)(t:LB)(u:List Int)(v x y:Int):ooN:=(f145 k a).bind fun z=>cond z (aha k F a b d e f g h i j l m n o p q r s t u v x y (!seq b ⟨#[]⟩)) (aha k F a b d e f g h i j l m n o p q r s t u v x y false)
def alr(k:Nat)(F:aex):aaq→aae→ooN:=fun z A =>
 match z,A with
 | .mk B (.mk C D G I J N) O S U V,.mk b d e a m f W g h i j=>(f143 k (aaq.mk B (aab.mk C D G I J N) O S U V) W).bind fun (.mk n (.mk o p q r s t) u v x y,l)=>(cond (!seq a ⟨#[]⟩) ((f144 k (aaq.mk n (aab.mk o p q r s t) u v x y) (aae.mk b d e a m f l g h i j)).bind fun (.mk X (.mk Y Z ab ac ad ae) af ai aj ak,al)=>(af6 k F b d e a f g h i j l X Y Z ab ac ad ae af ai aj ak al)) (af6 k F b d e a f g h i j l n o p q r s t u v x y m))
def alk(k:Nat)(F:aex):aaq→BA→LS→Int→ooZ:=fun g b d e =>
 match g,b,d,e with
 | .mk h (.mk i j l m n o) p a q r,b,d,e=>(f86 k (aaq.mk h (aab.mk i j l m n o) p a q r) b).bind fun (.mk s (.mk t u v x y z) A B C D,G)=>((F.f87 (aaq.mk s (aab.mk t u v x y z) A B C D) d e).bind fun (.mk I (.mk J N O S U V) W f X Y,Z)=>(aaC (decide (0≤(a.length:Int)∧(a.length:Int)≤(f.length:Int))) (some ((aaq.mk I (aab.mk J N O S U V) W (f.take (a.length:Int).toNat) X Y),G,Z))))
def als(k:Nat)(F:aex):aaq→aap→ood:=fun r s =>
 match r,s with
 | .mk t (.mk u v x y z A) B C D G,.mk a b I J d=>(f143 k (aaq.mk t (aab.mk u v x y z A) B C D G) J).bind fun (.mk e (.mk f g h i j l) m n o p,q)=>(cond (a==1) ((F.f146 (aaq.mk e (aab.mk f g h i j l) m n o p) b d 0).bind fun (.mk N (.mk O S U V W X) Y Z ab ac,ad,ae)=>(some ((aaq.mk N (aab.mk O S U V W X) Y Z ab ac),(aap.mk a b ad q ae)))) ((F.f87 (aaq.mk e (aab.mk f g h i j l) m n o p) d 0).bind fun (.mk af (.mk ai aj ak al am an) ao ap aq ar,au)=>(some ((aaq.mk af (aab.mk ai aj ak al am an) ao ap aq ar),(aap.mk a b I q au)))))
def abE(k0:Nat):Nat→aex
 | 0=>{ f87:=fun _ _ _=>none,f120:=fun _ _=>none,f146:=fun _ _ _ _=>none,f147:=fun _ _=>none }
 | k+1=>{ f87:=aqp k0 (abE k0 k),f120:=alr k0 (abE k0 k),f146:=alk k0 (abE k0 k),f147:=als k0 (abE k0 k) }
def f87(k:Nat):aaq→LS→Int→ooc:=(abE k k).f87
def f120(k:Nat):aaq→aae→ooN:=(abE k k).f120
def f146(k:Nat):aaq→BA→LS→Int→ooZ:=(abE k k).f146
def f147(k:Nat):aaq→aap→ood:=(abE k k).f147
def arH(k:Nat)(a:LF)(b:BA)(d:LP)(e:Int)(f:Bool)(g:Int)(h:LS)(i:LB)(j:List Int)(l m:Int)(n:BA)(o:LP)(p:Int)(q:Bool)(r:Int)(s:LS):ooe:=some ((aaq.mk a (aab.mk b d e f g h) i j l m),(aab.mk n o p q r s))
def agz(k:Nat)(o:BA)(p:LP)(q:Int)(r:Bool)(s:LS):LP→Nat→LF→BA→LP→Int→Bool→Int→LS→LB→(List Int)→Int→Int→ooe
 | [],t,a,b,d,e,f,g,h,i,j,l,m=>(f87 k (aaq.mk a (aab.mk b d e f g h) i j l m) s 0).bind fun (.mk u (.mk v x y z A B) n C D G,I)=>((f88 k (aaq.mk u (aab.mk v x y z A B) n C D G) (decide ((n.length:Int)≤32)) 5).bind fun (.mk J (.mk N O S U V W) X Y Z ab)=>(arH k J N O S U V W X Y Z ab o p q r (n.length:Int) I))
 | (.mk ac ar)::ad,t,a,b,d,e,f,g,h,i,j,l,m=>(f86 k (aaq.mk a (aab.mk b d e f g h) i j l m) ac).bind fun (.mk ae (.mk af ai aj ak al am) an ao ap aq,au)=>((agz k o p q r s ad) (t+1) ae af ai aj ak al am an ao ap aq)
def f61(k:Nat):LF→aab→ooe:=fun a h =>
 match a,h with
 | a,.mk d b e f i g=>agz k d b e f g b 0 a d b e f i g ([]:LB) ([]:List Int) 0 0
def are(k:Nat)(a:Int):ooI:=some ((aaa.mk []),a)
def aoL(k:Nat)(a:LF)(d:Nat)(b:Int)(e:BA)(f:LP)(g:Int)(h:Bool)(i:Int)(j:LS)(nx2:Nat→LF→ooI):ooI:=cond (b != 0) (are k b) (aaC (decide ((a.length+1)*88≤140737488355328)) (nx2 (d+1) (a++[(aab.mk e f g h i j)])))
def agH(k:Nat)(b:LF):LF→Nat→LF→ooI
 | [],d,a=>some ((aaa.mk a),0)
 | (.mk e f g h i j)::l,d,a=>(f61 k b (aab.mk e f g h i j)).bind fun (.mk t (.mk u v x y z A) B C D m,.mk n o p q r s)=>(aoL k a d m n o p q r s (agH k b l))
def ahG(k:Nat)(a:LF):LF→Nat→ooI
 | [],b=>(f60 k a ⟨#[109,97,105,110]⟩).bind fun d=>(cond (decide (d<0)) (some ((aaa.mk []),20)) ((idxO a d).bind fun (.mk j e l f m n)=>(cond f (some ((aaa.mk []),25)) (cond (decide ((e.length:Int)>0)) (some ((aaa.mk []),24)) (agH k a a 0 ([]:LF))))))
 | (.mk g o p q r s)::h,b=>(f60 k a g).bind fun i=>(cond (decide (i<(b:Int))) (some ((aaa.mk []),21)) ((ahG k a h) (b+1)))
def f38(k:Nat):aaa→ooI:=fun b =>
 match b with
 | .mk a=>(f59 k (aaa.mk a)).bind fun d=>(cond (!d) (some ((aaa.mk []),2)) (ahG k a a 0))
def f16(k:Nat):aaa→ooI:=fun b =>
 match b with
 | .mk a=>(f37 k (aaa.mk a)).bind fun d=>(cond (!d) (some ((aaa.mk []),2)) ((f39 k (aaa.mk a)).bind fun (.mk e)=>((f38 k (aaa.mk e)).bind fun (.mk f,g)=>(some ((aaa.mk f),g)))))
structure ahY where
 f66:LS→ooA
def an5(k:Nat)(F:ahY)(a:Nat)(nx1:Nat→ooA):ooA:=nx1 (a+1)
def alQ(k:Nat)(F:ahY)(a:Nat)(nx1:Nat→ooA):LC→Nat→ooA
 | [],b=>an5 k F a nx1
 | (.mk g h i j d)::e,b=>(F.f66 d).bind fun f=>(cond f (some true) ((alQ k F a nx1 e) (b+1)))
def aiS(k:Nat)(F:ahY)(a:Nat)(b:LC)(d:Bool)(nx1:Nat→ooA):ooA:=cond d (some true) (alQ k F a nx1 b 0)
def alT(k:Nat)(F:ahY)(a:Nat)(d e f:LS)(b:LC)(g:Bool)(nx1:Nat→ooA):ooA:=cond g (an5 k F a nx1) ((F.f66 d).bind fun h=>(cond h (aiS k F a b true nx1) ((F.f66 e).bind fun i=>(cond i (aiS k F a b true nx1) ((F.f66 f).bind fun j=>(aiS k F a b j nx1))))))
def aiJ(k:Nat)(F:ahY)(a:Nat)(b:Int)(d e f:LS)(g:LC)(h:Bool)(nx1:Nat→ooA):ooA:=cond h (some true) (cond (b==21) (alT k F a d e f g true nx1) (alT k F a d e f g (b==28) nx1))
def acI(k:Nat)(F:ahY)  : LS→Nat→ooA
 | [],b=>some false
 | (.mk a j l m n i o d e f g)::h,b=>cond (a==18) (aiJ k F b a d e f g true (acI k F h)) (cond (a==6) (aiJ k F b a d e f g (i==1) (acI k F h)) (aiJ k F b a d e f g false (acI k F h)))
def awp(k:Nat)(F:ahY):LS→ooA:=fun a=>acI k F a 0
def amh(k0:Nat):Nat→ahY
 | 0=>{ f66:=fun _=>none }
 | k+1=>{ f66:=awp k0 (amh k0 k) }
def f66(k:Nat):LS→ooA:=(amh k k).f66
structure afc where
 f21:LS→ooA
 f41:aae→ooA
def akN(k:Nat)(F:afc)  : LS→Nat→ooA
 | [],a=>some false
 | (.mk b d e f g h i j l m n)::o,a=>(F.f41 (aae.mk b d e f g h i j l m n)).bind fun p=>(cond p (some true) ((akN k F o) (a+1)))
def avL(k:Nat)(F:afc):LS→ooA:=fun a=>akN k F a 0
def ak0(k:Nat)(F:afc)(a:Bool):ooA:=some a
def akL(k:Nat)(F:afc)(a:Bool):ooA:=some a
def afo(k:Nat)(F:afc)(a:Bool):ooA:=some a
def aly(k:Nat)(F:afc)  : LC→Nat→ooA
 | [],a=>some true
 | (.mk f g h i b)::d,a=>(F.f21 b).bind fun e=>(cond (!e) (some false) ((aly k F d) (a+1)))
def aif(k:Nat)(F:afc)(d a:Int)(b e f:LS)(g:LC)(h:Bool):ooA:=cond h ((F.f21 b).bind fun i=>(some i)) (cond (d==24) (cond (decide (a≥2)) ((F.f21 f).bind fun j=>(cond j (afo k F true) ((F.f21 b).bind fun l=>(cond l (cond ((a.tmod 2)==0) (afo k F true) ((F.f21 e).bind fun m=>(afo k F m))) (afo k F false))))) ((F.f21 b).bind fun n=>(cond n (cond ((a.tmod 2)==0) (afo k F true) ((F.f21 e).bind fun o=>(afo k F o))) (afo k F false)))) (cond (d==27) (aly k F g 0) (some false)))
def ah8(k:Nat)(F:afc)(a d:Int)(h:LE)(b e f:LS)(g:LC)(i:Bool):ooA:=cond i (some true) (cond (a==20) (cond (d==1) ((F.f21 b).bind fun j=>(cond j ((F.f21 e).bind fun l=>(ak0 k F l)) (ak0 k F false))) (ak0 k F false)) (cond (a==21) ((idxO h 0).bind fun (.mk m n p q r)=>(cond (m==2) (cond (n==1) ((f66 k b).bind fun o=>(akL k F (!o))) (akL k F false)) (akL k F false))) (cond (a==23) (aif k F a d b e f g (a==23)) (cond (a==25) (aif k F a d b e f g (a==25)) (aif k F a d b e f g (a==26))))))
def apI(k:Nat)(F:afc):aae→ooA:=fun i =>
 match i with
 | .mk a j l m n b d e f g h=>cond (a==17) (ah8 k F a b d e f g h (a==17)) (cond (a==15) (ah8 k F a b d e f g h (a==15)) (cond (a==18) (ah8 k F a b d e f g h (a==18)) (ah8 k F a b d e f g h (a==19))))
def afp(k0:Nat):Nat→afc
 | 0=>{ f21:=fun _=>none,f41:=fun _=>none }
 | k+1=>{ f21:=avL k0 (afp k0 k),f41:=apI k0 (afp k0 k) }
def f21(k:Nat):LS→ooA:=(afp k k).f21
def f41(k:Nat):aae→ooA:=(afp k k).f41
def f49(k:Nat):aao→Int→Int→ooJ:=fun e a b =>
 match e,a,b with
 | .mk f (.mk g h i j l m) d n,a,b=>(idxO d a).bind fun o=>(some (aao.mk f (aab.mk g h i j l m) (d.set a.toNat b) n))
def ah2(k:Nat)(a:LF)(e:BA)(f:LP)(g:Int)(h:Bool)(i:Int)(j:LS)(l:(List Int))(m:Bool)(n:Int):Nat→(List Int)→Int→ooL
 | 0,_,_=>none
 | j1502+1,b,d=>(idxO a n).bind fun (.mk q o r s t u)=>(cond (decide (d<(o.length:Int))) ((idxO o d).bind fun (.mk v p)=>(aaC (decide ((b.length+1)*8≤140737488355328)) ((ah2 k a e f g h i j l m n j1502) (b++[p]) (w64 (d+1))))) (some ((aao.mk a (aab.mk e f g h i j) l m),b,true)))
def ajo(k:Nat)(b:LF)(d:BA)(e:LP)(a:Int)(f:Bool)(g:Int)(h:LS)(i:(List Int))(j:Bool)(l:Int)(m:Bool):ooL:=cond m (some ((aao.mk b (aab.mk d e a f g h) i j),[2],true)) (cond (l==26) (some ((aao.mk b (aab.mk d e a f g h) i j),[6],true)) (cond (l==17) (some ((aao.mk b (aab.mk d e a f g h) i j),[a],true)) (some ((aao.mk b (aab.mk d e a f g h) i j),[],false))))
def aek(k:Nat)(b:LF)(d:BA)(e:LP)(f:Int)(g:Bool)(h:Int)(i:LS)(j:(List Int))(l:Bool)(a:Int)(m:Bool):ooL:=cond m (some ((aao.mk b (aab.mk d e f g h i) j l),[1],true)) (cond (a==15) (some ((aao.mk b (aab.mk d e f g h i) j l),[3],true)) (cond (a==20) (ajo k b d e f g h i j l a (a==20)) (ajo k b d e f g h i j l a (a==21))))
def aky(k:Nat)(b:LF)(d:BA)(e:LP)(f:Int)(g:Bool)(h:Int)(i:LS)(j:(List Int))(l:Bool)(a:Int)(m:Bool):ooL:=cond m (some ((aao.mk b (aab.mk d e f g h i) j l),[4],true)) (cond (a==10) (some ((aao.mk b (aab.mk d e f g h i) j l),[4,1],true)) (cond (a==12) (aek k b d e f g h i j l a (a==12)) (cond (a==7) (aek k b d e f g h i j l a (a==7)) (cond (a==8) (aek k b d e f g h i j l a (a==8)) (cond (a==25) (aek k b d e f g h i j l a (a==25)) (cond (a==29) (aek k b d e f g h i j l a (a==29)) (aek k b d e f g h i j l a (a==22))))))))
def akv(k:Nat)(b:LF)(d:BA)(e:LP)(f:Int)(g:Bool)(h:Int)(i:LS)(j:(List Int))(l:Bool)(a:Int)(m:Bool):ooL:=cond m (some ((aao.mk b (aab.mk d e f g h i) j l),[5],true)) (cond (a==6) (aky k b d e f g h i j l a (a==6)) (aky k b d e f g h i j l a (a==11)))
def aem(k:Nat)(b:LF)(d:BA)(e:LP)(f:Int)(g:Bool)(h:Int)(i:LS)(j:(List Int))(l:Bool)(a m:Int)(n:Bool):ooL:=cond n (ah2 k b d e f g h i j l m k ([]:List Int) 0) (cond (a==5) (akv k b d e f g h i j l a (a==5)) (akv k b d e f g h i j l a (a==16)))
def f107(k:Nat):aao→aae→ooL:=fun n o =>
 match n,o with
 | .mk d (.mk e f g h i j) b l,.mk a r p s m t u v x y z=>cond (a==2) ((idxO b p).bind fun q=>(some ((aao.mk d (aab.mk e f g h i j) b l),[q],true))) (cond (a==3) (aem k d e f g h i j b l a m (a==3)) (cond (a==4) (aem k d e f g h i j b l a m (a==4)) (aem k d e f g h i j b l a m (a==28))))
def alz(k:Nat)  : ooC:=some (-1)
def ap7(k:Nat)(a:Bool):ooC:=cond a (some 2) (alz k)
def arI(k:Nat)(a:Int)(b:Bool):ooC:=cond b (some a) (alz k)
def aqB(k:Nat)(b a:Int)(d:Bool):ooC:=cond d (cond (a==1) (ap7 k true) (ap7 k (a==3))) (cond (b==15) (cond (a==1) (arI k a true) (arI k a (a==3))) (cond (a==1) (some 1) (alz k)))
def aqz(k:Nat)(a b:Int)(d:Bool):ooC:=cond d (some 2) (cond (decide (a≥11)) (aqB k a b (decide (a≤14))) (aqB k a b false))
def anv(k:Nat)(a b:Int)(d:Bool):ooC:=cond d (cond (b==2) (some 2) (alz k)) (cond (a==9) (aqz k a b true) (aqz k a b (a==10)))
def anM(k:Nat)(a b:Int)(d:Bool):ooC:=cond d (some (-1)) (cond (a==5) (anv k a b true) (cond (a==7) (anv k a b true) (anv k a b (a==8))))
def f36(k:Nat):Int→Int→Int→ooC:=fun b a d=>cond (a != d) (anM k b a true) (anM k b a (a==(-1)))
structure arU where
 f15:aah→(List Int)→ooC
def anb(k:Nat)(F:arU)(a b d:Int):ooC:=(f36 k a b d).bind fun e=>some e
def aoN(k:Nat)(F:arU):aah→(List Int)→ooC:=fun f b =>
 match f,b with
 | .mk a u v g d,b=>cond (a==1) (some 1) (cond (a==2) (some 2) (cond (a==3) (some 3) (cond (a==4) ((idxO b g).bind fun h=>(some h)) ((idxO d 0).bind fun (.mk i j l m n)=>((F.f15 (aah.mk i j l m n) b).bind fun e=>(cond ((d.length:Int)==2) ((idxO d 1).bind fun (.mk o p q r s)=>((F.f15 (aah.mk o p q r s) b).bind fun t=>(anb k F a e t))) (anb k F a e e)))))))
def amz(k0:Nat):Nat→arU
 | 0=>{ f15:=fun _ _=>none }
 | k+1=>{ f15:=aoN k0 (amz k0 k) }
def f15(k:Nat):aah→(List Int)→ooC:=(amz k k).f15
def f108(k:Nat):aao→aah→Int→ooJ:=fun l m a =>
 match l,m,a with
 | .mk d (.mk e f g h i j) b n,.mk o p q r s,a=>(f15 k (aah.mk o p q r s) b).bind fun t=>(cond (t != a) (some (aao.mk d (aab.mk e f g h i j) b true)) (some (aao.mk d (aab.mk e f g h i j) b n)))
def f109(k:Nat):aao→aae→Option (aao×Int):=fun m n =>
 match m,n with
 | .mk a (.mk d e f g h i) b j,.mk l y z A o B p C D G I=>cond (l==1) ((idxO p 0).bind fun (.mk q r s t u)=>((f15 k (aah.mk q r s t u) b).bind fun v=>(some ((aao.mk a (aab.mk d e f g h i) b j),v)))) (cond (l==3) ((idxO a o).bind fun (.mk J N x O S U)=>(some ((aao.mk a (aab.mk d e f g h i) b j),x))) (cond (l==4) (some ((aao.mk a (aab.mk d e f g h i) b j),5)) (cond (l==7) (some ((aao.mk a (aab.mk d e f g h i) b j),4)) (cond (l==8) (some ((aao.mk a (aab.mk d e f g h i) b j),6)) (cond (l==24) (some ((aao.mk a (aab.mk d e f g h i) b j),3)) (some ((aao.mk a (aab.mk d e f g h i) b j),1)))))))
structure acy where
 f50:aao→LS→ooJ
 f74:aao→aae→ooJ
 f110:aao→aap→ooJ
def aiF(k:Nat)(F:acy)  : LS→Nat→LF→BA→LP→Int→Bool→Int→LS→(List Int)→Bool→ooJ
 | [],l,b,d,e,f,g,h,i,j,a=>some (aao.mk b (aab.mk d e f g h i) j a)
 | (.mk m n o p q r s t u v x)::y,l,b,d,e,f,g,h,i,j,a=>cond (!a) ((F.f74 (aao.mk b (aab.mk d e f g h i) j a) (aae.mk m n o p q r s t u v x)).bind fun (.mk z (.mk A B C D G I) J N)=>((aiF k F y) (l+1) z A B C D G I J N)) (some (aao.mk b (aab.mk d e f g h i) j a))
def auH(k:Nat)(F:acy):aao→LS→ooJ:=fun b a =>
 match b,a with
 | .mk d (.mk e f g h i j) l m,a=>aiF k F a 0 d e f g h i j l m
def ah7(k:Nat)(F:acy)  : LC→Nat→LF→BA→LP→Int→Bool→Int→LS→(List Int)→Bool→ooJ
 | [],l,b,d,e,f,g,h,i,j,a=>some (aao.mk b (aab.mk d e f g h i) j a)
 | (.mk m n o p q)::r,l,b,d,e,f,g,h,i,j,a=>cond (!a) ((F.f110 (aao.mk b (aab.mk d e f g h i) j a) (aap.mk m n o p q)).bind fun (.mk s (.mk t u v x y z) A B)=>((ah7 k F r) (l+1) s t u v x y z A B)) (some (aao.mk b (aab.mk d e f g h i) j a))
def ahv(k:Nat)(F:acy)(a b:LS)(d:LC)(e:LF)(f:BA)(g:LP)(h:Int)(i:Bool)(j:Int)(l:LS)(m:List Int)(n:Bool):ooJ:=(F.f50 (aao.mk e (aab.mk f g h i j l) m n) a).bind fun (.mk o (.mk p q r s t u) v x)=>(F.f50 (aao.mk o (aab.mk p q r s t u) v x) b).bind fun (.mk y (.mk z A B C D G) I J)=>(ah7 k F d 0 y z A B C D G I J)
def agG(k:Nat)(F:acy)(o:Int)(p a b:LS)(d:LC)(e:LF)(f:BA)(g:LP)(h:Int)(i:Bool)(j:Int)(l:LS)(m:List Int)(n:Bool):ooJ:=cond (o != 24) ((F.f50 (aao.mk e (aab.mk f g h i j l) m n) p).bind fun (.mk q (.mk r s t u v x) y z)=>(ahv k F a b d q r s t u v x y z)) (ahv k F a b d e f g h i j l m n)
def an0(k:Nat)(F:acy)(a:Int)(p:BA)(q:Int)(r:BA)(s t:Int)(u:LE)(b d e:LS)(f:LC)(v:LF)(x:BA)(y:LP)(z:Int)(A:Bool)(B:Int)(C:LS)(D:List Int)(G:Bool):ooJ:=(f109 k (aao.mk v (aab.mk x y z A B C) D G) (aae.mk a p q r s t u b d e f)).bind fun (.mk g (.mk h i j l m n) o I,J)=>cond (J==0) (agG k F a b d e f g h i j l m n o true) (agG k F a b d e f g h i j l m n o I)
def ak6(k:Nat)(F:acy)(a:Int)(h:BA)(b:Int)(i:BA)(j l:Int)(m:LE)(d e f:LS)(g:LC)(n:LF)(o:BA)(p:LP)(q:Int)(r:Bool)(s:Int)(t:LS)(u:List Int)(v x:Bool):ooJ:=cond x ((f109 k (aao.mk n (aab.mk o p q r s t) u v) (aae.mk a h b i j l m d e f g)).bind fun (.mk y (.mk z A B C D G) I J,N)=>((f49 k (aao.mk y (aab.mk z A B C D G) I J) b N).bind fun (.mk O (.mk S U V W X Y) Z ab)=>(an0 k F a h b i j l m d e f g O S U V W X Y Z ab))) (agG k F a d e f g n o p q r s t u v)
def ahF(k:Nat)(F:acy)(a:Int)(b:BA)(d:Int)(e:BA)(f g:Int)(h:LE)(i j l:LS)(m:LC)(n:LF)(o:BA)(p:LP)(q:Int)(r:Bool)(s:Int)(t:LS)(u:List Int)(v:Bool):ooJ:=cond (!seq b ⟨#[]⟩) (ak6 k F a b d e f g h i j l m n o p q r s t u v (a != 2)) (ak6 k F a b d e f g h i j l m n o p q r s t u v false)
def alH(k:Nat)(F:acy)(b:Int)(n:BA)(o:Int)(p:BA)(q r:Int)(s:LE)(d t u:LS)(v:LC)(e:LF)(f:BA)(g:LP)(h:Int)(i:Bool)(j:Int)(l:LS)(m:List Int)(a:Bool):ooJ:=cond a (some (aao.mk e (aab.mk f g h i j l) m a)) (cond (b==24) ((F.f50 (aao.mk e (aab.mk f g h i j l) m a) d).bind fun (.mk x (.mk y z A B C D) G I)=>(ahF k F b n o p q r s d t u v x y z A B C D G I)) (ahF k F b n o p q r s d t u v e f g h i j l m a))
def ali(k:Nat)(F:acy)(a:Int)(b:BA)(d:Int)(e:BA)(f g:Int)(h:LE)(i j l:LS)(m:LC)(n:LF)(o:BA)(p:LP)(q:Int)(r:Bool)(s:Int)(t:LS)(u:List Int)(v x:Bool):ooJ:=cond x (alH k F a b d e f g h i j l m n o p q r s t u true) (alH k F a b d e f g h i j l m n o p q r s t u v)
def anA(k:Nat)(F:acy)(a:Nat)(b:LF)(d:BA)(e:LP)(f:Int)(g:Bool)(h:Int)(i:LS)(j:List Int)(l:Bool)(nx1:Nat→LF→BA→LP→Int→Bool→Int→LS→(List Int)→Bool→ooJ):ooJ:=nx1 (a+1) b d e f g h i j l
def ad3(k:Nat)(F:acy)(d:Int)(m:BA)(n:Int)(o:BA)(e p:Int)(q:LE)(r s t:LS)(u:LC)(y:(List Int))(z:Bool):LE→Nat→LF→BA→LP→Int→Bool→Int→LS→(List Int)→Bool→ooJ
 | [],v,a,f,g,h,i,j,l,b,x=>cond (d==4) ((idxO a e).bind fun (.mk ad ae J af ai aj)=>(ali k F d m n o e p q r s t u a f g h i j l b x (decide (J>1)))) (ali k F d m n o e p q r s t u a f g h i j l b x false)
 | (.mk B C D G I)::A,v,a,f,g,h,i,j,l,b,x=>cond z ((idxO y (v:Int)).bind fun N=>((f108 k (aao.mk a (aab.mk f g h i j l) b x) (aah.mk B C D G I) N).bind fun (.mk O (.mk S U V W X Y) Z ab)=>(anA k F v O S U V W X Y Z ab (ad3 k F d m n o e p q r s t u y z A)))) ((f15 k (aah.mk B C D G I) b).bind fun ac=>(cond (ac==(-1)) (anA k F v a f g h i j l b true (ad3 k F d m n o e p q r s t u y z A)) (anA k F v a f g h i j l b x (ad3 k F d m n o e p q r s t u y z A))))
def aq1(k:Nat)(F:acy):aao→aae→ooJ:=fun n o =>
 match n,o with
 | .mk p (.mk q r s t u v) x y,.mk b d e f g h a i j l m=>(f107 k (aao.mk p (aab.mk q r s t u v) x y) (aae.mk b d e f g h a i j l m)).bind fun (.mk z (.mk A B C D G I) J N,O,S)=>(ad3 k F b d e f g h a i j l m O S a 0 z A B C D G I J N)
def aeV(k:Nat)(F:acy)(a:LS)(b:LF)(d:BA)(e:LP)(f:Int)(g:Bool)(h:Int)(i:LS)(j:List Int)(l:Bool):ooJ:=(F.f50 (aao.mk b (aab.mk d e f g h i) j l) a).bind fun (.mk m (.mk n o p q r s) t u)=>some (aao.mk m (aab.mk n o p q r s) t u)
def aeY(k:Nat)(F:acy)(n o:Int)(l:LS)(p:List Int):LE→Nat→LF→BA→LP→Int→Bool→Int→LS→(List Int)→Bool→ooJ
 | [],m,a,b,d,e,f,g,h,i,j=>cond (n==1) ((f49 k (aao.mk a (aab.mk b d e f g h) i j) o 1).bind fun (.mk q (.mk r s t u v x) y z)=>(aeV k F l q r s t u v x y z)) (aeV k F l a b d e f g h i j)
 | (.mk A B C D G)::I,m,a,b,d,e,f,g,h,i,j=>(idxO p (m:Int)).bind fun J=>((f108 k (aao.mk a (aab.mk b d e f g h) i j) (aah.mk A B C D G) J).bind fun (.mk N (.mk O S U V W X) Y Z)=>((aeY k F n o l p I) (m+1) N O S U V W X Y Z))
def aj2(k:Nat)(F:acy)(a:LF)(b:BA)(d:LP)(e:Int)(f:Bool)(g:Int)(h:LS)(i:(List Int))(j:Bool)(l m:Int)(n:LE)(o:LS)(p:List Int):ooJ:=aeY k F l m o p n 0 a b d e f g h i j
def alg(k:Nat)(F:acy):aao→aap→ooJ:=fun p q =>
 match p,q with
 | .mk b (.mk d e f g h i) j l,.mk a r m n o=>cond (a==3) (aj2 k F b d e f g h i j l a m n o [1]) (aj2 k F b d e f g h i j l a m n o [4,1])
def acT(k0:Nat):Nat→acy
 | 0=>{ f50:=fun _ _=>none,f74:=fun _ _=>none,f110:=fun _ _=>none }
 | k+1=>{ f50:=auH k0 (acT k0 k),f74:=aq1 k0 (acT k0 k),f110:=alg k0 (acT k0 k) }
def f50(k:Nat):aao→LS→ooJ:=(acT k k).f50
def f74(k:Nat):aao→aae→ooJ:=(acT k k).f74
def f110(k:Nat):aao→aap→ooJ:=(acT k k).f110
def anJ(k:Nat)(a:(List Int))(b:Bool):ooP:=cond b (some ([],26)) (some (a,0))
def ah5(k:Nat)(n:Int)(a:LS):LP→Nat→LF→BA→LP→Int→Bool→Int→LS→(List Int)→Bool→ooP
 | [],b,d,e,f,g,h,i,j,l,m=>(f50 k (aao.mk d (aab.mk e f g h i j) l m) a).bind fun (.mk D (.mk G I J N O S) o p)=>(cond p (some ([],23)) (cond (n != 0) ((f21 k a).bind fun q=>(anJ k o (!q))) (anJ k o false)))
 | (.mk U r)::s,b,d,e,f,g,h,i,j,l,m=>(f49 k (aao.mk d (aab.mk e f g h i j) l m) (b:Int) r).bind fun (.mk t (.mk u v x y z A) B C)=>((ah5 k n a s) (b+1) t u v x y z A B C)
def f27(k:Nat):LF→aab→ooP:=fun b g =>
 match b,g with
 | b,.mk h d e i a f=>aaC (decide (0≤a∧a*(8:Nat)≤140737488355328)) (ah5 k e f d 0 b h d e i a f (List.replicate a.toNat (0:Int)) false)
def ak4(k:Nat)(a:LF):LF→Nat→ooI
 | [],b=>some ((aaa.mk a),0)
 | (.mk e f g h i j)::l,b=>(f27 k a (aab.mk e f g h i j)).bind fun (m,d)=>(cond (d != 0) (some ((aaa.mk []),d)) ((ak4 k a l) (b+1)))
def f11(k:Nat):aaa→ooI:=fun d =>
 match d with
 | .mk e=>(f16 k (aaa.mk e)).bind fun (.mk a,b)=>(cond (b != 0) (some ((aaa.mk []),b)) (ak4 k a a 0))
def af4(k:Nat)  : LC→Nat→(List LS)→Option (List LS)
 | [],b,a=>some a
 | (.mk f g h i d)::e,b,a=>aaC (decide ((a.length+1)*24≤140737488355328)) ((af4 k e) (b+1) (a++[d]))
def f124(k:Nat):aae→Option (List LS):=fun a =>
 match a with
 | .mk g h i j l m n b d e f=>af4 k f 0 [b,d,e]
structure aen where
 f92:LS→ooA
 f122:aae→ooA
 f1006489:LS→ooA
 f1009189:LS→ooC
 f1012326:(List LS)→ooA
 f1014826:(List LS)→ooC
def awl(k:Nat)(F:aen):LS→ooA:=fun a=>(F.f1006489 a).bind fun b=>(some b)
def afX(k:Nat)(F:aen)(a:Bool):ooA:=some a
def akq(k:Nat)(F:aen)(a:Int)(d:BA)(e:Int)(f:BA)(g b:Int)(h:LE)(i j l:LS)(m:LC)(n:Bool):ooA:=cond n (some false) (cond (a==18) (afX k F true) (cond (a==6) (cond (b==1) (afX k F true) ((f124 k (aae.mk a d e f g b h i j l m)).bind fun o=>((F.f1012326 o).bind fun p=>(afX k F p)))) ((f124 k (aae.mk a d e f g b h i j l m)).bind fun q=>((F.f1012326 q).bind fun r=>(afX k F r)))))
def akO(k:Nat)(F:aen):aae→ooA:=fun n =>
 match n with
 | .mk a b d e f g h i j l m=>cond (a==21) (akq k F a b d e f g h i j l m true) (akq k F a b d e f g h i j l m (a==28))
def af9(k:Nat)(F:aen):LS→ooA:=fun a=>(F.f1009189 a).bind fun b=>(some (decide (b≥0)))
def acu(k:Nat)(F:aen)  : LS→Nat→ooC
 | [],a=>some (-1)
 | (.mk b d e f g h i j l m n)::o,a=>(F.f122 (aae.mk b d e f g h i j l m n)).bind fun p=>(cond p (some (a:Int)) ((acu k F o) (a+1)))
def agk(k:Nat)(F:aen):LS→ooC:=fun a=>acu k F a 0
def afY(k:Nat)(F:aen):(List LS)→ooA:=fun a=>(F.f1014826 a).bind fun b=>(some (decide (b≥0)))
def ac0(k:Nat)(F:aen)  : List LS→Nat→ooC
 | [],a=>some (-1)
 | b::d,a=>(F.f92 b).bind fun e=>(cond e (some (a:Int)) ((ac0 k F d) (a+1)))
def afQ(k:Nat)(F:aen):(List LS)→ooC:=fun a=>ac0 k F a 0
def abq(k0:Nat):Nat→aen
 | 0=>{ f92:=fun _=>none,f122:=fun _=>none,f1006489:=fun _=>none,f1009189:=fun _=>none,f1012326:=fun _=>none,f1014826:=fun _=>none }
 | k+1=>{ f92:=awl k0 (abq k0 k),f122:=akO k0 (abq k0 k),f1006489:=af9 k0 (abq k0 k),f1009189:=agk k0 (abq k0 k),f1012326:=afY k0 (abq k0 k),f1014826:=afQ k0 (abq k0 k) }
def f92(k:Nat):LS→ooA:=(abq k k).f92
def f122(k:Nat):aae→ooA:=(abq k k).f122
def f1006489(k:Nat):LS→ooA:=(abq k k).f1006489
def f1009189(k:Nat):LS→ooC:=(abq k k).f1009189
def f1012326(k:Nat):(List LS)→ooA:=(abq k k).f1012326
def f1014826(k:Nat):(List LS)→ooC:=(abq k k).f1014826
structure acB where
 f40:LS→ooA
 f65:aae→ooA
 f94:aap→ooA
 f1006449:LS→ooA
 f1009149:LS→ooC
 f1009388:LC→ooA
 f1012547:LC→Unit→ooA
 f1012626:aap→Unit→ooA
 f1014947:LC→Unit→ooC
def auz(k:Nat)(F:acB):LS→ooA:=fun a=>(F.f1006449 a).bind fun b=>(some b)
def alI(k:Nat)(F:acB)(a:Bool):ooA:=some a
def alM(k:Nat)(F:acB)(a:Bool):ooA:=some a
def ail(k:Nat)(F:acB)(a:Bool):ooA:=some a
def akY(k:Nat)(F:acB)(a d:Int)(b e f:LS)(g:LC)(h:Bool):ooA:=cond h ((F.f40 b).bind fun i=>(some i)) (cond (a==24) ((F.f40 f).bind fun j=>(cond j (ail k F true) ((F.f40 b).bind fun l=>(cond l (cond ((IntKind.i64.wrap (BitVec.ofInt IntKind.i64.bits d &&& BitVec.ofInt IntKind.i64.bits 1).toNat)==0) (ail k F true) ((F.f40 e).bind fun m=>(ail k F m))) (ail k F false))))) (cond (a==27) ((F.f1009388 g).bind fun n=>(some n)) (some false)))
def aiA(k:Nat)(F:acB)(a d:Int)(h:LE)(b e f:LS)(g:LC)(i:Bool):ooA:=cond i (some true) (cond (a==20) (cond (d==1) ((F.f40 b).bind fun j=>(cond j ((F.f40 e).bind fun l=>(alI k F l)) (alI k F false))) (alI k F false)) (cond (a==21) ((idxO h 0).bind fun (.mk m n p q r)=>(cond (m==2) (cond (n==1) ((f92 k b).bind fun o=>(alM k F (!o))) (alM k F false)) (alM k F false))) (cond (a==23) (akY k F a d b e f g (a==23)) (cond (a==25) (akY k F a d b e f g (a==25)) (akY k F a d b e f g (a==26))))))
def ap0(k:Nat)(F:acB):aae→ooA:=fun i =>
 match i with
 | .mk a j l m n b d e f g h=>cond (a==17) (aiA k F a b d e f g h (a==17)) (cond (a==15) (aiA k F a b d e f g h (a==15)) (cond (a==18) (aiA k F a b d e f g h (a==18)) (aiA k F a b d e f g h (a==19))))
def avs(k:Nat)(F:acB):aap→ooA:=fun a =>
 match a with
 | .mk e f g h b=>(F.f40 b).bind fun d=>(some d)
def agb(k:Nat)(F:acB):LS→ooA:=fun a=>(F.f1009149 a).bind fun b=>(some (decide (b≥0)))
def acs(k:Nat)(F:acB)  : LS→Nat→ooC
 | [],a=>some (-1)
 | (.mk b d e f g h i j l m n)::o,a=>(F.f65 (aae.mk b d e f g h i j l m n)).bind fun p=>(cond p (some (a:Int)) ((acs k F o) (a+1)))
def agn(k:Nat)(F:acB):LS→ooC:=fun a=>acs k F a 0
def afU(k:Nat)(F:acB):LC→ooA:=fun a=>(F.f1012547 a ()).bind fun b=>(some (!b))
def agp(k:Nat)(F:acB):LC→Unit→ooA:=fun a _=>(F.f1014947 a ()).bind fun b=>(some (decide (b≥0)))
def afV(k:Nat)(F:acB):aap→Unit→ooA:=fun a b =>
 match a,b with
 | .mk d e f g h,_=>(F.f94 (aap.mk d e f g h)).bind fun i=>(some (!i))
def acp(k:Nat)(F:acB)  : LC→Nat→ooC
 | [],a=>some (-1)
 | (.mk b d e f g)::h,a=>(F.f1012626 (aap.mk b d e f g) ()).bind fun i=>(cond i (some (a:Int)) ((acp k F h) (a+1)))
def af7(k:Nat)(F:acB):LC→Unit→ooC:=fun a _=>acp k F a 0
def aaW(k0:Nat):Nat→acB
 | 0=>{ f40:=fun _=>none,f65:=fun _=>none,f94:=fun _=>none,f1006449:=fun _=>none,f1009149:=fun _=>none,f1009388:=fun _=>none,f1012547:=fun _ _=>none,f1012626:=fun _ _=>none,f1014947:=fun _ _=>none }
 | k+1=>{ f40:=auz k0 (aaW k0 k),f65:=ap0 k0 (aaW k0 k),f94:=avs k0 (aaW k0 k),f1006449:=agb k0 (aaW k0 k),f1009149:=agn k0 (aaW k0 k),f1009388:=afU k0 (aaW k0 k),f1012547:=agp k0 (aaW k0 k),f1012626:=afV k0 (aaW k0 k),f1014947:=af7 k0 (aaW k0 k) }
def f40(k:Nat):LS→ooA:=(aaW k k).f40
def f65(k:Nat):aae→ooA:=(aaW k k).f65
def f94(k:Nat):aap→ooA:=(aaW k k).f94
def f1006449(k:Nat):LS→ooA:=(aaW k k).f1006449
def f1009149(k:Nat):LS→ooC:=(aaW k k).f1009149
def f1009388(k:Nat):LC→ooA:=(aaW k k).f1009388
def f1012547(k:Nat):LC→Unit→ooA:=(aaW k k).f1012547
def f1012626(k:Nat):aap→Unit→ooA:=(aaW k k).f1012626
def f1014947(k:Nat):LC→Unit→ooC:=(aaW k k).f1014947
def aiD(k:Nat)  : LP→Nat→(List Int)→oog
 | [],b,a=>some a
 | (.mk f d)::e,b,a=>aaC (decide ((a.length+1)*8≤140737488355328)) ((aiD k e) (b+1) (a++[d]))
def f42(k:Nat):aab→oog:=fun a =>
 match a with
 | .mk d b e f g h=>aiD k b 0 ([]:List Int)
def f129(k:Nat):LP→Option LP:=fun a=>aaC (decide (a.length*24≤140737488355328)) (some a)
def f157(k:Nat):aah→ooC:=fun a =>
 match a with
 | .mk b d e f g=>some 0
structure acO where
 f1015923:LE→ooW
 f1017823:aah→oof
def ab6(k:Nat)(F:acO)  : LE→Nat→LE→ooW
 | [],b,a=>some a
 | (.mk d e f g h)::i,b,a=>(F.f1017823 (aah.mk d e f g h)).bind fun (.mk j l m n o)=>(aaC (decide ((a.length+1)*64≤140737488355328)) ((ab6 k F i) (b+1) (a++[(aah.mk j l m n o)])))
def afZ(k:Nat)(F:acO):LE→ooW:=fun a=>ab6 k F a 0 ([]:LE)
def adA(k:Nat)(F:acO):aah→oof:=fun f =>
 match f with
 | .mk a b d g h=>(F.f1015923 h).bind fun e=>((f157 k (aah.mk a b d g e)).bind fun i=>(some (aah.mk a b d i e)))
def aaT(k0:Nat):Nat→acO
 | 0=>{ f1015923:=fun _=>none,f1017823:=fun _=>none }
 | k+1=>{ f1015923:=afZ k0 (aaT k0 k),f1017823:=adA k0 (aaT k0 k) }
def f1015923(k:Nat):LE→ooW:=(aaT k k).f1015923
def f1017823(k:Nat):aah→oof:=(aaT k k).f1017823
def f158(k:Nat):aah→ooC:=fun a =>
 match a with
 | .mk d e f b g=>some b
structure acP where
 f1015954:LE→ooW
 f1017854:aah→oof
def ae2(k:Nat)(F:acP)  : LE→Nat→LE→ooW
 | [],b,a=>some a
 | (.mk d e f g h)::i,b,a=>(F.f1017854 (aah.mk d e f g h)).bind fun (.mk j l m n o)=>(aaC (decide ((a.length+1)*64≤140737488355328)) ((ae2 k F i) (b+1) (a++[(aah.mk j l m n o)])))
def agd(k:Nat)(F:acP):LE→ooW:=fun a=>ae2 k F a 0 ([]:LE)
def af5(k:Nat)(F:acP):aah→oof:=fun f =>
 match f with
 | .mk a b d g h=>(F.f1015954 h).bind fun e=>((f158 k (aah.mk a b d g e)).bind fun i=>(some (aah.mk a b d i e)))
def abC(k0:Nat):Nat→acP
 | 0=>{ f1015954:=fun _=>none,f1017854:=fun _=>none }
 | k+1=>{ f1015954:=agd k0 (abC k0 k),f1017854:=af5 k0 (abC k0 k) }
def f1015954(k:Nat):LE→ooW:=(abC k k).f1015954
def f1017854(k:Nat):aah→oof:=(abC k k).f1017854
structure aey where
 f130:LS→Bool→ooO
def amg(k:Nat)(F:aey)(b:Bool)(a:LC)(d:Nat)(e:Int)(f:BA)(g:LE)(h:LS)(i:Int)(nx2:Nat→LC→ooO):ooO:=(f1015954 k g).bind fun j=>(F.f130 h b).bind fun l=>(aaC (decide ((a.length+1)*80≤140737488355328)) (nx2 (d+1) (a++[(aap.mk e f i j l)])))
def ahz(k:Nat)(F:aey)(a:Bool)(b:LS)(e:Nat)(f:Int)(g h:BA)(i j l:Int)(m:LE)(n o p:LS)(nx1:Nat→LS→ooO):LC→Nat→LC→ooO
 | [],q,d=>aaC (decide ((b.length+1)*184≤140737488355328)) (nx1 (e+1) (b++[(aae.mk f g j h l i m n o p d)]))
 | (.mk r s x t u)::v,q,d=>cond (!a) (amg k F a d q r s t u 0 (ahz k F a b e f g h i j l m n o p nx1 v)) (amg k F a d q r s t u x (ahz k F a b e f g h i j l m n o p nx1 v))
def am2(k:Nat)(F:aey)(a:Bool)(b:LS)(d:Nat)(e:Int)(f g:BA)(h:Int)(i:LE)(j l m:LS)(n:LC)(o p:Int)(nx1:Nat→LS→ooO):ooO:=(f1015954 k i).bind fun q=>(F.f130 j a).bind fun r=>((F.f130 l a).bind fun s=>((F.f130 m a).bind fun t=>(ahz k F a b d e f g h o p q r s t nx1 n 0 ([]:LC))))
def afe(k:Nat)(F:aey)(a:Bool):LS→Nat→LS→ooO
 | [],d,b=>some b
 | (.mk e f p g q h i j l m n)::o,d,b=>cond (!a) (am2 k F a b d e f g h i j l m n 0 0 (afe k F a o)) (am2 k F a b d e f g h i j l m n p q (afe k F a o))
def ajF(k:Nat)(F:aey)(b:Bool)(a:LC)(d:Nat)(e:Int)(f:BA)(g:LE)(h:LS)(i:Int)(nx4:Nat→LC→ooO):ooO:=(f1015923 k g).bind fun j=>(F.f130 h b).bind fun l=>(aaC (decide ((a.length+1)*80≤140737488355328)) (nx4 (d+1) (a++[(aap.mk e f i j l)])))
def aeq(k:Nat)(F:aey)(a:Bool)(b:LS)(e:Nat)(f:Int)(g h:BA)(i j l:Int)(m:LE)(n o p:LS)(nx3:Nat→LS→ooO):LC→Nat→LC→ooO
 | [],q,d=>aaC (decide ((b.length+1)*184≤140737488355328)) (nx3 (e+1) (b++[(aae.mk f g j h l i m n o p d)]))
 | (.mk r s x t u)::v,q,d=>cond (!a) (ajF k F a d q r s t u 0 (aeq k F a b e f g h i j l m n o p nx3 v)) (ajF k F a d q r s t u x (aeq k F a b e f g h i j l m n o p nx3 v))
def ajr(k:Nat)(F:aey)(a:Bool)(b:LS)(d:Nat)(e:Int)(f g:BA)(h:Int)(i:LE)(j l m:LS)(n:LC)(o p:Int)(nx3:Nat→LS→ooO):ooO:=(f1015923 k i).bind fun q=>(F.f130 j a).bind fun r=>((F.f130 l a).bind fun s=>((F.f130 m a).bind fun t=>(aeq k F a b d e f g h o p q r s t nx3 n 0 ([]:LC))))
def acZ(k:Nat)(F:aey)(a:Bool):LS→Nat→LS→ooO
 | [],d,b=>some b
 | (.mk e f p g q h i j l m n)::o,d,b=>cond (!a) (ajr k F a b d e f g h i j l m n 0 0 (acZ k F a o)) (ajr k F a b d e f g h i j l m n p q (acZ k F a o))
def apT(k:Nat)(F:aey):LS→Bool→ooO:=fun b a=>cond a (afe k F a b 0 ([]:LS)) (acZ k F a b 0 ([]:LS))
def afA(k0:Nat):Nat→aey
 | 0=>{ f130:=fun _ _=>none }
 | k+1=>{ f130:=apT k0 (afA k0 k) }
def f130(k:Nat):LS→Bool→ooO:=(afA k k).f130
def akd(k:Nat)(b:Bool)(a:LF)(d:Nat)(e:BA)(f:LP)(g:Int)(h:Bool)(i:LS)(j:Int)(nx1:Nat→LF→ooQ):ooQ:=(f129 k f).bind fun l=>(f130 k i b).bind fun m=>(aaC (decide ((a.length+1)*88≤140737488355328)) (nx1 (d+1) (a++[(aab.mk e l g h j m)])))
def adO(k:Nat)(a:Bool):LF→Nat→LF→ooQ
 | [],d,b=>some (aaa.mk b)
 | (.mk e f g h l i)::j,d,b=>cond (!a) (akd k a b d e f g h i 0 (adO k a j)) (akd k a b d e f g h i l (adO k a j))
def f100(k:Nat):aaa→Bool→ooQ:=fun b a =>
 match b,a with
 | .mk d,a=>adO k a d 0 ([]:LF)
def f98(k:Nat):Bool→Int→Option (Except Int Unit):=fun a b=>cond (!a) (some (.error b)) (some (.ok ()))
def f189(k:Nat):Option (List (Int×aaA)):=some (mput qI 29 (aaA.mk 0 false 1 1 false) (mput qI 28 (aaA.mk 1 true 0 601 true) (mput qI 27 (aaA.mk 0 false 0 0 false) (mput qI 26 (aaA.mk 0 false 1 1 true) (mput qI 25 (aaA.mk 1 false 1 1 true) (mput qI 24 (aaA.mk 2 false 0 0 true) (mput qI 23 (aaA.mk 0 false 0 0 true) (mput qI 22 (aaA.mk 0 false 0 1 true) (mput qI 21 (aaA.mk 0 false 1 1 true) (mput qI 20 (aaA.mk 0 false 1 1 true) (mput qI 19 (aaA.mk 0 false 0 0 false) (mput qI 18 (aaA.mk 0 false 0 0 false) (mput qI 17 (aaA.mk 0 false 0 1 false) (mput qI 16 (aaA.mk 0 false 1 1 false) (mput qI 15 (aaA.mk 0 false 1 1 false) (mput qI 14 (aaA.mk 0 false 1 1 false) (mput qI 13 (aaA.mk 0 false 0 0 false) (mput qI 12 (aaA.mk 0 false 1 1 false) (mput qI 11 (aaA.mk 0 false 1 1 false) (mput qI 10 (aaA.mk 0 false 2 2 false) (mput qI 9 (aaA.mk 1 false 0 0 false) (mput qI 8 (aaA.mk 1 false 1 1 false) (mput qI 7 (aaA.mk 1 false 1 1 false) (mput qI 6 (aaA.mk 2 false 1 1 false) (mput qI 5 (aaA.mk 2 false 1 1 false) (mput qI 4 (aaA.mk 2 true 0 601 false) (mput qI 3 (aaA.mk 2 true 0 601 false) (mput qI 2 (aaA.mk 1 false 1 1 false) (mput qI 1 (aaA.mk 1 false 1 1 false) ([]:List (Int×aaA)))))))))))))))))))))))))))))))
def anU(k:Nat)(a:Bool):ooA:=some a
def f77(k:Nat):Int→Int→Int→ooA:=fun a b d=>cond (decide (a≥b)) (anU k (decide (a≤d))) (anU k false)
def aei(k:Nat)(a:Bool):ooA:=some a
def acF(k:Nat)(d a:LS)(e b f:Bool):ooA:=cond f (cond e (cond b (aei k true) (aei k ((a.length:Int)==0))) (cond ((d.length:Int)==0) (cond b (aei k true) (aei k ((a.length:Int)==0))) (aei k false))) (aei k false)
def ajs(k:Nat)(a:Int)(b d:LS)(e:Bool):ooA:=acF k b d ((IntKind.i64.wrap (BitVec.ofInt IntKind.i64.bits a &&& BitVec.ofInt IntKind.i64.bits 1).toNat)==1) ((IntKind.i64.wrap (BitVec.ofInt IntKind.i64.bits a &&& BitVec.ofInt IntKind.i64.bits 2).toNat)==2) e
def f190(k:Nat):aae→ooA:=fun g =>
 match g with
 | .mk e f o p q a r s b d t=>cond (e==6) ((f77 k a 0 1).bind fun h=>(cond h (cond (a==0) (acF k b d false false true) (acF k b d false false (!seq f ⟨#[]⟩))) (acF k b d false false false))) (cond (e==7) ((f77 k a 0 2).bind fun i=>(acF k b d false false i)) (cond (e==22) ((f77 k a 0 1).bind fun j=>(acF k b d false false j)) (cond (e==20) ((f77 k a 0 1).bind fun l=>(acF k b d (a==1) false l)) (cond (e==24) ((f77 k a 1 3).bind fun m=>(cond m (ajs k a b d ((!seq f ⟨#[]⟩)==((IntKind.i64.wrap (BitVec.ofInt IntKind.i64.bits a &&& BitVec.ofInt IntKind.i64.bits 1).toNat)==1))) (ajs k a b d false))) (cond (e==28) ((f77 k a 0 66).bind fun n=>(cond n (acF k b d false false (decide ((a.tmod 4)<3))) (acF k b d false false false))) (acF k b d false false (a==0)))))))
def an4(k:Nat)(a b:Int)(d:Bool)(e:Int)(f:Bool):ooB:=some ((aaj.mk (w64 (a+1)) (imax b e) d),f)
def f76(k:Nat):aaj→Int→ooB:=fun f a =>
 match f,a with
 | .mk b d e,a=>cond (decide ((w64 (b+1))≤600)) (an4 k b d e a (decide (a≤16))) (an4 k b d e a false)
def aka(k:Nat)(a:Bool):ooA:=some a
def f135(k:Nat):Int→ooA:=fun a=>cond (decide (a≥97)) (aka k (decide (a≤122))) (aka k false)
def ajU(k:Nat)(a:Bool):ooA:=some a
def f136(k:Nat):Int→ooA:=fun a=>cond (decide (a≥48)) (ajU k (decide (a≤57))) (ajU k false)
def ahh(k a:Nat)(b:Bool)(nx1:Nat→ooA):ooA:=cond b (some false) (nx1 (a+1))
def adR(k:Nat)(b:BA):List UInt8→Nat→ooA
 | [],a=>some (!seq b ⟨#[]⟩)
 | e::d,a=>(f135 k (e.toNat:Int)).bind fun f=>(cond (!f) (cond ((a:Int)==0) (ahh k a true (adR k b d)) ((f136 k (e.toNat:Int)).bind fun g=>(ahh k a (!g) (adR k b d)))) (ahh k a false (adR k b d)))
def f111(k:Nat):BA→ooA:=fun a=>adR k a a.data.toList 0
def ahD(k:Nat)(b:BA):LB→Nat→ooC
 | [],a=>some (-1)
 | d::e,a=>cond (seq b d) (some (a:Int)) ((ahD k b e) (a+1))
def f165(k:Nat):LB→BA→ooC:=fun a b=>ahD k b a 0
def f137(k:Nat):LB→BA→ooA:=fun a b=>(f165 k a b).bind fun d=>(some (decide (d≥0)))
def ack:LB:=[⟨#[97,102,116,101,114]⟩,⟨#[97,119,97,105,116]⟩,⟨#[98,111,111,108]⟩,⟨#[98,114,101,97,107]⟩,⟨#[98,117,102,102,101,114]⟩,⟨#[99,97,110,99,101,108]⟩,⟨#[99,97,116,99,104]⟩,⟨#[99,104,97,110]⟩,⟨#[99,108,111,115,101]⟩,⟨#[99,111,110,116,105,110,117,101]⟩,⟨#[100,114,111,112]⟩,⟨#[101,97,99,104]⟩,⟨#[101,108,115,101]⟩,⟨#[101,109,105,116]⟩,⟨#[102,97,108,115,101]⟩,⟨#[102,105,110,97,108,108,121]⟩,⟨#[102,108,111,119]⟩,⟨#[102,110]⟩,⟨#[102,114,111,109]⟩,⟨#[104,111,108,100]⟩,⟨#[105,102]⟩,⟨#[105,110,116]⟩,⟨#[108,101,116]⟩,⟨#[108,111,99,107]⟩,⟨#[110,101,119]⟩,⟨#[110,111,119]⟩,⟨#[111,108,100]⟩,⟨#[112,114,111,100,117,99,101]⟩,⟨#[114,101,99,101,105,118,101]⟩,⟨#[114,101,116,117,114,110]⟩,⟨#[115,99,111,112,101]⟩,⟨#[115,101,108,101,99,116]⟩,⟨#[115,101,110,100]⟩,⟨#[115,104,105,101,108,100]⟩,⟨#[115,108,101,101,112]⟩,⟨#[115,112,97,119,110]⟩,⟨#[115,117,112,101,114,118,105,115,101,100]⟩,⟨#[116,97,115,107]⟩,⟨#[116,101,120,116]⟩,⟨#[116,104,114,111,119]⟩,⟨#[116,114,117,101]⟩,⟨#[116,114,121]⟩,⟨#[117,115,101]⟩,⟨#[119,104,105,108,101]⟩,⟨#[119,105,116,104,105,110]⟩,⟨#[121,105,101,108,100]⟩]
def f138(k:Nat):Option LB:=some ack
def f112(k:Nat):BA→ooA:=fun a=>(f138 k ).bind fun b=>((f137 k b a).bind fun d=>(some d))
def akQ(k:Nat)(a:Bool):ooA:=some a
def f79(k:Nat):BA→ooA:=fun a=>(f111 k a).bind fun b=>(cond b (cond (decide ((a.size:Int)≤12)) ((f112 k a).bind fun d=>(akQ k (!d))) (akQ k false)) (akQ k false))
def aio(k a:Nat)(b:Bool)(nx1:Nat→ooA):ooA:=cond b (some false) (nx1 (a+1))
def aee(k:Nat)(a:BA):List UInt8→Nat→ooA
 | [],b=>some (decide ((a.size:Int)≤60))
 | d::e,b=>cond (decide ((d.toNat:Int)<32)) (aio k b true (aee k a e)) (aio k b (decide ((d.toNat:Int)>126)) (aee k a e))
def f95(k:Nat):BA→ooA:=fun a=>aee k a a.data.toList 0
def f78(k:Nat):BA→ooA:=fun a=>f95 k a
structure agc where
 f53:aaj→aah→Int→ooB
 f80:aaj→LE→Int→ooB
def aiO(k:Nat)(F:agc)(a:Bool)(b d:Int)(e:Bool):ooB:=some ((aaj.mk b d e),a)
def ade(k:Nat)(F:agc)(e:LE)(f a b:Int)(d:Bool)(g:Int)(h:Bool):ooB:=cond h (cond ((e.length:Int)==g) ((F.f80 (aaj.mk a b d) e (w64 (f+1))).bind fun (.mk i j l,m)=>(aiO k F m i j l)) (aiO k F false a b d)) (aiO k F false a b d)
def an6(k:Nat)(F:agc)(a:LE)(b d e:Int)(f g:Bool):ooB:=ade k F a b d e f 1 g
def al1(k:Nat)(F:agc)(a:LE)(b d e:Int)(f g:Bool):ooB:=ade k F a b d e f 2 g
def anY(k:Nat)(F:agc)(i g:Int)(h:BA)(a:LE)(b d e:Int)(f j:Bool):ooB:=cond j (cond (g==0) (an6 k F a b d e f (seq h ⟨#[]⟩)) (an6 k F a b d e f false)) ((f77 k i 7 19).bind fun l=>(cond l (cond (g==0) (al1 k F a b d e f (seq h ⟨#[]⟩)) (al1 k F a b d e f false)) (al1 k F a b d e f false)))
def ahb(k:Nat)(F:agc)(g h:Int)(i:BA)(e:LE)(f a b:Int)(d j:Bool):ooB:=cond j (some ((aaj.mk a b d),false)) (cond (g==1) ((f77 k h 0 1000000000000).bind fun l=>(cond l (ade k F e f a b d 0 (seq i ⟨#[]⟩)) (ade k F e f a b d 0 false))) (cond (g==2) ((f77 k h 0 1).bind fun m=>(cond m (ade k F e f a b d 0 (seq i ⟨#[]⟩)) (ade k F e f a b d 0 false))) (cond (g==3) (cond (h==0) ((f78 k i).bind fun n=>(ade k F e f a b d 0 n)) (ade k F e f a b d 0 false)) (cond (g==4) (cond (h==0) ((f79 k i).bind fun o=>(ade k F e f a b d 0 o)) (ade k F e f a b d 0 false)) (cond (g==5) (anY k F g h i e f a b d (g==5)) (anY k F g h i e f a b d (g==6)))))))
def aqJ(k:Nat)(F:agc):aaj→aah→Int→ooB:=fun j l a =>
 match j,l,a with
 | .mk m n o,.mk d e f p g,a=>(f76 k (aaj.mk m n o) a).bind fun (.mk h i b,q)=>(cond (!q) (ahb k F d e f g a h i b true) (cond (p != 0) (ahb k F d e f g a h i b (!b)) (ahb k F d e f g a h i b false)))
def aid(k:Nat)(F:agc)(e:Int):LE→Nat→Int→Int→Bool→ooB
 | [],f,a,b,d=>some ((aaj.mk a b d),true)
 | (.mk j l m n o)::p,f,a,b,d=>(F.f53 (aaj.mk a b d) (aah.mk j l m n o) e).bind fun (.mk g h i,q)=>(cond (!q) (some ((aaj.mk g h i),false)) ((aid k F e p) (f+1) g h i))
def au4(k:Nat)(F:agc):aaj→LE→Int→ooB:=fun d a b =>
 match d,a,b with
 | .mk e f g,a,b=>aid k F b a 0 e f g
def aej(k0:Nat):Nat→agc
 | 0=>{ f53:=fun _ _ _=>none,f80:=fun _ _ _=>none }
 | k+1=>{ f53:=aqJ k0 (aej k0 k),f80:=au4 k0 (aej k0 k) }
def f53(k:Nat):aaj→aah→Int→ooB:=(aej k k).f53
def f80(k:Nat):aaj→LE→Int→ooB:=(aej k k).f80
structure ach where
 f156:aaj→LS→Int→ooB
 f177:aaj→aae→Int→ooB
 f191:aaj→aap→Int→ooB
def af1(k:Nat)(F:ach)(e:Int):LS→Nat→Int→Int→Bool→ooB
 | [],f,a,b,d=>some ((aaj.mk a b d),true)
 | (.mk j l m n o p q r s t u)::v,f,a,b,d=>(F.f177 (aaj.mk a b d) (aae.mk j l m n o p q r s t u) e).bind fun (.mk g h i,x)=>(cond (!x) (some ((aaj.mk g h i),false)) ((af1 k F e v) (f+1) g h i))
def ao8(k:Nat)(F:ach):aaj→LS→Int→ooB:=fun d a b =>
 match d,a,b with
 | .mk e f g,a,b=>af1 k F b a 0 e f g
def ahU(k:Nat)(F:ach)(a:Bool)(b d:Int)(e:Bool):ooB:=some ((aaj.mk b d e),a)
def ahx(k:Nat)(F:ach)(e:Nat)(a b:Int)(d f:Bool)(nx1:Nat→Int→Int→Bool→ooB):ooB:=cond f (some ((aaj.mk a b d),false)) (nx1 (e+1) a b d)
def acd(k:Nat)(F:ach)(g:LE)(h i j:LS)(l:LC)(a:Int):LC→Nat→Int→Int→Bool→ooB
 | [],b,d,e,f=>(f80 k (aaj.mk d e f) g (w64 (a+1))).bind fun (.mk o p q,C)=>(cond C ((F.f156 (aaj.mk o p q) h (w64 (a+1))).bind fun (.mk r s t,D)=>(cond D ((F.f156 (aaj.mk r s t) i (w64 (a+1))).bind fun (.mk u v x,G)=>(cond G ((F.f156 (aaj.mk u v x) j (w64 (a+1))).bind fun (.mk I J N,O)=>(ahU k F O I J N)) (ahU k F false u v x))) (ahU k F false r s t))) (ahU k F false o p q))
 | (.mk m y z A B)::n,b,d,e,f=>cond (m==4) (cond (decide ((b:Int)<(w64 ((l.length:Int) - 1)))) (ahx k F b d e f true (acd k F g h i j l a n)) ((F.f191 (aaj.mk d e f) (aap.mk m y z A B) (w64 (a+1))).bind fun (.mk S U V,W)=>(ahx k F b S U V (!W) (acd k F g h i j l a n)))) ((F.f191 (aaj.mk d e f) (aap.mk m y z A B) (w64 (a+1))).bind fun (.mk X Y Z,ab)=>(ahx k F b X Y Z (!ab) (acd k F g h i j l a n)))
def acj(k:Nat)(F:ach)(f:LE)(g h i:LS)(a:LC)(j b d:Int)(e l:Bool):ooB:=cond l (some ((aaj.mk b d e),false)) (acd k F f g h i a j a 0 b d e)
def abs(k:Nat)(F:ach)(l:Int)(b:LE)(d h i:LS)(a:LC)(j m n:Int)(o:Bool)(e f:Int)(g p:Bool):ooB:=cond p (some ((aaj.mk e f g),false)) ((f77 k (b.length:Int) m n).bind fun q=>(cond (!q) (acj k F b d h i a j e f g true) (cond (!o) (cond (decide ((d.length:Int)>0)) (acj k F b d h i a j e f g true) (cond (l != 27) (cond (decide ((a.length:Int)>0)) (acj k F b d h i a j e f g true) (cond (l==27) ((f77 k (a.length:Int) 1 4).bind fun r=>(acj k F b d h i a j e f g (!r))) (acj k F b d h i a j e f g false))) (cond (l==27) ((f77 k (a.length:Int) 1 4).bind fun s=>(acj k F b d h i a j e f g (!s))) (acj k F b d h i a j e f g false)))) (cond (l != 27) (cond (decide ((a.length:Int)>0)) (acj k F b d h i a j e f g true) (cond (l==27) ((f77 k (a.length:Int) 1 4).bind fun t=>(acj k F b d h i a j e f g (!t))) (acj k F b d h i a j e f g false))) (cond (l==27) ((f77 k (a.length:Int) 1 4).bind fun u=>(acj k F b d h i a j e f g (!u))) (acj k F b d h i a j e f g false))))))
def ads(k:Nat)(F:ach)(e:Int)(r p:BA)(f:LE)(g h i:LS)(j:LC)(l s:Int)(q:Bool)(m n:Int)(o:Bool)(a b:Int)(d t:Bool):ooB:=cond t (some ((aaj.mk a b d),false)) (cond (!seq r ⟨#[]⟩) (cond (s==0) (abs k F e f g h i j l m n o a b d true) ((f79 k r).bind fun u=>(cond (!u) (abs k F e f g h i j l m n o a b d true) (cond (!(!seq r ⟨#[]⟩)) (cond (s==1) (abs k F e f g h i j l m n o a b d true) (cond (!((!seq p ⟨#[]⟩)==q)) (abs k F e f g h i j l m n o a b d true) (cond q ((f79 k p).bind fun v=>(abs k F e f g h i j l m n o a b d (!v))) (abs k F e f g h i j l m n o a b d false)))) (cond (!((!seq p ⟨#[]⟩)==q)) (abs k F e f g h i j l m n o a b d true) (cond q ((f79 k p).bind fun x=>(abs k F e f g h i j l m n o a b d (!x))) (abs k F e f g h i j l m n o a b d false))))))) (cond (!(!seq r ⟨#[]⟩)) (cond (s==1) (abs k F e f g h i j l m n o a b d true) (cond (!((!seq p ⟨#[]⟩)==q)) (abs k F e f g h i j l m n o a b d true) (cond q ((f79 k p).bind fun y=>(abs k F e f g h i j l m n o a b d (!y))) (abs k F e f g h i j l m n o a b d false)))) (cond (!((!seq p ⟨#[]⟩)==q)) (abs k F e f g h i j l m n o a b d true) (cond q ((f79 k p).bind fun z=>(abs k F e f g h i j l m n o a b d (!z))) (abs k F e f g h i j l m n o a b d false)))))
def ago(k:Nat)(F:ach)(x y:Int)(z:Bool)(a:Int)(b:BA)(t:Int)(d:BA)(u v:Int)(e:LE)(f g h:LS)(i:LC)(j m:Int)(n:Bool)(o p:Int)(q A:Bool):ooB:=cond (!A) (ads k F a b d e f g h i j m n o p q x y z true) ((f76 k (aaj.mk x y z) j).bind fun (.mk r s l,B)=>(cond (!B) (ads k F a b d e f g h i j m n o p q r s l true) (cond (t != 0) (cond (!l) (ads k F a b d e f g h i j m n o p q r s l true) ((f190 k (aae.mk a b t d u v e f g h i)).bind fun C=>(ads k F a b d e f g h i j m n o p q r s l (!C)))) (cond (u != 0) (cond (!l) (ads k F a b d e f g h i j m n o p q r s l true) ((f190 k (aae.mk a b t d u v e f g h i)).bind fun D=>(ads k F a b d e f g h i j m n o p q r s l (!D)))) ((f190 k (aae.mk a b t d u v e f g h i)).bind fun G=>(ads k F a b d e f g h i j m n o p q r s l (!G)))))))
def alG(k:Nat)(F:ach):aaj→aae→Int→ooB:=fun r s a =>
 match r,s,a with
 | .mk d e f,.mk b g h i j l m n o p q,a=>(f189 k ).bind fun t=>(ael (mget qI b t) (ago k F d e f b g h i j l m n o p q a 0 false 0 0 false false) (fun (.mk u v x y z)=>(ago k F d e f b g h i j l m n o p q a u v x y z true)))
def am6(k:Nat)(F:ach)(a:Bool)(b d:Int)(e:Bool):ooB:=some ((aaj.mk b d e),a)
def aci(k:Nat)(F:ach)(i:LE)(j:LS)(a b d:Int)(e l:Bool):ooB:=cond l (some ((aaj.mk b d e),false)) ((f80 k (aaj.mk b d e) i (w64 (a+1))).bind fun (.mk f g h,m)=>(cond m ((F.f156 (aaj.mk f g h) j (w64 (a+1))).bind fun (.mk n o p,q)=>(am6 k F q n o p)) (am6 k F false f g h)))
def aiU(k:Nat)(F:ach):aaj→aap→Int→ooB:=fun o p a =>
 match o,p,a with
 | .mk j l m,.mk i h q b e,a=>ael (mget qI i (mput qI 4 0 (mput qI 3 1 (mput qI 2 2 (mput qI 1 1 ([]:List (Int×Int))))))) (some ((aaj.mk j l m),false)) (fun n=>((f76 k (aaj.mk j l m) a).bind fun (.mk f g d,r)=>(cond (!r) (aci k F b e a f g d true) (cond (q != 0) (cond (!d) (aci k F b e a f g d true) (cond ((b.length:Int) != n) (aci k F b e a f g d true) (cond (!((!seq h ⟨#[]⟩)==(i==1))) (aci k F b e a f g d true) (cond (!seq h ⟨#[]⟩) ((f79 k h).bind fun s=>(aci k F b e a f g d (!s))) (aci k F b e a f g d false))))) (cond ((b.length:Int) != n) (aci k F b e a f g d true) (cond (!((!seq h ⟨#[]⟩)==(i==1))) (aci k F b e a f g d true) (cond (!seq h ⟨#[]⟩) ((f79 k h).bind fun t=>(aci k F b e a f g d (!t))) (aci k F b e a f g d false))))))))
def abl(k0:Nat):Nat→ach
 | 0=>{ f156:=fun _ _ _=>none,f177:=fun _ _ _=>none,f191:=fun _ _ _=>none }
 | k+1=>{ f156:=ao8 k0 (abl k0 k),f177:=alG k0 (abl k0 k),f191:=aiU k0 (abl k0 k) }
def f156(k:Nat):aaj→LS→Int→ooB:=(abl k k).f156
def f177(k:Nat):aaj→aae→Int→ooB:=(abl k k).f177
def f191(k:Nat):aaj→aap→Int→ooB:=(abl k k).f191
def ajY(k:Nat)(a b:Int)(d:Bool)(e:Nat)(f:Bool)(nx2:Nat→ooB):ooB:=cond f (some ((aaj.mk a b d),false)) (nx2 (e+1))
def acG(k e:Nat)(f:LS)(a b:Int)(d:Bool)(nx1:Nat→Int→Int→Bool→ooB):LP→Nat→ooB
 | [],g=>(f156 k (aaj.mk a b d) f 1).bind fun (.mk h i j,m)=>(cond (!m) (some ((aaj.mk h i j),false)) (nx1 (e+1) h i j))
 | (.mk n o)::l,g=>(f79 k n).bind fun p=>(cond (!p) (ajY k a b d g true (acG k e f a b d nx1 l)) ((f77 k o 1 6).bind fun q=>(ajY k a b d g (!q) (acG k e f a b d nx1 l))))
def acq(k e:Nat)(f:LP)(g:LS)(a b:Int)(d h:Bool)(nx1:Nat→Int→Int→Bool→ooB):ooB:=cond h (some ((aaj.mk a b d),false)) (acG k e g a b d nx1 f 0)
def abp(k:Nat)  : LF→Nat→Int→Int→Bool→ooB
 | [],a,j,l,m=>some ((aaj.mk j l m),true)
 | (.mk o b i n p e)::f,a,j,l,m=>(f76 k (aaj.mk j l m) 0).bind fun (.mk g h d,q)=>(cond (!q) (acq k a b e g h d true (abp k f)) ((f79 k o).bind fun r=>(cond (!r) (acq k a b e g h d true (abp k f)) (cond (decide ((b.length:Int)>4)) (acq k a b e g h d true (abp k f)) (cond (p != 0) (cond (!d) (acq k a b e g h d true (abp k f)) (cond n (cond (i != 0) (acq k a b e g h d true (abp k f)) ((f77 k i 0 6).bind fun s=>(acq k a b e g h d (!s) (abp k f)))) ((f77 k i 0 6).bind fun t=>(acq k a b e g h d (!t) (abp k f))))) (cond n (cond (i != 0) (acq k a b e g h d true (abp k f)) ((f77 k i 0 6).bind fun u=>(acq k a b e g h d (!u) (abp k f)))) ((f77 k i 0 6).bind fun v=>(acq k a b e g h d (!v) (abp k f)))))))))
def f128(k:Nat):aaj→aaa→ooB:=fun f g =>
 match f,g with
 | .mk a b d,.mk e=>(f77 k (e.length:Int) 1 16).bind fun h=>(cond (!h) (some ((aaj.mk a b d),false)) (abp k e 0 a b d))
def f99(k:Nat):aaa→Bool→ooA:=fun b a =>
 match b,a with
 | .mk d,a=>(f128 k (aaj.mk 0 0 a) (aaa.mk d)).bind fun (.mk f g h,e)=>(some e)
def f70(k:Nat):aaa→Option (Except Int aaa):=fun b =>
 match b with
 | .mk a=>(f99 k (aaa.mk a) true).bind fun d=>((f98 k d 2).bind fun q_=>match q_ with | .error c_=>some (.error c_) | .ok _=>((f100 k (aaa.mk a) false).bind fun (.mk e)=>(some (.ok (aaa.mk e)))))
def afB(k:Nat):aaa→aaa→ooR:=fun b d =>
 match b,d with
 | .mk a,.mk sA_0=>(f70 k (aaa.mk a)).bind fun q_=>match q_ with | .error c_=>some (.error c_) | .ok (.mk e)=>(some (.ok ((aaa.mk a),(aaa.mk e))))
def agS(k:Nat):aaa→aaa→ooV:=fun a b=>match afB k a b with
 | none=>none
 | some (.ok (y0,y1))=>some (y0,y1,0)
 | some (.error c)=>some (a,b,c)
def f46(k:Nat):aaa→ooI:=fun a =>
 match a with
 | .mk b=>(agS k (aaa.mk b) (aaa.mk [])).bind fun (.mk f,.mk d,e)=>(some ((aaa.mk d),e))
def agV(k:Nat):aab→aab→ooA:=fun a b =>
 match a,b with
 | .mk d f g h i j,.mk e l m n o p=>some (seq e d)
def ac9(k:Nat)(b:BA)(d:LP)(e:Int)(f:Bool)(g:Int)(h:LS):LF→Nat→ooC
 | [],a=>some (-1)
 | (.mk i j l m n o)::p,a=>(agV k (aab.mk i j l m n o) (aab.mk b d e f g h)).bind fun q=>(cond q (some (a:Int)) ((ac9 k b d e f g h p) (a+1)))
def agX(k:Nat):LF→aab→ooC:=fun a b =>
 match a,b with
 | a,.mk d e f g h i=>ac9 k d e f g h i a 0
def aez(k:Nat):LF→aab→ooA:=fun a b =>
 match a,b with
 | a,.mk d e f g h i=>(agX k a (aab.mk d e f g h i)).bind fun j=>(some (decide (j≥0)))
def ahO(k:Nat)(a:BA):LM→Nat→Option (Int×Bool)
 | [],b=>some (0,false)
 | d::e,b=>ael (mget seq a d) ((ahO k a e) (b+1)) (fun f=>(some (f,true)))
def f160(k:Nat):aaf→BA→Option (Int×Bool):=fun b a =>
 match b,a with
 | .mk (.mk e) (.mk f g h i j l) m d n,a=>ahO k a d 0
def f133(k:Nat):aaf→BA→Option (Except Int (aaf×Int)):=fun n a =>
 match n,a with
 | .mk (.mk e) (.mk f g h i j l) b d m,a=>(f160 k (aaf.mk (aaa.mk e) (aab.mk f g h i j l) b d m) a).bind fun (q,o)=>((f98 k (!o) 21).bind fun q_=>match q_ with | .error c_=>some (.error c_) | .ok _=>(aaC (decide ((b.length+1)*16≤140737488355328)) ((idxO d (w64 ((d.length:Int) - 1))).bind fun p=>(some (.ok ((aaf.mk (aaa.mk e) (aab.mk f g h i j l) (b++[a]) (d.set (w64 ((d.length:Int) - 1)).toNat (mput seq a (b.length:Int) p)) m),(b.length:Int)))))))
def agY(k:Nat):aah→aaf→Option (Except Int Int):=fun a b =>
 match a,b with
 | .mk d s e t u,.mk (.mk f) (.mk g h i j l m) n o p=>cond (d != 4) (some (.ok 0)) ((f160 k (aaf.mk (aaa.mk f) (aab.mk g h i j l m) n o p) e).bind fun (q,r)=>((f98 k r 20).bind fun q_=>match q_ with | .error c_=>some (.error c_) | .ok _=>(some (.ok q))))
structure acQ where
 f1015988:LE→aaf→ooU
 f1017888:aah→aaf→ooa
def ab3(k:Nat)(F:acQ)(b:LF)(d:BA)(e:LP)(f:Int)(g:Bool)(h:Int)(i:LS)(j:LB)(l:LM)(m:Int):LE→Nat→LE→ooU
 | [],n,a=>some (.ok a)
 | (.mk o p q r s)::t,n,a=>(F.f1017888 (aah.mk o p q r s) (aaf.mk (aaa.mk b) (aab.mk d e f g h i) j l m)).bind fun q_=>match q_ with | .error c_=>some (.error c_) | .ok (.mk u v x y z)=>(aaC (decide ((a.length+1)*64≤140737488355328)) ((ab3 k F b d e f g h i j l m t) (n+1) (a++[(aah.mk u v x y z)])))
def agf(k:Nat)(F:acQ):LE→aaf→ooU:=fun a b =>
 match a,b with
 | a,.mk (.mk d) (.mk e f g h i j) l m n=>ab3 k F d e f g h i j l m n a 0 ([]:LE)
def adK(k:Nat)(F:acQ):aah→aaf→ooa:=fun q r =>
 match q,r with
 | .mk a b d s t,.mk (.mk e) (.mk f g h i j l) m n o=>(F.f1015988 t (aaf.mk (aaa.mk e) (aab.mk f g h i j l) m n o)).bind fun q_=>match q_ with | .error c_=>some (.error c_) | .ok p=>((agY k (aah.mk a b d s p) (aaf.mk (aaa.mk e) (aab.mk f g h i j l) m n o)).bind fun q_=>match q_ with | .error c_=>some (.error c_) | .ok u=>(some (.ok (aah.mk a b d u p))))
def aaV(k0:Nat):Nat→acQ
 | 0=>{ f1015988:=fun _ _=>none,f1017888:=fun _ _=>none }
 | k+1=>{ f1015988:=agf k0 (aaV k0 k),f1017888:=adK k0 (aaV k0 k) }
def f1015988(k:Nat):LE→aaf→ooU:=(aaV k k).f1015988
def f1017888(k:Nat):aah→aaf→ooa:=(aaV k k).f1017888
def f161(k:Nat):aaf→LE→ooU:=fun b a =>
 match b,a with
 | .mk (.mk d) (.mk e f g h i j) l m n,a=>(f1015988 k a (aaf.mk (aaa.mk d) (aab.mk e f g h i j) l m n)).bind fun q_=>match q_ with | .error c_=>some (.error c_) | .ok o=>(some (.ok o))
def agT(k:Nat):aab→aae→ooA:=fun a b =>
 match a,b with
 | .mk d f g h i j,.mk l m n e o p q r s t u=>some (seq d e)
def ac5(k:Nat)(b:Int)(d:BA)(e:Int)(f:BA)(g h:Int)(i:LE)(j l m:LS)(n:LC):LF→Nat→ooC
 | [],a=>some (-1)
 | (.mk o p q r s t)::u,a=>(agT k (aab.mk o p q r s t) (aae.mk b d e f g h i j l m n)).bind fun v=>(cond v (some (a:Int)) ((ac5 k b d e f g h i j l m n u) (a+1)))
def agP(k:Nat):LF→aae→ooC:=fun a b =>
 match a,b with
 | a,.mk d e f g h i j l m n o=>ac5 k d e f g h i j l m n o a 0
def f163(k:Nat):aaf→aae→ooF:=fun d e =>
 match d,e with
 | .mk (.mk a) (.mk f g h i j l) m n o,.mk sA_0 sA_1 sA_2 sA_3 sA_4 sA_5 sA_6 sA_7 sA_8 sA_9 sA_10=>(agP k a (aae.mk sA_0 sA_1 sA_2 sA_3 sA_4 sA_5 sA_6 sA_7 sA_8 sA_9 sA_10)).bind fun b=>((f98 k (decide (b≥0)) 20).bind fun q_=>match q_ with | .error c_=>some (.error c_) | .ok _=>((idxO a b).bind fun (.mk r p s q t u)=>((f98 k (q==(sA_0==28)) 25).bind fun q_=>match q_ with | .error c_=>some (.error c_) | .ok _=>((f98 k ((p.length:Int)==(sA_6.length:Int)) 24).bind fun q_=>match q_ with | .error c_=>some (.error c_) | .ok _=>(some (.ok ((aaf.mk (aaa.mk a) (aab.mk f g h i j l) m n o),(aae.mk sA_0 sA_1 sA_2 sA_3 b sA_5 sA_6 sA_7 sA_8 sA_9 sA_10))))))))
structure abF where
 f134:aaf→aae→ooF
 f1016212:aaf→BA→LS→aap→ooM
 f1016220:aaf→BA→LS→aae→ooG
 f1016266:aaf→BA→LS→ooK
 f1016420:aaf→BA→LS→aae→ooG
 f1016466:aaf→BA→LS→ooK
def agl(k:Nat)(F:abF)(n:Int)(o:BA)(p:Int)(q:BA)(r s:Int)(t u v:LS)(x:LE):LC→Nat→LF→BA→LP→Int→Bool→Int→LS→LB→LM→Int→LC→ooF
 | [],y,a,b,d,e,f,g,h,i,j,l,m=>some (.ok ((aaf.mk (aaa.mk a) (aab.mk b d e f g h) i j l),(aae.mk n o p q r s x t u v m)))
 | (.mk B z C D A)::G,y,a,b,d,e,f,g,h,i,j,l,m=>(f161 k (aaf.mk (aaa.mk a) (aab.mk b d e f g h) i j l) D).bind fun q_=>match q_ with | .error c_=>some (.error c_) | .ok I=>((F.f1016212 (aaf.mk (aaa.mk a) (aab.mk b d e f g h) i j l) z A (aap.mk B z C I A)).bind fun q_=>match q_ with | .error c_=>some (.error c_) | .ok (.mk (.mk J) (.mk N O S U V W) X Y Z,.mk ab ac ad ae ai,af)=>(aaC (decide ((m.length+1)*80≤140737488355328)) ((agl k F n o p q r s t u v x G) (y+1) J N O S U V W X Y Z (m++[(aap.mk ab ac ad ae af)]))))
def acn(k:Nat)(F:abF)(a:Int)(b:BA)(d:Int)(e:BA)(f g:Int)(h:LE)(i j l:LS)(m:LC)(n:LF)(o:BA)(p:LP)(q:Int)(r:Bool)(s:Int)(t:LS)(u:LB)(v:LM)(x:Int):ooF:=some (.ok ((aaf.mk (aaa.mk n) (aab.mk o p q r s t) u v x),(aae.mk a b d e f g h i j l m)))
def ahu(k:Nat)(F:abF)(a:Int)(e f:BA)(g b:Int)(h:LE)(i j l:LS)(m:LC)(n:LF)(o:BA)(p:LP)(q:Int)(r:Bool)(s:Int)(t:LS)(u:LB)(v:LM)(d x:Int):ooF:=cond (a != 6) ((f98 k true 22).bind fun q_=>match q_ with | .error c_=>some (.error c_) | .ok _=>(acn k F a e x f g b h i j l m n o p q r s t u v d)) (cond (b==0) ((f98 k true 22).bind fun q_=>match q_ with | .error c_=>some (.error c_) | .ok _=>(acn k F a e x f g b h i j l m n o p q r s t u v d)) ((f98 k (decide (d>0)) 22).bind fun q_=>match q_ with | .error c_=>some (.error c_) | .ok _=>(acn k F a e x f g b h i j l m n o p q r s t u v d)))
def aeW(k:Nat)(F:abF)(b:LF)(d:BA)(e:LP)(f:Int)(g:Bool)(h:Int)(i:LS)(j:LB)(l:LM)(m n:Int)(a:BA)(x:Int)(o:BA)(p q:Int)(r:LE)(s t u:LS)(v:LC)(y:Bool):ooF:=cond y ((F.f1016266 (aaf.mk (aaa.mk b) (aab.mk d e f g h i) j l m) ⟨#[]⟩ s).bind fun q_=>match q_ with | .error c_=>some (.error c_) | .ok (.mk (.mk z) (.mk A B C D G I) J N O,S)=>((F.f1016266 (aaf.mk (aaa.mk z) (aab.mk A B C D G I) J N O) ⟨#[]⟩ t).bind fun q_=>match q_ with | .error c_=>some (.error c_) | .ok (.mk (.mk U) (.mk V W X Y Z ab) ac ad ae,af)=>(acn k F n a x o p q r S af u v U V W X Y Z ab ac ad ae))) (cond (!seq a ⟨#[]⟩) ((f133 k (aaf.mk (aaa.mk b) (aab.mk d e f g h i) j l m) a).bind fun q_=>match q_ with | .error c_=>some (.error c_) | .ok (.mk (.mk ai) (.mk aj ak al am an ao) ap aq ar,au)=>(ahu k F n a o p q r s t u v ai aj ak al am an ao ap aq ar au)) (ahu k F n a o p q r s t u v b d e f g h i j l m x))
def ah0(k:Nat)(F:abF)(j:LF)(l:BA)(m:LP)(e:Int)(f:Bool)(n:Int)(o:LS)(p:LB)(q:LM)(g a:Int)(b:BA)(r:Int)(s:BA)(t u:Int)(h:LE)(d i v:LS)(x:LC)(y:Bool):ooF:=cond y ((f98 k (decide (g>0)) 22).bind fun q_=>match q_ with | .error c_=>some (.error c_) | .ok _=>(acn k F a b r s t u h d i v x j l m e f n o p q g)) (cond (a==29) ((f98 k f 22).bind fun q_=>match q_ with | .error c_=>some (.error c_) | .ok _=>(acn k F a b r s t u h d i v x j l m e f n o p q g)) (cond (a==17) ((f98 k ((decide ((h.length:Int)>0))==(e != 0)) 22).bind fun q_=>match q_ with | .error c_=>some (.error c_) | .ok _=>(acn k F a b r s t u h d i v x j l m e f n o p q g)) (cond (a==21) ((F.f1016466 (aaf.mk (aaa.mk j) (aab.mk l m e f n o) p q g) ⟨#[]⟩ d).bind fun q_=>match q_ with | .error c_=>some (.error c_) | .ok (.mk (.mk z) (.mk A B C D G I) J N O,S)=>(acn k F a b r s t u h S i v x z A B C D G I J N O)) (cond (a==28) ((F.f1016420 (aaf.mk (aaa.mk j) (aab.mk l m e f n o) p q g) b d (aae.mk a b r s t u h d i v x)).bind fun q_=>match q_ with | .error c_=>some (.error c_) | .ok (.mk (.mk U) (.mk V W X Y Z ab) ac ad ae,.mk af ai aj ak al am an bL ao ap aq,ar)=>(acn k F af ai aj ak al am an ar ao ap aq U V W X Y Z ab ac ad ae)) (cond (a==25) ((F.f1016220 (aaf.mk (aaa.mk j) (aab.mk l m e f n o) p q g) b d (aae.mk a b r s t u h d i v x)).bind fun q_=>match q_ with | .error c_=>some (.error c_) | .ok (.mk (.mk au) (.mk av aw ax ay az aA) aB aG aH,.mk aI aK aL aM aN aP aT bM aU aV aW,aX)=>(acn k F aI aK aL aM aN aP aT aX aU aV aW au av aw ax ay az aA aB aG aH)) (cond (a==24) ((F.f1016266 (aaf.mk (aaa.mk j) (aab.mk l m e f n o) p q g) ⟨#[]⟩ d).bind fun q_=>match q_ with | .error c_=>some (.error c_) | .ok (.mk (.mk aY) (.mk aZ a0 a1 a2 a3 a4) a5 a6 a7,a8)=>((F.f1016220 (aaf.mk (aaa.mk aY) (aab.mk aZ a0 a1 a2 a3 a4) a5 a6 a7) b i (aae.mk a b r s t u h a8 i v x)).bind fun q_=>match q_ with | .error c_=>some (.error c_) | .ok (.mk (.mk a9) (.mk ba bb bd be bf bg) bh bi bj,.mk bk bm bn bo bp bq br bs bP bu bv,bw)=>((F.f1016266 (aaf.mk (aaa.mk a9) (aab.mk ba bb bd be bf bg) bh bi bj) ⟨#[]⟩ bu).bind fun q_=>match q_ with | .error c_=>some (.error c_) | .ok (.mk (.mk bx) (.mk bz bB bD bE bF bG) bH bI bJ,bK)=>(acn k F bk bm bn bo bp bq br bs bw bK bv bx bz bB bD bE bF bG bH bI bJ)))) (cond (a==20) (aeW k F j l m e f n o p q g a b r s t u h d i v x (a==20)) (cond (a==22) (aeW k F j l m e f n o p q g a b r s t u h d i v x (a==22)) (cond (a==23) (aeW k F j l m e f n o p q g a b r s t u h d i v x (a==23)) (aeW k F j l m e f n o p q g a b r s t u h d i v x (a==26)))))))))))
def ah1(k:Nat)(F:abF)(b:LF)(d:BA)(e:LP)(f:Int)(g:Bool)(h:Int)(i:LS)(j:LB)(l:LM)(m a:Int)(n:BA)(x:Int)(o:BA)(p q:Int)(r:LE)(s t u:LS)(v:LC):ooF:=cond (a==2) ((f160 k (aaf.mk (aaa.mk b) (aab.mk d e f g h i) j l m) n).bind fun (y,z)=>((f98 k z 20).bind fun q_=>match q_ with | .error c_=>some (.error c_) | .ok _=>(acn k F a n y o p q r s t u v b d e f g h i j l m))) (cond (a==18) (ah0 k F b d e f g h i j l m a n x o p q r s t u v (a==18)) (ah0 k F b d e f g h i j l m a n x o p q r s t u v (a==19)))
def alU(k:Nat)(F:abF):aaf→aae→ooF:=fun y z =>
 match y,z with
 | .mk (.mk a) (.mk b d e f g h) i j l,.mk m o p n q r A s t u v=>(f161 k (aaf.mk (aaa.mk a) (aab.mk b d e f g h) i j l) A).bind fun q_=>match q_ with | .error c_=>some (.error c_) | .ok x=>(cond (m==27) (agl k F m o p n q r s t u x v 0 a b d e f g h i j l ([]:LC)) (cond (!seq n ⟨#[]⟩) ((f163 k (aaf.mk (aaa.mk a) (aab.mk b d e f g h) i j l) (aae.mk m o p n q r x s t u v)).bind fun q_=>match q_ with | .error c_=>some (.error c_) | .ok (.mk (.mk B) (.mk C D G I J N) O S U,.mk V W X Y Z ab ac ad ae af ai)=>(ah1 k F B C D G I J N O S U V W X Y Z ab ac ad ae af ai)) (ah1 k F a b d e f g h i j l m o p n q r x s t u v)))
def aco(k:Nat)(F:abF)(sA_0:Int)(sA_1:BA)(sA_3:LE)(sA_4:LS)(n:Int):LS→Nat→LF→BA→LP→Int→Bool→Int→LS→LB→LM→Int→LS→ooM
 | [],o,d,e,f,g,h,i,j,l,a,m,b=>aaC (decide (0≤(w64 ((a.length:Int) - 1))∧(w64 ((a.length:Int) - 1))≤(a.length:Int))) (some (.ok ((aaf.mk (aaa.mk d) (aab.mk e f g h i j) l (a.take (w64 ((a.length:Int) - 1)).toNat) m),(aap.mk sA_0 sA_1 n sA_3 sA_4),b)))
 | (.mk p q r s t u v x y z A)::B,o,d,e,f,g,h,i,j,l,a,m,b=>(F.f134 (aaf.mk (aaa.mk d) (aab.mk e f g h i j) l a m) (aae.mk p q r s t u v x y z A)).bind fun q_=>match q_ with | .error c_=>some (.error c_) | .ok (.mk (.mk C) (.mk D G I J N O) S U V,.mk W X Y Z ab ac ad ae af ai aj)=>(aaC (decide ((b.length+1)*184≤140737488355328)) ((aco k F sA_0 sA_1 sA_3 sA_4 n B) (o+1) C D G I J N O S U V (b++[(aae.mk W X Y Z ab ac ad ae af ai aj)])))
def ad2(k:Nat)(F:abF)(a:LS)(sA_0:Int)(sA_1:BA)(sA_3:LE)(sA_4:LS)(b:LF)(d:BA)(e:LP)(f:Int)(g:Bool)(h:Int)(i:LS)(j:LB)(l:LM)(m n:Int):ooM:=aco k F sA_0 sA_1 sA_3 sA_4 n a 0 b d e f g h i j l m ([]:LS)
def adE(k:Nat)(F:abF):aaf→BA→LS→aap→ooM:=fun o a b p =>
 match o,a,b,p with
 | .mk (.mk e) (.mk f g h i j l) m d n,a,b,.mk sA_0 sA_1 sA_2 sA_3 sA_4=>aaC (decide ((d.length+1)*8≤140737488355328)) (cond (!seq a ⟨#[]⟩) ((f133 k (aaf.mk (aaa.mk e) (aab.mk f g h i j l) m (d++[([]:List (BA×Int))]) n) a).bind fun q_=>match q_ with | .error c_=>some (.error c_) | .ok (.mk (.mk q) (.mk r s t u v x) y z A,B)=>(ad2 k F b sA_0 sA_1 sA_3 sA_4 q r s t u v x y z A B)) (ad2 k F b sA_0 sA_1 sA_3 sA_4 e f g h i j l m (d++[([]:List (BA×Int))]) n sA_2))
def act(k:Nat)(F:abF)(sA_0:Int)(sA_1 sA_3:BA)(sA_4 sA_5:Int)(sA_6:LE)(sA_7 sA_8 sA_9:LS)(sA_10:LC)(n:Int):LS→Nat→LF→BA→LP→Int→Bool→Int→LS→LB→LM→Int→LS→ooG
 | [],o,d,e,f,g,h,i,j,l,a,m,b=>aaC (decide (0≤(w64 ((a.length:Int) - 1))∧(w64 ((a.length:Int) - 1))≤(a.length:Int))) (some (.ok ((aaf.mk (aaa.mk d) (aab.mk e f g h i j) l (a.take (w64 ((a.length:Int) - 1)).toNat) m),(aae.mk sA_0 sA_1 n sA_3 sA_4 sA_5 sA_6 sA_7 sA_8 sA_9 sA_10),b)))
 | (.mk p q r s t u v x y z A)::B,o,d,e,f,g,h,i,j,l,a,m,b=>(F.f134 (aaf.mk (aaa.mk d) (aab.mk e f g h i j) l a m) (aae.mk p q r s t u v x y z A)).bind fun q_=>match q_ with | .error c_=>some (.error c_) | .ok (.mk (.mk C) (.mk D G I J N O) S U V,.mk W X Y Z ab ac ad ae af ai aj)=>(aaC (decide ((b.length+1)*184≤140737488355328)) ((act k F sA_0 sA_1 sA_3 sA_4 sA_5 sA_6 sA_7 sA_8 sA_9 sA_10 n B) (o+1) C D G I J N O S U V (b++[(aae.mk W X Y Z ab ac ad ae af ai aj)])))
def adQ(k:Nat)(F:abF)(a:LS)(sA_0:Int)(sA_1 sA_3:BA)(sA_4 sA_5:Int)(sA_6:LE)(sA_7 sA_8 sA_9:LS)(sA_10:LC)(b:LF)(d:BA)(e:LP)(f:Int)(g:Bool)(h:Int)(i:LS)(j:LB)(l:LM)(m n:Int):ooG:=act k F sA_0 sA_1 sA_3 sA_4 sA_5 sA_6 sA_7 sA_8 sA_9 sA_10 n a 0 b d e f g h i j l m ([]:LS)
def adw(k:Nat)(F:abF):aaf→BA→LS→aae→ooG:=fun o a b p =>
 match o,a,b,p with
 | .mk (.mk e) (.mk f g h i j l) m d n,a,b,.mk sA_0 sA_1 sA_2 sA_3 sA_4 sA_5 sA_6 sA_7 sA_8 sA_9 sA_10=>aaC (decide ((d.length+1)*8≤140737488355328)) (cond (!seq a ⟨#[]⟩) ((f133 k (aaf.mk (aaa.mk e) (aab.mk f g h i j l) m (d++[([]:List (BA×Int))]) n) a).bind fun q_=>match q_ with | .error c_=>some (.error c_) | .ok (.mk (.mk q) (.mk r s t u v x) y z A,B)=>(adQ k F b sA_0 sA_1 sA_3 sA_4 sA_5 sA_6 sA_7 sA_8 sA_9 sA_10 q r s t u v x y z A B)) (adQ k F b sA_0 sA_1 sA_3 sA_4 sA_5 sA_6 sA_7 sA_8 sA_9 sA_10 e f g h i j l m (d++[([]:List (BA×Int))]) n sA_2))
def acr(k:Nat)(F:abF)  : LS→Nat→LF→BA→LP→Int→Bool→Int→LS→LB→LM→Int→LS→ooK
 | [],n,d,e,f,g,h,i,j,l,a,m,b=>aaC (decide (0≤(w64 ((a.length:Int) - 1))∧(w64 ((a.length:Int) - 1))≤(a.length:Int))) (some (.ok ((aaf.mk (aaa.mk d) (aab.mk e f g h i j) l (a.take (w64 ((a.length:Int) - 1)).toNat) m),b)))
 | (.mk o p q r s t u v x y z)::A,n,d,e,f,g,h,i,j,l,a,m,b=>(F.f134 (aaf.mk (aaa.mk d) (aab.mk e f g h i j) l a m) (aae.mk o p q r s t u v x y z)).bind fun q_=>match q_ with | .error c_=>some (.error c_) | .ok (.mk (.mk B) (.mk C D G I J N) O S U,.mk V W X Y Z ab ac ad ae af ai)=>(aaC (decide ((b.length+1)*184≤140737488355328)) ((acr k F A) (n+1) B C D G I J N O S U (b++[(aae.mk V W X Y Z ab ac ad ae af ai)])))
def adH(k:Nat)(F:abF):aaf→BA→LS→ooK:=fun o a b =>
 match o,a,b with
 | .mk (.mk e) (.mk f g h i j l) m d n,a,b=>aaC (decide ((d.length+1)*8≤140737488355328)) (cond (!seq a ⟨#[]⟩) ((f133 k (aaf.mk (aaa.mk e) (aab.mk f g h i j l) m (d++[([]:List (BA×Int))]) n) a).bind fun q_=>match q_ with | .error c_=>some (.error c_) | .ok (.mk (.mk p) (.mk q r s t u v) x y z,A)=>(none)) (acr k F b 0 e f g h i j l m (d++[([]:List (BA×Int))]) n ([]:LS)))
def ady(k:Nat)(F:abF):aaf→BA→LS→aae→ooG:=fun d a b e =>
 match d,a,b,e with
 | .mk (.mk f) (.mk g h i j l m) n o p,a,b,.mk sA_0 sA_1 sA_2 sA_3 sA_4 sA_5 sA_6 sA_7 sA_8 sA_9 sA_10=>(F.f1016220 (aaf.mk (aaa.mk f) (aab.mk g h i j l m) n o (w64 (p+1))) a b (aae.mk sA_0 sA_1 sA_2 sA_3 sA_4 sA_5 sA_6 sA_7 sA_8 sA_9 sA_10)).bind fun q_=>match q_ with | .error c_=>some (.error c_) | .ok (.mk (.mk q) (.mk r s t u v x) y z A,.mk B C D G I J N O S U V,W)=>(some (.ok ((aaf.mk (aaa.mk q) (aab.mk r s t u v x) y z (w64 (A - 1))),(aae.mk B C D G I J N O S U V),W)))
def adC(k:Nat)(F:abF):aaf→BA→LS→ooK:=fun d a b =>
 match d,a,b with
 | .mk (.mk e) (.mk f g h i j l) m n o,a,b=>(F.f1016266 (aaf.mk (aaa.mk e) (aab.mk f g h i j l) m n (w64 (o+1))) a b).bind fun q_=>match q_ with | .error c_=>some (.error c_) | .ok (.mk (.mk p) (.mk q r s t u v) x y z,A)=>(some (.ok ((aaf.mk (aaa.mk p) (aab.mk q r s t u v) x y (w64 (z - 1))),A)))
def aaD(k0:Nat):Nat→abF
 | 0=>{ f134:=fun _ _=>none,f1016212:=fun _ _ _ _=>none,f1016220:=fun _ _ _ _=>none,f1016266:=fun _ _ _=>none,f1016420:=fun _ _ _ _=>none,f1016466:=fun _ _ _=>none }
 | k+1=>{ f134:=alU k0 (aaD k0 k),f1016212:=adE k0 (aaD k0 k),f1016220:=adw k0 (aaD k0 k),f1016266:=adH k0 (aaD k0 k),f1016420:=ady k0 (aaD k0 k),f1016466:=adC k0 (aaD k0 k) }
def f134(k:Nat):aaf→aae→ooF:=(aaD k k).f134
def f1016212(k:Nat):aaf→BA→LS→aap→ooM:=(aaD k k).f1016212
def f1016220(k:Nat):aaf→BA→LS→aae→ooG:=(aaD k k).f1016220
def f1016266(k:Nat):aaf→BA→LS→ooK:=(aaD k k).f1016266
def f1016420(k:Nat):aaf→BA→LS→aae→ooG:=(aaD k k).f1016420
def f1016466(k:Nat):aaf→BA→LS→ooK:=(aaD k k).f1016466
def amr(k:Nat)(a:BA)(b:LP)(d:Int)(e:Bool)(f:Int)(g:LS)(h:LB):ooS:=some (.ok ((aab.mk a b d e f g),h))
def afS(k:Nat)(d:BA)(e:Int)(f:Bool)(g:LP):LS→Nat→LF→BA→LP→Int→Bool→Int→LS→LB→LM→Int→LS→ooS
 | [],h,i,j,l,m,n,o,p,a,q,r,b=>(f98 k (decide ((a.length:Int)≤32)) 5).bind fun q_=>match q_ with | .error c_=>some (.error c_) | .ok _=>(amr k d g e f (a.length:Int) b a)
 | (.mk s t u v x y z A B C D)::G,h,i,j,l,m,n,o,p,a,q,r,b=>(f134 k (aaf.mk (aaa.mk i) (aab.mk j l m n o p) a q r) (aae.mk s t u v x y z A B C D)).bind fun q_=>match q_ with | .error c_=>some (.error c_) | .ok (.mk (.mk I) (.mk J N O S U V) W X Y,.mk Z ab ac ad ae af ai aj ak al am)=>(aaC (decide ((b.length+1)*184≤140737488355328)) ((afS k d e f g G) (h+1) I J N O S U V W X Y (b++[(aae.mk Z ab ac ad ae af ai aj ak al am)])))
def acD(k:Nat)(m:BA)(n:LP)(o:Int)(p:Bool)(q:LS):LP→Nat→LF→BA→LP→Int→Bool→Int→LS→LB→LM→Int→ooS
 | [],r,a,b,d,e,f,g,h,i,j,l=>(f129 k n).bind fun s=>(afS k m o p s q 0 a b d e f g h i j l ([]:LS))
 | (.mk t J)::u,r,a,b,d,e,f,g,h,i,j,l=>(f133 k (aaf.mk (aaa.mk a) (aab.mk b d e f g h) i j l) t).bind fun q_=>match q_ with | .error c_=>some (.error c_) | .ok (.mk (.mk v) (.mk x y z A B C) D G I,N)=>((acD k m n o p q u) (r+1) v x y z A B C D G I)
def f104(k:Nat):aaa→aab→ooS:=fun g h =>
 match g,h with
 | .mk i,.mk b a d e j f=>acD k b a d e f a 0 i b a d e j f ([]:LB) [([]:List (BA×Int))] 0
def agw(k:Nat)(all:LF):LF→Nat→Option (Except Int Unit)
 | [],_=>some (.ok ())
 | f::rest,i=>(aez k (all.take i) f).bind fun b=>(f98 k (!b) 21).bind fun q=>match q with
  | .error c=>some (.error c)
  | .ok _=>agw k all rest (i+1)
def abH:LF→Int
 | []=>20
 | .mk nm ps _ fl _ _::rest=>cond (!(seq nm ⟨#[109,97,105,110]⟩)) (abH rest) (cond fl 25 (cond (decide ((ps.length:Int)>0)) 24 0))
def afH(k:Nat)(p:aaa):LF→List aab→List LB→Option (Except Int (aaa×List LB))
 | [],out,names=>some (.ok (.mk out,names))
 | f::rest,out,names=>(f104 k p f).bind fun q=>match q with
  | .error c=>some (.error c)
  | .ok (g,l)=>afH k p rest (out++[g]) (names++[l])
def f72(k:Nat):aaa→Option (Except Int (aaa×(List LB))):=fun a=>match a with
 | .mk fs=>(f99 k (.mk fs) false).bind fun ok=>(f98 k ok 2).bind fun q=>match q with
  | .error c=>some (.error c)
  | .ok _=>(agw k fs fs 0).bind fun q=>match q with
   | .error c=>some (.error c)
   | .ok _=>(f98 k (decide (abH fs=0)) (abH fs)).bind fun q=>match q with
    | .error c=>some (.error c)
    | .ok _=>afH k (.mk fs) fs [] []
def afu(k:Nat):aaa→aaa→ooR:=fun b d =>
 match b,d with
 | .mk a,.mk sA_0=>(f72 k (aaa.mk a)).bind fun q_=>match q_ with | .error c_=>some (.error c_) | .ok (.mk e,f)=>(some (.ok ((aaa.mk a),(aaa.mk e))))
def agW(k:Nat):aaa→aaa→ooV:=fun a b=>match afu k a b with
 | none=>none
 | some (.ok (y0,y1))=>some (y0,y1,0)
 | some (.error c)=>some (a,b,c)
def f47(k:Nat):aaa→ooI:=fun a =>
 match a with
 | .mk b=>(agW k (aaa.mk b) (aaa.mk [])).bind fun (.mk f,.mk d,e)=>(some ((aaa.mk d),e))
def f56(k:Nat):Option (List (Int×aaw)):=some (mput qI 19 (aaw.mk [1] 1) (mput qI 18 (aaw.mk [1] 1) (mput qI 17 (aaw.mk [1] 1) (mput qI 16 (aaw.mk [1] 1) (mput qI 6 (aaw.mk [1] 1) (mput qI 14 (aaw.mk [1,3] 2) (mput qI 13 (aaw.mk [1,3] 2) (mput qI 12 (aaw.mk [1,3] 2) (mput qI 11 (aaw.mk [1,3] 2) (mput qI 8 (aaw.mk [2] 2) (mput qI 7 (aaw.mk [2] 2) (mput qI 5 (aaw.mk [2] 2) ([]:List (Int×aaw))))))))))))))
def aln(k:Nat)(b:Int):List Int→Nat→ooC
 | [],a=>some (-1)
 | d::e,a=>cond (b==d) (some (a:Int)) ((aln k b e) (a+1))
def f83(k:Nat):(List Int)→Int→ooC:=fun a b=>aln k b a 0
def f57(k:Nat):(List Int)→Int→ooA:=fun a b=>(f83 k a b).bind fun d=>(some (decide (d≥0)))
structure akK where
 f33:aah→(List Int)→ooC
def anS(k:Nat)(F:akK)(a:Int)(b:Bool):ooC:=cond b (some (-1)) (some a)
def ana(k:Nat)(F:akK)(a:Int)(b:List Int)(d:Int):ooC:=(f57 k b a).bind fun e=>cond (!e) (some (-1)) (some d)
def anm(k:Nat)(F:akK)(b a:Int)(d:Bool):ooC:=cond d (some 2) (cond (b==15) (cond (a != 1) (anS k F a (a != 3)) (anS k F a false)) ((f56 k ).bind fun e=>(ael (mget qI b e) (ana k F a [] 0) (fun (.mk f g)=>(ana k F a f g)))))
def ai0(k:Nat)(F:akK)(a b:Int)(d:Bool):ooC:=cond d (some (-1)) (cond (a==9) (anm k F a b (a==9)) (anm k F a b (a==10)))
def ap6(k:Nat)(F:akK):aah→(List Int)→ooC:=fun f b =>
 match f,b with
 | .mk a u v g e,b=>cond (a==1) (some 1) (cond (a==2) (some 2) (cond (a==3) (some 3) (cond (a==4) ((idxO b g).bind fun h=>(some h)) ((idxO e 0).bind fun (.mk i j l m n)=>((F.f33 (aah.mk i j l m n) b).bind fun d=>(cond (d==(-1)) (ai0 k F a d true) (cond ((e.length:Int)==2) ((idxO e 1).bind fun (.mk o p q r s)=>((F.f33 (aah.mk o p q r s) b).bind fun t=>(ai0 k F a d (t != d)))) (ai0 k F a d false))))))))
def amU(k0:Nat):Nat→akK
 | 0=>{ f33:=fun _ _=>none }
 | k+1=>{ f33:=ap6 k0 (amU k0 k) }
def f33(k:Nat):aah→(List Int)→ooC:=(amU k k).f33
def ag4(k:Nat)(b d:(List Int)):LE→Nat→ooA
 | [],a=>some true
 | (.mk e f g h i)::j,a=>(idxO d (a:Int)).bind fun l=>((f33 k (aah.mk e f g h i) b).bind fun m=>(cond (m != l) (some false) ((ag4 k b d j) (a+1))))
def f105(k:Nat):aau→LE→(List Int)→ooA:=fun d a b =>
 match d,a,b with
 | .mk (.mk f) (.mk g h i j l m) e,a,b=>ag4 k e b a 0
def f106(k:Nat):Option (List (Int×(List Int))):=some (mput qI 26 [6] (mput qI 21 [2] (mput qI 20 [2] (mput qI 15 [3] (mput qI 22 [1] (mput qI 29 [1] (mput qI 25 [1] (mput qI 8 [1] (mput qI 7 [1] (mput qI 12 [1] (mput qI 10 [4,1] (mput qI 11 [4] (mput qI 6 [4] (mput qI 16 [5] (mput qI 5 [5] ([]:List (Int×(List Int))))))))))))))))))
structure adt where
 f48:aau→LS→ooE
 f73:aau→aae→ooE
def aih(k:Nat)(F:adt)  : LS→Nat→LF→BA→LP→Int→Bool→Int→LS→(List Int)→ooE
 | [],j,a,b,d,e,f,g,h,i=>some ((aau.mk (aaa.mk a) (aab.mk b d e f g h) i),true)
 | (.mk t u v x y z A B C D G)::I,j,a,b,d,e,f,g,h,i=>(F.f73 (aau.mk (aaa.mk a) (aab.mk b d e f g h) i) (aae.mk t u v x y z A B C D G)).bind fun (.mk (.mk l) (.mk m n o p q r) s,J)=>(cond (!J) (some ((aau.mk (aaa.mk l) (aab.mk m n o p q r) s),false)) ((aih k F I) (j+1) l m n o p q r s))
def avl(k:Nat)(F:adt):aau→LS→ooE:=fun b a =>
 match b,a with
 | .mk (.mk d) (.mk e f g h i j) l,a=>aih k F a 0 d e f g h i j l
def ak5(k:Nat)(F:adt)(a:Bool)(b:LF)(d:BA)(e:LP)(f:Int)(g:Bool)(h:Int)(i:LS)(j:List Int):ooE:=some ((aau.mk (aaa.mk b) (aab.mk d e f g h i) j),a)
def al5(k:Nat)(F:adt)(j:LF)(l:BA)(m:LP)(n:Int)(o:Bool)(p:Int)(q:LS)(r:Nat)(s:LS)(t:List Int)(nx1:Nat→LF→BA→LP→Int→Bool→Int→LS→(List Int)→ooE):ooE:=(F.f48 (aau.mk (aaa.mk j) (aab.mk l m n o p q) t) s).bind fun (.mk (.mk a) (.mk b d e f g h) i,u)=>cond (!u) (some ((aau.mk (aaa.mk a) (aab.mk b d e f g h) i),false)) (nx1 (r+1) a b d e f g h i)
def aiy(k:Nat)(F:adt)(b:LF)(d:BA)(e:LP)(f:Int)(g:Bool)(h:Int)(i:LS)(a:List Int)(j:Nat)(n:BA)(l:Int)(m:LS)(nx1:Nat→LF→BA→LP→Int→Bool→Int→LS→(List Int)→ooE):ooE:=cond (!seq n ⟨#[]⟩) ((idxO a l).bind fun o=>(al5 k F b d e f g h i j m (a.set l.toNat 1) nx1)) (al5 k F b d e f g h i j m a nx1)
def ac1(k:Nat)(F:adt)(j l m:LS):LC→Nat→LF→BA→LP→Int→Bool→Int→LS→(List Int)→ooE
 | [],n,a,b,d,e,f,g,h,i=>(F.f48 (aau.mk (aaa.mk a) (aab.mk b d e f g h) i) j).bind fun (.mk (.mk o) (.mk p q r s t u) v,U)=>(cond U ((F.f48 (aau.mk (aaa.mk o) (aab.mk p q r s t u) v) l).bind fun (.mk (.mk x) (.mk y z A B C D) G,V)=>(cond V ((F.f48 (aau.mk (aaa.mk x) (aab.mk y z A B C D) G) m).bind fun (.mk (.mk W) (.mk X Y Z ab ac ad) ae,af)=>(ak5 k F af W X Y Z ab ac ad ae)) (ak5 k F false x y z A B C D G))) (ak5 k F false o p q r s t u v))
 | (.mk ai I J N O)::S,n,a,b,d,e,f,g,h,i=>ael (mget qI ai (mput qI 3 [1] (mput qI 2 [4,1] (mput qI 1 [4] ([]:List (Int×(List Int))))))) ((f105 k (aau.mk (aaa.mk a) (aab.mk b d e f g h) i) N []).bind fun aj=>(cond (!aj) (some ((aau.mk (aaa.mk a) (aab.mk b d e f g h) i),false)) (aiy k F a b d e f g h i n I J O (ac1 k F j l m S)))) (fun ak=>((f105 k (aau.mk (aaa.mk a) (aab.mk b d e f g h) i) N ak).bind fun al=>(cond (!al) (some ((aau.mk (aaa.mk a) (aab.mk b d e f g h) i),false)) (aiy k F a b d e f g h i n I J O (ac1 k F j l m S)))))
def ane(k:Nat)(F:adt)(a:LF)(b:BA)(d:LP)(e:Int)(f:Bool)(g:Int)(h i j l:LS)(m:LC)(n:List Int):ooE:=ac1 k F i j l m 0 a b d e f g h n
def aiP(k:Nat)(F:adt)(b:LF)(d:BA)(e:LP)(f:Int)(g:Bool)(h:Int)(i:LS)(a:(List Int))(p:BA)(j:Int)(l m n:LS)(o:LC)(q:Int)(r:Bool):ooE:=cond r (some ((aau.mk (aaa.mk b) (aab.mk d e f g h i) a),false)) (cond (!seq p ⟨#[]⟩) ((idxO a j).bind fun s=>(ane k F b d e f g h i l m n o (a.set j.toNat q))) (ane k F b d e f g h i l m n o a))
def anw(k:Nat)(F:adt)(a:LF)(b:BA)(d:LP)(e:Int)(f:Bool)(g:Int)(h:LS)(i:(List Int))(j:BA)(l:Int)(r:LE)(m n o:LS)(p:LC)(q:Int)(s:List Int)(t:Bool):ooE:=cond t ((f105 k (aau.mk (aaa.mk a) (aab.mk b d e f g h) i) r s).bind fun u=>(aiP k F a b d e f g h i j l m n o p q (!u))) (aiP k F a b d e f g h i j l m n o p q false)
def aer(k:Nat)(F:adt)(a:LF)(b:BA)(d:LP)(e:Int)(f:Bool)(g:Int)(h:LS)(i:(List Int))(s:Int)(j:BA)(l:Int)(m:LE)(n o p:LS)(q:LC)(r:Int):ooE:=(f106 k ).bind fun t=>ael (mget qI s t) (anw k F a b d e f g h i j l m n o p q r [] false) (fun u=>(anw k F a b d e f g h i j l m n o p q r u true))
def ahR(k:Nat)(F:adt)(b:LF)(d:BA)(e:LP)(f:Int)(g:Bool)(h:Int)(i:LS)(j:(List Int))(a:Int)(l:BA)(m:Int)(n:LE)(o p q:LS)(r:LC)(s:Int):ooE:=cond (a==28) (aer k F b d e f g h i j a l m n o p q r 1) (aer k F b d e f g h i j a l m n o p q r s)
def akj(k:Nat)(F:adt)(a:LF)(b:BA)(d:LP)(e:Int)(f:Bool)(g:Int)(h:LS)(i:(List Int))(j:Int)(l:BA)(m:Int)(n:LE)(o p q:LS)(r:LC)(s:Bool):ooE:=cond s (some ((aau.mk (aaa.mk a) (aab.mk b d e f g h) i),false)) (ahR k F a b d e f g h i j l m n o p q r 5)
def ahZ(k:Nat)(F:adt)(a:LF)(b:BA)(d:LP)(e:Int)(f:Bool)(g:Int)(h:LS)(i:(List Int))(j:Int)(l:BA)(m:Int)(n:LE)(o p q:LS)(r:LC)(s:Int)(t:Bool):ooE:=cond t (some ((aau.mk (aaa.mk a) (aab.mk b d e f g h) i),false)) (cond (j==4) (cond (s != 1) (akj k F a b d e f g h i j l m n o p q r (s != 0)) (akj k F a b d e f g h i j l m n o p q r false)) (ahR k F a b d e f g h i j l m n o p q r s))
def aeS(k:Nat)(F:adt)(b:LF)(d:BA)(e:LP)(f:Int)(g:Bool)(h:Int)(i:LS)(j:(List Int))(a:Int)(l:BA)(n t:Int)(m:LE)(o p q:LS)(r:LC)(u:Bool):ooE:=cond u ((idxO b t).bind fun (.mk v x s y z A)=>((f42 k (aab.mk v x s y z A)).bind fun B=>((f105 k (aau.mk (aaa.mk b) (aab.mk d e f g h i) j) m B).bind fun C=>(cond (!C) (ahZ k F b d e f g h i j a l n m o p q r s true) (cond (a==3) (cond (!seq l ⟨#[]⟩) (ahZ k F b d e f g h i j a l n m o p q r s (s==0)) (ahZ k F b d e f g h i j a l n m o p q r s false)) (ahZ k F b d e f g h i j a l n m o p q r s false)))))) (cond (a==7) (aer k F b d e f g h i j a l n m o p q r 4) (cond (a==8) (aer k F b d e f g h i j a l n m o p q r 6) (cond (a==24) (aer k F b d e f g h i j a l n m o p q r 3) (aer k F b d e f g h i j a l n m o p q r 1))))
def aoD(k:Nat)(F:adt):aau→aae→ooE:=fun u v =>
 match u,v with
 | .mk (.mk e) (.mk f g d h i j) a,.mk b n m ab s ac l o p q r=>cond (b==1) ((idxO l 0).bind fun (.mk x y z A B)=>((f33 k (aah.mk x y z A B) a).bind fun t=>(cond (t==(-1)) (some ((aau.mk (aaa.mk e) (aab.mk f g d h i j) a),false)) (aer k F e f g d h i j a b n m l o p q r t)))) (cond (b==14) ((idxO l 0).bind fun (.mk C D G I J)=>((f33 k (aah.mk C D G I J) a).bind fun N=>(cond (N==(-1)) (some ((aau.mk (aaa.mk e) (aab.mk f g d h i j) a),false)) (aer k F e f g d h i j a b n m l o p q r 1)))) (cond (b==2) ((idxO l 0).bind fun (.mk O S U V W)=>((idxO a m).bind fun X=>((f33 k (aah.mk O S U V W) a).bind fun Y=>(some ((aau.mk (aaa.mk e) (aab.mk f g d h i j) a),(Y==X)))))) (cond (b==17) ((f105 k (aau.mk (aaa.mk e) (aab.mk f g d h i j) a) l [d]).bind fun Z=>(some ((aau.mk (aaa.mk e) (aab.mk f g d h i j) a),Z))) (cond (b==3) (aeS k F e f g d h i j a b n m s l o p q r (b==3)) (cond (b==4) (aeS k F e f g d h i j a b n m s l o p q r (b==4)) (aeS k F e f g d h i j a b n m s l o p q r (b==28)))))))
def afw(k0:Nat):Nat→adt
 | 0=>{ f48:=fun _ _=>none,f73:=fun _ _=>none }
 | k+1=>{ f48:=avl k0 (afw k0 k),f73:=aoD k0 (afw k0 k) }
def f48(k:Nat):aau→LS→ooE:=(afw k k).f48
def f73(k:Nat):aau→aae→ooE:=(afw k k).f73
def alP(k:Nat)(b:LF)(a:Int)(d:List (List Int)):ooH:=cond (a != 0) (some ((aaa.mk []),[],a)) (some ((aaa.mk b),d,0))
def akW(k:Nat)(d:LF)(a:List (List Int))(e:Nat)(b:Int)(f:List Int)(nx1:Nat→Int→(List (List Int))→ooH):ooH:=cond (b != 0) (alP k d b a) (aaC (decide ((a.length+1)*24≤140737488355328)) (nx1 (e+1) b (a++[f])))
def anf(k:Nat)(a:LF)(f:Int)(b:List (List Int))(d:Nat)(e:(List Int))(g:Bool)(nx1:Nat→Int→(List (List Int))→ooH):ooH:=cond g (akW k a b d 26 e nx1) (akW k a b d f e nx1)
def ap4(k:Nat)(a:LF)(f:Int)(b:List (List Int))(d:Nat)(h:Int)(g:LS)(i:LF)(j:BA)(l:LP)(m:Int)(n:Bool)(o:Int)(p:LS)(q:List Int)(nx1:Nat→Int→(List (List Int))→ooH):ooH:=(f48 k (aau.mk (aaa.mk i) (aab.mk j l m n o p) q) g).bind fun (.mk (.mk t) (.mk u v x y z A) e,r)=>cond (!r) (akW k a b d 23 e nx1) (cond (h != 0) ((f40 k g).bind fun s=>(anf k a f b d e (!s) nx1)) (anf k a f b d e false nx1))
def afj(k:Nat)(d:LF):LF→Nat→Int→(List (List Int))→ooH
 | [],i,e,f=>alP k d e f
 | (.mk j a g l b h)::n,i,e,f=>(f42 k (aab.mk j a g l b h)).bind fun m=>(aaC (decide (0≤(w64 (b - (a.length:Int)))∧((m.length:Int)+(w64 (b - (a.length:Int))))*((8:Nat):Int)≤140737488355328)) (ap4 k d e f i g h d j a g l b h (m++List.replicate (w64 (b - (a.length:Int))).toNat (0:Int)) (afj k d n)))
def f26(k:Nat):aaa→ooH:=fun e =>
 match e with
 | .mk f=>(f46 k (aaa.mk f)).bind fun (.mk g,b)=>(cond (b != 0) (some ((aaa.mk []),[],b)) ((f47 k (aaa.mk g)).bind fun (.mk d,a)=>(cond (a != 0) (some ((aaa.mk []),[],a)) (afj k d d 0 a ([]:List (List Int))))))
def alA(k:Nat)(b:Int)(d:(List (List Int)))(a:Int):ooP:=cond (a != 0) (some ([],a)) ((idxO d b).bind fun e=>(some (e,0)))
def aig(k:Nat)(a:Int)(b:(List (List Int)))(d:Int)(e:Bool):ooP:=cond e (alA k a b 2) (alA k a b d)
def f17(k:Nat):aaa→Int→ooP:=fun e a =>
 match e,a with
 | .mk f,a=>(f26 k (aaa.mk f)).bind fun (.mk g,b,d)=>(cond (d==0) (cond (decide (a<0)) (aig k a b d true) (aig k a b d (decide (a≥(b.length:Int))))) (aig k a b d false))
def alf(k:Nat)(b:Int)(d:LF)(a:Int):ooh:=cond (a != 0) (some (false,a)) ((idxO d b).bind fun (.mk g h i j l e)=>((f40 k e).bind fun f=>(some (f,0))))
def aiE(k:Nat)(a:Int)(b:LF)(d:Int)(e:Bool):ooh:=cond e (alf k a b 2) (alf k a b d)
def f18(k:Nat):aaa→Int→ooh:=fun e a =>
 match e,a with
 | .mk f,a=>(f26 k (aaa.mk f)).bind fun (.mk b,g,d)=>(cond (d==0) (cond (decide (a<0)) (aiE k a b d true) (aiE k a b d (decide (a≥(b.length:Int))))) (aiE k a b d false))
def alE(k:Nat)(b:(List Int)):List Int→Nat→ooA
 | [],a=>some true
 | d::e,a=>(idxO b (a:Int)).bind fun f=>(cond (d != f) (some false) ((alE k b e) (a+1)))
def f19(k:Nat):(List Int)→(List Int)→ooA:=fun a b=>cond ((a.length:Int) != (b.length:Int)) (some false) (alE k b a 0)
def f20(k:Nat):aaa→Int→oog:=fun d a =>
 match d,a with
 | .mk b,a=>(idxO b a).bind fun (.mk e f g h i j)=>((f27 k b (aab.mk e f g h i j)).bind fun (l,m)=>(some l))
structure aoV where
 f45:LE→Int→ooC
def arz(k:Nat)(F:aoV)(a:Int):ooC:=some a
def alx(k:Nat)(F:aoV)(b:Int):LE→Nat→Int→ooC
 | [],d,a=>arz k F a
 | (.mk h i j l e)::f,d,a=>cond (decide (a≤2000)) ((F.f45 e (w64 (b+1))).bind fun g=>((alx k F b f) (d+1) (w64 ((w64 (a+1))+g)))) (arz k F a)
def aqv(k:Nat)(F:aoV):LE→Int→ooC:=fun b a=>cond (decide (a>60)) (some 4000) (alx k F a b 0 0)
def akS(k0:Nat):Nat→aoV
 | 0=>{ f45:=fun _ _=>none }
 | k+1=>{ f45:=aqv k0 (akS k0 k) }
def f45(k:Nat):LE→Int→ooC:=(akS k k).f45
structure amo where
 f24:LS→Int→ooC
def aq8(k:Nat)(F:amo)(a:Int):ooC:=some a
def apJ(k:Nat)(F:amo)(a:Nat)(b:Int)(nx1:Nat→Int→ooC):ooC:=nx1 (a+1) b
def akM(k:Nat)(F:amo)(b:Int)(d:Nat)(nx1:Nat→Int→ooC):LC→Nat→Int→ooC
 | [],e,a=>apJ k F d a nx1
 | (.mk l m n f g)::h,e,a=>cond (decide (a≤2000)) ((f45 k f (w64 (b+1))).bind fun i=>((F.f24 g (w64 (b+1))).bind fun j=>((akM k F b d nx1 h) (e+1) (w64 ((w64 ((w64 (a+1))+i))+j))))) (apJ k F d a nx1)
def ahA(k:Nat)(F:amo)(a:Int):LS→Nat→Int→ooC
 | [],d,b=>aq8 k F b
 | (.mk p q r s t u e f g h i)::j,d,b=>cond (decide (b≤2000)) ((f45 k e (w64 (a+1))).bind fun l=>((F.f24 f (w64 (a+1))).bind fun m=>((F.f24 g (w64 (a+1))).bind fun n=>((F.f24 h (w64 (a+1))).bind fun o=>(akM k F a d (ahA k F a j) i 0 (w64 ((w64 ((w64 ((w64 ((w64 (b+1))+l))+m))+n))+o))))))) (aq8 k F b)
def ao0(k:Nat)(F:amo):LS→Int→ooC:=fun b a=>cond (decide (a>40)) (some 4000) (ahA k F a b 0 0)
def ajw(k0:Nat):Nat→amo
 | 0=>{ f24:=fun _ _=>none }
 | k+1=>{ f24:=ao0 k0 (ajw k0 k) }
def f24(k:Nat):LS→Int→ooC:=(ajw k k).f24
def auK(k:Nat)(a:Int):ooA:=some (decide (a≤2000))
def avb(k:Nat)  : LF→Nat→Int→ooA
 | [],b,a=>auK k a
 | (.mk g h i j l d)::e,b,a=>cond (decide (a≤2000)) ((f24 k d 0).bind fun f=>((avb k e) (b+1) (w64 ((w64 (a+1))+f)))) (auK k a)
def f8(k:Nat):aaa→ooA:=fun a =>
 match a with
 | .mk b=>avb k b 0 0
def f10(k:Nat):aaa→ooI:=fun a =>
 match a with
 | .mk b=>(f26 k (aaa.mk b)).bind fun (.mk d,f,e)=>(some ((aaa.mk d),e))
def apm(k:Nat)(a:Bool):ooA:=some a
def f30(k:Nat):Int→ooA:=fun a=>cond (decide (a<0)) (apm k true) (apm k (decide (a>6)))
def ae7(k:Nat)  : List Int→Nat→ooC
 | [],a=>some (-1)
 | b::d,a=>(f30 k b).bind fun e=>(cond e (some (a:Int)) ((ae7 k d) (a+1)))
def aji(k:Nat):(List Int)→ooC:=fun a=>ae7 k a 0
def ajI(k:Nat):(List Int)→ooA:=fun a=>(aji k a).bind fun b=>(some (decide (b≥0)))
def f31(k:Nat):aah→Bool→ooA:=fun b a =>
 match b,a with
 | .mk d e f g h,a=>(f53 k (aaj.mk 0 0 a) (aah.mk d e f g h) 1).bind fun (.mk j l m,i)=>(some i)
structure afb where
 f32:aah→Int→ooA
 f1005440:LE→Int→ooA
 f1005532:aah→Int→ooA
 f1008147:LE→Unit→Int→ooA
 f1008221:aah→Unit→Int→ooA
 f1011347:LE→Unit→Int→ooC
def alq(k:Nat)(F:afb)(a:Bool):ooA:=some a
def auw(k:Nat)(F:afb):aah→Int→ooA:=fun e a =>
 match e,a with
 | .mk f i j b d,a=>cond (f != 4) ((F.f1005440 d a).bind fun g=>(alq k F g)) (cond (decide (b≥0)) (cond (decide (b<a)) ((F.f1005440 d a).bind fun h=>(alq k F h)) (alq k F false)) (alq k F false))
def af2(k:Nat)(F:afb):LE→Int→ooA:=fun a s=>(F.f1008147 a () s).bind fun b=>(some (!b))
def af8(k:Nat)(F:afb):aah→Int→ooA:=fun a b =>
 match a,b with
 | .mk d e f g h,s=>(F.f32 (aah.mk d e f g h) s).bind fun i=>(some i)
def agr(k:Nat)(F:afb):LE→Unit→Int→ooA:=fun a _ sA=>(F.f1011347 a () sA).bind fun b=>(some (decide (b≥0)))
def afR(k:Nat)(F:afb):aah→Unit→Int→ooA:=fun a b d =>
 match a,b,d with
 | .mk e f g h i,_,sA=>(F.f1005532 (aah.mk e f g h i) sA).bind fun j=>(some (!j))
def ae1(k:Nat)(F:afb)(sA:Int):LE→Nat→ooC
 | [],a=>some (-1)
 | (.mk b d e f g)::h,a=>(F.f1008221 (aah.mk b d e f g) () sA).bind fun i=>(cond i (some (a:Int)) ((ae1 k F sA h) (a+1)))
def aga(k:Nat)(F:afb):LE→Unit→Int→ooC:=fun a _ sA=>ae1 k F sA a 0
def acb(k0:Nat):Nat→afb
 | 0=>{ f32:=fun _ _=>none,f1005440:=fun _ _=>none,f1005532:=fun _ _=>none,f1008147:=fun _ _ _=>none,f1008221:=fun _ _ _=>none,f1011347:=fun _ _ _=>none }
 | k+1=>{ f32:=auw k0 (acb k0 k),f1005440:=af2 k0 (acb k0 k),f1005532:=af8 k0 (acb k0 k),f1008147:=agr k0 (acb k0 k),f1008221:=afR k0 (acb k0 k),f1011347:=aga k0 (acb k0 k) }
def f32(k:Nat):aah→Int→ooA:=(acb k k).f32
def f1005440(k:Nat):LE→Int→ooA:=(acb k k).f1005440
def f1005532(k:Nat):aah→Int→ooA:=(acb k k).f1005532
def f1008147(k:Nat):LE→Unit→Int→ooA:=(acb k k).f1008147
def f1008221(k:Nat):aah→Unit→Int→ooA:=(acb k k).f1008221
def f1011347(k:Nat):LE→Unit→Int→ooC:=(acb k k).f1011347
def anq(k:Nat)(b d:Int)(e:BA)(f:Int)(g:LE)(h:(List Int))(i:Bool):Option (Int×Int):=cond i (some (0,2)) ((f33 k (aah.mk b d e f g) h).bind fun a=>(cond (a==(-1)) (some (0,23)) (some (a,0))))
def f13(k:Nat):aah→(List Int)→Option (Int×Int):=fun h a =>
 match h,a with
 | .mk b d e f g,a=>(ajI k a).bind fun i=>((f31 k (aah.mk b d e f g) true).bind fun j=>(cond (!j) (anq k b d e f g a true) ((f32 k (aah.mk b d e f g) (a.length:Int)).bind fun l=>(cond (!l) (anq k b d e f g a true) (anq k b d e f g a i)))))
def f25(k:Nat):LS→ooQ:=fun a=>some (aaa.mk [(aab.mk ⟨#[109,97,105,110]⟩ [] 0 false 0 []),(aab.mk ⟨#[102]⟩ [] 1 false 0 [(aae.mk 21 ⟨#[]⟩ 0 ⟨#[]⟩ 0 0 [(aah.mk 2 1 ⟨#[]⟩ 0 [])] a [] [] [])])])
def aoB(k:Nat)(a:Bool):ooA:=some a
def f9(k:Nat):ooA:=(f25 k []).bind fun (.mk a)=>(f10 k (aaa.mk a)).bind fun (.mk h,b)=>((f25 k [(aae.mk 18 ⟨#[]⟩ 0 ⟨#[]⟩ 0 0 [] [] [] [] [])]).bind fun (.mk d)=>((f10 k (aaa.mk d)).bind fun (.mk i,e)=>((f13 k (aah.mk 11 0 ⟨#[]⟩ 0 [(aah.mk 1 0 ⟨#[]⟩ 0 []),(aah.mk 4 0 ⟨#[120]⟩ 1 [])]) [3,1]).bind fun (f,g)=>(cond (b==0) (cond (e==26) (cond (g==0) (cond (f==2) (aoB k true) (aoB k false)) (aoB k false)) (aoB k false)) (aoB k false)))))
def alK(k:Nat)(a:Bool):ooA:=some a
def amx(k:Nat)(a:Bool):ooA:=some a
def aoh(k:Nat)(b:Int)(d:(List Int))(e:Int)(f:Bool)(g:Int)(h:LF)(a:Int):ooA:=cond (a != 0) (cond ((d.length:Int)==0) (cond (e==a) (cond (!f) (cond (g==a) ((f9 k ).bind fun i=>(alK k i)) (alK k false)) (alK k false)) (alK k false)) (alK k false)) ((f20 k (aaa.mk h) b).bind fun j=>((f19 k d j).bind fun l=>(cond l (cond (e==0) ((idxO h b).bind fun (.mk p q r s t m)=>((f21 k m).bind fun n=>(cond (f==n) (cond (g==0) ((f9 k ).bind fun o=>(amx k o)) (amx k false)) (amx k false)))) (amx k false)) (amx k false))))
def akX(k:Nat)(a:Int)(b:(List Int))(d:Int)(e:Bool)(f:Int)(g:LF)(h:Int)(i:Bool):ooA:=cond i (aoh k a b d e f g 2) (aoh k a b d e f g h)
def f6(k:Nat):aaa→Int→ooA:=fun j a =>
 match j,a with
 | .mk b,a=>(f8 k (aaa.mk b)).bind fun l=>(cond (!l) ((f9 k ).bind fun m=>(some m)) ((f17 k (aaa.mk b) a).bind fun (e,f)=>((f18 k (aaa.mk b) a).bind fun (g,h)=>((f11 k (aaa.mk b)).bind fun (.mk i,d)=>(cond (d==0) (cond (decide (a<0)) (akX k a e f g h i d true) (akX k a e f g h i d (decide (a≥(b.length:Int))))) (akX k a e f g h i d false))))))
def aes(X:LE→ooW):Prop:=∀{K w a d e b},X a=some b→GK K→tE K d e a→ SR K K w w [] []→Calls Tryz.prog 121 #[sl d a e] w (Ret (fun x v=>∃z y q,x=sl y b q∧SR K z w v [] []∧tE z y q b))
def afr(X:LS→ooO):Prop:=∀{K w a d e b},X a=some b→GK K→tS K d e a→ SR K K w w [] []→Calls Tryz.prog 89 #[sl d a e] w (Ret (fun x v=>∃z y q,x=sl y b q∧SR K z w v [] []∧tS z y q b))
def ato(X:aaa→ooQ):Prop:=∀{K w b d a},X b=some (aaa.mk a)→GK K→aad K b d→ SR K K w w [] []→Calls Tryz.prog 62 #[.agg d.toArray] w (Ret (fun v u=>∃x y q z,v=.agg #[sl y a q]∧SR K x w u [] [eW (zz w) y a q 52 6 z]∧Reps (aak x) 6 a z∧a.length*88≤mB))
def afK(X:LE→ooW):Prop:=∀{K w a d e b},X a=some b→GK K→tE K d e a→ SR K K w w [] []→Calls Tryz.prog 90 #[sl d a e] w (Ret (fun x v=>∃z y q,x=sl y b q∧SR K z w v [] []∧tE z y q b))
def afx(X:LS→ooO):Prop:=∀{K w a d e b},X a=some b→GK K→tS K d e a→ SR K K w w [] []→Calls Tryz.prog 63 #[sl d a e] w (Ret (fun x v=>∃z y q,x=sl y b q∧SR K z w v [] []∧tS z y q b))
def as6(X:aaa→ooQ):Prop:=∀{K w a b d},X a=some d→GK K→aad K a b→ SR K K w w [] []→Calls Tryz.prog 39 #[.agg b.toArray] w (Ret (fun x z=>∃y q,x=.agg q.toArray∧SR K y w z [] []∧aad y d q))
def aq6(X:aan→Int→ooD):Prop:=∀{K w g bs a b d e f h i},X (aan.mk a b d) e=some (aan.mk f h i)→GK K→ (fun E:Ents=>SR K K w w E E→Calls Tryz.prog 114 #[.pointer (some ⟨g,0,none⟩),iI e] w (Ret (fun z q=>∃y,z=.tuple #[]∧SR K y w q E [.box bs g #[iI f,iI h,.bool i] 104]))) [.box bs g #[iI a,iI b,.bool d] 104]
def aoR(X:aan→Bool→ooD):Prop:=∀{K w g bs a b d e f h i},X (aan.mk a b d) e=some (aan.mk f h i)→GK K→ (fun E:Ents=>SR K K w w E E→Calls Tryz.prog 115 #[.pointer (some ⟨g,0,none⟩),.bool e] w (Ret (fun z q=>∃y,z=.tuple #[]∧SR K y w q E [.box bs g #[iI f,iI h,.bool i] 104]))) [.box bs g #[iI a,iI b,.bool d] 104]
def arB(X:Int→ooA):Prop:=∀{K w a b},X a=some b→GK K→ SR K K w w [] []→Calls Tryz.prog 139 #[.int .u8 a] w (Ret (fun z q=>∃y,z=.bool b∧SR K y w q [] []))
def apb(X:Int→ooA):Prop:=∀{K w a b},X a=some b→GK K→ SR K K w w [] []→Calls Tryz.prog 140 #[.int .u8 a] w (Ret (fun z q=>∃y,z=.bool b∧SR K y w q [] []))
def ard(X:Option LB):Prop:=∀{K w a},X =some a→GK K→ SR K K w w [] []→Calls Tryz.prog 167 #[] w (Ret (fun x v=>∃z y q,x=sl y a q∧SR K z w v [] []∧RSl BA RStr 1 16 z y q a))
def apo(X:BA→ooA):Prop:=∀{K w a b},X a=some b→GK K→a.size≤mB→ SR K K w w [] []→Calls Tryz.prog 141 #[.string a] w (Ret (fun z q=>∃y,z=.bool b∧SR K y w q [] []))
def arO(X:BA→ooA):Prop:=∀{K w a b},X a=some b→GK K→a.size≤mB→ SR K K w w [] []→Calls Tryz.prog 117 #[.string a] w (Ret (fun z q=>∃y,z=.bool b∧SR K y w q [] []))
def aq3(X:Int→ooT):Prop:=∀{K w a b d},X a=some (b,d)→GK K→ SR K K w w [] []→Calls Tryz.prog 168 #[iI a] w (Ret (fun x z=>∃y q,x=.tuple #[.agg q.toArray,.bool d]∧SR K y w z [] []∧ace y b q))
def aqe(X:BA→ooA):Prop:=∀{K w a b},X a=some b→GK K→a.size≤mB→ SR K K w w [] []→Calls Tryz.prog 116 #[.string a] w (Ret (fun z q=>∃y,z=.bool b∧SR K y w q [] []))
def afF(X:aan→aah→Int→Bool→ooD):Prop:=∀{K w g bs a b d e f h i j k l},X (aan.mk a b d) e h i=some (aan.mk j k l)→GK K→aai K e f→ (fun E:Ents=>SR K K w w E E→Calls Tryz.prog 84 #[.pointer (some ⟨g,0,none⟩),.agg f.toArray,iI h,.bool i] w (Ret (fun z q=>∃y,z=.tuple #[]∧SR K y w q E [.box bs g #[iI j,iI k,.bool l] 104]))) [.box bs g #[iI a,iI b,.bool d] 104]
def acX(X:aan→LS→Int→ooD):Prop:=∀{K w g bs a b d e f h i j k l},X (aan.mk a b d) e i=some (aan.mk j k l)→GK K→tS K f h e→ (fun E:Ents=>SR K K w w E E→Calls Tryz.prog 118 #[.pointer (some ⟨g,0,none⟩),sl f e h,iI i] w (Ret (fun z q=>∃y,z=.tuple #[]∧SR K y w q E [.box bs g #[iI j,iI k,.bool l] 104]))) [.box bs g #[iI a,iI b,.bool d] 104]
def acV(X:aan→aae→Int→ooD):Prop:=∀{K w g bs a b d e f h i j k},X (aan.mk a b d) e h=some (aan.mk i j k)→GK K→aag K e f→ (fun E:Ents=>SR K K w w E E→Calls Tryz.prog 142 #[.pointer (some ⟨g,0,none⟩),.agg f.toArray,iI h] w (Ret (fun z q=>∃y,z=.tuple #[]∧SR K y w q E [.box bs g #[iI i,iI j,.bool k] 104]))) [.box bs g #[iI a,iI b,.bool d] 104]
def acW(X:aan→aap→Int→ooD):Prop:=∀{K w g bs a b d e f h i j k},X (aan.mk a b d) e h=some (aan.mk i j k)→GK K→aar K e f→ (fun E:Ents=>SR K K w w E E→Calls Tryz.prog 169 #[.pointer (some ⟨g,0,none⟩),.agg f.toArray,iI h] w (Ret (fun z q=>∃y,z=.tuple #[]∧SR K y w q E [.box bs g #[iI i,iI j,.bool k] 104]))) [.box bs g #[iI a,iI b,.bool d] 104]
def as0(X:aaa→ooD):Prop:=∀{K w a b d},X a=some d→GK K→aad K a b→ SR K K w w [] []→Calls Tryz.prog 85 #[.agg b.toArray] w (Ret (fun x z=>∃y q,x=.agg q.toArray∧SR K y w z [] []∧adm y d q))
def asm(X:aaa→ooA):Prop:=∀{K w a b d},X a=some d→GK K→aad K a b→ SR K K w w [] []→Calls Tryz.prog 59 #[.agg b.toArray] w (Ret (fun z q=>∃y,z=.bool d∧SR K y w q [] []))
def as1(X:aaa→ooA):Prop:=∀{K w a b d},X a=some d→GK K→aad K a b→ SR K K w w [] []→Calls Tryz.prog 37 #[.agg b.toArray] w (Ret (fun z q=>∃y,z=.bool d∧SR K y w q [] []))
def arZ(X:LF→BA→ooC):Prop:=∀{K w a d e b f},X a b=some f→GK K→tF K d e a→b.size≤mB→ SR K K w w [] []→Calls Tryz.prog 60 #[sl d a e,.string b] w (Ret (fun z q=>∃y,z=iI f∧SR K y w q [] []))
def apC(X:aaq→BA→ooX):Prop:=∀{K w g bs br k o p l m q r s t u n v x a d e y b f h z A B C D G I N O S J i j U V W},X (aaq.mk k (aab.mk l m s t u n) a b A B) C=some ((aaq.mk D (aab.mk G I N O S J) i j U V),W)→GK K→tF K o p k→l.size≤mB→tP K q r m→tS K v x n→Reps RStr 1 a y→a.length*16≤mB→Reps (RInt .i64) 1 b z→b.length*8≤mB→br≤(zz w)→C.size≤mB→ (fun E:Ents=>SR K K w w E E→Calls Tryz.prog 119 #[.pointer (some ⟨g,0,none⟩),.string C] w (Ret (fun v_ w_=>∃K_ y0 L T Q Z Y v0 x0 z0 q0 H F,v_=iI W∧SR K K_ w w_ E [.box bs g #[sl y0 D L,.string G,sl T I Q,iI N,.bool O,iI S,sl Z J Y,sl v0 i x0,sl q0 j H,iI U,iI V] 109,eW br v0 i x0 9 1 z0,eW br q0 j H 3 1 F]∧tF K_ y0 L D∧G.size≤mB∧tP K_ T Q I∧tS K_ Z Y J∧Reps RStr 1 i z0∧i.length*16≤mB∧Reps (RInt .i64) 1 j F∧j.length*8≤mB))) [.box bs g #[sl o k p,.string l,sl q m r,iI s,.bool t,iI u,sl v n x,sl d a e,sl f b h,iI A,iI B] 109,eW br d a e 9 1 y,eW br f b h 3 1 z]
def asN(X:aaq→Bool→Int→Option aaq):Prop:=∀{K w g bs br k o p l m q r s t u n v x a d e y b f h z A B J N C D G O S U I i j V W},X (aaq.mk k (aab.mk l m s t u n) a b A B) J N=some (aaq.mk C (aab.mk D G O S U I) i j V W)→GK K→tF K o p k→l.size≤mB→tP K q r m→tS K v x n→Reps RStr 1 a y→a.length*16≤mB→Reps (RInt .i64) 1 b z→b.length*8≤mB→br≤(zz w)→ (fun E:Ents=>SR K K w w E E→Calls Tryz.prog 88 #[.pointer (some ⟨g,0,none⟩),.bool J,iI N] w (Ret (fun v_ w_=>∃K_ y0 L T Q Z Y v0 x0 z0 q0 H F,v_=.tuple #[]∧SR K K_ w w_ E [.box bs g #[sl y0 C L,.string D,sl T G Q,iI O,.bool S,iI U,sl Z I Y,sl v0 i x0,sl q0 j H,iI V,iI W] 109,eW br v0 i x0 9 1 z0,eW br q0 j H 3 1 F]∧tF K_ y0 L C∧D.size≤mB∧tP K_ T Q G∧tS K_ Z Y I∧Reps RStr 1 i z0∧i.length*16≤mB∧Reps (RInt .i64) 1 j F∧j.length*8≤mB))) [.box bs g #[sl o k p,.string l,sl q m r,iI s,.bool t,iI u,sl v n x,sl d a e,sl f b h,iI A,iI B] 109,eW br d a e 9 1 y,eW br f b h 3 1 z]
def atl(X:aaq→BA→ooX):Prop:=∀{K w g bs br k o p l m q r s t u n v x a d e y b f h z A B C D G I N O S J i j U V W},X (aaq.mk k (aab.mk l m s t u n) a b A B) C=some ((aaq.mk D (aab.mk G I N O S J) i j U V),W)→GK K→tF K o p k→l.size≤mB→tP K q r m→tS K v x n→Reps RStr 1 a y→a.length*16≤mB→Reps (RInt .i64) 1 b z→b.length*8≤mB→br≤(zz w)→C.size≤mB→ (fun E:Ents=>SR K K w w E E→Calls Tryz.prog 86 #[.pointer (some ⟨g,0,none⟩),.string C] w (Ret (fun v_ w_=>∃K_ y0 L T Q Z Y v0 x0 z0 q0 H F,v_=iI W∧SR K K_ w w_ E [.box bs g #[sl y0 D L,.string G,sl T I Q,iI N,.bool O,iI S,sl Z J Y,sl v0 i x0,sl q0 j H,iI U,iI V] 109,eW br v0 i x0 9 1 z0,eW br q0 j H 3 1 F]∧tF K_ y0 L D∧G.size≤mB∧tP K_ T Q I∧tS K_ Z Y J∧Reps RStr 1 i z0∧i.length*16≤mB∧Reps (RInt .i64) 1 j F∧j.length*8≤mB))) [.box bs g #[sl o k p,.string l,sl q m r,iI s,.bool t,iI u,sl v n x,sl d a e,sl f b h,iI A,iI B] 109,eW br d a e 9 1 y,eW br f b h 3 1 z]
def adI(X:aaq→LE→oob):Prop:=∀{K w g bs br k o p l m q r s t u n v x a d e y b f h z A B C O S D G I U V W J i j Y Z N},X (aaq.mk k (aab.mk l m s t u n) a b A B) C=some ((aaq.mk D (aab.mk G I U V W J) i j Y Z),N)→GK K→tF K o p k→l.size≤mB→tP K q r m→tS K v x n→Reps RStr 1 a y→a.length*16≤mB→Reps (RInt .i64) 1 b z→b.length*8≤mB→br≤(zz w)→tE K O S C→ (fun E:Ents=>SR K K w w E E→Calls Tryz.prog 143 #[.pointer (some ⟨g,0,none⟩),sl O C S] w (Ret (fun v_ w_=>∃K_ x0 F H Q L T s0 u0 v0 z0 q0 y0 m0 p0,v_=sl m0 N p0∧SR K K_ w w_ E [.box bs g #[sl x0 D F,.string G,sl H I Q,iI U,.bool V,iI W,sl L J T,sl s0 i u0,sl z0 j q0,iI Y,iI Z] 109,eW br s0 i u0 9 1 v0,eW br z0 j q0 3 1 y0]∧tF K_ x0 F D∧G.size≤mB∧tP K_ H Q I∧tS K_ L T J∧Reps RStr 1 i v0∧i.length*16≤mB∧Reps (RInt .i64) 1 j y0∧j.length*8≤mB∧tE K_ m0 p0 N))) [.box bs g #[sl o k p,.string l,sl q m r,iI s,.bool t,iI u,sl v n x,sl d a e,sl f b h,iI A,iI B] 109,eW br d a e 9 1 y,eW br f b h 3 1 z]
def adx(X:aaq→aah→ooY):Prop:=∀{K w g bs br k o p l m q r s t u n v x a d e y b f h z A B J N C D G O S U I i j V W Y},X (aaq.mk k (aab.mk l m s t u n) a b A B) J=some ((aaq.mk C (aab.mk D G O S U I) i j V W),Y)→GK K→tF K o p k→l.size≤mB→tP K q r m→tS K v x n→Reps RStr 1 a y→a.length*16≤mB→Reps (RInt .i64) 1 b z→b.length*8≤mB→br≤(zz w)→aai K J N→ (fun E:Ents=>SR K K w w E E→Calls Tryz.prog 170 #[.pointer (some ⟨g,0,none⟩),.agg N.toArray] w (Ret (fun v_ w_=>∃K_ z0 H L Q T Z s0 v0 x0 y0 F q0 t0,v_=.agg t0.toArray∧SR K K_ w w_ E [.box bs g #[sl z0 C H,.string D,sl L G Q,iI O,.bool S,iI U,sl T I Z,sl s0 i v0,sl y0 j F,iI V,iI W] 109,eW br s0 i v0 9 1 x0,eW br y0 j F 3 1 q0]∧tF K_ z0 H C∧D.size≤mB∧tP K_ L Q G∧tS K_ T Z I∧Reps RStr 1 i x0∧i.length*16≤mB∧Reps (RInt .i64) 1 j q0∧j.length*8≤mB∧aai K_ Y t0))) [.box bs g #[sl o k p,.string l,sl q m r,iI s,.bool t,iI u,sl v n x,sl d a e,sl f b h,iI A,iI B] 109,eW br d a e 9 1 y,eW br f b h 3 1 z]
def aoK(X:aaq→aae→ooX):Prop:=∀{K w g bs br k o p l m q r s t u n v x a d e y b f h z A B J N C D G O S U I i j V W Y},X (aaq.mk k (aab.mk l m s t u n) a b A B) J=some ((aaq.mk C (aab.mk D G O S U I) i j V W),Y)→GK K→tF K o p k→l.size≤mB→tP K q r m→tS K v x n→Reps RStr 1 a y→a.length*16≤mB→Reps (RInt .i64) 1 b z→b.length*8≤mB→br≤(zz w)→aag K J N→ (fun E:Ents=>SR K K w w E E→Calls Tryz.prog 144 #[.pointer (some ⟨g,0,none⟩),.agg N.toArray] w (Ret (fun v_ w_=>∃K_ z0 H L Q T Z u0 v0 x0 y0 F q0,v_=iI Y∧SR K K_ w w_ E [.box bs g #[sl z0 C H,.string D,sl L G Q,iI O,.bool S,iI U,sl T I Z,sl u0 i v0,sl y0 j F,iI V,iI W] 109,eW br u0 i v0 9 1 x0,eW br y0 j F 3 1 q0]∧tF K_ z0 H C∧D.size≤mB∧tP K_ L Q G∧tS K_ T Z I∧Reps RStr 1 i x0∧i.length*16≤mB∧Reps (RInt .i64) 1 j q0∧j.length*8≤mB))) [.box bs g #[sl o k p,.string l,sl q m r,iI s,.bool t,iI u,sl v n x,sl d a e,sl f b h,iI A,iI B] 109,eW br d a e 9 1 y,eW br f b h 3 1 z]
def ao5(X:Int→ooA):Prop:=∀{K w a b},X a=some b→GK K→ SR K K w w [] []→Calls Tryz.prog 145 #[iI a] w (Ret (fun z q=>∃y,z=.bool b∧SR K y w q [] []))
def adl(X:aaq→LS→Int→ooc):Prop:=∀{K w g bs br k o p l m q r s t u n v x a d e y b f h z A B C O S U D G I V W Y J i j Z ab N},X (aaq.mk k (aab.mk l m s t u n) a b A B) C U=some ((aaq.mk D (aab.mk G I V W Y J) i j Z ab),N)→GK K→tF K o p k→l.size≤mB→tP K q r m→tS K v x n→Reps RStr 1 a y→a.length*16≤mB→Reps (RInt .i64) 1 b z→b.length*8≤mB→br≤(zz w)→tS K O S C→ (fun E:Ents=>SR K K w w E E→Calls Tryz.prog 87 #[.pointer (some ⟨g,0,none⟩),sl O C S,iI U] w (Ret (fun v_ w_=>∃K_ x0 F H Q L T s0 u0 v0 z0 q0 y0 m0 p0,v_=sl m0 N p0∧SR K K_ w w_ E [.box bs g #[sl x0 D F,.string G,sl H I Q,iI V,.bool W,iI Y,sl L J T,sl s0 i u0,sl z0 j q0,iI Z,iI ab] 109,eW br s0 i u0 9 1 v0,eW br z0 j q0 3 1 y0]∧tF K_ x0 F D∧G.size≤mB∧tP K_ H Q I∧tS K_ L T J∧Reps RStr 1 i v0∧i.length*16≤mB∧Reps (RInt .i64) 1 j y0∧j.length*8≤mB∧tS K_ m0 p0 N))) [.box bs g #[sl o k p,.string l,sl q m r,iI s,.bool t,iI u,sl v n x,sl d a e,sl f b h,iI A,iI B] 109,eW br d a e 9 1 y,eW br f b h 3 1 z]
def acx(X:aaq→aae→ooN):Prop:=∀{K w g bs br k o p l m q r s t u n v x a d e y b f h z A B J N C D G O S U I i j V W Y},X (aaq.mk k (aab.mk l m s t u n) a b A B) J=some ((aaq.mk C (aab.mk D G O S U I) i j V W),Y)→GK K→tF K o p k→l.size≤mB→tP K q r m→tS K v x n→Reps RStr 1 a y→a.length*16≤mB→Reps (RInt .i64) 1 b z→b.length*8≤mB→br≤(zz w)→aag K J N→ (fun E:Ents=>SR K K w w E E→Calls Tryz.prog 120 #[.pointer (some ⟨g,0,none⟩),.agg N.toArray] w (Ret (fun v_ w_=>∃K_ z0 H L Q T Z s0 v0 x0 y0 F q0 t0,v_=.agg t0.toArray∧SR K K_ w w_ E [.box bs g #[sl z0 C H,.string D,sl L G Q,iI O,.bool S,iI U,sl T I Z,sl s0 i v0,sl y0 j F,iI V,iI W] 109,eW br s0 i v0 9 1 x0,eW br y0 j F 3 1 q0]∧tF K_ z0 H C∧D.size≤mB∧tP K_ L Q G∧tS K_ T Z I∧Reps RStr 1 i x0∧i.length*16≤mB∧Reps (RInt .i64) 1 j q0∧j.length*8≤mB∧aag K_ Y t0))) [.box bs g #[sl o k p,.string l,sl q m r,iI s,.bool t,iI u,sl v n x,sl d a e,sl f b h,iI A,iI B] 109,eW br d a e 9 1 y,eW br f b h 3 1 z]
def acz(X:aaq→BA→LS→Int→ooZ):Prop:=∀{K w g bs br k o p l m q r s t u n v x a d e y b f h z A B C D S U V G I J W Y Z N i j ab ac ad O},X (aaq.mk k (aab.mk l m s t u n) a b A B) C D V=some ((aaq.mk G (aab.mk I J W Y Z N) i j ab ac),ad,O)→GK K→tF K o p k→l.size≤mB→tP K q r m→tS K v x n→Reps RStr 1 a y→a.length*16≤mB→Reps (RInt .i64) 1 b z→b.length*8≤mB→br≤(zz w)→C.size≤mB→tS K S U D→ (fun E:Ents=>SR K K w w E E→Calls Tryz.prog 146 #[.pointer (some ⟨g,0,none⟩),.string C,sl S D U,iI V] w (Ret (fun v_ w_=>∃K_ x0 F H Q L T s0 u0 v0 z0 q0 y0 p0 m0,v_=.tuple #[iI ad,sl p0 O m0]∧SR K K_ w w_ E [.box bs g #[sl x0 G F,.string I,sl H J Q,iI W,.bool Y,iI Z,sl L N T,sl s0 i u0,sl z0 j q0,iI ab,iI ac] 109,eW br s0 i u0 9 1 v0,eW br z0 j q0 3 1 y0]∧tF K_ x0 F G∧I.size≤mB∧tP K_ H Q J∧tS K_ L T N∧Reps RStr 1 i v0∧i.length*16≤mB∧Reps (RInt .i64) 1 j y0∧j.length*8≤mB∧tS K_ p0 m0 O))) [.box bs g #[sl o k p,.string l,sl q m r,iI s,.bool t,iI u,sl v n x,sl d a e,sl f b h,iI A,iI B] 109,eW br d a e 9 1 y,eW br f b h 3 1 z]
def acC(X:aaq→aap→ood):Prop:=∀{K w g bs br k o p l m q r s t u n v x a d e y b f h z A B J N C D G O S U I i j V W Y},X (aaq.mk k (aab.mk l m s t u n) a b A B) J=some ((aaq.mk C (aab.mk D G O S U I) i j V W),Y)→GK K→tF K o p k→l.size≤mB→tP K q r m→tS K v x n→Reps RStr 1 a y→a.length*16≤mB→Reps (RInt .i64) 1 b z→b.length*8≤mB→br≤(zz w)→aar K J N→ (fun E:Ents=>SR K K w w E E→Calls Tryz.prog 147 #[.pointer (some ⟨g,0,none⟩),.agg N.toArray] w (Ret (fun v_ w_=>∃K_ z0 H L Q T Z s0 v0 x0 y0 F q0 t0,v_=.agg t0.toArray∧SR K K_ w w_ E [.box bs g #[sl z0 C H,.string D,sl L G Q,iI O,.bool S,iI U,sl T I Z,sl s0 i v0,sl y0 j F,iI V,iI W] 109,eW br s0 i v0 9 1 x0,eW br y0 j F 3 1 q0]∧tF K_ z0 H C∧D.size≤mB∧tP K_ L Q G∧tS K_ T Z I∧Reps RStr 1 i x0∧i.length*16≤mB∧Reps (RInt .i64) 1 j q0∧j.length*8≤mB∧aar K_ Y t0))) [.box bs g #[sl o k p,.string l,sl q m r,iI s,.bool t,iI u,sl v n x,sl d a e,sl f b h,iI A,iI B] 109,eW br d a e 9 1 y,eW br f b h 3 1 z]
def ar0(X:LF→aab→ooe):Prop:=∀{K w a b d e f g h},X a e=some (g,h)→GK K→tF K b d a→aak K e f→ SR K K w w [] []→Calls Tryz.prog 61 #[sl b a d,.agg f.toArray] w (Ret (fun x v=>∃z y q,x=.tuple #[.agg y.toArray,.agg q.toArray]∧SR K z w v [] []∧acg z g y∧aak z h q))
def arS(X:aaa→ooI):Prop:=∀{K w a b d e},X a=some (d,e)→GK K→aad K a b→ SR K K w w [] []→Calls Tryz.prog 38 #[.agg b.toArray] w (Ret (fun x z=>∃y q,x=.tuple #[.agg q.toArray,iI e]∧SR K y w z [] []∧aad y d q))
def asR(X:aaa→ooI):Prop:=∀{K w a b d e},X a=some (d,e)→GK K→aad K a b→ SR K K w w [] []→Calls Tryz.prog 16 #[.agg b.toArray] w (Ret (fun x z=>∃y q,x=.tuple #[.agg q.toArray,iI e]∧SR K y w z [] []∧aad y d q))
def afz(X:LS→ooA):Prop:=∀{K w a b d e},X a=some e→GK K→tS K b d a→ SR K K w w [] []→Calls Tryz.prog 66 #[sl b a d] w (Ret (fun z q=>∃y,z=.bool e∧SR K y w q [] []))
def aeA(X:LS→ooA):Prop:=∀{K w a b d e},X a=some e→GK K→tS K b d a→ SR K K w w [] []→Calls Tryz.prog 21 #[sl b a d] w (Ret (fun z q=>∃y,z=.bool e∧SR K y w q [] []))
def aeK(X:aae→ooA):Prop:=∀{K w a b d},X a=some d→GK K→aag K a b→ SR K K w w [] []→Calls Tryz.prog 41 #[.agg b.toArray] w (Ret (fun z q=>∃y,z=.bool d∧SR K y w q [] []))
def arR(X:aao→Int→Int→ooJ):Prop:=∀{K w g bs br f k l h i m n o p q j r s a b d t u A B v x y C D G z e I},X (aao.mk f (aab.mk h i o p q j) a u) A B=some (aao.mk v (aab.mk x y C D G z) e I)→GK K→tF K k l f→h.size≤mB→tP K m n i→tS K r s j→Reps (RInt .i64) 1 a t→a.length*8≤mB→br≤(zz w)→ (fun E:Ents=>SR K K w w E E→Calls Tryz.prog 49 #[.pointer (some ⟨g,0,none⟩),iI A,iI B] w (Ret (fun J H=>∃L T U V Q Z Y N O S,J=.tuple #[]∧SR K L w H E [.box bs g #[sl T v U,.string x,sl V y Q,iI C,.bool D,iI G,sl Z z Y,sl N e O,.bool I] 90,eW br N e O 3 1 S]∧tF L T U v∧x.size≤mB∧tP L V Q y∧tS L Z Y z∧Reps (RInt .i64) 1 e S∧e.length*8≤mB))) [.box bs g #[sl k f l,.string h,sl m i n,iI o,.bool p,iI q,sl r j s,sl b a d,.bool u] 90,eW br b a d 3 1 t]
def apx(X:aao→aae→ooL):Prop:=∀{K w g bs br f k l h i m n o p q j r s a b d t u B C v x y D G I z e J A N},X (aao.mk f (aab.mk h i o p q j) a u) B=some ((aao.mk v (aab.mk x y D G I z) e J),A,N)→GK K→tF K k l f→h.size≤mB→tP K m n i→tS K r s j→Reps (RInt .i64) 1 a t→a.length*8≤mB→br≤(zz w)→aag K B C→ (fun E:Ents=>SR K K w w E E→Calls Tryz.prog 107 #[.pointer (some ⟨g,0,none⟩),.agg C.toArray] w (Ret (fun v_ w_=>∃L T U V Q Z Y H O S q0 F,v_=.tuple #[sl q0 A F,.bool N]∧SR K L w w_ E [.box bs g #[sl T v U,.string x,sl V y Q,iI D,.bool G,iI I,sl Z z Y,sl H e O,.bool J] 90,eW br H e O 3 1 S]∧tF L T U v∧x.size≤mB∧tP L V Q y∧tS L Z Y z∧Reps (RInt .i64) 1 e S∧e.length*8≤mB∧RSl Int (RInt .i64) 1 8 L q0 F A))) [.box bs g #[sl k f l,.string h,sl m i n,iI o,.bool p,iI q,sl r j s,sl b a d,.bool u] 90,eW br b a d 3 1 t]
def atp(X:Int→Int→Int→ooC):Prop:=∀{K w a b d e},X a b d=some e→GK K→ SR K K w w [] []→Calls Tryz.prog 36 #[iI a,iI b,iI d] w (Ret (fun z q=>∃y,z=iI e∧SR K y w q [] []))
def afy(X:aah→(List Int)→ooC):Prop:=∀{K w b d a e f g},X b a=some g→GK K→aai K b d→RSl Int (RInt .i64) 1 8 K e f a→ SR K K w w [] []→Calls Tryz.prog 15 #[.agg d.toArray,sl e a f] w (Ret (fun z q=>∃y,z=iI g∧SR K y w q [] []))
def apa(X:aao→aah→Int→ooJ):Prop:=∀{K w g bs br f k l h i m n o p q j r s a b d t u A B C v x y D G I z e J},X (aao.mk f (aab.mk h i o p q j) a u) A C=some (aao.mk v (aab.mk x y D G I z) e J)→GK K→tF K k l f→h.size≤mB→tP K m n i→tS K r s j→Reps (RInt .i64) 1 a t→a.length*8≤mB→br≤(zz w)→aai K A B→ (fun E:Ents=>SR K K w w E E→Calls Tryz.prog 108 #[.pointer (some ⟨g,0,none⟩),.agg B.toArray,iI C] w (Ret (fun H F=>∃L T U V Q Z Y N O S,H=.tuple #[]∧SR K L w F E [.box bs g #[sl T v U,.string x,sl V y Q,iI D,.bool G,iI I,sl Z z Y,sl N e O,.bool J] 90,eW br N e O 3 1 S]∧tF L T U v∧x.size≤mB∧tP L V Q y∧tS L Z Y z∧Reps (RInt .i64) 1 e S∧e.length*8≤mB))) [.box bs g #[sl k f l,.string h,sl m i n,iI o,.bool p,iI q,sl r j s,sl b a d,.bool u] 90,eW br b a d 3 1 t]
def arw(X:aao→aae→Option (aao×Int)):Prop:=∀{K w g bs br f k l h i m n o p q j r s a b d t u A B v x y C D G z e I J},X (aao.mk f (aab.mk h i o p q j) a u) A=some ((aao.mk v (aab.mk x y C D G z) e I),J)→GK K→tF K k l f→h.size≤mB→tP K m n i→tS K r s j→Reps (RInt .i64) 1 a t→a.length*8≤mB→br≤(zz w)→aag K A B→ (fun E:Ents=>SR K K w w E E→Calls Tryz.prog 109 #[.pointer (some ⟨g,0,none⟩),.agg B.toArray] w (Ret (fun H F=>∃L T U V Q Z Y N O S,H=iI J∧SR K L w F E [.box bs g #[sl T v U,.string x,sl V y Q,iI C,.bool D,iI G,sl Z z Y,sl N e O,.bool I] 90,eW br N e O 3 1 S]∧tF L T U v∧x.size≤mB∧tP L V Q y∧tS L Z Y z∧Reps (RInt .i64) 1 e S∧e.length*8≤mB))) [.box bs g #[sl k f l,.string h,sl m i n,iI o,.bool p,iI q,sl r j s,sl b a d,.bool u] 90,eW br b a d 3 1 t]
def adP(X:aao→LS→ooJ):Prop:=∀{K w g bs br f k l h i m n o p q j r s a b d t u v B C x y z D G I A e J},X (aao.mk f (aab.mk h i o p q j) a u) v=some (aao.mk x (aab.mk y z D G I A) e J)→GK K→tF K k l f→h.size≤mB→tP K m n i→tS K r s j→Reps (RInt .i64) 1 a t→a.length*8≤mB→br≤(zz w)→tS K B C v→ (fun E:Ents=>SR K K w w E E→Calls Tryz.prog 50 #[.pointer (some ⟨g,0,none⟩),sl B v C] w (Ret (fun H F=>∃L T U V Q Z Y N O S,H=.tuple #[]∧SR K L w F E [.box bs g #[sl T x U,.string y,sl V z Q,iI D,.bool G,iI I,sl Z A Y,sl N e O,.bool J] 90,eW br N e O 3 1 S]∧tF L T U x∧y.size≤mB∧tP L V Q z∧tS L Z Y A∧Reps (RInt .i64) 1 e S∧e.length*8≤mB))) [.box bs g #[sl k f l,.string h,sl m i n,iI o,.bool p,iI q,sl r j s,sl b a d,.bool u] 90,eW br b a d 3 1 t]
def ad1(X:aao→aae→ooJ):Prop:=∀{K w g bs br f k l h i m n o p q j r s a b d t u A B v x y C D G z e I},X (aao.mk f (aab.mk h i o p q j) a u) A=some (aao.mk v (aab.mk x y C D G z) e I)→GK K→tF K k l f→h.size≤mB→tP K m n i→tS K r s j→Reps (RInt .i64) 1 a t→a.length*8≤mB→br≤(zz w)→aag K A B→ (fun E:Ents=>SR K K w w E E→Calls Tryz.prog 74 #[.pointer (some ⟨g,0,none⟩),.agg B.toArray] w (Ret (fun J H=>∃L T U V Q Z Y N O S,J=.tuple #[]∧SR K L w H E [.box bs g #[sl T v U,.string x,sl V y Q,iI C,.bool D,iI G,sl Z z Y,sl N e O,.bool I] 90,eW br N e O 3 1 S]∧tF L T U v∧x.size≤mB∧tP L V Q y∧tS L Z Y z∧Reps (RInt .i64) 1 e S∧e.length*8≤mB))) [.box bs g #[sl k f l,.string h,sl m i n,iI o,.bool p,iI q,sl r j s,sl b a d,.bool u] 90,eW br b a d 3 1 t]
def acS(X:aao→aap→ooJ):Prop:=∀{K w g bs br f k l h i m n o p q j r s a b d t u A B v x y C D G z e I},X (aao.mk f (aab.mk h i o p q j) a u) A=some (aao.mk v (aab.mk x y C D G z) e I)→GK K→tF K k l f→h.size≤mB→tP K m n i→tS K r s j→Reps (RInt .i64) 1 a t→a.length*8≤mB→br≤(zz w)→aar K A B→ (fun E:Ents=>SR K K w w E E→Calls Tryz.prog 110 #[.pointer (some ⟨g,0,none⟩),.agg B.toArray] w (Ret (fun J H=>∃L T U V Q Z Y N O S,J=.tuple #[]∧SR K L w H E [.box bs g #[sl T v U,.string x,sl V y Q,iI C,.bool D,iI G,sl Z z Y,sl N e O,.bool I] 90,eW br N e O 3 1 S]∧tF L T U v∧x.size≤mB∧tP L V Q y∧tS L Z Y z∧Reps (RInt .i64) 1 e S∧e.length*8≤mB))) [.box bs g #[sl k f l,.string h,sl m i n,iI o,.bool p,iI q,sl r j s,sl b a d,.bool u] 90,eW br b a d 3 1 t]
def asQ(X:LF→aab→ooP):Prop:=∀{K w a d e f g b h},X a f=some (b,h)→GK K→tF K d e a→aak K f g→ SR K K w w [] []→Calls Tryz.prog 27 #[sl d a e,.agg g.toArray] w (Ret (fun x v=>∃z y q,x=.tuple #[sl y b q,iI h]∧SR K z w v [] []∧RSl Int (RInt .i64) 1 8 z y q b))
def ata(X:aaa→ooI):Prop:=∀{K w a b d e},X a=some (d,e)→GK K→aad K a b→ SR K K w w [] []→Calls Tryz.prog 11 #[.agg b.toArray] w (Ret (fun x z=>∃y q,x=.tuple #[.agg q.toArray,iI e]∧SR K y w z [] []∧aad y d q))
def apK(X:aae→Option (List LS)):Prop:=∀{K w b d a},X b=some a→GK K→aag K b d→ SR K K w w [] []→Calls Tryz.prog 124 #[.agg d.toArray] w (Ret (fun x v=>∃z y q,x=sl y a q∧SR K z w v [] []∧RSl LS (RSlE aae (fun K=>(aag K)) 11 184 z) 1 24 z y q a))
def acv(X:LS→ooA):Prop:=∀{K w a b d e},X a=some e→GK K→tS K b d a→ SR K K w w [] []→Calls Tryz.prog 92 #[sl b a d] w (Ret (fun z q=>∃y,z=.bool e∧SR K y w q [] []))
def abX(X:aae→ooA):Prop:=∀{K w a b d},X a=some d→GK K→aag K a b→ SR K K w w [] []→Calls Tryz.prog 122 #[.agg b.toArray] w (Ret (fun z q=>∃y,z=.bool d∧SR K y w q [] []))
def aa8(X:LS→ooA):Prop:=∀{K w a b d e},X a=some e→GK K→tS K b d a→ SR K K w w [] []→Calls Tryz.prog 64 #[sl b a d,.func (.func 122) #[] #[]] w (Ret (fun z q=>∃y,z=.bool e∧SR K y w q [] []))
def abb(X:LS→ooC):Prop:=∀{K w a b d e},X a=some e→GK K→tS K b d a→ SR K K w w [] []→Calls Tryz.prog 91 #[sl b a d,.func (.func 122) #[] #[]] w (Ret (fun z q=>∃y,z=iI e∧SR K y w q [] []))
def aa0(X:(List LS)→ooA):Prop:=∀{K w a b d e},X a=some e→GK K→RSl LS (RSlE aae (fun K=>(aag K)) 11 184 K) 1 24 K b d a→ SR K K w w [] []→Calls Tryz.prog 123 #[sl b a d,.func (.func 92) #[] #[]] w (Ret (fun z q=>∃y,z=.bool e∧SR K y w q [] []))
def aa4(X:(List LS)→ooC):Prop:=∀{K w a b d e},X a=some e→GK K→RSl LS (RSlE aae (fun K=>(aag K)) 11 184 K) 1 24 K b d a→ SR K K w w [] []→Calls Tryz.prog 148 #[sl b a d,.func (.func 92) #[] #[]] w (Ret (fun z q=>∃y,z=iI e∧SR K y w q [] []))
def abR(X:LS→ooA):Prop:=∀{K w a b d e},X a=some e→GK K→tS K b d a→ SR K K w w [] []→Calls Tryz.prog 40 #[sl b a d] w (Ret (fun z q=>∃y,z=.bool e∧SR K y w q [] []))
def abT(X:aae→ooA):Prop:=∀{K w a b d},X a=some d→GK K→aag K a b→ SR K K w w [] []→Calls Tryz.prog 65 #[.agg b.toArray] w (Ret (fun z q=>∃y,z=.bool d∧SR K y w q [] []))
def abQ(X:aap→ooA):Prop:=∀{K w a b d},X a=some d→GK K→aar K a b→ SR K K w w [] []→Calls Tryz.prog 94 #[.agg b.toArray] w (Ret (fun z q=>∃y,z=.bool d∧SR K y w q [] []))
def aaM(X:LS→ooA):Prop:=∀{K w a b d e},X a=some e→GK K→tS K b d a→ SR K K w w [] []→Calls Tryz.prog 64 #[sl b a d,.func (.func 65) #[] #[]] w (Ret (fun z q=>∃y,z=.bool e∧SR K y w q [] []))
def aaK(X:LS→ooC):Prop:=∀{K w a b d e},X a=some e→GK K→tS K b d a→ SR K K w w [] []→Calls Tryz.prog 91 #[sl b a d,.func (.func 65) #[] #[]] w (Ret (fun z q=>∃y,z=iI e∧SR K y w q [] []))
def aaI(X:LC→ooA):Prop:=∀{K w a b d e},X a=some e→GK K→tC K b d a→ SR K K w w [] []→Calls Tryz.prog 93 #[sl b a d,.func (.func 94) #[] #[]] w (Ret (fun z q=>∃y,z=.bool e∧SR K y w q [] []))
def aaL(X:LC→Unit→ooA):Prop:=∀{K w a b d g bs e},X a ()=some e→GK K→tC K b d a→ (fun E:Ents=>SR K K w w E E→Calls Tryz.prog 125 #[sl b a d,.func (.func 126) #[] #[.pointer (some ⟨g,0,none⟩)]] w (Ret (fun z q=>∃y,z=.bool e∧SR K y w q E E))) [.box bs g #[.func (.func 94) #[] #[]] 137]
def aaJ(X:aap→Unit→ooA):Prop:=∀{K w a b g bs d},X a ()=some d→GK K→aar K a b→ (fun E:Ents=>SR K K w w E E→Calls Tryz.prog 126 #[.agg b.toArray,.pointer (some ⟨g,0,none⟩)] w (Ret (fun z q=>∃y,z=.bool d∧SR K y w q E E))) [.box bs g #[.func (.func 94) #[] #[]] 137]
def aaH(X:LC→Unit→ooC):Prop:=∀{K w a b d g bs e},X a ()=some e→GK K→tC K b d a→ (fun E:Ents=>SR K K w w E E→Calls Tryz.prog 149 #[sl b a d,.func (.func 126) #[] #[.pointer (some ⟨g,0,none⟩)]] w (Ret (fun z q=>∃y,z=iI e∧SR K y w q E E))) [.box bs g #[.func (.func 94) #[] #[]] 137]
def asn(X:aab→oog):Prop:=∀{K w b d a},X b=some a→GK K→aak K b d→ SR K K w w [] []→Calls Tryz.prog 42 #[.agg d.toArray] w (Ret (fun x v=>∃u z y q,x=sl z a y∧SR K u w v [] [eW (zz w) z a y 3 1 q]∧Reps (RInt .i64) 1 a q∧a.length*8≤mB))
def ak2(X:LP→Option LP):Prop:=∀{K w a d e b},X a=some b→GK K→tP K d e a→ SR K K w w [] []→Calls Tryz.prog 129 #[sl d a e] w (Ret (fun x v=>∃z y q,x=sl y b q∧SR K z w v [] []∧tP z y q b))
def aqL(X:aah→ooC):Prop:=∀{K w a b d},X a=some d→GK K→aai K a b→ SR K K w w [] []→Calls Tryz.prog 157 #[.agg b.toArray] w (Ret (fun z q=>∃y,z=iI d∧SR K y w q [] []))
def abS(X:LE→ooW):Prop:=∀{K w a d e b},X a=some b→GK K→tE K d e a→ SR K K w w [] []→Calls Tryz.prog 159 #[sl d a e,.func (.func 157) #[] #[]] w (Ret (fun x v=>∃z y q,x=sl y b q∧SR K z w v [] []∧tE z y q b))
def abJ(X:aah→oof):Prop:=∀{K w a b d},X a=some d→GK K→aai K a b→ SR K K w w [] []→Calls Tryz.prog 178 #[.agg b.toArray,.func (.func 157) #[] #[]] w (Ret (fun x z=>∃y q,x=.agg q.toArray∧SR K y w z [] []∧aai y d q))
def aph(X:aah→ooC):Prop:=∀{K w a b d},X a=some d→GK K→aai K a b→ SR K K w w [] []→Calls Tryz.prog 158 #[.agg b.toArray] w (Ret (fun z q=>∃y,z=iI d∧SR K y w q [] []))
def abK(X:LE→ooW):Prop:=∀{K w a d e b},X a=some b→GK K→tE K d e a→ SR K K w w [] []→Calls Tryz.prog 159 #[sl d a e,.func (.func 158) #[] #[]] w (Ret (fun x v=>∃z y q,x=sl y b q∧SR K z w v [] []∧tE z y q b))
def abM(X:aah→oof):Prop:=∀{K w a b d},X a=some d→GK K→aai K a b→ SR K K w w [] []→Calls Tryz.prog 178 #[.agg b.toArray,.func (.func 158) #[] #[]] w (Ret (fun x z=>∃y q,x=.agg q.toArray∧SR K y w z [] []∧aai y d q))
def aec(X:LS→Bool→ooO):Prop:=∀{K w a d e f b},X a f=some b→GK K→tS K d e a→ SR K K w w [] []→Calls Tryz.prog 130 #[sl d a e,.bool f] w (Ret (fun x v=>∃z y q,x=sl y b q∧SR K z w v [] []∧tS z y q b))
def apy(X:aaa→Bool→ooQ):Prop:=∀{K w a b d e},X a d=some e→GK K→aad K a b→ SR K K w w [] []→Calls Tryz.prog 100 #[.agg b.toArray,.bool d] w (Ret (fun x z=>∃y q,x=.agg q.toArray∧SR K y w z [] []∧aad y e q))
def ans(X:Bool→Int→Option (Except Int Unit)):Prop:=∀{K w a b q},X a b=some q→GK K→ SR K K w w [] []→Calls Tryz.prog 98 #[.bool a,iI b] w (RetP (fun y z=>∃x,q=.ok ()∧y=.tuple #[]∧SR K x w z [] []) (fun y z=>∃v x,q=.error v∧y=.iface 140 (.agg #[iI v])∧SR K x w z [] []))
def aqb(X:Option (List (Int×aaA))):Prop:=∀{K w a},X =some a→GK K→ SR K K w w [] []→Calls Tryz.prog 189 #[] w (Ret (fun x z=>∃y br0 er0 q,x=.map (some br0)∧SR K y w z [] [.mp (zz w) br0 er0 q]∧MapR kI (VAgg (abe y)) a er0.toList))
def atc(X:Int→Int→Int→ooA):Prop:=∀{K w a b d e},X a b d=some e→GK K→ SR K K w w [] []→Calls Tryz.prog 77 #[iI a,iI b,iI d] w (Ret (fun z q=>∃y,z=.bool e∧SR K y w q [] []))
def ape(X:aae→ooA):Prop:=∀{K w a b d},X a=some d→GK K→aag K a b→ SR K K w w [] []→Calls Tryz.prog 190 #[.agg b.toArray] w (Ret (fun z q=>∃y,z=.bool d∧SR K y w q [] []))
def arP(X:aaj→Int→ooB):Prop:=∀{K w g bs a b d e f h i j},X (aaj.mk a b d) e=some ((aaj.mk f h i),j)→GK K→ (fun E:Ents=>SR K K w w E E→Calls Tryz.prog 76 #[.pointer (some ⟨g,0,none⟩),iI e] w (Ret (fun z q=>∃y,z=.bool j∧SR K y w q E [.box bs g #[iI f,iI h,.bool i] 96]))) [.box bs g #[iI a,iI b,.bool d] 96]
def aqq(X:Int→ooA):Prop:=∀{K w a b},X a=some b→GK K→ SR K K w w [] []→Calls Tryz.prog 135 #[.int .u8 a] w (Ret (fun z q=>∃y,z=.bool b∧SR K y w q [] []))
def ao1(X:Int→ooA):Prop:=∀{K w a b},X a=some b→GK K→ SR K K w w [] []→Calls Tryz.prog 136 #[.int .u8 a] w (Ret (fun z q=>∃y,z=.bool b∧SR K y w q [] []))
def aqM(X:BA→ooA):Prop:=∀{K w a b},X a=some b→GK K→a.size≤mB→ SR K K w w [] []→Calls Tryz.prog 111 #[.string a] w (Ret (fun z q=>∃y,z=.bool b∧SR K y w q [] []))
def aqP(X:LB→BA→ooC):Prop:=∀{K w a d e b f},X a b=some f→GK K→RSl BA RStr 1 16 K d e a→b.size≤mB→ SR K K w w [] []→Calls Tryz.prog 165 #[sl d a e,.string b] w (Ret (fun z q=>∃y,z=iI f∧SR K y w q [] []))
def aq9(X:LB→BA→ooA):Prop:=∀{K w a d e b f},X a b=some f→GK K→RSl BA RStr 1 16 K d e a→b.size≤mB→ SR K K w w [] []→Calls Tryz.prog 137 #[sl d a e,.string b] w (Ret (fun z q=>∃y,z=.bool f∧SR K y w q [] []))
def alp(X:Option LB):Prop:=∀{K w a},X =some a→GK K→ SR K K w w [] []→Calls Tryz.prog 138 #[] w (Ret (fun x v=>∃z y q,x=sl y a q∧SR K z w v [] []∧RSl BA RStr 1 16 z y q a))
def aqQ(X:BA→ooA):Prop:=∀{K w a b},X a=some b→GK K→a.size≤mB→ SR K K w w [] []→Calls Tryz.prog 112 #[.string a] w (Ret (fun z q=>∃y,z=.bool b∧SR K y w q [] []))
def asp(X:BA→ooA):Prop:=∀{K w a b},X a=some b→GK K→a.size≤mB→ SR K K w w [] []→Calls Tryz.prog 79 #[.string a] w (Ret (fun z q=>∃y,z=.bool b∧SR K y w q [] []))
def an1(X:BA→ooA):Prop:=∀{K w a b},X a=some b→GK K→a.size≤mB→ SR K K w w [] []→Calls Tryz.prog 95 #[.string a] w (Ret (fun z q=>∃y,z=.bool b∧SR K y w q [] []))
def anX(X:BA→ooA):Prop:=∀{K w a b},X a=some b→GK K→a.size≤mB→ SR K K w w [] []→Calls Tryz.prog 78 #[.string a] w (Ret (fun z q=>∃y,z=.bool b∧SR K y w q [] []))
def aeN(X:aaj→aah→Int→ooB):Prop:=∀{K w g bs a b d e f h i j k l},X (aaj.mk a b d) e h=some ((aaj.mk i j k),l)→GK K→aai K e f→ (fun E:Ents=>SR K K w w E E→Calls Tryz.prog 53 #[.pointer (some ⟨g,0,none⟩),.agg f.toArray,iI h] w (Ret (fun z q=>∃y,z=.bool l∧SR K y w q E [.box bs g #[iI i,iI j,.bool k] 96]))) [.box bs g #[iI a,iI b,.bool d] 96]
def aeL(X:aaj→LE→Int→ooB):Prop:=∀{K w g bs a b d e f h i j k l m},X (aaj.mk a b d) e i=some ((aaj.mk j k l),m)→GK K→tE K f h e→ (fun E:Ents=>SR K K w w E E→Calls Tryz.prog 80 #[.pointer (some ⟨g,0,none⟩),sl f e h,iI i] w (Ret (fun z q=>∃y,z=.bool m∧SR K y w q E [.box bs g #[iI j,iI k,.bool l] 96]))) [.box bs g #[iI a,iI b,.bool d] 96]
def acR(X:aaj→LS→Int→ooB):Prop:=∀{K w g bs a b d e f h i j k l m},X (aaj.mk a b d) e i=some ((aaj.mk j k l),m)→GK K→tS K f h e→ (fun E:Ents=>SR K K w w E E→Calls Tryz.prog 156 #[.pointer (some ⟨g,0,none⟩),sl f e h,iI i] w (Ret (fun z q=>∃y,z=.bool m∧SR K y w q E [.box bs g #[iI j,iI k,.bool l] 96]))) [.box bs g #[iI a,iI b,.bool d] 96]
def adc(X:aaj→aae→Int→ooB):Prop:=∀{K w g bs a b d e f h i j k l},X (aaj.mk a b d) e h=some ((aaj.mk i j k),l)→GK K→aag K e f→ (fun E:Ents=>SR K K w w E E→Calls Tryz.prog 177 #[.pointer (some ⟨g,0,none⟩),.agg f.toArray,iI h] w (Ret (fun z q=>∃y,z=.bool l∧SR K y w q E [.box bs g #[iI i,iI j,.bool k] 96]))) [.box bs g #[iI a,iI b,.bool d] 96]
def ada(X:aaj→aap→Int→ooB):Prop:=∀{K w g bs a b d e f h i j k l},X (aaj.mk a b d) e h=some ((aaj.mk i j k),l)→GK K→aar K e f→ (fun E:Ents=>SR K K w w E E→Calls Tryz.prog 191 #[.pointer (some ⟨g,0,none⟩),.agg f.toArray,iI h] w (Ret (fun z q=>∃y,z=.bool l∧SR K y w q E [.box bs g #[iI i,iI j,.bool k] 96]))) [.box bs g #[iI a,iI b,.bool d] 96]
def arg(X:aaj→aaa→ooB):Prop:=∀{K w g bs a b d e f h i j k},X (aaj.mk a b d) e=some ((aaj.mk h i j),k)→GK K→aad K e f→ (fun E:Ents=>SR K K w w E E→Calls Tryz.prog 128 #[.pointer (some ⟨g,0,none⟩),.agg f.toArray] w (Ret (fun z q=>∃y,z=.bool k∧SR K y w q E [.box bs g #[iI h,iI i,.bool j] 96]))) [.box bs g #[iI a,iI b,.bool d] 96]
def an7(X:aaa→Bool→ooA):Prop:=∀{K w a b d e},X a d=some e→GK K→aad K a b→ SR K K w w [] []→Calls Tryz.prog 99 #[.agg b.toArray,.bool d] w (Ret (fun z q=>∃y,z=.bool e∧SR K y w q [] []))
def atf(X:aaa→Option (Except Int aaa)):Prop:=∀{K w a b q},X a=some q→GK K→aad K a b→ SR K K w w [] []→Calls Tryz.prog 70 #[.agg b.toArray] w (RetP (fun x v=>∃d z y,q=.ok d∧x=.agg y.toArray∧SR K z w v [] []∧aad z d y) (fun x v=>∃u z,q=.error u∧x=.iface 140 (.agg #[iI u])∧SR K z w v [] []))
def ai1(X:aaa→aaa→ooR):Prop:=∀{K w g bs a b d gA bsA sA_0 AsA_0 csA_0 q},X (aaa.mk a) (aaa.mk sA_0)=some q→GK K→tF K b d a→tF K AsA_0 csA_0 sA_0→ (fun E:Ents=>SR K K w w E E→Calls Tryz.prog 69 #[.pointer (some ⟨g,0,none⟩),.pointer (some ⟨gA,0,none⟩)] w (RetP (fun v u=>∃e zA_0 x z y AzA_0 czA_0,q=.ok ((aaa.mk e),(aaa.mk zA_0))∧v=.tuple #[]∧SR K x w u E [.box bs g #[sl z e y] 24,.box bsA gA #[sl AzA_0 zA_0 czA_0] 24]∧tF x z y e∧tF x AzA_0 czA_0 zA_0) (fun v u=>∃t x,q=.error t∧v=.iface 140 (.agg #[iI t])∧SR K x w u E E))) [.box bs g #[sl b a d] 24,.box bsA gA #[sl AsA_0 sA_0 csA_0] 24]
def afN(X:aaa→aaa→ooV):Prop:=∀{K w g bs a b d gA bsA sA_0 AsA_0 csA_0 e zA_0 f},X (aaa.mk a) (aaa.mk sA_0)=some ((aaa.mk e),(aaa.mk zA_0),f)→GK K→tF K b d a→tF K AsA_0 csA_0 sA_0→ (fun E:Ents=>SR K K w w E E→Calls Tryz.prog 68 #[.func (.func 69) #[] #[.pointer (some ⟨g,0,none⟩),.pointer (some ⟨gA,0,none⟩)]] w (Ret (fun x v=>∃z y q AzA_0 czA_0,x=iI f∧SR K z w v E [.box bs g #[sl y e q] 24,.box bsA gA #[sl AzA_0 zA_0 czA_0] 24]∧tF z y q e∧tF z AzA_0 czA_0 zA_0))) [.box bs g #[sl b a d] 24,.box bsA gA #[sl AsA_0 sA_0 csA_0] 24]
def asW(X:aaa→ooI):Prop:=∀{K w a b d e},X a=some (d,e)→GK K→aad K a b→ SR K K w w [] []→Calls Tryz.prog 46 #[.agg b.toArray] w (Ret (fun x z=>∃y q,x=.tuple #[.agg q.toArray,iI e]∧SR K y w z [] []∧aad y d q))
def aj3(X:aab→aab→ooA):Prop:=∀{K w m n g bs a b e f h i j d k l o},X m (aab.mk a b h i j d)=some o→GK K→aak K m n→a.size≤mB→tP K e f b→tS K k l d→ (fun E:Ents=>SR K K w w E E→Calls Tryz.prog 103 #[.agg n.toArray,.pointer (some ⟨g,0,none⟩)] w (Ret (fun z q=>∃y,z=.bool o∧SR K y w q E E))) [.box bs g (aF a e b f h i j k d l) 52]
def akh(X:LF→aab→ooC):Prop:=∀{K w m n o g bs a b e f h i j d k l p},X m (aab.mk a b h i j d)=some p→GK K→tF K n o m→a.size≤mB→tP K e f b→tS K k l d→ (fun E:Ents=>SR K K w w E E→Calls Tryz.prog 132 #[sl n m o,.func (.func 103) #[] #[.pointer (some ⟨g,0,none⟩)]] w (Ret (fun z q=>∃y,z=iI p∧SR K y w q E E))) [.box bs g (aF a e b f h i j k d l) 52]
def afm(X:LF→aab→ooA):Prop:=∀{K w m n o g bs a b e f h i j d k l p},X m (aab.mk a b h i j d)=some p→GK K→tF K n o m→a.size≤mB→tP K e f b→tS K k l d→ (fun E:Ents=>SR K K w w E E→Calls Tryz.prog 102 #[sl n m o,.func (.func 103) #[] #[.pointer (some ⟨g,0,none⟩)]] w (Ret (fun z q=>∃y,z=.bool p∧SR K y w q E E))) [.box bs g (aF a e b f h i j k d l) 52]
def arL(X:aaf→BA→Option (Int×Bool)):Prop:=∀{K w g bs br i m n j k o p q r s l t u a d e v b f h x y z A B},X (aaf.mk (aaa.mk i) (aab.mk j k q r s l) a b y) z=some (A,B)→GK K→tF K m n i→j.size≤mB→tP K o p k→tS K t u l→Reps RStr 1 a v→a.length*16≤mB→StkR kS VInt b x→b.length*8≤mB→br≤(zz w)→z.size≤mB→ (fun E:Ents=>SR K K w w E E→Calls Tryz.prog 160 #[.pointer (some ⟨g,0,none⟩),.string z] w (Ret (fun Z Q=>∃Y,Z=.tuple #[iI A,.bool B]∧SR K Y w Q E E))) [.box bs g (aR m i n j o k p q r s t l u d a e f b h y) 176,eW br d a e 9 1 v,eK br f b h 173 x]
def apt(X:aaf→BA→Option (Except Int (aaf×Int))):Prop:=∀{K w g bs br i o p j k q r s t u l v x a d e y b f h z A B H},X (aaf.mk (aaa.mk i) (aab.mk j k s t u l) a b A) B=some H→GK K→tF K o p i→j.size≤mB→tP K q r k→tS K v x l→Reps RStr 1 a y→a.length*16≤mB→StkR kS VInt b z→b.length*8≤mB→br≤(zz w)→B.size≤mB→ (fun E:Ents=>SR K K w w E E→Calls Tryz.prog 133 #[.pointer (some ⟨g,0,none⟩),.string B] w (RetP (fun v_ w_=>∃C D G J N O I m n S U F Y L T Q V Z z0 u0 v0 x0 q0 y0,H=.ok ((aaf.mk (aaa.mk C) (aab.mk D G J N O I) m n S),U)∧v_=iI U∧SR K F w w_ E [.box bs g (aR Y C L D T G Q J N O V I Z z0 m u0 x0 n q0 S) 176,eW br z0 m u0 9 1 v0,eK br x0 n q0 173 y0]∧tF F Y L C∧D.size≤mB∧tP F T Q G∧tS F V Z I∧Reps RStr 1 m v0∧m.length*16≤mB∧StkR kS VInt n y0∧n.length*8≤mB) (fun v_ w_=>∃c_ F,H=.error c_∧v_=.iface 140 (.agg #[iI c_])∧SR K F w w_ E []))) [.box bs g (aR o i p j q k r s t u v l x d a e f b h A) 176,eW br d a e 9 1 y,eK br f b h 173 z]
def ajT(X:aah→aaf→Option (Except Int Int)):Prop:=∀{K w z A gr bsr g bs br i m n j k o p q r s l t u a d e v b f h x y Q},X z (aaf.mk (aaa.mk i) (aab.mk j k q r s l) a b y)=some Q→GK K→aai K z A→tF K m n i→j.size≤mB→tP K o p k→tS K t u l→Reps RStr 1 a v→a.length*16≤mB→StkR kS VInt b x→b.length*8≤mB→br≤(zz w)→ (fun E:Ents=>SR K K w w E E→Calls Tryz.prog 179 #[.agg A.toArray,.pointer (some ⟨gr,0,none⟩)] w (RetP (fun Y Z=>∃B V,Q=.ok B∧Y=iI B∧SR K V w Z E E) (fun Y Z=>∃U V,Q=.error U∧Y=.iface 140 (.agg #[iI U])∧SR K V w Z E []))) [.box bsr gr #[.pointer (some ⟨g,0,none⟩)] 172,.box bs g (aR m i n j o k p q r s t l u d a e f b h y) 176,eW br d a e 9 1 v,eK br f b h 173 x]
def abN(X:LE→aaf→ooU):Prop:=∀{K w z B C gr bsr g bs br i m n j k o p q r s l t u a d e v b f h x y Q},X z (aaf.mk (aaa.mk i) (aab.mk j k q r s l) a b y)=some Q→GK K→tE K B C z→tF K m n i→j.size≤mB→tP K o p k→tS K t u l→Reps RStr 1 a v→a.length*16≤mB→StkR kS VInt b x→b.length*8≤mB→br≤(zz w)→ (fun E:Ents=>SR K K w w E E→Calls Tryz.prog 159 #[sl B z C,.func (.func 179) #[] #[.pointer (some ⟨gr,0,none⟩)]] w (RetP (fun U T=>∃A Y V Z,Q=.ok A∧U=sl V A Z∧SR K Y w T E E∧tE Y V Z A) (fun U T=>∃S Y,Q=.error S∧U=.iface 140 (.agg #[iI S])∧SR K Y w T E []))) [.box bsr gr #[.pointer (some ⟨g,0,none⟩)] 172,.box bs g (aR m i n j o k p q r s t l u d a e f b h y) 176,eW br d a e 9 1 v,eK br f b h 173 x]
def abO(X:aah→aaf→ooa):Prop:=∀{K w z A gr bsr g bs br i m n j k o p q r s l t u a d e v b f h x y Q},X z (aaf.mk (aaa.mk i) (aab.mk j k q r s l) a b y)=some Q→GK K→aai K z A→tF K m n i→j.size≤mB→tP K o p k→tS K t u l→Reps RStr 1 a v→a.length*16≤mB→StkR kS VInt b x→b.length*8≤mB→br≤(zz w)→ (fun E:Ents=>SR K K w w E E→Calls Tryz.prog 178 #[.agg A.toArray,.func (.func 179) #[] #[.pointer (some ⟨gr,0,none⟩)]] w (RetP (fun V U=>∃B Z Y,Q=.ok B∧V=.agg Y.toArray∧SR K Z w U E E∧aai Z B Y) (fun V U=>∃T Z,Q=.error T∧V=.iface 140 (.agg #[iI T])∧SR K Z w U E []))) [.box bsr gr #[.pointer (some ⟨g,0,none⟩)] 172,.box bs g (aR m i n j o k p q r s t l u d a e f b h y) 176,eW br d a e 9 1 v,eK br f b h 173 x]
def arv(X:aaf→LE→ooU):Prop:=∀{K w g bs br i m n j k o p q r s l t u a d e v b f h x y z B C Q},X (aaf.mk (aaa.mk i) (aab.mk j k q r s l) a b y) z=some Q→GK K→tF K m n i→j.size≤mB→tP K o p k→tS K t u l→Reps RStr 1 a v→a.length*16≤mB→StkR kS VInt b x→b.length*8≤mB→br≤(zz w)→tE K B C z→ (fun E:Ents=>SR K K w w E E→Calls Tryz.prog 161 #[.pointer (some ⟨g,0,none⟩),sl B z C] w (RetP (fun U T=>∃A Y V Z,Q=.ok A∧U=sl V A Z∧SR K Y w T E E∧tE Y V Z A) (fun U T=>∃S Y,Q=.error S∧U=.iface 140 (.agg #[iI S])∧SR K Y w T E []))) [.box bs g (aR m i n j o k p q r s t l u d a e f b h y) 176,eW br d a e 9 1 v,eK br f b h 173 x]
def ajn(X:aab→aae→ooA):Prop:=∀{K w y z gr bsr g bs j a k b l m d n o e p q f r s h t u i v x A},X y (aae.mk j a k b l m d e f h i)=some A→GK K→aak K y z→a.size≤mB→b.size≤mB→tE K n o d→tS K p q e→tS K r s f→tS K t u h→tC K v x i→ (fun E:Ents=>SR K K w w E E→Calls Tryz.prog 180 #[.agg z.toArray,.pointer (some ⟨gr,0,none⟩)] w (Ret (fun Z Q=>∃Y,Z=.bool A∧SR K Y w Q E E))) [.box bsr gr #[.pointer (some ⟨g,0,none⟩)] 206,.box bs g (aS j a k b l m n d o p e q r f s t h u v i x) 62]
def aj5(X:LF→aae→ooC):Prop:=∀{K w y z A gr bsr g bs j a k b l m d n o e p q f r s h t u i v x B},X y (aae.mk j a k b l m d e f h i)=some B→GK K→tF K z A y→a.size≤mB→b.size≤mB→tE K n o d→tS K p q e→tS K r s f→tS K t u h→tC K v x i→ (fun E:Ents=>SR K K w w E E→Calls Tryz.prog 132 #[sl z y A,.func (.func 180) #[] #[.pointer (some ⟨gr,0,none⟩)]] w (Ret (fun Z Q=>∃Y,Z=iI B∧SR K Y w Q E E))) [.box bsr gr #[.pointer (some ⟨g,0,none⟩)] 206,.box bs g (aS j a k b l m n d o p e q r f s t h u v i x) 62]
def aqy(X:aaf→aae→ooF):Prop:=∀{K w g bs br i o p j k q r s t u l v x a d e y b f h z A gA bsA sA_0 sA_1 sA_2 sA_3 sA_4 sA_5 sA_6 AsA_6 csA_6 sA_7 AsA_7 csA_7 sA_8 AsA_8 csA_8 sA_9 AsA_9 csA_9 sA_10 AsA_10 csA_10 L},X (aaf.mk (aaa.mk i) (aab.mk j k s t u l) a b A) (aae.mk sA_0 sA_1 sA_2 sA_3 sA_4 sA_5 sA_6 sA_7 sA_8 sA_9 sA_10)=some L→GK K→tF K o p i→j.size≤mB→tP K q r k→tS K v x l→Reps RStr 1 a y→a.length*16≤mB→StkR kS VInt b z→b.length*8≤mB→br≤(zz w)→sA_1.size≤mB→sA_3.size≤mB→tE K AsA_6 csA_6 sA_6→tS K AsA_7 csA_7 sA_7→tS K AsA_8 csA_8 sA_8→tS K AsA_9 csA_9 sA_9→tC K AsA_10 csA_10 sA_10→ (fun E:Ents=>SR K K w w E E→Calls Tryz.prog 163 #[.pointer (some ⟨g,0,none⟩),.pointer (some ⟨gA,0,none⟩)] w (RetP (fun v_ w_=>∃B C D I J N G m n O zA_0 zA_1 zA_2 zA_3 zA_4 zA_5 zA_6 zA_7 zA_8 zA_9 zA_10 Q Z S T Y U V q0 x0 z0 y0 H F AzA_6 czA_6 AzA_7 czA_7 AzA_8 czA_8 AzA_9 czA_9 AzA_10 czA_10,L=.ok ((aaf.mk (aaa.mk B) (aab.mk C D I J N G) m n O),(aae.mk zA_0 zA_1 zA_2 zA_3 zA_4 zA_5 zA_6 zA_7 zA_8 zA_9 zA_10))∧v_=.tuple #[]∧SR K Q w w_ E [.box bs g (aR Z B S C T D Y I J N U G V q0 m x0 y0 n H O) 176,eW br q0 m x0 9 1 z0,eK br y0 n H 173 F,.box bsA gA (aS zA_0 zA_1 zA_2 zA_3 zA_4 zA_5 AzA_6 zA_6 czA_6 AzA_7 zA_7 czA_7 AzA_8 zA_8 czA_8 AzA_9 zA_9 czA_9 AzA_10 zA_10 czA_10) 62]∧tF Q Z S B∧C.size≤mB∧tP Q T Y D∧tS Q U V G∧Reps RStr 1 m z0∧m.length*16≤mB∧StkR kS VInt n F∧n.length*8≤mB∧zA_1.size≤mB∧zA_3.size≤mB∧tE Q AzA_6 czA_6 zA_6∧tS Q AzA_7 czA_7 zA_7∧tS Q AzA_8 czA_8 zA_8∧tS Q AzA_9 czA_9 zA_9∧tC Q AzA_10 czA_10 zA_10) (fun v_ w_=>∃c_ Q,L=.error c_∧v_=.iface 140 (.agg #[iI c_])∧SR K Q w w_ E []))) [.box bs g (aR o i p j q k r s t u v l x d a e f b h A) 176,eW br d a e 9 1 y,eK br f b h 173 z,.box bsA gA (aS sA_0 sA_1 sA_2 sA_3 sA_4 sA_5 AsA_6 sA_6 csA_6 AsA_7 sA_7 csA_7 AsA_8 sA_8 csA_8 AsA_9 sA_9 csA_9 AsA_10 sA_10 csA_10) 62]
def abY(X:aaf→aae→ooF):Prop:=∀{K w g bs br i o p j k q r s t u l v x a d e y b f h z A I J F},X (aaf.mk (aaa.mk i) (aab.mk j k s t u l) a b A) I=some F→GK K→tF K o p i→j.size≤mB→tP K q r k→tS K v x l→Reps RStr 1 a y→a.length*16≤mB→StkR kS VInt b z→b.length*8≤mB→br≤(zz w)→aag K I J→ (fun E:Ents=>SR K K w w E E→Calls Tryz.prog 134 #[.pointer (some ⟨g,0,none⟩),.agg J.toArray] w (RetP (fun v_ w_=>∃B C D N O S G m n U V K_ Y H L Q T Z x0 t0 u0 v0 y0 z0 s0,F=.ok ((aaf.mk (aaa.mk B) (aab.mk C D N O S G) m n U),V)∧v_=.agg s0.toArray∧SR K K_ w w_ E [.box bs g (aR Y B H C L D Q N O S T G Z x0 m t0 v0 n y0 U) 176,eW br x0 m t0 9 1 u0,eK br v0 n y0 173 z0]∧tF K_ Y H B∧C.size≤mB∧tP K_ L Q D∧tS K_ T Z G∧Reps RStr 1 m u0∧m.length*16≤mB∧StkR kS VInt n z0∧n.length*8≤mB∧aag K_ V s0) (fun v_ w_=>∃c_ K_,F=.error c_∧v_=.iface 140 (.agg #[iI c_])∧SR K K_ w w_ E []))) [.box bs g (aR o i p j q k r s t u v l x d a e f b h A) 176,eW br d a e 9 1 y,eK br f b h 173 z]
def aba(X:aaf→BA→LS→aap→ooM):Prop:=∀{K w g bs br i o p j k q r s t u l v x a d e y b f h z A B C O S gA bsA sA_0 sA_1 sA_2 sA_3 AsA_3 csA_3 sA_4 AsA_4 csA_4 y0},X (aaf.mk (aaa.mk i) (aab.mk j k s t u l) a b A) B C (aap.mk sA_0 sA_1 sA_2 sA_3 sA_4)=some y0→GK K→tF K o p i→j.size≤mB→tP K q r k→tS K v x l→Reps RStr 1 a y→a.length*16≤mB→StkR kS VInt b z→b.length*8≤mB→br≤(zz w)→B.size≤mB→tS K O S C→sA_1.size≤mB→tE K AsA_3 csA_3 sA_3→tS K AsA_4 csA_4 sA_4→ (fun E:Ents=>SR K K w w E E→Calls Tryz.prog 162 #[.pointer (some ⟨g,0,none⟩),.string B,sl O C S,.pointer (some ⟨gA,2,none⟩)] w (RetP (fun v_ w_=>∃D G I U V W J m n Y zA_0 zA_1 zA_2 zA_3 zA_4 N Q L T q0 F Z H s0 v0 t0 x0 z0 u0 AzA_3 czA_3 AzA_4 czA_4 p0 m0,y0=.ok ((aaf.mk (aaa.mk D) (aab.mk G I U V W J) m n Y),(aap.mk zA_0 zA_1 zA_2 zA_3 zA_4),N)∧v_=sl p0 N m0∧SR K Q w w_ E [.box bs g (aR L D T G q0 I F U V W Z J H s0 m v0 x0 n z0 Y) 176,eW br s0 m v0 9 1 t0,eK br x0 n z0 173 u0,.box bsA gA (aC' zA_0 zA_1 zA_2 AzA_3 zA_3 czA_3 AzA_4 zA_4 czA_4) 84]∧tF Q L T D∧G.size≤mB∧tP Q q0 F I∧tS Q Z H J∧Reps RStr 1 m t0∧m.length*16≤mB∧StkR kS VInt n u0∧n.length*8≤mB∧zA_1.size≤mB∧tE Q AzA_3 czA_3 zA_3∧tS Q AzA_4 czA_4 zA_4∧tS Q p0 m0 N) (fun v_ w_=>∃c_ Q,y0=.error c_∧v_=.iface 140 (.agg #[iI c_])∧SR K Q w w_ E []))) [.box bs g (aR o i p j q k r s t u v l x d a e f b h A) 176,eW br d a e 9 1 y,eK br f b h 173 z,.box bsA gA (aC' sA_0 sA_1 sA_2 AsA_3 sA_3 csA_3 AsA_4 sA_4 csA_4) 84]
def aa9(X:aaf→BA→LS→aae→ooG):Prop:=∀{K w g bs br i o p j k q r s t u l v x a d e y b f h z A B C O S gA bsA sA_0 sA_1 sA_2 sA_3 sA_4 sA_5 sA_6 AsA_6 csA_6 sA_7 AsA_7 csA_7 sA_8 AsA_8 csA_8 sA_9 AsA_9 csA_9 sA_10 AsA_10 csA_10 y0},X (aaf.mk (aaa.mk i) (aab.mk j k s t u l) a b A) B C (aae.mk sA_0 sA_1 sA_2 sA_3 sA_4 sA_5 sA_6 sA_7 sA_8 sA_9 sA_10)=some y0→GK K→tF K o p i→j.size≤mB→tP K q r k→tS K v x l→Reps RStr 1 a y→a.length*16≤mB→StkR kS VInt b z→b.length*8≤mB→br≤(zz w)→B.size≤mB→tS K O S C→sA_1.size≤mB→sA_3.size≤mB→tE K AsA_6 csA_6 sA_6→tS K AsA_7 csA_7 sA_7→tS K AsA_8 csA_8 sA_8→tS K AsA_9 csA_9 sA_9→tC K AsA_10 csA_10 sA_10→ (fun E:Ents=>SR K K w w E E→Calls Tryz.prog 162 #[.pointer (some ⟨g,0,none⟩),.string B,sl O C S,.pointer (some ⟨gA,2,none⟩)] w (RetP (fun v_ w_=>∃D G I U V W J m n Y zA_0 zA_1 zA_2 zA_3 zA_4 zA_5 zA_6 zA_7 zA_8 zA_9 zA_10 N Q L T q0 F Z H s0 v0 t0 x0 z0 u0 AzA_6 czA_6 AzA_7 czA_7 AzA_8 czA_8 AzA_9 czA_9 AzA_10 czA_10 p0 m0,y0=.ok ((aaf.mk (aaa.mk D) (aab.mk G I U V W J) m n Y),(aae.mk zA_0 zA_1 zA_2 zA_3 zA_4 zA_5 zA_6 zA_7 zA_8 zA_9 zA_10),N)∧v_=sl p0 N m0∧SR K Q w w_ E [.box bs g (aR L D T G q0 I F U V W Z J H s0 m v0 x0 n z0 Y) 176,eW br s0 m v0 9 1 t0,eK br x0 n z0 173 u0,.box bsA gA (aS zA_0 zA_1 zA_2 zA_3 zA_4 zA_5 AzA_6 zA_6 czA_6 AzA_7 zA_7 czA_7 AzA_8 zA_8 czA_8 AzA_9 zA_9 czA_9 AzA_10 zA_10 czA_10) 62]∧tF Q L T D∧G.size≤mB∧tP Q q0 F I∧tS Q Z H J∧Reps RStr 1 m t0∧m.length*16≤mB∧StkR kS VInt n u0∧n.length*8≤mB∧zA_1.size≤mB∧zA_3.size≤mB∧tE Q AzA_6 czA_6 zA_6∧tS Q AzA_7 czA_7 zA_7∧tS Q AzA_8 czA_8 zA_8∧tS Q AzA_9 czA_9 zA_9∧tC Q AzA_10 czA_10 zA_10∧tS Q p0 m0 N) (fun v_ w_=>∃c_ Q,y0=.error c_∧v_=.iface 140 (.agg #[iI c_])∧SR K Q w w_ E []))) [.box bs g (aR o i p j q k r s t u v l x d a e f b h A) 176,eW br d a e 9 1 y,eK br f b h 173 z,.box bsA gA (aS sA_0 sA_1 sA_2 sA_3 sA_4 sA_5 AsA_6 sA_6 csA_6 AsA_7 sA_7 csA_7 AsA_8 sA_8 csA_8 AsA_9 sA_9 csA_9 AsA_10 sA_10 csA_10) 62]
def aa5(X:aaf→BA→LS→ooK):Prop:=∀{K w g bs br i o p j k q r s t u l v x a d e y b f h z A B C O S y0},X (aaf.mk (aaa.mk i) (aab.mk j k s t u l) a b A) B C=some y0→GK K→tF K o p i→j.size≤mB→tP K q r k→tS K v x l→Reps RStr 1 a y→a.length*16≤mB→StkR kS VInt b z→b.length*8≤mB→br≤(zz w)→B.size≤mB→tS K O S C→ (fun E:Ents=>SR K K w w E E→Calls Tryz.prog 162 #[.pointer (some ⟨g,0,none⟩),.string B,sl O C S,.pointer none] w (RetP (fun v_ w_=>∃D G I U V W J m n Y N K_ T Z F H Q L s0 v0 t0 x0 z0 u0 p0 m0,y0=.ok ((aaf.mk (aaa.mk D) (aab.mk G I U V W J) m n Y),N)∧v_=sl p0 N m0∧SR K K_ w w_ E [.box bs g (aR T D Z G F I H U V W Q J L s0 m v0 x0 n z0 Y) 176,eW br s0 m v0 9 1 t0,eK br x0 n z0 173 u0]∧tF K_ T Z D∧G.size≤mB∧tP K_ F H I∧tS K_ Q L J∧Reps RStr 1 m t0∧m.length*16≤mB∧StkR kS VInt n u0∧n.length*8≤mB∧tS K_ p0 m0 N) (fun v_ w_=>∃c_ K_,y0=.error c_∧v_=.iface 140 (.agg #[iI c_])∧SR K K_ w w_ E []))) [.box bs g (aR o i p j q k r s t u v l x d a e f b h A) 176,eW br d a e 9 1 y,eK br f b h 173 z]
def aaZ(X:aaf→BA→LS→aae→ooG):Prop:=∀{K w g bs br i o p j k q r s t u l v x a d e y b f h z A B C O S gA bsA sA_0 sA_1 sA_2 sA_3 sA_4 sA_5 sA_6 AsA_6 csA_6 sA_7 AsA_7 csA_7 sA_8 AsA_8 csA_8 sA_9 AsA_9 csA_9 sA_10 AsA_10 csA_10 y0},X (aaf.mk (aaa.mk i) (aab.mk j k s t u l) a b A) B C (aae.mk sA_0 sA_1 sA_2 sA_3 sA_4 sA_5 sA_6 sA_7 sA_8 sA_9 sA_10)=some y0→GK K→tF K o p i→j.size≤mB→tP K q r k→tS K v x l→Reps RStr 1 a y→a.length*16≤mB→StkR kS VInt b z→b.length*8≤mB→br≤(zz w)→B.size≤mB→tS K O S C→sA_1.size≤mB→sA_3.size≤mB→tE K AsA_6 csA_6 sA_6→tS K AsA_7 csA_7 sA_7→tS K AsA_8 csA_8 sA_8→tS K AsA_9 csA_9 sA_9→tC K AsA_10 csA_10 sA_10→ (fun E:Ents=>SR K K w w E E→Calls Tryz.prog 164 #[.pointer (some ⟨g,0,none⟩),.string B,sl O C S,.pointer (some ⟨gA,2,none⟩)] w (RetP (fun v_ w_=>∃D G I U V W J m n Y zA_0 zA_1 zA_2 zA_3 zA_4 zA_5 zA_6 zA_7 zA_8 zA_9 zA_10 N Q L T q0 F Z H s0 v0 t0 x0 z0 u0 AzA_6 czA_6 AzA_7 czA_7 AzA_8 czA_8 AzA_9 czA_9 AzA_10 czA_10 p0 m0,y0=.ok ((aaf.mk (aaa.mk D) (aab.mk G I U V W J) m n Y),(aae.mk zA_0 zA_1 zA_2 zA_3 zA_4 zA_5 zA_6 zA_7 zA_8 zA_9 zA_10),N)∧v_=sl p0 N m0∧SR K Q w w_ E [.box bs g (aR L D T G q0 I F U V W Z J H s0 m v0 x0 n z0 Y) 176,eW br s0 m v0 9 1 t0,eK br x0 n z0 173 u0,.box bsA gA (aS zA_0 zA_1 zA_2 zA_3 zA_4 zA_5 AzA_6 zA_6 czA_6 AzA_7 zA_7 czA_7 AzA_8 zA_8 czA_8 AzA_9 zA_9 czA_9 AzA_10 zA_10 czA_10) 62]∧tF Q L T D∧G.size≤mB∧tP Q q0 F I∧tS Q Z H J∧Reps RStr 1 m t0∧m.length*16≤mB∧StkR kS VInt n u0∧n.length*8≤mB∧zA_1.size≤mB∧zA_3.size≤mB∧tE Q AzA_6 czA_6 zA_6∧tS Q AzA_7 czA_7 zA_7∧tS Q AzA_8 czA_8 zA_8∧tS Q AzA_9 czA_9 zA_9∧tC Q AzA_10 czA_10 zA_10∧tS Q p0 m0 N) (fun v_ w_=>∃c_ Q,y0=.error c_∧v_=.iface 140 (.agg #[iI c_])∧SR K Q w w_ E []))) [.box bs g (aR o i p j q k r s t u v l x d a e f b h A) 176,eW br d a e 9 1 y,eK br f b h 173 z,.box bsA gA (aS sA_0 sA_1 sA_2 sA_3 sA_4 sA_5 AsA_6 sA_6 csA_6 AsA_7 sA_7 csA_7 AsA_8 sA_8 csA_8 AsA_9 sA_9 csA_9 AsA_10 sA_10 csA_10) 62]
def aa6(X:aaf→BA→LS→ooK):Prop:=∀{K w g bs br i o p j k q r s t u l v x a d e y b f h z A B C O S y0},X (aaf.mk (aaa.mk i) (aab.mk j k s t u l) a b A) B C=some y0→GK K→tF K o p i→j.size≤mB→tP K q r k→tS K v x l→Reps RStr 1 a y→a.length*16≤mB→StkR kS VInt b z→b.length*8≤mB→br≤(zz w)→B.size≤mB→tS K O S C→ (fun E:Ents=>SR K K w w E E→Calls Tryz.prog 164 #[.pointer (some ⟨g,0,none⟩),.string B,sl O C S,.pointer none] w (RetP (fun v_ w_=>∃D G I U V W J m n Y N K_ T Z F H Q L s0 v0 t0 x0 z0 u0 p0 m0,y0=.ok ((aaf.mk (aaa.mk D) (aab.mk G I U V W J) m n Y),N)∧v_=sl p0 N m0∧SR K K_ w w_ E [.box bs g (aR T D Z G F I H U V W Q J L s0 m v0 x0 n z0 Y) 176,eW br s0 m v0 9 1 t0,eK br x0 n z0 173 u0]∧tF K_ T Z D∧G.size≤mB∧tP K_ F H I∧tS K_ Q L J∧Reps RStr 1 m t0∧m.length*16≤mB∧StkR kS VInt n u0∧n.length*8≤mB∧tS K_ p0 m0 N) (fun v_ w_=>∃c_ K_,y0=.error c_∧v_=.iface 140 (.agg #[iI c_])∧SR K K_ w w_ E []))) [.box bs g (aR o i p j q k r s t u v l x d a e f b h A) 176,eW br d a e 9 1 y,eK br f b h 173 z]
def alZ(X:aaa→aab→ooS):Prop:=∀{K w b d e f q},X b e=some q→GK K→aad K b d→aak K e f→ SR K K w w [] []→Calls Tryz.prog 104 #[.agg d.toArray,.agg f.toArray] w (RetP (fun u t=>∃g a y z x v,q=.ok (g,a)∧u=.tuple #[.agg z.toArray,sl x a v]∧SR K y w t [] []∧aak y g z∧RSl BA RStr 1 16 y x v a) (fun u t=>∃s y,q=.error s∧u=.iface 140 (.agg #[iI s])∧SR K y w t [] []))
def ajC(X:aaa→Option (Except Int (aaa×(List LB)))):Prop:=∀(K:KH) (w:World) (b:aaa) (d:List Value) (q:(Except Int (aaa×(List LB)))),X b=some q→GK K→aad K b d→ SR K K w w [] []→Calls Tryz.prog 72 #[.agg d.toArray] w (RetP (fun u t=>∃e a y z x v,q=.ok (e,a)∧u=.tuple #[.agg z.toArray,sl x a v]∧SR K y w t [] []∧aad y e z∧RSl LB (RSlE BA (fun K=>RStr) 1 16 y) 1 24 y x v a) (fun u t=>∃s y,q=.error s∧u=.iface 140 (.agg #[iI s])∧SR K y w t [] []))
def aj9(X:aaa→aaa→ooR):Prop:=∀{K w g bs a b d gA bsA sA_0 AsA_0 csA_0 q},X (aaa.mk a) (aaa.mk sA_0)=some q→GK K→tF K b d a→tF K AsA_0 csA_0 sA_0→ (fun E:Ents=>SR K K w w E E→Calls Tryz.prog 71 #[.pointer (some ⟨g,0,none⟩),.pointer (some ⟨gA,0,none⟩)] w (RetP (fun v u=>∃e zA_0 x z y AzA_0 czA_0,q=.ok ((aaa.mk e),(aaa.mk zA_0))∧v=.tuple #[]∧SR K x w u E [.box bs g #[sl z e y] 24,.box bsA gA #[sl AzA_0 zA_0 czA_0] 24]∧tF x z y e∧tF x AzA_0 czA_0 zA_0) (fun v u=>∃t x,q=.error t∧v=.iface 140 (.agg #[iI t])∧SR K x w u E E))) [.box bs g #[sl b a d] 24,.box bsA gA #[sl AsA_0 sA_0 csA_0] 24]
def afM(X:aaa→aaa→ooV):Prop:=∀{K w g bs a b d gA bsA sA_0 AsA_0 csA_0 e zA_0 f},X (aaa.mk a) (aaa.mk sA_0)=some ((aaa.mk e),(aaa.mk zA_0),f)→GK K→tF K b d a→tF K AsA_0 csA_0 sA_0→ (fun E:Ents=>SR K K w w E E→Calls Tryz.prog 68 #[.func (.func 71) #[] #[.pointer (some ⟨g,0,none⟩),.pointer (some ⟨gA,0,none⟩)]] w (Ret (fun x v=>∃z y q AzA_0 czA_0,x=iI f∧SR K z w v E [.box bs g #[sl y e q] 24,.box bsA gA #[sl AzA_0 zA_0 czA_0] 24]∧tF z y q e∧tF z AzA_0 czA_0 zA_0))) [.box bs g #[sl b a d] 24,.box bsA gA #[sl AsA_0 sA_0 csA_0] 24]
def arT(X:aaa→ooI):Prop:=∀{K w a b d e},X a=some (d,e)→GK K→aad K a b→ SR K K w w [] []→Calls Tryz.prog 47 #[.agg b.toArray] w (Ret (fun x z=>∃y q,x=.tuple #[.agg q.toArray,iI e]∧SR K y w z [] []∧aad y d q))
def att(X:Option (List (Int×aaw))):Prop:=∀{K w a},X =some a→GK K→ SR K K w w [] []→Calls Tryz.prog 56 #[] w (Ret (fun x z=>∃y br0 er0 q,x=.map (some br0)∧SR K y w z [] [.mp (zz w) br0 er0 q]∧MapR kI (VAgg (aal y)) a er0.toList))
def asY(X:(List Int)→Int→ooC):Prop:=∀{K w a b d e f},X a e=some f→GK K→RSl Int (RInt .i64) 1 8 K b d a→ SR K K w w [] []→Calls Tryz.prog 83 #[sl b a d,iI e] w (Ret (fun z q=>∃y,z=iI f∧SR K y w q [] []))
def asB(X:(List Int)→Int→ooA):Prop:=∀{K w a b d e f},X a e=some f→GK K→RSl Int (RInt .i64) 1 8 K b d a→ SR K K w w [] []→Calls Tryz.prog 57 #[sl b a d,iI e] w (Ret (fun z q=>∃y,z=.bool f∧SR K y w q [] []))
def afC(X:aah→(List Int)→ooC):Prop:=∀{K w b d a e f g},X b a=some g→GK K→aai K b d→RSl Int (RInt .i64) 1 8 K e f a→ SR K K w w [] []→Calls Tryz.prog 33 #[.agg d.toArray,sl e a f] w (Ret (fun z q=>∃y,z=iI g∧SR K y w q [] []))
def aoZ(X:aau→LE→(List Int)→ooA):Prop:=∀{K w g bs br e j k f h l m n o p i q r a b d s t v x u y z A},X (aau.mk (aaa.mk e) (aab.mk f h n o p i) a) t u=some A→GK K→tF K j k e→f.size≤mB→tP K l m h→tS K q r i→Reps (RInt .i64) 1 a s→a.length*8≤mB→br≤(zz w)→tE K v x t→RSl Int (RInt .i64) 1 8 K y z u→ (fun E:Ents=>SR K K w w E E→Calls Tryz.prog 105 #[.pointer (some ⟨g,0,none⟩),sl v t x,sl y u z] w (Ret (fun Z Q=>∃Y,Z=.bool A∧SR K Y w Q E E))) [.box bs g #[sl j e k,.string f,sl l h m,iI n,.bool o,iI p,sl q i r,sl b a d] 87,eW br b a d 3 1 s]
def apw(X:Option (List (Int×(List Int)))):Prop:=∀{K w a},X =some a→GK K→ SR K K w w [] []→Calls Tryz.prog 106 #[] w (Ret (fun x z=>∃y br0 er0 q,x=.map (some br0)∧SR K y w z [] [.mp (zz w) br0 er0 q]∧MapR kI (VSl Int (RInt .i64) 1 8 y) a er0.toList))
def aeE(X:aau→LS→ooE):Prop:=∀{K w g bs br f k l h i m n o p q j r s a b d t u A B v x y C D G z e I},X (aau.mk (aaa.mk f) (aab.mk h i o p q j) a) u=some ((aau.mk (aaa.mk v) (aab.mk x y C D G z) e),I)→GK K→tF K k l f→h.size≤mB→tP K m n i→tS K r s j→Reps (RInt .i64) 1 a t→a.length*8≤mB→br≤(zz w)→tS K A B u→ (fun E:Ents=>SR K K w w E E→Calls Tryz.prog 48 #[.pointer (some ⟨g,0,none⟩),sl A u B] w (Ret (fun J H=>∃L Y T U Q V Z S N O,J=.bool I∧SR K L w H E [.box bs g #[sl Y v T,.string x,sl U y Q,iI C,.bool D,iI G,sl V z Z,sl S e N] 87,eW br S e N 3 1 O]∧tF L Y T v∧x.size≤mB∧tP L U Q y∧tS L V Z z∧Reps (RInt .i64) 1 e O∧e.length*8≤mB))) [.box bs g #[sl k f l,.string h,sl m i n,iI o,.bool p,iI q,sl r j s,sl b a d] 87,eW br b a d 3 1 t]
def aeC(X:aau→aae→ooE):Prop:=∀{K w g bs br f k l h i m n o p q j r s a b d t z A u v x B C D y e G},X (aau.mk (aaa.mk f) (aab.mk h i o p q j) a) z=some ((aau.mk (aaa.mk u) (aab.mk v x B C D y) e),G)→GK K→tF K k l f→h.size≤mB→tP K m n i→tS K r s j→Reps (RInt .i64) 1 a t→a.length*8≤mB→br≤(zz w)→aag K z A→ (fun E:Ents=>SR K K w w E E→Calls Tryz.prog 73 #[.pointer (some ⟨g,0,none⟩),.agg A.toArray] w (Ret (fun J I=>∃L Y T U Q V Z S N O,J=.bool G∧SR K L w I E [.box bs g #[sl Y u T,.string v,sl U x Q,iI B,.bool C,iI D,sl V y Z,sl S e N] 87,eW br S e N 3 1 O]∧tF L Y T u∧v.size≤mB∧tP L U Q x∧tS L V Z y∧Reps (RInt .i64) 1 e O∧e.length*8≤mB))) [.box bs g #[sl k f l,.string h,sl m i n,iI o,.bool p,iI q,sl r j s,sl b a d] 87,eW br b a d 3 1 t]
def atd(X:aaa→ooH):Prop:=∀{K w b d e a f},X b=some (e,a,f)→GK K→aad K b d→ SR K K w w [] []→Calls Tryz.prog 26 #[.agg d.toArray] w (Ret (fun v u=>∃y q z x,v=.tuple #[.agg q.toArray,sl z a x,iI f]∧SR K y w u [] []∧aad y e q∧RSl (List Int) (RSlE Int (fun K=>(RInt .i64)) 1 8 y) 1 24 y z x a))
def asO(X:aaa→Int→ooP):Prop:=∀{K w b d e a f},X b e=some (a,f)→GK K→aad K b d→ SR K K w w [] []→Calls Tryz.prog 17 #[.agg d.toArray,iI e] w (Ret (fun x v=>∃z y q,x=.tuple #[sl y a q,iI f]∧SR K z w v [] []∧RSl Int (RInt .i64) 1 8 z y q a))
def asJ(X:aaa→Int→ooh):Prop:=∀{K w a b d e f},X a d=some (e,f)→GK K→aad K a b→ SR K K w w [] []→Calls Tryz.prog 18 #[.agg b.toArray,iI d] w (Ret (fun z q=>∃y,z=.tuple #[.bool e,iI f]∧SR K y w q [] []))
def asi(X:(List Int)→(List Int)→ooA):Prop:=∀{K w a d e b f g h},X a b=some h→GK K→RSl Int (RInt .i64) 1 8 K d e a→RSl Int (RInt .i64) 1 8 K f g b→ SR K K w w [] []→Calls Tryz.prog 19 #[sl d a e,sl f b g] w (Ret (fun z q=>∃y,z=.bool h∧SR K y w q [] []))
def ar4(X:aaa→Int→oog):Prop:=∀{K w b d e a},X b e=some a→GK K→aad K b d→ SR K K w w [] []→Calls Tryz.prog 20 #[.agg d.toArray,iI e] w (Ret (fun x v=>∃z y q,x=sl y a q∧SR K z w v [] []∧RSl Int (RInt .i64) 1 8 z y q a))
def afl(X:LE→Int→ooC):Prop:=∀{K w a b d e f},X a e=some f→GK K→tE K b d a→ SR K K w w [] []→Calls Tryz.prog 45 #[sl b a d,iI e] w (Ret (fun z q=>∃y,z=iI f∧SR K y w q [] []))
def afi(X:LS→Int→ooC):Prop:=∀{K w a b d e f},X a e=some f→GK K→tS K b d a→ SR K K w w [] []→Calls Tryz.prog 24 #[sl b a d,iI e] w (Ret (fun z q=>∃y,z=iI f∧SR K y w q [] []))
def au3(X:aaa→ooA):Prop:=∀{K w a b d},X a=some d→GK K→aad K a b→ SR K K w w [] []→Calls Tryz.prog 8 #[.agg b.toArray] w (Ret (fun z q=>∃y,z=.bool d∧SR K y w q [] []))
def asd(X:aaa→ooI):Prop:=∀{K w a b d e},X a=some (d,e)→GK K→aad K a b→ SR K K w w [] []→Calls Tryz.prog 10 #[.agg b.toArray] w (Ret (fun x z=>∃y q,x=.tuple #[.agg q.toArray,iI e]∧SR K y w z [] []∧aad y d q))
def asr(X:Int→ooA):Prop:=∀{K w a b},X a=some b→GK K→ SR K K w w [] []→Calls Tryz.prog 30 #[iI a] w (Ret (fun z q=>∃y,z=.bool b∧SR K y w q [] []))
def ajd(X:(List Int)→ooC):Prop:=∀{K w a b d e},X a=some e→GK K→RSl Int (RInt .i64) 1 8 K b d a→ SR K K w w [] []→Calls Tryz.prog 52 #[sl b a d,.func (.func 30) #[] #[]] w (Ret (fun z q=>∃y,z=iI e∧SR K y w q [] []))
def ajO(X:(List Int)→ooA):Prop:=∀{K w a b d e},X a=some e→GK K→RSl Int (RInt .i64) 1 8 K b d a→ SR K K w w [] []→Calls Tryz.prog 29 #[sl b a d,.func (.func 30) #[] #[]] w (Ret (fun z q=>∃y,z=.bool e∧SR K y w q [] []))
def as4(X:aah→Bool→ooA):Prop:=∀{K w a b d e},X a d=some e→GK K→aai K a b→ SR K K w w [] []→Calls Tryz.prog 31 #[.agg b.toArray,.bool d] w (Ret (fun z q=>∃y,z=.bool e∧SR K y w q [] []))
def acw(X:aah→Int→ooA):Prop:=∀{K w a b d e},X a d=some e→GK K→aai K a b→ SR K K w w [] []→Calls Tryz.prog 32 #[.agg b.toArray,iI d] w (Ret (fun z q=>∃y,z=.bool e∧SR K y w q [] []))
def aaY(X:LE→Int→ooA):Prop:=∀{K w a b d g bs s e},X a s=some e→GK K→tE K b d a→ (fun E:Ents=>SR K K w w E E→Calls Tryz.prog 54 #[sl b a d,.func (.func 55) #[] #[.pointer (some ⟨g,0,none⟩)]] w (Ret (fun z q=>∃y,z=.bool e∧SR K y w q E E))) [.box bs g #[iI s] 3]
def aa2(X:aah→Int→ooA):Prop:=∀{K w a b g bs s d},X a s=some d→GK K→aai K a b→ (fun E:Ents=>SR K K w w E E→Calls Tryz.prog 55 #[.agg b.toArray,.pointer (some ⟨g,0,none⟩)] w (Ret (fun z q=>∃y,z=.bool d∧SR K y w q E E))) [.box bs g #[iI s] 3]
def aa3(X:LE→Unit→Int→ooA):Prop:=∀{K w a b d g bs gA bsA sA e},X a () sA=some e→GK K→tE K b d a→ (fun E:Ents=>SR K K w w E E→Calls Tryz.prog 81 #[sl b a d,.func (.func 82) #[] #[.pointer (some ⟨g,0,none⟩)]] w (Ret (fun z q=>∃y,z=.bool e∧SR K y w q E E))) [.box bs g #[.func (.func 55) #[] #[.pointer (some ⟨gA,0,none⟩)]] 74,.box bsA gA #[iI sA] 3]
def aa7(X:aah→Unit→Int→ooA):Prop:=∀{K w a b g bs gA bsA sA d},X a () sA=some d→GK K→aai K a b→ (fun E:Ents=>SR K K w w E E→Calls Tryz.prog 82 #[.agg b.toArray,.pointer (some ⟨g,0,none⟩)] w (Ret (fun z q=>∃y,z=.bool d∧SR K y w q E E))) [.box bs g #[.func (.func 55) #[] #[.pointer (some ⟨gA,0,none⟩)]] 74,.box bsA gA #[iI sA] 3]
def aa1(X:LE→Unit→Int→ooC):Prop:=∀{K w a b d g bs gA bsA sA e},X a () sA=some e→GK K→tE K b d a→ (fun E:Ents=>SR K K w w E E→Calls Tryz.prog 113 #[sl b a d,.func (.func 82) #[] #[.pointer (some ⟨g,0,none⟩)]] w (Ret (fun z q=>∃y,z=iI e∧SR K y w q E E))) [.box bs g #[.func (.func 55) #[] #[.pointer (some ⟨gA,0,none⟩)]] 74,.box bsA gA #[iI sA] 3]
def asV(X:aah→(List Int)→Option (Int×Int)):Prop:=∀{K w b d a e f g h},X b a=some (g,h)→GK K→aai K b d→RSl Int (RInt .i64) 1 8 K e f a→ SR K K w w [] []→Calls Tryz.prog 13 #[.agg d.toArray,sl e a f] w (Ret (fun z q=>∃y,z=.tuple #[iI g,iI h]∧SR K y w q [] []))
def asE(X:LS→ooQ):Prop:=∀{K w a b d e},X a=some e→GK K→tS K b d a→ SR K K w w [] []→Calls Tryz.prog 25 #[sl b a d] w (Ret (fun x z=>∃y q,x=.agg q.toArray∧SR K y w z [] []∧aad y e q))
def awq(X:ooA):Prop:=∀{K w a},X =some a→GK K→ SR K K w w [] []→Calls Tryz.prog 9 #[] w (Ret (fun z q=>∃y,z=.bool a∧SR K y w q [] []))
def awh(X:aaa→Int→ooA):Prop:=∀{K w a b d e},X a d=some e→GK K→aad K a b→ SR K K w w [] []→Calls Tryz.prog 6 #[.agg b.toArray,iI d] w (Ret (fun z q=>∃y,z=.bool e∧SR K y w q [] []))
end Go.Proofs.YtphdlngnegjgcaaGreatDoor
set_option maxRecDepth 100000
set_option maxHeartbeats 20000000
namespace Go.Proofs.YtphdlngnegjgcaaGreatDoor
open Go
theorem ao7(k:Nat)(F:am8)(IH121:aes F.f121):aes (aqf k F):=by
 intro K wi u ao ap aq h hG z O;obtain⟨r_,n,h⟩:=rz h;refine en 25 Tryz.func121 rfl ?_;unfold aqf at h;refine gd 17 ?_;have A:=O.row_ (zz wi) 35 5;refine wl A (fun j m g_=>∃B f b,∃(d:Nat),∃a g l v,g_=b.length∧j B [0] [(3,sl g a l),(4,iI (d:Int))]∧KH.sub K f∧m f [] [eW (zz wi) g a l 35 5 v]∧u.drop d=b∧Reps (aai f) 5 a v∧a.length*64≤mB∧ae6 k F b d a=some r_) u.length ?_ ?_
 ·exact⟨_,K,u,0,([]:LE),none,0,[],rfl,fK,kr,A,List.drop_zero,abo (R:=(aai K)) (size:=5),(by simp),h⟩
 ·rintro _ _ S⟨B,f,b,d,a,g,l,v,rfl,rfl,o,x,e,C,U,h⟩;rcases b with _|⟨⟨p,q,r,s,ar⟩,b⟩
  ·refine gd 6<|cNl e<|go 15 ?_;obtain⟨V,W,au,X⟩:=abD (i:=0) (bytes:=64) (R:=fun K=>(aai K)) x rfl (Nat.le_refl _) C U (fun hs=>(fun _ _ h=>aai.mono hs h));cases oj h n;exact rt1 ⟨V,g,l,rfl,W,X⟩
  ·refine gd 6<|cCl e<|go 11<|eN x (me z o) e aai.open ?_;rintro av aw ax ay az aA⟨aB,aG,rfl,Y,Z⟩;refine gR 8 [0,4,1] [[iI 0,iI 0,sE,iI 0,nS]] x (fun aH aI D=>cB h (fun _ ab=>IH121 ab (hG.mono o) Z<|pt D) ?_);rintro t _ aK⟨G,ac,ad,rfl,y,ae⟩ h;have af:=ca y D;refine gR 8 [4,0,0,0,5,35] [] af (fun aL aM ai=>aJ h 2 0 ai rfl rfl (C.mono (fun _ _ h=>aai.mono y.sub h)) (aai.intro Y ae) ?_);rintro I J N aj ak al am h;have an:=p12 ak;exact go 6<|iCl e ((me z o).len)<|go 3 ⟨_,Nat.lt_succ_self _,_,G,b,d+1,a++[(aah.mk p q r s t)],I,J,N,rfl,fK,o.trans y.sub,an.sel [1],aac e,al,aav am,h⟩
theorem aoX(k0:Nat) : ∀k,aes (agC k0 k).f121:=by
 intro k;induction k with
 | zero=>simp[aes,agC]
 | succ k ih=>exact ao7 k0 (agC k0 k) ih
theorem aqI(k:Nat):aes (f121 k):=(aoX k k)
theorem atr(k:Nat)(F:aqN)(IH89:afr F.f89):afr (awe k F):=by
 intro K wi ak b6 b7 b8 h hG az a7;obtain⟨r_,n,h⟩:=rz h;refine en 66 Tryz.func89 rfl ?_;unfold awe at h;refine gd 17 ?_;have aA:=a7.row_ (zz wi) 62 11;refine wl aA (fun j m g_=>∃aB X p,∃(C:Nat),∃a D G N,g_=p.length∧j aB [0] [(3,sl D a G),(4,iI (C:Int))]∧KH.sub K X∧m X [] [eW (zz wi) D a G 62 11 N]∧ak.drop C=p∧Reps (aag X) 11 a N∧a.length*184≤mB∧agF k F p C a=some r_) ak.length ?_ ?_
 ·exact⟨_,K,ak,0,([]:LS),none,0,[],rfl,fK,kr,aA,List.drop_zero,abo (R:=(aag K)) (size:=11),(by simp),h⟩
 ·rintro _ _ al⟨aB,X,p,C,a,D,G,N,rfl,rfl,o,am,O,aG,a8,h⟩;rcases p with _|⟨⟨q,r,s,t,u,v,b9,cb,cc,ce,S⟩,p⟩
  ·refine gd 6<|cNl O<|go 15 ?_;obtain⟨a9,ba,cf,bb⟩:=abD (i:=0) (bytes:=184) (R:=fun K=>(aag K)) am rfl (Nat.le_refl _) aG a8 (fun hs=>(fun _ _ h=>aag.mono hs h));cases oj h n;exact rt1 ⟨a9,D,G,rfl,ba,bb⟩
  ·refine gd 6<|cCl O<|go 11<|eN am (ms az o) O aag.open ?_;rintro ch ci cj ck cl cm⟨cn,co,cq,cr,cs,ct,cu,cw,aH,aI,rfl,bd,be,bf,bg,bh,bi,aK⟩;refine gR 8 [0,6,1] [[iI 0,sE,iI 0,sE,iI 0,iI 0,nS,nS,nS,nS,nS]] am (fun cx cy aL=>cB h (fun _ bj=>(aqI k) bj (hG.mono o) bf<|pt aL) ?_);rintro x _ cz⟨cA,an,ao,rfl,d,bk⟩ h;have bm:=ca d aL;refine gR 8 [6,0,7,1] [] bm (fun cC aM=>cB h (fun _ bn=>IH89 bn (hG.mono<|o.trans d.sub) (ms bg d.sub)<|pt aM) ?_);rintro y _ cD⟨cG,ap,aq,rfl,e,bo⟩ h;have bp:=ca e aM;refine gR 8 [7,0,8,1] [] bp (fun cH aN=>cB h (fun _ bq=>IH89 bq (hG.mono<|(o.trans d.sub).trans e.sub) (ms bh<|d.sub.trans e.sub)<|pt aN) ?_);rintro z _ cI⟨cJ,ar,au,rfl,f,br⟩ h;have bs:=ca f aN;refine gR 8 [8,0,9,1] [] bs (fun cK aP=>cB h (fun _ bu=>IH89 bu (hG.mono<|((o.trans d.sub).trans e.sub).trans f.sub) (ms bi<|(d.sub.trans e.sub).trans f.sub)<|pt aP) ?_);rintro A _ cL⟨av,aw,ax,rfl,l,bv⟩ h;have bw:=ca l aP;refine gR 16 [9,0] [] bw (fun cM bx=>?_);have aT:=bx.row_ (zz wi) 84 5;refine wl aT (fun j m g_=>∃aU Y B,∃(U:Nat),∃b Z ab ay,g_=B.length∧j aU [0,3,4,5] [(6,sl Z b ab),(7,iI (U:Int))]∧KH.sub av Y∧m Y [] [.box (zz wi) (zz al) (aS q r s t u v an x ao ap y aq ar z au aw A ax aH S aI) 62,eW (zz wi) D a G 62 11 N,eW (zz wi) Z b ab 84 5 ay]∧S.drop U=B∧Reps (aar Y) 5 b ay∧b.length*80≤mB∧ais k F a C q r s t u v x y z A (agF k F p) B U b=some r_) S.length ?_ ?_
   ·exact⟨_,av,S,0,([]:LC),none,0,[],rfl,fK,kr,aT.sel [1,2,0],List.drop_zero,abo (R:=(aar av)) (size:=5),(by simp),h⟩
   ·rintro _ _ bz⟨aU,Y,B,U,b,Z,ab,ay,rfl,rfl,g,I,V,aV,bB,h⟩;rcases B with _|⟨⟨ac,ad,ae,cN,cO⟩,B⟩
    ·refine gD 7 [10,1] I<|cNl V<|gR 19 [10,0,0,0,11,62] [] I (fun cP cQ bD=>?_);obtain⟨aW,bE,J,bF⟩:=abD (i:=3) (bytes:=80) (R:=fun K=>(aar K)) bD rfl (Nat.le_refl _) aV bB (fun hs=>(fun _ _ h=>aar.mono hs h));refine aJ h 2 0 bE rfl rfl (aG.mono (fun _ _ h=>aag.mono (((((d.sub.trans e.sub).trans f.sub).trans l.sub).trans g).trans J) h)) (aag.intro bd be (me bk<|(((e.sub.trans f.sub).trans l.sub).trans g).trans J) (ms bo<|((f.sub.trans l.sub).trans g).trans J) (ms br<|(l.sub.trans g).trans J) (ms bv<|g.trans J) bF) ?_;rintro aX aY aZ bG bH bI bJ h;have bK:=p12 bH;exact go 6<|iCl O ((ms az o).len)<|go 3 ⟨_,Nat.lt_succ_self _,_,aW,p,C+1,a++[(aae.mk q r s t u v x y z A b)],aX,aY,aZ,rfl,fK,(((((o.trans d.sub).trans e.sub).trans f.sub).trans l.sub).trans g).trans J,bK.sel [1],aac O,bI,aav bJ,h⟩
    ·refine gD 7 [10,1] I<|cCl V<|gP 12 [10,1] I<|eN I (mc aK<|(((d.sub.trans e.sub).trans f.sub).trans l.sub).trans g) V aar.open ?_;rintro cR cS cU cV cW cY⟨cZ,c2,c3,c4,rfl,bL,bM,bP⟩;refine gR 8 [0,3,1] [[iI 0,sE,iI 0,nS,nS]] I (fun c5 c6 a1=>cB h (fun _ bQ=>(aqI k) bQ (hG.mono<|((((o.trans d.sub).trans e.sub).trans f.sub).trans l.sub).trans g) bM<|pt a1) ?_);rintro af _ c7⟨c8,bR,bS,rfl,W,bT⟩ h;have bU:=ca W a1;refine gR 8 [3,0,4,1] [] bU (fun c9 a2=>cB h (fun _ bV=>IH89 bV (hG.mono<|(((((o.trans d.sub).trans e.sub).trans f.sub).trans l.sub).trans g).trans W.sub) (ms bP W.sub)<|pt a2) ?_);rintro ai _ da⟨a3,bW,bX,rfl,aj,bY⟩ h;have bZ:=ca aj a2;refine gR 8 [4,0,0,0,5,84] [] bZ (fun db dc b0=>aJ h 4 0 b0 rfl rfl (aV.mono (fun _ _ h=>aar.mono (W.sub.trans aj.sub) h)) (aar.intro bL (me bT aj.sub) bY) ?_);rintro a4 a5 a6 b1 b2 b3 b4 h;have b5:=akF b2;exact go 6<|iCl V ((mc aK<|(((d.sub.trans e.sub).trans f.sub).trans l.sub).trans g).len)<|go 3 ⟨_,Nat.lt_succ_self _,_,a3,B,U+1,b++[(aap.mk ac ad ae af ai)],a4,a5,a6,rfl,fK,(g.trans W.sub).trans aj.sub,b5.sel [1,2,3],aac V,b3,aav b4,h⟩
theorem ar1(k0:Nat) : ∀k,afr (ajz k0 k).f89:=by
 intro k;induction k with
 | zero=>simp[afr,ajz]
 | succ k ih=>exact atr k0 (ajz k0 k) ih
theorem axZ(k:Nat):afr (f89 k):=(ar1 k k)
theorem axb(k:Nat):ato (f62 k):=by
 intro K wi Z aM aN h hG ab ac;obtain⟨r_,n,h⟩:=rz h;obtain⟨f⟩:=Z;obtain⟨B,c1,rfl,C⟩:=aad.open ab;refine en 37 Tryz.func62 rfl ?_;unfold f62 at h;refine gI 18 [] [[nS],[nS]] ac (fun D G aP ad=>?_);have I:=ad.row_ (zz wi) 52 6;refine wl I (fun j m g_=>∃J d b,∃(g:Nat),∃a l o r,g_=b.length∧j J [1,2,3] [(4,iI (g:Int))]∧KH.sub K d∧m d [] [.box (zz wi) (zz wi) #[sl B f c1] 24,.box (zz wi) (zz D) #[nS] 24,.box (zz wi) (zz G) #[sl l a o] 24,eW (zz wi) l a o 52 6 r]∧f.drop g=b∧Reps (aak d) 6 a r∧a.length*88≤mB∧ahn k b g a=some r_) f.length ?_ ?_
 ·exact⟨_,K,f,0,([]:LF),none,0,[],rfl,fK,kr,I.sel [3,2,1,0],List.drop_zero,abo (R:=(aak K)) (size:=6),(by simp),h⟩
 ·rintro _ _ ae⟨J,d,b,g,a,l,o,r,rfl,rfl,s,e,p,N,af,h⟩;rcases b with _|⟨⟨t,q,u,v,x,aT⟩,b⟩
  ·refine gD 7 [0,1] e<|cNl p<|gR 15 [0,2,1,1] [] e (fun aU O=>?_);cases oj h n;exact adq rfl (rNl 1 O rfl) ⟨d,l,o,r,rfl,O.sel [3],N,af⟩
  ·refine gD 7 [0,1] e<|cCl p<|gP 12 [0,1] e<|eN e (mf C s) p aak.open ?_;rintro aV aW aX aY aZ a1⟨a2,a3,a4,a5,rfl,ai,aj,ak⟩;refine gR 14 [0,1,1] [[sE,nS,iI 0,vN,iI 0,nS]] e (fun a6 a7 al=>?_);have am:=al.row_ (zz wi) 70 2;obtain⟨S,h⟩:=aaQ h;refine apS (R:=fun K=>aaz K) (zs:=q) (i:=0) am rfl av5 aw2 rfl (by decide) rfl rfl (abo (R:=(aaz d)) (size:=2)) aj (fun _ _ h=>aaz.one h) (Nat.le_refl _) S (by decide) (fun an ao a8 a9 ap aq=>gR 8 [1,1,5,2] [] ap (fun ba U=>cB h (fun _ ar=>(axZ k) ar (hG.mono s) ak<|pt U) ?_));rintro y _ bb⟨bd,au,av,rfl,z,aw⟩ h;have ax:=ca z U;refine gR 15 [5,1,0,5,0,1,6,52] [] ax (fun be bf ay=>?_);obtain⟨V,az,A,aA⟩:=abD (i:=1) (bytes:=24) (R:=fun K=>(aaz K)) ay rfl (Nat.le_refl _) (aq.mono (fun _ _ h=>aaz.mono z.sub h)) (aiY S) (fun hs=>(fun _ _ h=>aaz.mono hs h));refine aJ h 5 0 az rfl rfl (N.mono (fun _ _ h=>aak.mono (z.sub.trans A) h)) (aak.intro ai aA<|ms aw A) ?_;rintro W X Y aB aG aH aI h;have aK:=awX aG;exact gR 7 [0,3] [] aK (fun bg aL=>iCl p ((mf C s).len)<|go 3 ⟨_,Nat.lt_succ_self _,_,V,b,g+1,a++[(aab.mk t (([]:LP)++q) u v x y)],W,X,Y,rfl,fK,(s.trans z.sub).trans A,aL.sel [1,2,3,4],aac p,aH,aav aI,h⟩)
theorem asD(k:Nat)(F:asF)(IH90:afK F.f90):afK (auh k F):=by
 intro K wi t an ao ap h hG y N;obtain⟨r_,n,h⟩:=rz h;refine en 26 Tryz.func90 rfl ?_;unfold auh at h;refine gd 17 ?_;have z:=N.row_ (zz wi) 35 5;refine wl z (fun j m g_=>∃A f b,∃(d:Nat),∃a g l u,g_=b.length∧j A [0] [(3,sl g a l),(4,iI (d:Int))]∧KH.sub K f∧m f [] [eW (zz wi) g a l 35 5 u]∧t.drop d=b∧Reps (aai f) 5 a u∧a.length*64≤mB∧ahw k F b d a=some r_) t.length ?_ ?_
 ·exact⟨_,K,t,0,([]:LE),none,0,[],rfl,fK,kr,z,List.drop_zero,abo (R:=(aai K)) (size:=5),(by simp),h⟩
 ·rintro _ _ O⟨A,f,b,d,a,g,l,u,rfl,rfl,o,v,e,B,S,h⟩;rcases b with _|⟨⟨p,q,r,aq,ar⟩,b⟩
  ·refine gd 6<|cNl e<|go 15 ?_;obtain⟨U,V,au,W⟩:=abD (i:=0) (bytes:=64) (R:=fun K=>(aai K)) v rfl (Nat.le_refl _) B S (fun hs=>(fun _ _ h=>aai.mono hs h));cases oj h n;exact rt1 ⟨U,g,l,rfl,V,W⟩
  ·refine gd 6<|cCl e<|go 11<|eN v (me y o) e aai.open ?_;rintro av aw ax ay az aA⟨aB,aG,rfl,X,Y⟩;refine gR 14 [0,3,0,4,1] [[iI 0,iI 0,sE,iI 0,nS]] v (fun aH aI aK C=>cB h (fun _ Z=>IH90 Z (hG.mono o) Y<|pt C) ?_);rintro s _ aL⟨D,ab,ac,rfl,x,ad⟩ h;have ae:=ca x C;refine gR 8 [4,0,0,0,5,35] [] ae (fun aM aN af=>aJ h 2 0 af rfl rfl (B.mono (fun _ _ h=>aai.mono x.sub h)) (aai.intro X ad) ?_);rintro G I J ai aj ak al h;have am:=p12 aj;exact go 6<|iCl e ((me y o).len)<|go 3 ⟨_,Nat.lt_succ_self _,_,D,b,d+1,a++[(aah.mk p q r 0 s)],G,I,J,rfl,fK,o.trans x.sub,am.sel [1],aac e,ak,aav al,h⟩
theorem arX(k0:Nat) : ∀k,afK (akI k0 k).f90:=by
 intro k;induction k with
 | zero=>simp[afK,akI]
 | succ k ih=>exact asD k0 (akI k0 k) ih
theorem at0(k:Nat):afK (f90 k):=(arX k k)
theorem asK(k:Nat)(F:aqr)(IH63:afx F.f63):afx (avg k F):=by
 intro K wi af b6 b7 b8 h hG ay a5;obtain⟨r_,n,h⟩:=rz h;refine en 69 Tryz.func63 rfl ?_;unfold avg at h;refine gd 17 ?_;have az:=a5.row_ (zz wi) 62 11;refine wl az (fun j m g_=>∃aA V p,∃(A:Nat),∃a B C I,g_=p.length∧j aA [0] [(3,sl B a C),(4,iI (A:Int))]∧KH.sub K V∧m V [] [eW (zz wi) B a C 62 11 I]∧af.drop A=p∧Reps (aag V) 11 a I∧a.length*184≤mB∧agA k F p A a=some r_) af.length ?_ ?_
 ·exact⟨_,K,af,0,([]:LS),none,0,[],rfl,fK,kr,az,List.drop_zero,abo (R:=(aag K)) (size:=11),(by simp),h⟩
 ·rintro _ _ ai⟨aA,V,p,A,a,B,C,I,rfl,rfl,o,aj,J,aB,a6,h⟩;rcases p with _|⟨⟨q,r,b9,s,cb,t,cc,ce,cf,ch,N⟩,p⟩
  ·refine gd 6<|cNl J<|go 15 ?_;obtain⟨a7,a8,ci,a9⟩:=abD (i:=0) (bytes:=184) (R:=fun K=>(aag K)) aj rfl (Nat.le_refl _) aB a6 (fun hs=>(fun _ _ h=>aag.mono hs h));cases oj h n;exact rt1 ⟨a7,B,C,rfl,a8,a9⟩
  ·refine gd 6<|cCl J<|go 11<|eN aj (ms ay o) J aag.open ?_;rintro cj ck cl cm cn co⟨cq,cr,cs,ct,cu,cw,cx,cy,aG,aH,rfl,ba,bb,bd,be,bf,bg,aI⟩;refine gR 16 [0,2,0,4,0,6,1] [[iI 0,sE,iI 0,sE,iI 0,iI 0,nS,nS,nS,nS,nS]] aj (fun cz cA cC cD aK=>cB h (fun _ bh=>(at0 k) bh (hG.mono o) bd<|pt aK) ?_);rintro u _ cG⟨cH,ak,al,rfl,e,bi⟩ h;have bj:=ca e aK;refine gR 5 [6,0] [] bj (fun cI bk=>rB [10,12,14] bk (fun aL bm=>ah 6 [0,7,1,1,3,8,4,1,6,9,7,1] bm<|aQ 2 rfl<|cB h (fun _ bn=>IH63 bn (hG.mono<|o.trans e.sub) (ms be e.sub)<|pt aL) ?_));rintro v _ cJ⟨cK,am,an,rfl,b,bo⟩ h;have ao:=ca b aL;refine go 2<|wB (fwOf (is:=[0,1]) ao b.sub rfl) (fun bp=>ah 1 [9,7] bp<|aQ 5 rfl<|cB h (fun _ bq=>IH63 bq (hG.mono<|(o.trans e.sub).trans b.sub) (ms bf<|e.sub.trans b.sub)<|pt ao) ?_);rintro x _ cL⟨cM,ap,aq,rfl,f,br⟩ h;have ar:=ca f ao;refine go 2<|wB (fwOf (is:=[0,1]) ar (b.sub.trans f.sub) rfl) (fun cN=>aQ 8 rfl<|cB h (fun _ bs=>IH63 bs (hG.mono<|((o.trans e.sub).trans b.sub).trans f.sub) (ms bg<|(e.sub.trans b.sub).trans f.sub)<|pt ar) ?_);rintro y _ cO⟨au,av,aw,rfl,g,bu⟩ h;have aM:=ca g ar;refine go 2<|wB (fwOf (is:=[0,1]) aM ((b.sub.trans f.sub).trans g.sub) rfl) (fun cP=>aQ 10 rfl<|gR 3 [0] [] aM (fun cQ bv=>⟨hE 10,ag 1 [11,8] (hE 10)<|aQ 12 rfl<|gR 3 [0] [] bv (fun cR bw=>⟨hE 12,ag 1 [13,9] (hE 10)<|aQ 14 rfl<|gR 3 [0] [] bw (fun cS bx=>⟨hE 14,aD<|gx 13 ?_⟩)⟩)⟩));have aN:=bx.row_ (zz wi) 84 5;refine wl aN (fun j m g_=>∃aP W z,∃(O:Nat),∃d X Y ax,g_=z.length∧j aP [0,3,4,5] [(6,sl X d Y),(7,iI (O:Int))]∧KH.sub au W∧m W [] [.box (zz wi) (zz ai) (aS q r 0 s 0 t ak u al am v an ap x aq av y aw aG N aH) 62,eW (zz wi) B a C 62 11 I,eW (zz wi) X d Y 84 5 ax]∧N.drop O=z∧Reps (aar W) 5 d ax∧d.length*80≤mB∧ain k F a A q r s t u v x y (agA k F p) z O d=some r_) N.length ?_ ?_
   ·exact⟨_,au,N,0,([]:LC),none,0,[],rfl,fK,kr,aN.sel [1,2,0],List.drop_zero,abo (R:=(aar au)) (size:=5),(by simp),h⟩
   ·rintro _ _ bz⟨aP,W,z,O,d,X,Y,ax,rfl,rfl,l,D,S,aT,bB,h⟩;rcases z with _|⟨⟨Z,ab,cU,cV,cW⟩,z⟩
    ·refine gD 7 [10,1] D<|cNl S<|gR 19 [10,0,0,0,11,62] [] D (fun cY cZ bD=>?_);obtain⟨aU,bE,G,bF⟩:=abD (i:=3) (bytes:=80) (R:=fun K=>(aar K)) bD rfl (Nat.le_refl _) aT bB (fun hs=>(fun _ _ h=>aar.mono hs h));refine aJ h 2 0 bE rfl rfl (aB.mono (fun _ _ h=>aag.mono (((((e.sub.trans b.sub).trans f.sub).trans g.sub).trans l).trans G) h)) (aag.intro ba bb (me bi<|(((b.sub.trans f.sub).trans g.sub).trans l).trans G) (ms bo<|((f.sub.trans g.sub).trans l).trans G) (ms br<|(g.sub.trans l).trans G) (ms bu<|l.trans G) bF) ?_;rintro aV aW aX bG bH bI bJ h;have bK:=p12 bH;exact go 6<|iCl J ((ms ay o).len)<|go 3 ⟨_,Nat.lt_succ_self _,_,aU,p,A+1,a++[(aae.mk q r 0 s 0 t u v x y d)],aV,aW,aX,rfl,fK,(((((o.trans e.sub).trans b.sub).trans f.sub).trans g.sub).trans l).trans G,bK.sel [1],aac J,bI,aav bJ,h⟩
    ·refine gD 7 [10,1] D<|cCl S<|gP 12 [10,1] D<|eN D (mc aI<|(((e.sub.trans b.sub).trans f.sub).trans g.sub).trans l) S aar.open ?_;rintro c2 c3 c4 c5 c6 c7⟨c8,c9,da,db,rfl,bL,bM,bP⟩;refine gR 14 [0,2,0,3,1] [[iI 0,sE,iI 0,nS,nS]] D (fun dc dd de aY=>cB h (fun _ bQ=>(at0 k) bQ (hG.mono<|((((o.trans e.sub).trans b.sub).trans f.sub).trans g.sub).trans l) bM<|pt aY) ?_);rintro ac _ df⟨dg,bR,bS,rfl,U,bT⟩ h;have bU:=ca U aY;refine gR 8 [3,0,4,1] [] bU (fun dh aZ=>cB h (fun _ bV=>IH63 bV (hG.mono<|(((((o.trans e.sub).trans b.sub).trans f.sub).trans g.sub).trans l).trans U.sub) (ms bP U.sub)<|pt aZ) ?_);rintro ad _ di⟨a1,bW,bX,rfl,ae,bY⟩ h;have bZ:=ca ae aZ;refine gR 8 [4,0,0,0,5,84] [] bZ (fun dj dk b0=>aJ h 4 0 b0 rfl rfl (aT.mono (fun _ _ h=>aar.mono (U.sub.trans ae.sub) h)) (aar.intro bL (me bT ae.sub) bY) ?_);rintro a2 a3 a4 b1 b2 b3 b4 h;have b5:=akF b2;exact go 6<|iCl S ((mc aI<|(((e.sub.trans b.sub).trans f.sub).trans g.sub).trans l).len)<|go 3 ⟨_,Nat.lt_succ_self _,_,a1,z,O+1,d++[(aap.mk Z ab 0 ac ad)],a2,a3,a4,rfl,fK,(l.trans U.sub).trans ae.sub,b5.sel [1,2,3],aac S,b3,aav b4,h⟩
theorem atm(k0:Nat) : ∀k,afx (ai8 k0 k).f63:=by
 intro k;induction k with
 | zero=>simp[afx,ai8]
 | succ k ih=>exact asK k0 (ai8 k0 k) ih
theorem axB(k:Nat):afx (f63 k):=(atm k k)
theorem at7(k:Nat):as6 (f39 k):=by
 intro K wi ao bh bi h hG ap aq;obtain⟨r_,n,h⟩:=rz h;obtain⟨bj⟩:=ao;obtain⟨bk,c1,rfl,ar⟩:=aad.open ap;refine en 32 Tryz.func39 rfl ?_;unfold f39 at h;refine gI 9 [0,1,1] [[nS]] aq (fun B bm O=>cB h (fun _ au=>(axb k) au (hG.mono kr) (aad.intro ar)<|pt O) ?_);rintro⟨av⟩ _ C⟨W,aw,ax,ay,rfl,X,az,aA⟩ h;have aB:=ca X O;have aG:=aB.lower_ (i:=0) rfl O.size;refine gR 11 [0] [[nS]] aG (fun bn bo Y=>wl Y (fun j m g_=>∃Z x l s t G a,j Z [2,3] [(4,iI a)]∧KH.sub W x∧m x [] [.box (zz wi) (zz B) #[nS] 24,.box (zz wi) (zz C) #[sl s l t] 24,eW (zz wi) s l t 52 6 G]∧Reps (aak x) 6 l G∧l.length*88≤mB∧aiu k g_ l a=some r_) k ?_ ?_)
 ·exact⟨_,W,av,aw,ax,ay,0,fK,kr,Y.sel [2,0,1],az,aA,h⟩
 ·rintro g_ _ aH⟨Z,x,l,s,t,G,a,rfl,ab,D,S,ac,h⟩;rcases g_ with _|j760
  ·cases h
  ·refine gD 10 [0,2] D (bC 11 h ?_ ?_)<;>intro _ h
   ·refine gD 10 [0,2] D ?_;obtain⟨⟨d,e,f,g,aI,q⟩,u,h⟩:=ob h;obtain⟨aK,bp,ad,bq,aL,br⟩:=afg (D.entAt (i:=2) rfl) S (aay u).1;obtain⟨bs,bu,bv,bw,rfl,bx,bz,bB⟩:=aak.open aL;refine iGl 52 6 ad u<|fd (0+a.toNat*6+4) av2 rfl ?_;have aM:SR K x wi aH [] [.box (zz wi) (zz B) #[nS] 24,.box (zz wi) (zz C) #[sl s l t] 24,eW (zz wi) s l t 52 6 G]:=id D;refine stR (R:=(aak x)) (i:=2) (off:=4) (p:=(aab.mk d e f g aI q)) (p':=(aab.mk d e f g 0 q)) (v:=iI 0) aM rfl S (aay u).1 Tys3 ad rfl rfl rfl rfl (by decide) (fun cs_ h_=>by obtain⟨bD,bE,bF,bG,rfl,aN,aP,aT⟩:=aak.open h_;exact aak.intro aN aP aT) (fun ae aU aV af=>?_);have aW:SR K x wi aU [] [.box (zz wi) (zz B) #[nS] 24,.box (zz wi) (zz C) #[.slice s (l.set a.toNat (aab.mk d e f g 0 q)).length t] 24,.row (zz wi) (.slice s (l.set a.toNat (aab.mk d e f g 0 q)).length t) 52 6 (l.set a.toNat (aab.mk d e f g 0 q)).length ae]:=by simpa only[List.length_set,List.eraseIdx_zero,List.eraseIdx_cons_succ,List.tail_cons,List.set_cons_succ,List.set_cons_zero,List.nil_append,List.cons_append] using aV
    refine go 2<|rB [12] aW (fun I U=>ah 6 [0,0,1,2,2,3,0,4,2,5] U ?_);obtain⟨z,bH,V,bI,aX,aY⟩:=afg (I.entAt (i:=2) rfl) af (aay (aeJ (y:=(aab.mk d e f g 0 q)) u)).1;obtain⟨bJ,bK,ai,aj,rfl,bL,bM,aZ⟩:=aak.open aX;refine kK 6 (pp z<|0+a.toNat*6) rfl (fun w=>ahI (b:=z) (o:=0) (i:=a) ar3 asM rfl V rfl (aay<|aeJ (y:=(aab.mk d e f g 0 q)) u).2.1 (aay<|aeJ (y:=(aab.mk d e f g 0 q)) u).2.2) U<|kK 7 (pp z<|0+a.toNat*6+5) rfl (fun w=>aeU (o':=0+a.toNat*6+5) ahg rfl rfl) U<|tT 8 (sl ai q aj) [[12,8]] rfl (fq [0,1,2] I) (fun w hF=>acE (v:=sl ai q aj) akU rfl<|aY _ (hF.entAt (i:=2) rfl) 5 _ rfl)<|aQ 9 rfl<|cB h (fun _ a1=>(axB k) a1 (gm hG I) aZ<|pt I) ?_;rintro A _ a2⟨J,a3,a4,rfl,N,a5⟩ h;have ak:=ca N I;refine go 2<|wB (fwOf (is:=[0,1,2]) ak N.sub rfl) (fun al=>kK 10 (pp z<|0+a.toNat*6) rfl (fun w=>ahI (b:=z) (o:=0) (i:=a) ar3 asM rfl V rfl (aay<|aeJ (y:=(aab.mk d e f g 0 q)) u).2.1 (aay<|aeJ (y:=(aab.mk d e f g 0 q)) u).2.2) al<|kK 11 (pp z<|0+a.toNat*6+5) rfl (fun w=>aeU (o':=0+a.toNat*6+5) ahg rfl rfl) al<|aQ 12 rfl ?_);have a6:SR K J wi a2 [] [.box (zz wi) (zz B) #[nS] 24,.box (zz wi) (zz C) #[.slice s (l.set a.toNat (aab.mk d e f g 0 q)).length t] 24,.row (zz wi) (.slice s (l.set a.toNat (aab.mk d e f g 0 q)).length t) 52 6 (l.set a.toNat (aab.mk d e f g 0 q)).length ae]:=id ak;refine stR (R:=(aak J)) (i:=2) (off:=5) (p:=(aab.mk d e f g 0 q)) (p':=(aab.mk d e f g 0 A)) (v:=sl a3 A a4) a6 rfl (af.mono (fun _ _ h=>aak.mono N.sub h)) (aay<|aeJ (y:=(aab.mk d e f g 0 q)) u).1 ayU V rfl rfl rfl rfl (by decide) (fun cs_ h_=>by obtain⟨bP,bQ,bR,bS,rfl,a7,a8,bT⟩:=aak.open h_;exact aak.intro a7 a8 a5) (fun am a9 ba bb=>?_);have bd:SR K J wi a9 [] [.box (zz wi) (zz B) #[nS] 24,.box (zz wi) (zz C) #[.slice s ((l.set a.toNat (aab.mk d e f g 0 q)).set a.toNat (aab.mk d e f g 0 A)).length t] 24,.row (zz wi) (.slice s ((l.set a.toNat (aab.mk d e f g 0 q)).set a.toNat (aab.mk d e f g 0 A)).length t) 52 6 ((l.set a.toNat (aab.mk d e f g 0 q)).set a.toNat (aab.mk d e f g 0 A)).length am]:=by simpa only[List.length_set,List.eraseIdx_zero,List.eraseIdx_cons_succ,List.tail_cons,List.set_cons_succ,List.set_cons_zero,List.nil_append,List.cons_append] using ba
    exact go 2 ⟨hE 12,aD<|gx 4<|bar (r:=(w64<|a+1)) rfl rfl rfl<|go 3 ⟨_,Nat.lt_succ_self _,_,J,(l.set a.toNat<|aab.mk d e f g 0 q).set a.toNat<|aab.mk d e f g 0 A,s,t,am,w64<|a+1,fK,ab.trans N.sub,bd,bb,adJ<|adJ ac,h⟩⟩
   ·refine gI 13 [0,1,1,0] [] D (fun bU an=>?_);obtain⟨be,bf,bV,bg⟩:=abD (i:=2) (bytes:=88) (R:=fun K=>(aak K)) an rfl (Nat.le_refl _) S ac (fun hs=>(fun _ _ h=>aak.mono hs h));cases oj h n;exact adq rfl (rNl 0 an rfl) ⟨be,[sl s l t],rfl,bf.sel [],aad.intro bg⟩
theorem ai7(k:Nat):aq6 (f114 k):=by
 intro K wi g bs i l p d u v x h hG e;obtain⟨Z,n,h⟩:=rz h;refine en 32 Tryz.func114 rfl ?_;unfold f114 at h;refine gD 6 [0,1] e<|bar (r:=(w64<|i+1)) rfl rfl rfl<|gR 13 [0,0,1,1] [] e (fun y e=>mxb (a:=l) (b:=d) rfl rfl<|gR 5 [1,0] [] e (fun z f=>wk f (fun j m=>∃q o,j q [0] [(28,.bool o)]∧m K [] [.box bs g #[iI (w64<|i+1),iI<|imax l d,.bool p] 104]∧akD k i l p d o=some Z) ?_ ?_))
 ·refine gD 7 [0,1] f (bO 25 h ?_ ?_)<;>intro _ h
  ·exact go 5 ⟨_,true,fK,f,h⟩
  ·exact go 7 ⟨_,decide<|d>16,fK,f,h⟩
 ·rintro _ A⟨q,o,rfl,s,h⟩;refine bC 28 h ?_ ?_<;>intro _ h
  ·refine gI 7 [2,0] [] s (fun B t=>?_);cases oj h n;exact end0 rfl ⟨K,rfl,t⟩
  ·refine gd 2 ?_;cases oj h n;exact end0 rfl ⟨K,rfl,s⟩
theorem aam(k:Nat):aoR (f115 k):=by
 intro K wi g bs d e f i j l m h hG a;obtain⟨y,z,h⟩:=rz h;refine en 9 Tryz.func115 rfl ?_;unfold f115 at h;refine gd 6 (bC 5 h ?_ ?_)<;>intro _ h
 ·refine gI 7 [2,0] [] a (fun o b=>?_);cases oj h z;exact end0 rfl ⟨K,rfl,b⟩
 ·refine gd 2 ?_;cases oj h z;exact end0 rfl ⟨K,rfl,a⟩
theorem aux(k:Nat):arB (f139 k):=by
 intro K wi e g h hG a;obtain⟨y,z,h⟩:=rz h;refine en 9 Tryz.func139 rfl ?_;unfold f139 at h;refine gd 5<|wk a (fun j m=>∃d b,j d [] [(2,.bool b)]∧m K [] []∧ajk k b=some y) ?_ ?_
 ·refine gd 4 (bO 5 h ?_ ?_)<;>intro _ h
  ·exact go 8 ⟨_,decide<|e≤122,fK,a,h⟩
  ·exact go 6 ⟨_,false,fK,a,h⟩
 ·rintro _ i⟨d,b,rfl,f,h⟩;refine gd 1 ?_;cases oj h z;exact rt1 ⟨K,rfl,f⟩
theorem aum(k:Nat):apb (f140 k):=by
 intro K wi e g h hG a;obtain⟨y,z,h⟩:=rz h;refine en 9 Tryz.func140 rfl ?_;unfold f140 at h;refine gd 5<|wk a (fun j m=>∃d b,j d [] [(2,.bool b)]∧m K [] []∧ajt k b=some y) ?_ ?_
 ·refine gd 4 (bO 5 h ?_ ?_)<;>intro _ h
  ·exact go 8 ⟨_,decide<|e≤57,fK,a,h⟩
  ·exact go 6 ⟨_,false,fK,a,h⟩
 ·rintro _ i⟨d,b,rfl,f,h⟩;refine gd 1 ?_;cases oj h z;exact rt1 ⟨K,rfl,f⟩
theorem auE(k:Nat):ard (f167 k):=by
 intro K wi g h hG a;obtain⟨y,z,h⟩:=rz h;refine en 2 Tryz.func167 rfl ?_;unfold f167 at h;refine gd 7<|bsl (e:=9) (cells:=#[.string ⟨#[97,102,116,101,114]⟩,.string ⟨#[97,119,97,105,116]⟩,.string ⟨#[98,111,111,108]⟩,.string ⟨#[98,114,101,97,107]⟩,.string ⟨#[98,117,102,102,101,114]⟩,.string ⟨#[99,97,110,99,101,108]⟩,.string ⟨#[99,97,116,99,104]⟩,.string ⟨#[99,104,97,110]⟩,.string ⟨#[99,108,111,115,101]⟩,.string ⟨#[99,111,110,116,105,110,117,101]⟩,.string ⟨#[100,114,111,112]⟩,.string ⟨#[101,97,99,104]⟩,.string ⟨#[101,108,115,101]⟩,.string ⟨#[101,109,105,116]⟩,.string ⟨#[102,97,108,115,101]⟩,.string ⟨#[102,105,110,97,108,108,121]⟩,.string ⟨#[102,108,111,119]⟩,.string ⟨#[102,110]⟩,.string ⟨#[102,114,111,109]⟩,.string ⟨#[104,111,108,100]⟩,.string ⟨#[105,102]⟩,.string ⟨#[105,110,116]⟩,.string ⟨#[108,101,116]⟩,.string ⟨#[108,111,99,107]⟩,.string ⟨#[110,101,119]⟩,.string ⟨#[110,111,119]⟩,.string ⟨#[111,108,100]⟩,.string ⟨#[112,114,111,100,117,99,101]⟩,.string ⟨#[114,101,99,101,105,118,101]⟩,.string ⟨#[114,101,116,117,114,110]⟩,.string ⟨#[115,99,111,112,101]⟩,.string ⟨#[115,101,108,101,99,116]⟩,.string ⟨#[115,101,110,100]⟩,.string ⟨#[115,104,105,101,108,100]⟩,.string ⟨#[115,108,101,101,112]⟩,.string ⟨#[115,112,97,119,110]⟩,.string ⟨#[115,117,112,101,114,118,105,115,101,100]⟩,.string ⟨#[116,97,115,107]⟩,.string ⟨#[116,101,120,116]⟩,.string ⟨#[116,104,114,111,119]⟩,.string ⟨#[116,114,117,101]⟩,.string ⟨#[116,114,121]⟩,.string ⟨#[117,115,101]⟩,.string ⟨#[119,104,105,108,101]⟩,.string ⟨#[119,105,116,104,105,110]⟩,.string ⟨#[121,105,101,108,100]⟩]) (vs:=[(0,.string ⟨#[97,102,116,101,114]⟩),(1,.string ⟨#[97,119,97,105,116]⟩),(2,.string ⟨#[98,111,111,108]⟩),(3,.string ⟨#[98,114,101,97,107]⟩),(4,.string ⟨#[98,117,102,102,101,114]⟩),(5,.string ⟨#[99,97,110,99,101,108]⟩),(6,.string ⟨#[99,97,116,99,104]⟩),(7,.string ⟨#[99,104,97,110]⟩),(8,.string ⟨#[99,108,111,115,101]⟩),(9,.string ⟨#[99,111,110,116,105,110,117,101]⟩),(10,.string ⟨#[100,114,111,112]⟩),(11,.string ⟨#[101,97,99,104]⟩),(12,.string ⟨#[101,108,115,101]⟩),(13,.string ⟨#[101,109,105,116]⟩),(14,.string ⟨#[102,97,108,115,101]⟩),(15,.string ⟨#[102,105,110,97,108,108,121]⟩),(16,.string ⟨#[102,108,111,119]⟩),(17,.string ⟨#[102,110]⟩),(18,.string ⟨#[102,114,111,109]⟩),(19,.string ⟨#[104,111,108,100]⟩),(20,.string ⟨#[105,102]⟩),(21,.string ⟨#[105,110,116]⟩),(22,.string ⟨#[108,101,116]⟩),(23,.string ⟨#[108,111,99,107]⟩),(24,.string ⟨#[110,101,119]⟩),(25,.string ⟨#[110,111,119]⟩),(26,.string ⟨#[111,108,100]⟩),(27,.string ⟨#[112,114,111,100,117,99,101]⟩),(28,.string ⟨#[114,101,99,101,105,118,101]⟩),(29,.string ⟨#[114,101,116,117,114,110]⟩),(30,.string ⟨#[115,99,111,112,101]⟩),(31,.string ⟨#[115,101,108,101,99,116]⟩),(32,.string ⟨#[115,101,110,100]⟩),(33,.string ⟨#[115,104,105,101,108,100]⟩),(34,.string ⟨#[115,108,101,101,112]⟩),(35,.string ⟨#[115,112,97,119,110]⟩),(36,.string ⟨#[115,117,112,101,114,118,105,115,101,100]⟩),(37,.string ⟨#[116,97,115,107]⟩),(38,.string ⟨#[116,101,120,116]⟩),(39,.string ⟨#[116,104,114,111,119]⟩),(40,.string ⟨#[116,114,117,101]⟩),(41,.string ⟨#[116,114,121]⟩),(42,.string ⟨#[117,115,101]⟩),(43,.string ⟨#[119,104,105,108,101]⟩),(44,.string ⟨#[119,105,116,104,105,110]⟩),(45,.string ⟨#[121,105,101,108,100]⟩)]) a rfl (fun w=>by kernel_rfl) (fun j a=>go 4 ?_);obtain⟨b,d,l,f⟩:=frzI (i:=0) (bytes:=16) (xs:=[⟨#[97,102,116,101,114]⟩,⟨#[97,119,97,105,116]⟩,⟨#[98,111,111,108]⟩,⟨#[98,114,101,97,107]⟩,⟨#[98,117,102,102,101,114]⟩,⟨#[99,97,110,99,101,108]⟩,⟨#[99,97,116,99,104]⟩,⟨#[99,104,97,110]⟩,⟨#[99,108,111,115,101]⟩,⟨#[99,111,110,116,105,110,117,101]⟩,⟨#[100,114,111,112]⟩,⟨#[101,97,99,104]⟩,⟨#[101,108,115,101]⟩,⟨#[101,109,105,116]⟩,⟨#[102,97,108,115,101]⟩,⟨#[102,105,110,97,108,108,121]⟩,⟨#[102,108,111,119]⟩,⟨#[102,110]⟩,⟨#[102,114,111,109]⟩,⟨#[104,111,108,100]⟩,⟨#[105,102]⟩,⟨#[105,110,116]⟩,⟨#[108,101,116]⟩,⟨#[108,111,99,107]⟩,⟨#[110,101,119]⟩,⟨#[110,111,119]⟩,⟨#[111,108,100]⟩,⟨#[112,114,111,100,117,99,101]⟩,⟨#[114,101,99,101,105,118,101]⟩,⟨#[114,101,116,117,114,110]⟩,⟨#[115,99,111,112,101]⟩,⟨#[115,101,108,101,99,116]⟩,⟨#[115,101,110,100]⟩,⟨#[115,104,105,101,108,100]⟩,⟨#[115,108,101,101,112]⟩,⟨#[115,112,97,119,110]⟩,⟨#[115,117,112,101,114,118,105,115,101,100]⟩,⟨#[116,97,115,107]⟩,⟨#[116,101,120,116]⟩,⟨#[116,104,114,111,119]⟩,⟨#[116,114,117,101]⟩,⟨#[116,114,121]⟩,⟨#[117,115,101]⟩,⟨#[119,104,105,108,101]⟩,⟨#[119,105,116,104,105,110]⟩,⟨#[121,105,101,108,100]⟩]) (R:=fun K=>RStr) a rfl (Nat.le_refl _) ⟨[.string ⟨#[97,102,116,101,114]⟩],_,rfl,rfl,⟨rfl,(by decide)⟩,⟨[.string ⟨#[97,119,97,105,116]⟩],_,rfl,rfl,⟨rfl,(by decide)⟩,⟨[.string ⟨#[98,111,111,108]⟩],_,rfl,rfl,⟨rfl,(by decide)⟩,⟨[.string ⟨#[98,114,101,97,107]⟩],_,rfl,rfl,⟨rfl,(by decide)⟩,⟨[.string ⟨#[98,117,102,102,101,114]⟩],_,rfl,rfl,⟨rfl,(by decide)⟩,⟨[.string ⟨#[99,97,110,99,101,108]⟩],_,rfl,rfl,⟨rfl,(by decide)⟩,⟨[.string ⟨#[99,97,116,99,104]⟩],_,rfl,rfl,⟨rfl,(by decide)⟩,⟨[.string ⟨#[99,104,97,110]⟩],_,rfl,rfl,⟨rfl,(by decide)⟩,⟨[.string ⟨#[99,108,111,115,101]⟩],_,rfl,rfl,⟨rfl,(by decide)⟩,⟨[.string ⟨#[99,111,110,116,105,110,117,101]⟩],_,rfl,rfl,⟨rfl,(by decide)⟩,⟨[.string ⟨#[100,114,111,112]⟩],_,rfl,rfl,⟨rfl,(by decide)⟩,⟨[.string ⟨#[101,97,99,104]⟩],_,rfl,rfl,⟨rfl,(by decide)⟩,⟨[.string ⟨#[101,108,115,101]⟩],_,rfl,rfl,⟨rfl,(by decide)⟩,⟨[.string ⟨#[101,109,105,116]⟩],_,rfl,rfl,⟨rfl,(by decide)⟩,⟨[.string ⟨#[102,97,108,115,101]⟩],_,rfl,rfl,⟨rfl,(by decide)⟩,⟨[.string ⟨#[102,105,110,97,108,108,121]⟩],_,rfl,rfl,⟨rfl,(by decide)⟩,⟨[.string ⟨#[102,108,111,119]⟩],_,rfl,rfl,⟨rfl,(by decide)⟩,⟨[.string ⟨#[102,110]⟩],_,rfl,rfl,⟨rfl,(by decide)⟩,⟨[.string ⟨#[102,114,111,109]⟩],_,rfl,rfl,⟨rfl,(by decide)⟩,⟨[.string ⟨#[104,111,108,100]⟩],_,rfl,rfl,⟨rfl,(by decide)⟩,⟨[.string ⟨#[105,102]⟩],_,rfl,rfl,⟨rfl,(by decide)⟩,⟨[.string ⟨#[105,110,116]⟩],_,rfl,rfl,⟨rfl,(by decide)⟩,⟨[.string ⟨#[108,101,116]⟩],_,rfl,rfl,⟨rfl,(by decide)⟩,⟨[.string ⟨#[108,111,99,107]⟩],_,rfl,rfl,⟨rfl,(by decide)⟩,⟨[.string ⟨#[110,101,119]⟩],_,rfl,rfl,⟨rfl,(by decide)⟩,⟨[.string ⟨#[110,111,119]⟩],_,rfl,rfl,⟨rfl,(by decide)⟩,⟨[.string ⟨#[111,108,100]⟩],_,rfl,rfl,⟨rfl,(by decide)⟩,⟨[.string ⟨#[112,114,111,100,117,99,101]⟩],_,rfl,rfl,⟨rfl,(by decide)⟩,⟨[.string ⟨#[114,101,99,101,105,118,101]⟩],_,rfl,rfl,⟨rfl,(by decide)⟩,⟨[.string ⟨#[114,101,116,117,114,110]⟩],_,rfl,rfl,⟨rfl,(by decide)⟩,⟨[.string ⟨#[115,99,111,112,101]⟩],_,rfl,rfl,⟨rfl,(by decide)⟩,⟨[.string ⟨#[115,101,108,101,99,116]⟩],_,rfl,rfl,⟨rfl,(by decide)⟩,⟨[.string ⟨#[115,101,110,100]⟩],_,rfl,rfl,⟨rfl,(by decide)⟩,⟨[.string ⟨#[115,104,105,101,108,100]⟩],_,rfl,rfl,⟨rfl,(by decide)⟩,⟨[.string ⟨#[115,108,101,101,112]⟩],_,rfl,rfl,⟨rfl,(by decide)⟩,⟨[.string ⟨#[115,112,97,119,110]⟩],_,rfl,rfl,⟨rfl,(by decide)⟩,⟨[.string ⟨#[115,117,112,101,114,118,105,115,101,100]⟩],_,rfl,rfl,⟨rfl,(by decide)⟩,⟨[.string ⟨#[116,97,115,107]⟩],_,rfl,rfl,⟨rfl,(by decide)⟩,⟨[.string ⟨#[116,101,120,116]⟩],_,rfl,rfl,⟨rfl,(by decide)⟩,⟨[.string ⟨#[116,104,114,111,119]⟩],_,rfl,rfl,⟨rfl,(by decide)⟩,⟨[.string ⟨#[116,114,117,101]⟩],_,rfl,rfl,⟨rfl,(by decide)⟩,⟨[.string ⟨#[116,114,121]⟩],_,rfl,rfl,⟨rfl,(by decide)⟩,⟨[.string ⟨#[117,115,101]⟩],_,rfl,rfl,⟨rfl,(by decide)⟩,⟨[.string ⟨#[119,104,105,108,101]⟩],_,rfl,rfl,⟨rfl,(by decide)⟩,⟨[.string ⟨#[119,105,116,104,105,110]⟩],_,rfl,rfl,⟨rfl,(by decide)⟩,⟨[.string ⟨#[121,105,101,108,100]⟩],_,rfl,rfl,⟨rfl,(by decide)⟩,(abo (R:=RStr) (size:=1))⟩⟩⟩⟩⟩⟩⟩⟩⟩⟩⟩⟩⟩⟩⟩⟩⟩⟩⟩⟩⟩⟩⟩⟩⟩⟩⟩⟩⟩⟩⟩⟩⟩⟩⟩⟩⟩⟩⟩⟩⟩⟩⟩⟩⟩⟩ rfl (Nat.le_of_ble_eq_true rfl) (fun hs=>(fun _ _ h=>h));cases oj h z;exact rt1 ⟨b,some ⟨zz wi,0,none⟩,46,rfl,d,f⟩
theorem av7(k:Nat):apo (f141 k):=by
 intro K wi t f h hG G p;obtain⟨n,o,h⟩:=rz h;refine en 18 Tryz.func141 rfl ?_;unfold f141 at h;refine gd 7<|cB h (fun _ u=>(auE k) u (hG.mono kr)<|pt p) ?_;rintro f _ I⟨l,J,N,rfl,x,q⟩ h;have r:=ca x p;refine go 10<|wl r (fun j m g_=>∃s a,∃(d:Nat),g_=a.length∧j s [0,3] [(4,iI (d:Int))]∧m l [] []∧f.drop d=a∧ag8 k t a d=some n) f.length ?_ ?_
 ·exact⟨_,f,0,rfl,fK,r,List.drop_zero,h⟩
 ·rintro _ _ O⟨s,a,d,rfl,rfl,g,e,h⟩;rcases a with _|⟨y,a⟩
  ·refine gd 6<|cNl e<|go 14 ?_;cases oj h o;exact rt1 ⟨l,rfl,g⟩
  ·refine gd 6<|cCl e<|go 11 ?_;obtain⟨z,A,S,B,U,C,D⟩:=(q).row.at_ (aaB e);obtain⟨rfl,V⟩:=D;refine iNl 9 1 B e (ld1 (v:=.string y) Tya9 rfl (g.cell<|kr.cell<|C 0 _ rfl)<|go 4<|bC 17 h ?_ ?_)<;>intro _ h
   ·refine gd 12 ?_;cases oj h o;exact rt1 ⟨l,rfl,g⟩
   ·exact gd 6<|iCl e ((q).len)<|go 3 ⟨_,Nat.lt_succ_self _,_,a,d+1,rfl,fK,g,aac e,h⟩
theorem acY(k:Nat):arO (f117 k):=by
 intro K wi g Z h hG u v;obtain⟨r_,n,h⟩:=rz h;refine en 39 Tryz.func117 rfl ?_;unfold f117 at h;refine gd 12<|wl v (fun j m g_=>∃x d a,∃(e:Nat),g_=a.length∧j x [0] [(3,iI (e:Int))]∧KH.sub K d∧m d [] []∧g.data.toList.drop e=a∧adU k g a e=some r_) g.data.toList.length ?_ ?_
 ·exact⟨_,K,g.data.toList,0,rfl,fK,kr,v,List.drop_zero,h⟩
 ·rintro _ _ ab⟨x,d,a,e,rfl,rfl,o,b,f,h⟩;rcases a with _|⟨ac,a⟩
  ·refine gd 6<|bcm (r:=false) rfl rfl (congrArg some<|adV f)<|go 8<|wk b (fun j m=>∃y p s,j y [] [(2,.bool s)]∧KH.sub d p∧m p [] []∧ahM k s=some r_) ?_ ?_
   ·refine gd 5 (bO 29 h ?_ ?_)<;>intro _ h
    ·refine go 8 (bO 34 h ?_ ?_)<;>intro _ h
     ·refine go 3<|cB h (fun _ G=>(av7 k) G (hG.mono o) u<|pt b) ?_;rintro I _ ad⟨J,rfl,z⟩ h;have N:=ca z b;exact go 6 ⟨_,J,!I,fK,z.sub,N,h⟩
     ·exact go 7 ⟨_,d,false,fK,kr,b,h⟩
    ·exact go 12 ⟨_,d,false,fK,kr,b,h⟩
   ·rintro _ ae⟨y,p,s,rfl,af,O,h⟩;refine gd 1 ?_;cases oj h n;exact rt1 ⟨p,rfl,O⟩
  ·refine gd 6<|bcm (r:=true) rfl rfl (congrArg some<|ado f)<|go 7<|wk b (fun j m=>∃A i t,j A [0,3] [(25,.bool t)]∧KH.sub d i∧m i [] []∧ah4 k e t (adU k g a)=some r_) ?_ ?_
   ·refine gd 3<|ixN Tyt9 rfl rfl f<|cB h (fun _ S=>(aux k) S (hG.mono o)<|pt b) ?_;rintro ai _ aj⟨B,rfl,l⟩ h;have q:=ca l b;refine go 2 (bO 15 h ?_ ?_)<;>intro _ h
    ·refine go 6 (bO 18 h ?_ ?_)<;>intro _ h
     ·exact go 10 ⟨_,B,true,fK,l.sub,q,h⟩
     ·refine go 5<|ixN Tyt9 rfl rfl f<|go 1<|cB h (fun _ U=>(aum k) U (gm hG q)<|pt q) ?_;rintro V _ ak⟨W,rfl,C⟩ h;have X:=ca C q;exact go 7 ⟨_,W,!V,fK,l.sub.trans C.sub,X,h⟩
    ·exact go 12 ⟨_,B,false,fK,l.sub,q,h⟩
   ·rintro _ al⟨A,i,t,rfl,Y,D,h⟩;refine bC 25 h ?_ ?_<;>intro _ h
    ·refine gd 12 ?_;cases oj h n;exact rt1 ⟨i,rfl,D⟩
    ·exact gd 6<|bar (r:=((e+1:Nat):Int)) rfl rfl (aiZ<|ajc u f)<|go 3 ⟨_,Nat.lt_succ_self _,_,i,a,e+1,rfl,fK,o.trans Y,D,aac f,h⟩
theorem awg(k:Nat):aq3 (f168 k):=by
 intro K wi a ap aq h hG e;obtain⟨r_,n,h⟩:=rz h;refine en 69 Tryz.func168 rfl ?_;unfold f168 at h;refine gI 13 [] [[iI 0,iI 0,iI 0,vN,vN,iI 0]] e (fun ar e=>wk e (fun j m=>∃s l,j s [2,4] [(5,.bool l)]∧m K [] [.box (zz wi) (zz wi) #[iI 0,iI 0,iI 0,vN,vN,iI 0] 210]∧ahp k a l=some r_) ?_ ?_)
 ·refine gd 6 (bC 5 h ?_ ?_)<;>intro ab h
  ·exact gd 3<|lX 5 ab.symm ⟨_,a==1,fK,e,h⟩
  ·refine gd 7 (bC 5 h ?_ ?_)<;>intro ac h
   ·exact gd 3<|lX 5 ac.symm ⟨_,a==2,fK,e,h⟩
   ·exact gd 6 ⟨_,a==8,fK,e,h⟩
 ·rintro _ au⟨s,l,rfl,f,h⟩;refine bC 5 h ?_ ?_<;>intro _ h
  ·refine gd 3<|bld (cells:=#[iI 1,iI 1,iI 1,vN,vN,iI 0]) (vs:=[(0,iI 1),(1,iI 1),(2,iI 1)]) rfl (fun w=>by kernel_rfl)<|gR 7 [0] [] f (fun av t=>?_);cases oj h n;exact aby rfl (rNl 0 t rfl) (resT rfl) ⟨K,[iI 1,iI 1,iI 1,vN,vN,iI 0],rfl,t.sel [],.mk⟩
  ·refine gd 7 (bC 10 h ?_ ?_)<;>intro _ h
   ·refine gd 3<|bld (cells:=#[iI 1,iI 1,iI 1,vN,vN,iI 2]) (vs:=[(0,iI 1),(1,iI 1),(2,iI 1),(5,iI 2)]) rfl (fun w=>by kernel_rfl)<|gR 7 [0] [] f (fun aw u=>?_);cases oj h n;exact aby rfl (rNl 0 u rfl) (resT rfl) ⟨K,[iI 1,iI 1,iI 1,vN,vN,iI 2],rfl,u.sel [],.mk⟩
   ·refine gd 7 (bC 13 h ?_ ?_)<;>intro _ h
    ·refine gd 3<|bld (cells:=#[iI 0,iI 0,iI 1,vN,vN,iI 0]) (vs:=[(2,iI 1)]) rfl (fun w=>by kernel_rfl)<|gR 7 [0] [] f (fun ax v=>?_);cases oj h n;exact aby rfl (rNl 0 v rfl) (resT rfl) ⟨K,[iI 0,iI 0,iI 1,vN,vN,iI 0],rfl,v.sel [],.mk⟩
    ·refine gd 1<|wk f (fun j m=>∃x o,j x [2,4] [(16,.bool o)]∧m K [] [.box (zz wi) (zz wi) #[iI 0,iI 0,iI 0,vN,vN,iI 0] 210]∧akA k a o=some r_) ?_ ?_
     ·refine gd 6 (bC 16 h ?_ ?_)<;>intro ad h
      ·exact gd 3<|lX 16 ad.symm ⟨_,a==3,fK,f,h⟩
      ·exact gd 6 ⟨_,a==4,fK,f,h⟩
     ·rintro _ ay⟨x,o,rfl,b,h⟩;refine bC 16 h ?_ ?_<;>intro _ h
      ·refine gd 3<|bld (cells:=#[iI 0,iI 600,iI 2,vT,vN,iI 0]) (vs:=[(1,iI 600),(2,iI 2),(3,vT)]) rfl (fun w=>by kernel_rfl)<|gR 7 [0] [] b (fun az y=>?_);cases oj h n;exact aby rfl (rNl 0 y rfl) (resT rfl) ⟨K,[iI 0,iI 600,iI 2,vT,vN,iI 0],rfl,y.sel [],.mk⟩
      ·refine gd 7 (bC 20 h ?_ ?_)<;>intro _ h
       ·refine gd 3<|bld (cells:=#[iI 1,iI 1,iI 2,vN,vN,iI 0]) (vs:=[(0,iI 1),(1,iI 1),(2,iI 2)]) rfl (fun w=>by kernel_rfl)<|gR 7 [0] [] b (fun aA z=>?_);cases oj h n;exact aby rfl (rNl 0 z rfl) (resT rfl) ⟨K,[iI 1,iI 1,iI 2,vN,vN,iI 0],rfl,z.sel [],.mk⟩
       ·refine gd 7 (bC 23 h ?_ ?_)<;>intro _ h
        ·refine gd 3<|bld (cells:=#[iI 1,iI 1,iI 2,vN,vN,iI 1]) (vs:=[(0,iI 1),(1,iI 1),(2,iI 2),(5,iI 1)]) rfl (fun w=>by kernel_rfl)<|gR 7 [0] [] b (fun aB A=>?_);cases oj h n;exact aby rfl (rNl 0 A rfl) (resT rfl) ⟨K,[iI 1,iI 1,iI 2,vN,vN,iI 1],rfl,A.sel [],.mk⟩
        ·refine gd 7 (bC 26 h ?_ ?_)<;>intro _ h
         ·refine gd 3<|bld (cells:=#[iI 2,iI 2,iI 0,vN,vN,iI 0]) (vs:=[(0,iI 2),(1,iI 2)]) rfl (fun w=>by kernel_rfl)<|gR 7 [0] [] b (fun aG B=>?_);cases oj h n;exact aby rfl (rNl 0 B rfl) (resT rfl) ⟨K,[iI 2,iI 2,iI 0,vN,vN,iI 0],rfl,B.sel [],.mk⟩
         ·refine gd 1<|wk b (fun j m=>∃C p,j C [2,4] [(29,.bool p)]∧m K [] [.box (zz wi) (zz wi) #[iI 0,iI 0,iI 0,vN,vN,iI 0] 210]∧aeg k a p=some r_) ?_ ?_
          ·refine gd 6 (bC 29 h ?_ ?_)<;>intro ae h
           ·exact gd 3<|lX 29 ae.symm ⟨_,a==11,fK,b,h⟩
           ·refine gd 7 (bC 29 h ?_ ?_)<;>intro af h
            ·exact gd 3<|lX 29 af.symm ⟨_,a==12,fK,b,h⟩
            ·refine gd 7 (bC 29 h ?_ ?_)<;>intro ai h
             ·exact gd 3<|lX 29 ai.symm ⟨_,a==14,fK,b,h⟩
             ·refine gd 7 (bC 29 h ?_ ?_)<;>intro aj h
              ·exact gd 3<|lX 29 aj.symm ⟨_,a==15,fK,b,h⟩
              ·refine gd 7 (bC 29 h ?_ ?_)<;>intro ak h
               ·exact gd 3<|lX 29 ak.symm ⟨_,a==16,fK,b,h⟩
               ·exact gd 6 ⟨_,a==29,fK,b,h⟩
          ·rintro _ aH⟨C,p,rfl,g,h⟩;refine bC 29 h ?_ ?_<;>intro _ h
           ·refine gd 3<|bld (cells:=#[iI 1,iI 1,iI 0,vN,vN,iI 0]) (vs:=[(0,iI 1),(1,iI 1)]) rfl (fun w=>by kernel_rfl)<|gR 7 [0] [] g (fun aI D=>?_);cases oj h n;exact aby rfl (rNl 0 D rfl) (resT rfl) ⟨K,[iI 1,iI 1,iI 0,vN,vN,iI 0],rfl,D.sel [],.mk⟩
           ·refine gd 1<|wk g (fun j m=>∃G q,j G [2,4] [(37,.bool q)]∧m K [] [.box (zz wi) (zz wi) #[iI 0,iI 0,iI 0,vN,vN,iI 0] 210]∧af0 k a q=some r_) ?_ ?_
            ·refine gd 6 (bC 37 h ?_ ?_)<;>intro al h
             ·exact gd 3<|lX 37 al.symm ⟨_,a==13,fK,g,h⟩
             ·refine gd 7 (bC 37 h ?_ ?_)<;>intro am h
              ·exact gd 3<|lX 37 am.symm ⟨_,a==18,fK,g,h⟩
              ·refine gd 7 (bC 37 h ?_ ?_)<;>intro an h
               ·exact gd 3<|lX 37 an.symm ⟨_,a==19,fK,g,h⟩
               ·exact gd 6 ⟨_,a==27,fK,g,h⟩
            ·rintro _ aK⟨G,q,rfl,i,h⟩;refine bC 37 h ?_ ?_<;>intro _ h
             ·refine gd 3<|bld (cells:=#[iI 0,iI 0,iI 0,vN,vN,iI 0]) (vs:=[]) rfl (fun w=>by kernel_rfl)<|gR 7 [0] [] i (fun aL I=>?_);cases oj h n;exact aby rfl (rNl 0 I rfl) (resT rfl) ⟨K,[iI 0,iI 0,iI 0,vN,vN,iI 0],rfl,I.sel [],.mk⟩
             ·refine gd 7 (bC 43 h ?_ ?_)<;>intro _ h
              ·refine gd 3<|bld (cells:=#[iI 0,iI 1,iI 0,vN,vN,iI 0]) (vs:=[(1,iI 1)]) rfl (fun w=>by kernel_rfl)<|gR 7 [0] [] i (fun aM J=>?_);cases oj h n;exact aby rfl (rNl 0 J rfl) (resT rfl) ⟨K,[iI 0,iI 1,iI 0,vN,vN,iI 0],rfl,J.sel [],.mk⟩
              ·refine gd 7 (bC 46 h ?_ ?_)<;>intro _ h
               ·refine gd 3<|bld (cells:=#[iI 1,iI 1,iI 0,vN,vT,iI 1]) (vs:=[(0,iI 1),(1,iI 1),(4,vT),(5,iI 1)]) rfl (fun w=>by kernel_rfl)<|gR 7 [0] [] i (fun aN N=>?_);cases oj h n;exact aby rfl (rNl 0 N rfl) (resT rfl) ⟨K,[iI 1,iI 1,iI 0,vN,vT,iI 1],rfl,N.sel [],.mk⟩
               ·refine gd 1<|wk i (fun j m=>∃O r,j O [2,4] [(49,.bool r)]∧m K [] [.box (zz wi) (zz wi) #[iI 0,iI 0,iI 0,vN,vN,iI 0] 210]∧ajB k a r=some r_) ?_ ?_
                ·refine gd 6 (bC 49 h ?_ ?_)<;>intro ao h
                 ·exact gd 3<|lX 49 ao.symm ⟨_,a==21,fK,i,h⟩
                 ·exact gd 6 ⟨_,a==26,fK,i,h⟩
                ·rintro _ aP⟨O,r,rfl,d,h⟩;refine bC 49 h ?_ ?_<;>intro _ h
                 ·refine gd 3<|bld (cells:=#[iI 1,iI 1,iI 0,vN,vT,iI 0]) (vs:=[(0,iI 1),(1,iI 1),(4,vT)]) rfl (fun w=>by kernel_rfl)<|gR 7 [0] [] d (fun aT S=>?_);cases oj h n;exact aby rfl (rNl 0 S rfl) (resT rfl) ⟨K,[iI 1,iI 1,iI 0,vN,vT,iI 0],rfl,S.sel [],.mk⟩
                 ·refine gd 7 (bC 53 h ?_ ?_)<;>intro _ h
                  ·refine gd 3<|bld (cells:=#[iI 0,iI 1,iI 0,vN,vT,iI 1]) (vs:=[(1,iI 1),(4,vT),(5,iI 1)]) rfl (fun w=>by kernel_rfl)<|gR 7 [0] [] d (fun aU U=>?_);cases oj h n;exact aby rfl (rNl 0 U rfl) (resT rfl) ⟨K,[iI 0,iI 1,iI 0,vN,vT,iI 1],rfl,U.sel [],.mk⟩
                  ·refine gd 7 (bC 56 h ?_ ?_)<;>intro _ h
                   ·refine gd 3<|bld (cells:=#[iI 0,iI 0,iI 0,vN,vT,iI 0]) (vs:=[(4,vT)]) rfl (fun w=>by kernel_rfl)<|gR 7 [0] [] d (fun aV V=>?_);cases oj h n;exact aby rfl (rNl 0 V rfl) (resT rfl) ⟨K,[iI 0,iI 0,iI 0,vN,vT,iI 0],rfl,V.sel [],.mk⟩
                   ·refine gd 7 (bC 59 h ?_ ?_)<;>intro _ h
                    ·refine gd 3<|bld (cells:=#[iI 0,iI 0,iI 2,vN,vT,iI 3]) (vs:=[(2,iI 2),(4,vT),(5,iI 3)]) rfl (fun w=>by kernel_rfl)<|gR 7 [0] [] d (fun aW W=>?_);cases oj h n;exact aby rfl (rNl 0 W rfl) (resT rfl) ⟨K,[iI 0,iI 0,iI 2,vN,vT,iI 3],rfl,W.sel [],.mk⟩
                    ·refine gd 7 (bC 62 h ?_ ?_)<;>intro _ h
                     ·refine gd 3<|bld (cells:=#[iI 1,iI 1,iI 1,vN,vT,iI 0]) (vs:=[(0,iI 1),(1,iI 1),(2,iI 1),(4,vT)]) rfl (fun w=>by kernel_rfl)<|gR 7 [0] [] d (fun aX X=>?_);cases oj h n;exact aby rfl (rNl 0 X rfl) (resT rfl) ⟨K,[iI 1,iI 1,iI 1,vN,vT,iI 0],rfl,X.sel [],.mk⟩
                     ·refine gd 7 (bC 65 h ?_ ?_)<;>intro _ h
                      ·refine gd 3<|bld (cells:=#[iI 0,iI 600,iI 1,vT,vT,iI 66]) (vs:=[(1,iI 600),(2,iI 1),(3,vT),(4,vT),(5,iI 66)]) rfl (fun w=>by kernel_rfl)<|gR 7 [0] [] d (fun aY Y=>?_);cases oj h n;exact aby rfl (rNl 0 Y rfl) (resT rfl) ⟨K,[iI 0,iI 600,iI 1,vT,vT,iI 66],rfl,Y.sel [],.mk⟩
                      ·refine gd 6<|bld (cells:=#[iI 0,iI 0,iI 0,vN,vN,iI 0]) (vs:=[]) rfl (fun w=>by kernel_rfl)<|gR 5 [0] [] d (fun aZ Z=>?_);cases oj h n;exact aby rfl (rNl 0 Z rfl) (resT rfl) ⟨K,[iI 0,iI 0,iI 0,vN,vN,iI 0],rfl,Z.sel [],.mk⟩
theorem auD(k:Nat):aqe (f116 k):=by
 intro K wi e t h hG q i;obtain⟨y,z,h⟩:=rz h;refine en 23 Tryz.func116 rfl ?_;unfold f116 at h;refine gd 12<|wl i (fun j m g_=>∃l a,∃(b:Nat),g_=a.length∧j l [0] [(3,iI (b:Int))]∧m K [] []∧e.data.toList.drop b=a∧aeb k e a b=some y) e.data.toList.length ?_ ?_
 ·exact⟨_,e.data.toList,0,rfl,fK,i,List.drop_zero,h⟩
 ·rintro _ _ u⟨l,a,b,rfl,rfl,f,d,h⟩;rcases a with _|⟨s,a⟩
  ·refine gd 6<|bcm (r:=false) rfl rfl (congrArg some<|adV d)<|go 17 ?_;cases oj h z;exact rt1 ⟨K,rfl,f⟩
  ·refine gd 6<|bcm (r:=true) rfl rfl (congrArg some<|ado d)<|go 7<|wk f (fun j m=>∃o g,j o [0,3] [(19,.bool g)]∧m K [] []∧ajK k b g (aeb k e a)=some y) ?_ ?_
   ·refine gd 3 (ixN Tyt9 rfl rfl d<|go 2<|bO 14 h ?_ ?_)<;>intro _ h
    ·exact go 7 ⟨_,true,fK,f,h⟩
    ·exact go 5<|ixN Tyt9 rfl rfl d<|go 5 ⟨_,decide<|(s.toNat:Int)>126,fK,f,h⟩
   ·rintro _ v⟨o,g,rfl,p,h⟩;refine bC 19 h ?_ ?_<;>intro _ h
    ·refine gd 12 ?_;cases oj h z;exact rt1 ⟨K,rfl,p⟩
    ·exact gd 6<|bar (r:=((b+1:Nat):Int)) rfl rfl (aiZ<|ajc q d)<|go 3 ⟨_,Nat.lt_succ_self _,_,a,b+1,rfl,fK,p,aac d,h⟩
theorem ats(k:Nat)(F:ak9)(IH84:afF F.f84):afF (aoH k F):=by
 intro K wi g bs ai aj ak a4 du t I dv dw dx h hG a5 a6;obtain⟨r_,n,h⟩:=rz h;obtain⟨l,o,p,u,f⟩:=a4;obtain⟨v,x,rfl,al,am⟩:=aai.open a5;refine en 161 Tryz.func84 rfl ?_;unfold aoH at h;refine gI 14 [2,2] [] a6 (fun a7 an=>bC 13 h ?_ ?_)<;>intro _ h
 ·refine gd 3 ?_;cases oj h n;exact ret0 rfl ⟨K,rfl,an.sel [1]⟩
 ·refine gd 7 ?_;have ao:=p10 an;refine cB h (fun _ a8=>(ai7 k) a8 (hG.mono kr)<|pt ao) ?_;rintro⟨dy,dz,dA⟩ _ dB⟨a9,rfl,b⟩ h;have s:=ca b ao;refine go 2<|wk s (fun j m=>∃ap y z A B,j ap [0,2,3,5] []∧KH.sub a9 y∧m y [] [.box bs g #[iI z,iI A,.bool B] 104,.box (zz wi) (zz wi) (aE l o p u v f x) 35]∧akT k F l o p f t I z A B=some r_) ?_ ?_
  ·refine gd 4 (bO 19 h ?_ ?_)<;>intro _ h
   ·refine go 4<|cB h (fun _ ba=>(aam k) ba (gm hG b)<|pt s) ?_;rintro⟨bb,bd,be⟩ _ dC⟨bf,rfl,aq⟩ h;have bg:=ca aq s;exact go 2 ⟨_,bf,bb,bd,be,fK,aq.sub,bg,h⟩
   ·refine gP 7 [3,2] s<|cB h (fun _ bh=>(aam k) bh (gm hG b)<|pt s) ?_;rintro⟨bi,bj,bk⟩ _ dD⟨bm,rfl,ar⟩ h;have bn:=ca ar s;exact go 2 ⟨_,bm,bi,bj,bk,fK,ar.sub,bn,h⟩
  ·rintro _ dE⟨ap,y,z,A,B,rfl,d,a,h⟩;refine gd 5<|wk a (fun j m=>∃au S U V W X,j au [0,2,3,5] [(8,iI X)]∧KH.sub y S∧m S [] [.box bs g #[iI U,iI V,.bool W] 104,.box (zz wi) (zz wi) (aE l o p u v f x) 35]∧acl k F f t I U V W X=some r_) ?_ ?_
   ·refine gD 9 [0,2] a (bC 45 h ?_ ?_)<;>intro _ h
    ·refine gD 7 [1,2] a (bO 53 h ?_ ?_)<;>intro _ h
     ·refine gP 8 [1,2] a (bO 58 h ?_ ?_)<;>intro _ h
      ·refine gP 7 [2,2] a<|cB h (fun _ bo=>(aam k) bo (gm hG a)<|pt a) ?_;rintro⟨bp,bq,br⟩ _ dF⟨bu,rfl,av⟩ h;have bv:=ca av a;exact go 3 ⟨_,bu,bp,bq,br,0,fK,av.sub,bv,h⟩
      ·refine go 4<|cB h (fun _ bw=>(aam k) bw (gm hG a)<|pt a) ?_;rintro⟨bx,bz,bB⟩ _ dG⟨bD,rfl,aw⟩ h;have bE:=ca aw a;exact go 3 ⟨_,bD,bx,bz,bB,0,fK,aw.sub,bE,h⟩
     ·refine go 9<|cB h (fun _ bF=>(aam k) bF (gm hG a)<|pt a) ?_;rintro⟨bG,bH,bI⟩ _ dH⟨bJ,rfl,ax⟩ h;have bK:=ca ax a;exact go 3 ⟨_,bJ,bG,bH,bI,0,fK,ax.sub,bK,h⟩
    ·refine gD 9 [0,2] a (bC 64 h ?_ ?_)<;>intro _ h
     ·refine gD 7 [1,2] a (bO 72 h ?_ ?_)<;>intro _ h
      ·refine gP 12 [2,2] a<|cB h (fun _ bL=>(aam k) bL (gm hG a)<|pt a) ?_;rintro⟨bM,bP,bQ⟩ _ dI⟨bR,rfl,ay⟩ h;have bS:=ca ay a;exact go 3 ⟨_,bR,bM,bP,bQ,0,fK,ay.sub,bS,h⟩
      ·refine gP 8 [1,2] a (bO 77 h ?_ ?_)<;>intro _ h
       ·refine gP 7 [2,2] a<|cB h (fun _ bT=>(aam k) bT (gm hG a)<|pt a) ?_;rintro⟨bU,bV,bW⟩ _ dJ⟨bX,rfl,az⟩ h;have bY:=ca az a;exact go 3 ⟨_,bX,bU,bV,bW,0,fK,az.sub,bY,h⟩
       ·refine go 4<|cB h (fun _ bZ=>(aam k) bZ (gm hG a)<|pt a) ?_;rintro⟨b0,b1,b2⟩ _ dK⟨b3,rfl,aA⟩ h;have b4:=ca aA a;exact go 3 ⟨_,b3,b0,b1,b2,0,fK,aA.sub,b4,h⟩
     ·refine gD 9 [0,2] a (bC 83 h ?_ ?_)<;>intro _ h
      ·refine gD 7 [1,2] a (bO 91 h ?_ ?_)<;>intro _ h
       ·refine gP 5 [2,2] a<|cB h (fun _ b5=>(auD k) b5 (gm hG a) al<|pt a) ?_;rintro dL _ dM⟨dN,rfl,Y⟩ h;have aB:=ca Y a;refine go 1<|cB h (fun _ b6=>(aam k) b6 (gm hG aB)<|pt aB) ?_;rintro⟨b7,b8,b9⟩ _ dO⟨cb,rfl,aG⟩ h;have cc:=ca aG aB;exact go 3 ⟨_,cb,b7,b8,b9,0,fK,Y.sub.trans aG.sub,cc,h⟩
       ·refine go 4<|cB h (fun _ ce=>(aam k) ce (gm hG a)<|pt a) ?_;rintro⟨cf,ch,ci⟩ _ dP⟨cj,rfl,aH⟩ h;have ck:=ca aH a;exact go 3 ⟨_,cj,cf,ch,ci,0,fK,aH.sub,ck,h⟩
      ·refine gD 9 [0,2] a (bC 97 h ?_ ?_)<;>intro _ h
       ·refine gD 7 [1,2] a (bO 105 h ?_ ?_)<;>intro _ h
        ·refine gP 5 [2,2] a<|cB h (fun _ cl=>(acY k) cl (gm hG a) al<|pt a) ?_;rintro dQ _ dR⟨dS,rfl,Z⟩ h;have aI:=ca Z a;refine go 1<|cB h (fun _ cm=>(aam k) cm (gm hG aI)<|pt aI) ?_;rintro⟨cn,co,cq⟩ _ dT⟨cr,rfl,aK⟩ h;have cs:=ca aK aI;exact go 3 ⟨_,cr,cn,co,cq,0,fK,Z.sub.trans aK.sub,cs,h⟩
        ·refine go 4<|cB h (fun _ ct=>(aam k) ct (gm hG a)<|pt a) ?_;rintro⟨cu,cw,cx⟩ _ dU⟨cy,rfl,aL⟩ h;have cz:=ca aL a;exact go 3 ⟨_,cy,cu,cw,cx,0,fK,aL.sub,cz,h⟩
       ·refine gd 1<|wk a (fun j m=>∃aM ab,j aM [0,2,3,5] [(111,.bool ab)]∧m y [] [.box bs g #[iI z,iI A,.bool B] 104,.box (zz wi) (zz wi) (aE l o p u v f x) 35]∧anP k F l o p f t I z A B ab=some r_) ?_ ?_
        ·refine gD 5 [0,2] a (bO 115 h ?_ ?_)<;>intro _ h
         ·exact go 7 ⟨_,true,fK,a,h⟩
         ·exact gP 10 [0,2] a ⟨_,l==6,fK,a,h⟩
        ·rintro _ dV⟨aM,ab,rfl,e,h⟩;refine bC 111 h ?_ ?_<;>intro _ h
         ·refine gD 12 [1,2] e (bO 124 h ?_ ?_)<;>intro _ h
          ·refine gP 7 [2,2] e<|cB h (fun _ cA=>(aam k) cA (gm hG e)<|pt e) ?_;rintro⟨cC,cD,cG⟩ _ dW⟨cH,rfl,aN⟩ h;have cI:=ca aN e;exact go 3 ⟨_,cH,cC,cD,cG,1,fK,aN.sub,cI,h⟩
          ·refine go 4<|cB h (fun _ cJ=>(aam k) cJ (gm hG e)<|pt e) ?_;rintro⟨cK,cL,cM⟩ _ dX⟨cN,rfl,aP⟩ h;have cO:=ca aP e;exact go 3 ⟨_,cN,cK,cL,cM,1,fK,aP.sub,cO,h⟩
         ·refine gD 12 [0,2] e (bO 29 h ?_ ?_)<;>intro _ h
          ·refine gP 8 [0,2] e (bO 34 h ?_ ?_)<;>intro _ h
           ·refine gP 8 [1,2] e (bO 39 h ?_ ?_)<;>intro _ h
            ·refine gP 7 [2,2] e<|cB h (fun _ cP=>(aam k) cP (gm hG e)<|pt e) ?_;rintro⟨cQ,cR,cS⟩ _ dY⟨cU,rfl,aT⟩ h;have cV:=ca aT e;exact go 3 ⟨_,cU,cQ,cR,cS,2,fK,aT.sub,cV,h⟩
            ·refine go 4<|cB h (fun _ cW=>(aam k) cW (gm hG e)<|pt e) ?_;rintro⟨cY,cZ,c3⟩ _ dZ⟨c4,rfl,aU⟩ h;have c5:=ca aU e;exact go 3 ⟨_,c4,cY,cZ,c3,2,fK,aU.sub,c5,h⟩
           ·refine go 9<|cB h (fun _ c6=>(aam k) c6 (gm hG e)<|pt e) ?_;rintro⟨c7,c8,c9⟩ _ d0⟨da,rfl,aV⟩ h;have db:=ca aV e;exact go 3 ⟨_,da,c7,c8,c9,2,fK,aV.sub,db,h⟩
          ·refine go 14<|cB h (fun _ dc=>(aam k) dc (gm hG e)<|pt e) ?_;rintro⟨dd,de,df⟩ _ d1⟨dg,rfl,aW⟩ h;have dh:=ca aW e;exact go 3 ⟨_,dg,dd,de,df,2,fK,aW.sub,dh,h⟩
   ·rintro _ d2⟨au,S,U,V,W,X,rfl,J,ac,h⟩;refine gD 8 [4,2] ac<|cB h (fun _ di=>(aam k) di (gm hG ac)<|pt ac) ?_;rintro⟨dj,dk,dl⟩ _ d3⟨aX,rfl,N⟩ h;have aY:=ca N ac;refine go 8<|wl aY (fun j m g_=>∃aZ C q,∃(D:Nat),∃ad ae af,g_=q.length∧j aZ [0,2,3,5] [(9,iI (D:Int))]∧KH.sub aX C∧m C [] [.box bs g #[iI ad,iI ae,.bool af] 104,.box (zz wi) (zz wi) (aE l o p u v f x) 35]∧f.drop D=q∧agE k F t I q D ad ae af=some r_) f.length ?_ ?_
    ·exact⟨_,aX,f,0,dj,dk,dl,rfl,fK,kr,aY,List.drop_zero,h⟩
    ·rintro _ _ d4⟨aZ,C,q,D,ad,ae,af,rfl,rfl,O,i,G,h⟩;rcases q with _|⟨⟨d5,d6,d7,d8,d9⟩,q⟩
     ·refine gD 7 [4,2] i<|cNl G<|go 14 ?_;cases oj h n;exact end0 rfl ⟨C,rfl,i.sel [0]⟩
     ·refine gD 7 [4,2] i (cCl G<|gP 14 [2,1] i<|bC 148 h ?_ ?_)<;>intro _ h
      ·refine gD 10 [4,2] i<|eN i (me am<|(((b.sub.trans d).trans J).trans N.sub).trans O) G aai.open ?_;rintro ea ec ed ee ef dm⟨eg,eh,rfl,ei,ej⟩;refine go 1<|bar (r:=(w64<|t+1)) rfl rfl rfl<|go 1<|cB h (fun _ dn=>IH84 dn (gm hG i) dm<|pt i) ?_;rintro⟨dp,dq,dr⟩ _ ek⟨ds,rfl,a0⟩ h;have dt:=ca a0 i;exact go 5<|iCl G ((me am<|(((b.sub.trans d).trans J).trans N.sub).trans O).len)<|go 3 ⟨_,Nat.lt_succ_self _,_,ds,q,D+1,dp,dq,dr,rfl,fK,O.trans a0.sub,dt,aac G,h⟩
      ·refine gd 5 ?_;cases oj h n;exact end0 rfl ⟨C,rfl,i.sel [0]⟩
theorem asT(k0:Nat) : ∀k,afF (akp k0 k).f84:=by
 intro k;induction k with
 | zero=>simp[afF,akp]
 | succ k ih=>exact ats k0 (akp k0 k) ih
theorem at2(k:Nat):afF (f84 k):=(asT k k)
theorem apQ(k:Nat)(F:abk)(IH118:acX F.f118)(IH142:acV F.f142)(IH169:acW F.f169):acX (arx k F):=by
 intro K wi g bs v x y l N O z S U V h hG r s;obtain⟨r_,n,h⟩:=rz h;refine en 27 Tryz.func118 rfl ?_;unfold arx at h;refine gd 6<|wl s (fun j m g_=>∃t d a,∃(e:Nat),∃o p q,g_=a.length∧j t [0,1,2] [(6,iI (e:Int))]∧KH.sub K d∧m d [] [.box bs g #[iI o,iI p,.bool q] 104]∧l.drop e=a∧ae5 k F z a e o p q=some r_) l.length ?_ ?_
 ·exact⟨_,K,l,0,v,x,y,rfl,fK,kr,s,List.drop_zero,h⟩
 ·rintro _ _ W⟨t,d,a,e,o,p,q,rfl,rfl,i,b,f,h⟩;rcases a with _|⟨⟨X,Y,Z,ab,ac,ad,ae,af,ai,aj,ak⟩,a⟩
  ·refine gd 6<|cNl f<|go 14 ?_;cases oj h n;exact end0 rfl ⟨d,rfl,b⟩
  ·refine gd 6 (cCl f<|gP 14 [2,1] b<|bC 17 h ?_ ?_)<;>intro _ h
   ·refine gd 9<|eN b (ms r i) f aag.open ?_;rintro al am an ao ap A⟨aq,ar,au,av,aw,ax,ay,az,aA,aB,rfl,aG,aH,aI,aK,aL,aM,aN⟩;refine go 1<|cB h (fun _ B=>IH142 B (hG.mono i) A<|pt b) ?_;rintro⟨C,D,G⟩ _ aP⟨I,rfl,u⟩ h;have J:=ca u b;exact go 5<|iCl f ((ms r i).len)<|go 3 ⟨_,Nat.lt_succ_self _,_,I,a,e+1,C,D,G,rfl,fK,i.trans u.sub,J,aac f,h⟩
   ·refine gd 5 ?_;cases oj h n;exact end0 rfl ⟨d,rfl,b⟩
theorem aq0(k:Nat)(F:abk)(IH118:acX F.f118)(IH142:acV F.f142)(IH169:acW F.f169):acV (aiV k F):=by
 intro K wi g bs aA aB aG dM jr ae js jt ju h hG dN dO;obtain⟨n,o,h⟩:=rz h;obtain⟨A,B,I,D,J,s,q,t,u,x,l⟩:=dM;obtain⟨N,O,S,U,V,W,X,Y,Z,ab,rfl,a5,dP,ck,dQ,dR,dS,cl⟩:=aag.open dN;refine en 307 Tryz.func142 rfl ?_;unfold aiV at h;refine gI 14 [2,2] [] dO (fun dT cm=>bC 13 h ?_ ?_)<;>intro _ h
 ·refine gd 3 ?_;cases oj h o;exact ret0 rfl ⟨K,rfl,cm.sel [1]⟩
 ·refine gd 7 ?_;have cn:=p10 cm;refine cB h (fun _ dU=>(ai7 k) dU (hG.mono kr)<|pt cn) ?_;rintro⟨aU,aV,aW⟩ _ jv⟨jw,rfl,a⟩ h;have bH:=ca a cn;refine gP 6 [0,2] bH<|cB h (fun _ dV=>(awg k) dV (gm hG a)<|pt bH) ?_;rintro⟨⟨aq,ar,am,al,ak,au⟩,jx⟩ _ av⟨aK,jy,rfl,d,dW⟩ h;have dX:=ca d bH;obtain rfl:=ace.open dW;refine gR 8 [0] [[iI 0,iI 0,iI 0,vN,vN,iI 0]] dX (fun jz aX ai=>wk ai (fun j m=>∃co bm bI bJ bK,j co [0,2,4,6] []∧KH.sub aK bm∧m bm [] [.box bs g #[iI bI,iI bJ,.bool bK] 104,.box (zz wi) (zz wi) (aS A B I D J s N q O S t U V u W X x Y Z l ab) 62,.box (zz wi) (zz av) #[iI aq,iI ar,iI am,.bool al,.bool ak,iI au] 210]∧adu k F A B D s q t u x l ae am al ak bI bJ bK=some n) ?_ ?_)
  ·refine gd 4 (bO 25 h ?_ ?_)<;>intro _ h
   ·refine gP 14 [6,3,0,1] ai (bO 33 h ?_ ?_)<;>intro _ h
    ·refine gP 14 [6,3,1,1] ai (bO 41 h ?_ ?_)<;>intro _ h
     ·refine gP 8 [5,3] ai (bO 46 h ?_ ?_)<;>intro _ h
      ·refine gP 12 [5,3,5,1] ai (bO 53 h ?_ ?_)<;>intro _ h
       ·refine gP 8 [2,3] ai (bO 58 h ?_ ?_)<;>intro _ h
        ·refine gP 7 [4,3] ai ?_;have cq:=p102 ai;refine cB h (fun _ dY=>(aam k) dY (gm hG cq)<|pt cq) ?_;rintro⟨dZ,d0,d1⟩ _ jA⟨d2,rfl,cr⟩ h;have d3:=ca cr cq;exact go 2 ⟨_,d2,dZ,d0,d1,fK,cr.sub,d3.sel [0,2,1],h⟩
        ·refine go 4 ?_;have cs:=p102 ai;refine cB h (fun _ d4=>(aam k) d4 (gm hG cs)<|pt cs) ?_;rintro⟨d5,d6,d7⟩ _ jB⟨d8,rfl,ct⟩ h;have d9:=ca ct cs;exact go 2 ⟨_,d8,d5,d6,d7,fK,ct.sub,d9.sel [0,2,1],h⟩
       ·refine go 9 ?_;have cu:=p102 ai;refine cB h (fun _ ea=>(aam k) ea (gm hG cu)<|pt cu) ?_;rintro⟨ec,ed,ee⟩ _ jC⟨ef,rfl,cw⟩ h;have eg:=ca cw cu;exact go 2 ⟨_,ef,ec,ed,ee,fK,cw.sub,eg.sel [0,2,1],h⟩
      ·refine go 16 ?_;have cx:=p102 ai;refine cB h (fun _ eh=>(aam k) eh (gm hG cx)<|pt cx) ?_;rintro⟨ei,ej,ek⟩ _ jD⟨el,rfl,cy⟩ h;have em:=ca cy cx;exact go 2 ⟨_,el,ei,ej,ek,fK,cy.sub,em.sel [0,2,1],h⟩
     ·refine go 21 ?_;have cz:=p102 ai;refine cB h (fun _ eo=>(aam k) eo (gm hG cz)<|pt cz) ?_;rintro⟨ep,eq,es⟩ _ jE⟨et,rfl,cA⟩ h;have eu:=ca cA cz;exact go 2 ⟨_,et,ep,eq,es,fK,cA.sub,eu.sel [0,2,1],h⟩
    ·refine go 29 ?_;have cC:=p102 ai;refine cB h (fun _ ew=>(aam k) ew (gm hG cC)<|pt cC) ?_;rintro⟨ex,ey,ez⟩ _ jF⟨eC,rfl,cD⟩ h;have eD:=ca cD cC;exact go 2 ⟨_,eC,ex,ey,ez,fK,cD.sub,eD.sel [0,2,1],h⟩
   ·refine go 37 ?_;have cG:=p102 ai;refine cB h (fun _ eF=>(aam k) eF (gm hG cG)<|pt cG) ?_;rintro⟨eH,eI,eJ⟩ _ jG⟨eL,rfl,cH⟩ h;have eM:=ca cH cG;exact go 2 ⟨_,eL,eH,eI,eJ,fK,cH.sub,eM.sel [0,2,1],h⟩
  ·rintro _ jH⟨co,bm,bI,bJ,bK,rfl,e,z,h⟩;refine wk z (fun j m=>∃cI bn bL bM bP,j cI [0,2,4,6] []∧KH.sub bm bn∧m bn [] [.box bs g #[iI bL,iI bM,.bool bP] 104,.box (zz wi) (zz wi) (aS A B I D J s N q O S t U V u W X x Y Z l ab) 62,.box (zz wi) (zz av) #[iI aq,iI ar,iI am,.bool al,.bool ak,iI au] 210]∧ab5 k F A B D s q t u x l ae al ak bL bM bP=some n) ?_ ?_
   ·refine gD 6 [2,3] z (bO 68 h ?_ ?_)<;>intro _ h
    ·refine gP 8 [1,2] z (bO 73 h ?_ ?_)<;>intro cJ h
     ·refine go 24<|cB h (fun _ eO=>(aam k) eO (gm hG z)<|pt z) ?_;rintro⟨eP,eQ,eR⟩ _ jI⟨eS,rfl,cK⟩ h;have eT:=ca cK z;exact go 2 ⟨_,eS,eP,eQ,eR,fK,cK.sub,eT,h⟩
     ·refine gP 8 [2,3] z (bO 77 h ?_ ?_)<;>intro _ h
      ·refine gP 5 [1,2] z<|cB h (fun _ eU=>(acY k) eU (gm hG z) a5<|pt z) ?_;rintro jK _ jL⟨jM,rfl,aL⟩ h;have aH:=ca aL z;refine go 4 (bO 83 h ?_ ?_)<;>intro _ h
       ·refine go 14<|cB h (fun _ eV=>(aam k) eV (gm hG aH)<|pt aH) ?_;rintro⟨eX,eY,eZ⟩ _ jN⟨e0,rfl,cL⟩ h;have e1:=ca cL aH;exact go 2 ⟨_,e0,eX,eY,eZ,fK,aL.sub.trans cL.sub,e1,h⟩
       ·refine gP 8 [2,3] aH (bO 87 h ?_ ?_)<;>intro _ h
        ·refine gP 8 [1,2] aH<|lO 91 cJ<|gP 5 [1,2] aH<|cB h (fun _ e3=>(acY k) e3 (gm hG aH) a5<|pt aH) ?_;rintro jO _ jP⟨jQ,rfl,bQ⟩ h;have cM:=ca bQ aH;refine go 5<|cB h (fun _ e4=>(aam k) e4 (gm hG cM)<|pt cM) ?_;rintro⟨e5,e6,e7⟩ _ jR⟨e8,rfl,cN⟩ h;have e9:=ca cN cM;exact go 2 ⟨_,e8,e5,e6,e7,fK,(aL.sub.trans bQ.sub).trans cN.sub,e9,h⟩
        ·refine go 11<|cB h (fun _ fa=>(aam k) fa (gm hG aH)<|pt aH) ?_;rintro⟨fb,fc,fe⟩ _ jS⟨ff,rfl,cO⟩ h;have fg:=ca cO aH;exact go 2 ⟨_,ff,fb,fc,fe,fK,aL.sub.trans cO.sub,fg,h⟩
      ·refine gP 15 [2,3] z (bO 87 h ?_ ?_)<;>intro _ h
       ·refine gP 8 [1,2] z<|lO 91 cJ<|gP 5 [1,2] z<|cB h (fun _ fh=>(acY k) fh (gm hG z) a5<|pt z) ?_;rintro jT _ jU⟨jV,rfl,bR⟩ h;have cP:=ca bR z;refine go 5<|cB h (fun _ fi=>(aam k) fi (gm hG cP)<|pt cP) ?_;rintro⟨fj,fk,fl⟩ _ jW⟨fm,rfl,cQ⟩ h;have fn:=ca cQ cP;exact go 2 ⟨_,fm,fj,fk,fl,fK,bR.sub.trans cQ.sub,fn,h⟩
       ·refine go 11<|cB h (fun _ fo=>(aam k) fo (gm hG z)<|pt z) ?_;rintro⟨fp,fs,ft⟩ _ jX⟨fu,rfl,cR⟩ h;have fv:=ca cR z;exact go 2 ⟨_,fu,fp,fs,ft,fK,cR.sub,fv,h⟩
    ·refine gP 13 [2,3] z (bO 77 h ?_ ?_)<;>intro _ h
     ·refine gP 5 [1,2] z<|cB h (fun _ fx=>(acY k) fx (gm hG z) a5<|pt z) ?_;rintro jY _ jZ⟨j0,rfl,aw⟩ h;have an:=ca aw z;refine go 4 (bO 83 h ?_ ?_)<;>intro _ h
      ·refine go 14<|cB h (fun _ fy=>(aam k) fy (gm hG an)<|pt an) ?_;rintro⟨fz,fA,fB⟩ _ j1⟨fC,rfl,cS⟩ h;have fD:=ca cS an;exact go 2 ⟨_,fC,fz,fA,fB,fK,aw.sub.trans cS.sub,fD,h⟩
      ·refine gP 8 [2,3] an (bO 87 h ?_ ?_)<;>intro _ h
       ·refine gP 8 [1,2] an (bO 91 h ?_ ?_)<;>intro _ h
        ·refine go 8<|cB h (fun _ fE=>(aam k) fE (gm hG an)<|pt an) ?_;rintro⟨fF,fG,fH⟩ _ j2⟨fI,rfl,cU⟩ h;have fJ:=ca cU an;exact go 2 ⟨_,fI,fF,fG,fH,fK,aw.sub.trans cU.sub,fJ,h⟩
        ·refine gP 5 [1,2] an<|cB h (fun _ fL=>(acY k) fL (gm hG an) a5<|pt an) ?_;rintro j3 _ j4⟨j5,rfl,bS⟩ h;have cV:=ca bS an;refine go 5<|cB h (fun _ fM=>(aam k) fM (gm hG cV)<|pt cV) ?_;rintro⟨fN,fO,fP⟩ _ j6⟨fQ,rfl,cW⟩ h;have fS:=ca cW cV;exact go 2 ⟨_,fQ,fN,fO,fP,fK,(aw.sub.trans bS.sub).trans cW.sub,fS,h⟩
       ·refine go 11<|cB h (fun _ fT=>(aam k) fT (gm hG an)<|pt an) ?_;rintro⟨fU,fV,fW⟩ _ j7⟨fX,rfl,cY⟩ h;have fY:=ca cY an;exact go 2 ⟨_,fX,fU,fV,fW,fK,aw.sub.trans cY.sub,fY,h⟩
     ·refine gP 15 [2,3] z (bO 87 h ?_ ?_)<;>intro _ h
      ·refine gP 8 [1,2] z (bO 91 h ?_ ?_)<;>intro _ h
       ·refine go 8<|cB h (fun _ fZ=>(aam k) fZ (gm hG z)<|pt z) ?_;rintro⟨f0,f1,f2⟩ _ j8⟨f3,rfl,cZ⟩ h;have f4:=ca cZ z;exact go 2 ⟨_,f3,f0,f1,f2,fK,cZ.sub,f4,h⟩
       ·refine gP 5 [1,2] z<|cB h (fun _ f5=>(acY k) f5 (gm hG z) a5<|pt z) ?_;rintro j9 _ ka⟨kb,rfl,bT⟩ h;have c2:=ca bT z;refine go 5<|cB h (fun _ f7=>(aam k) f7 (gm hG c2)<|pt c2) ?_;rintro⟨ga,gb,gc⟩ _ kc⟨ge,rfl,c4⟩ h;have gf:=ca c4 c2;exact go 2 ⟨_,ge,ga,gb,gc,fK,bT.sub.trans c4.sub,gf,h⟩
      ·refine go 11<|cB h (fun _ gg=>(aam k) gg (gm hG z)<|pt z) ?_;rintro⟨gh,gi,gj⟩ _ kd⟨gk,rfl,c5⟩ h;have gl:=ca c5 z;exact go 2 ⟨_,gk,gh,gi,gj,fK,c5.sub,gl,h⟩
   ·rintro _ ke⟨cI,bn,bL,bM,bP,rfl,f,ao,h⟩;refine wk ao (fun j m=>∃c7 bo bU bV bW,j c7 [0,2,4,6] []∧KH.sub bn bo∧m bo [] [.box bs g #[iI bU,iI bV,.bool bW] 104,.box (zz wi) (zz wi) (aS A B I D J s N q O S t U V u W X x Y Z l ab) 62,.box (zz wi) (zz av) #[iI aq,iI ar,iI am,.bool al,.bool ak,iI au] 210]∧ae4 k F A B s q t u x l ae ak bU bV bW=some n) ?_ ?_
    ·refine gD 5 [3,3] ao (bO 102 h ?_ ?_)<;>intro _ h
     ·refine gP 5 [3,2] ao<|cB h (fun _ gn=>(acY k) gn (gm hG ao) dP<|pt ao) ?_;rintro kf _ kg⟨kh,rfl,aY⟩ h;have aM:=ca aY ao;refine go 2 (bO 107 h ?_ ?_)<;>intro _ h
      ·refine go 9<|cB h (fun _ gp=>(aam k) gp (gm hG aM)<|pt aM) ?_;rintro⟨gq,gr,gs⟩ _ ki⟨gt,rfl,c8⟩ h;have gu:=ca c8 aM;exact go 2 ⟨_,gt,gq,gr,gs,fK,aY.sub.trans c8.sub,gu,h⟩
      ·refine gP 8 [3,3] aM (bO 111 h ?_ ?_)<;>intro _ h
       ·refine gP 9 [3,2] aM<|cB h (fun _ gv=>(aam k) gv (gm hG aM)<|pt aM) ?_;rintro⟨gw,gy,gz⟩ _ kj⟨gA,rfl,da⟩ h;have gB:=ca da aM;exact go 2 ⟨_,gA,gw,gy,gz,fK,aY.sub.trans da.sub,gB,h⟩
       ·refine go 6<|cB h (fun _ gF=>(aam k) gF (gm hG aM)<|pt aM) ?_;rintro⟨gG,gH,gJ⟩ _ kk⟨gK,rfl,db⟩ h;have gL:=ca db aM;exact go 2 ⟨_,gK,gG,gH,gJ,fK,aY.sub.trans db.sub,gL,h⟩
     ·refine gP 13 [3,3] ao (bO 111 h ?_ ?_)<;>intro _ h
      ·refine gP 9 [3,2] ao<|cB h (fun _ gM=>(aam k) gM (gm hG ao)<|pt ao) ?_;rintro⟨gN,gQ,gT⟩ _ kl⟨gU,rfl,dc⟩ h;have gV:=ca dc ao;exact go 2 ⟨_,gU,gN,gQ,gT,fK,dc.sub,gV,h⟩
      ·refine go 6<|cB h (fun _ gW=>(aam k) gW (gm hG ao)<|pt ao) ?_;rintro⟨gZ,g0,g1⟩ _ km⟨g2,rfl,dd⟩ h;have g3:=ca dd ao;exact go 2 ⟨_,g2,gZ,g0,g1,fK,dd.sub,g3,h⟩
    ·rintro _ kn⟨c7,bo,bU,bV,bW,rfl,p,aZ,h⟩;refine wk aZ (fun j m=>∃de bp bX bY bZ,j de [0,2,4] []∧KH.sub bo bp∧m bp [] [.box bs g #[iI bX,iI bY,.bool bZ] 104,.box (zz wi) (zz wi) (aS A B I D J s N q O S t U V u W X x Y Z l ab) 62]∧ahC k F A B s q t u x l ae bX bY bZ=some n) ?_ ?_
     ·refine gD 5 [4,3] aZ (bO 121 h ?_ ?_)<;>intro _ h
      ·refine go 5<|cB h (fun _ g4=>(aam k) g4 (gm hG aZ)<|pt aZ) ?_;rintro⟨g5,g6,g7⟩ _ ko⟨g8,rfl,df⟩ h;have g9:=ca df aZ;exact go 2 ⟨_,g8,g5,g6,g7,fK,df.sub,g9.sel [0,1],h⟩
      ·refine gP 9 [7,2] aZ<|cB h (fun _ ha=>(aam k) ha (gm hG aZ)<|pt aZ) ?_;rintro⟨hb,hc,hd⟩ _ kq⟨he,rfl,dg⟩ h;have hf:=ca dg aZ;exact go 2 ⟨_,he,hb,hc,hd,fK,dg.sub,hf.sel [0,1],h⟩
     ·rintro _ ks⟨de,bp,bX,bY,bZ,rfl,y,ac,h⟩;refine wk ac (fun j m=>∃dh bq b0 b1 b2,j dh [0,2,4] []∧KH.sub bp bq∧m bq [] [.box bs g #[iI b0,iI b1,.bool b2] 104,.box (zz wi) (zz wi) (aS A B I D J s N q O S t U V u W X x Y Z l ab) 62]∧aed k F A B s q t u x l ae b0 b1 b2=some n) ?_ ?_
      ·refine gD 7 [8,2] ac (bO 133 h ?_ ?_)<;>intro _ h
       ·refine go 20<|cB h (fun _ hg=>(aam k) hg (hG.mono<|((((a.sub.trans d.sub).trans e).trans f).trans p).trans y)<|pt ac) ?_;rintro⟨hh,hi,hj⟩ _ kt⟨hk,rfl,di⟩ h;have hl:=ca di ac;exact go 2 ⟨_,hk,hh,hi,hj,fK,di.sub,hl,h⟩
       ·refine gP 8 [0,2] ac (bO 137 h ?_ ?_)<;>intro _ h
        ·refine gP 10 [5,2] ac (bO 143 h ?_ ?_)<;>intro _ h
         ·refine go 10<|cB h (fun _ hm=>(aam k) hm (hG.mono<|((((a.sub.trans d.sub).trans e).trans f).trans p).trans y)<|pt ac) ?_;rintro⟨hn,ho,hp⟩ _ ku⟨hq,rfl,dj⟩ h;have hr:=ca dj ac;exact go 2 ⟨_,hq,hn,ho,hp,fK,dj.sub,hr,h⟩
         ·refine gP 8 [0,2] ac (bO 147 h ?_ ?_)<;>intro _ h
          ·refine gP 5 [5,2] ac<|bdv (r:=(s.tmod 2)) rfl rfl (by decide) rfl<|go 5<|cB h (fun _ hs=>(aam k) hs (hG.mono<|((((a.sub.trans d.sub).trans e).trans f).trans p).trans y)<|pt ac) ?_;rintro⟨ht,hu,hv⟩ _ kv⟨hw,rfl,dk⟩ h;have hx:=ca dk ac;exact go 2 ⟨_,hw,ht,hu,hv,fK,dk.sub,hx,h⟩
          ·refine go 7<|cB h (fun _ hy=>(aam k) hy (hG.mono<|((((a.sub.trans d.sub).trans e).trans f).trans p).trans y)<|pt ac) ?_;rintro⟨hz,hA,hB⟩ _ kw⟨hC,rfl,dl⟩ h;have hD:=ca dl ac;exact go 2 ⟨_,hC,hz,hA,hB,fK,dl.sub,hD,h⟩
        ·refine gP 15 [0,2] ac (bO 147 h ?_ ?_)<;>intro _ h
         ·refine gP 5 [5,2] ac<|bdv (r:=(s.tmod 2)) rfl rfl (by decide) rfl<|go 5<|cB h (fun _ hF=>(aam k) hF (hG.mono<|((((a.sub.trans d.sub).trans e).trans f).trans p).trans y)<|pt ac) ?_;rintro⟨hH,hI,hJ⟩ _ kx⟨hK,rfl,dm⟩ h;have hL:=ca dm ac;exact go 2 ⟨_,hK,hH,hI,hJ,fK,dm.sub,hL,h⟩
         ·refine go 7<|cB h (fun _ hM=>(aam k) hM (hG.mono<|((((a.sub.trans d.sub).trans e).trans f).trans p).trans y)<|pt ac) ?_;rintro⟨hN,hO,hP⟩ _ ky⟨hQ,rfl,dn⟩ h;have hR:=ca dn ac;exact go 2 ⟨_,hQ,hN,hO,hP,fK,dn.sub,hR,h⟩
      ·rintro _ kz⟨dh,bq,b0,b1,b2,rfl,C,ax,h⟩;refine wk ax (fun j m=>∃dp be br bu bv,j dp [0,2,4] []∧KH.sub bq be∧m be [] [.box bs g #[iI br,iI bu,.bool bv] 104,.box (zz wi) (zz wi) (aS A B I D J s N q O S t U V u W X x Y Z l ab) 62]∧ahJ k F A B s q t u x l ae br bu bv=some n) ?_ ?_
       ·refine gD 7 [9,2] ax (bO 160 h ?_ ?_)<;>intro _ h
        ·refine go 9<|cB h (fun _ hS=>(aam k) hS (hG.mono<|(((((a.sub.trans d.sub).trans e).trans f).trans p).trans y).trans C)<|pt ax) ?_;rintro⟨hT,hU,hV⟩ _ kB⟨hW,rfl,dq⟩ h;have hX:=ca dq ax;exact go 2 ⟨_,hW,hT,hU,hV,fK,dq.sub,hX,h⟩
        ·refine gP 8 [0,2] ax (bO 164 h ?_ ?_)<;>intro _ h
         ·refine gP 9 [5,2] ax<|cB h (fun _ hY=>(aam k) hY (hG.mono<|(((((a.sub.trans d.sub).trans e).trans f).trans p).trans y).trans C)<|pt ax) ?_;rintro⟨hZ,h0,h1⟩ _ kD⟨h2,rfl,dr⟩ h;have h3:=ca dr ax;exact go 2 ⟨_,h2,hZ,h0,h1,fK,dr.sub,h3,h⟩
         ·refine go 6<|cB h (fun _ h4=>(aam k) h4 (hG.mono<|(((((a.sub.trans d.sub).trans e).trans f).trans p).trans y).trans C)<|pt ax) ?_;rintro⟨h5,h6,h7⟩ _ kJ⟨h8,rfl,ds⟩ h;have h9:=ca ds ax;exact go 2 ⟨_,h8,h5,h6,h7,fK,ds.sub,h9,h⟩
       ·rintro _ kO⟨dp,be,br,bu,bv,rfl,G,ad,h⟩;refine wk ad (fun j m=>∃dt bw b3 b4 b5,j dt [0,2,4] []∧KH.sub be bw∧m bw [] [.box bs g #[iI b3,iI b4,.bool b5] 104,.box (zz wi) (zz wi) (aS A B I D J s N q O S t U V u W X x Y Z l ab) 62]∧adW k F A q t u x l ae b3 b4 b5=some n) ?_ ?_
        ·refine gD 13 [0,2] ad (bC 173 h ?_ ?_)<;>intro _ h
         ·refine gD 7 [5,2] ad (bO 179 h ?_ ?_)<;>intro _ h
          ·refine go 4<|cB h (fun _ ia=>(aam k) ia (hG.mono<|((((((a.sub.trans d.sub).trans e).trans f).trans p).trans y).trans C).trans G)<|pt ad) ?_;rintro⟨ib,ic,id⟩ _ kP⟨ie,rfl,du⟩ h;have ig:=ca du ad;exact go 3 ⟨_,ie,ib,ic,id,fK,du.sub,ig,h⟩
          ·refine gP 7 [1,2] ad<|cB h (fun _ ih=>(aam k) ih (hG.mono<|((((((a.sub.trans d.sub).trans e).trans f).trans p).trans y).trans C).trans G)<|pt ad) ?_;rintro⟨ii,ij,ik⟩ _ kQ⟨il,rfl,dv⟩ h;have im:=ca dv ad;exact go 3 ⟨_,il,ii,ij,ik,fK,dv.sub,im,h⟩
         ·refine gd 7 (bC 185 h ?_ ?_)<;>intro _ h
          ·refine gD 7 [5,2] ad (bO 191 h ?_ ?_)<;>intro _ h
           ·refine gP 5 [5,2] ad<|bdv (r:=(s.tmod 2)) rfl rfl (by decide) rfl<|gP 11 [1,2] ad<|cB h (fun _ io=>(aam k) io (hG.mono<|((((((a.sub.trans d.sub).trans e).trans f).trans p).trans y).trans C).trans G)<|pt ad) ?_;rintro⟨ip,iq,ir⟩ _ kR⟨it,rfl,dw⟩ h;have iu:=ca dw ad;exact go 3 ⟨_,it,ip,iq,ir,fK,dw.sub,iu,h⟩
           ·refine go 9<|cB h (fun _ iv=>(aam k) iv (hG.mono<|((((((a.sub.trans d.sub).trans e).trans f).trans p).trans y).trans C).trans G)<|pt ad) ?_;rintro⟨iw,ix,iy⟩ _ kT⟨iz,rfl,dx⟩ h;have iA:=ca dx ad;exact go 3 ⟨_,iz,iw,ix,iy,fK,dx.sub,iA,h⟩
          ·refine gd 7 (bC 202 h ?_ ?_)<;>intro _ h
           ·refine gD 5 [5,2] ad<|bdv (r:=(s.tmod 4)) rfl rfl (by decide) rfl<|go 1<|cB h (fun _ iB=>(aam k) iB (hG.mono<|((((((a.sub.trans d.sub).trans e).trans f).trans p).trans y).trans C).trans G)<|pt ad) ?_;rintro⟨iC,iD,iE⟩ _ kU⟨iF,rfl,dy⟩ h;have iG:=ca dy ad;exact go 3 ⟨_,iF,iC,iD,iE,fK,dy.sub,iG,h⟩
           ·exact gd 4 ⟨_,be,br,bu,bv,fK,kr,ad,h⟩
        ·rintro _ kV⟨dt,bw,b3,b4,b5,rfl,af,a0,h⟩;refine wk a0 (fun j m=>∃dz a6 bx bz bB,j dz [0,2,4] []∧KH.sub bw a6∧m a6 [] [.box bs g #[iI bx,iI bz,.bool bB] 104,.box (zz wi) (zz wi) (aS A B I D J s N q O S t U V u W X x Y Z l ab) 62]∧aj0 k F q t u x l ae bx bz bB=some n) ?_ ?_
         ·refine gD 11 [0,2,10,2] a0 (bO 219 h ?_ ?_)<;>intro _ h
          ·refine gP 9 [10,2] a0<|cB h (fun _ iH=>(aam k) iH (hG.mono<|(((((((a.sub.trans d.sub).trans e).trans f).trans p).trans y).trans C).trans G).trans af)<|pt a0) ?_;rintro⟨iJ,iK,iL⟩ _ kW⟨iM,rfl,dA⟩ h;have iN:=ca dA a0;exact go 2 ⟨_,iM,iJ,iK,iL,fK,dA.sub,iN,h⟩
          ·refine go 5<|cB h (fun _ iO=>(aam k) iO (hG.mono<|(((((((a.sub.trans d.sub).trans e).trans f).trans p).trans y).trans C).trans G).trans af)<|pt a0) ?_;rintro⟨iP,iQ,iR⟩ _ kX⟨iS,rfl,dB⟩ h;have iT:=ca dB a0;exact go 2 ⟨_,iS,iP,iQ,iR,fK,dB.sub,iT,h⟩
         ·rintro _ kY⟨dz,a6,bx,bz,bB,rfl,aj,b6,h⟩;refine wk b6 (fun j m=>∃dC b7 b8 b9 cb,j dC [0,2,4] []∧KH.sub a6 b7∧m b7 [] [.box bs g #[iI b8,iI b9,.bool cb] 104,.box (zz wi) (zz wi) (aS A B I D J s N q O S t U V u W X x Y Z l ab) 62]∧ae8 k F t u x l ae b8 b9 cb=some n) ?_ ?_
          ·refine gd 6<|wl b6 (fun j m g_=>∃dD bf a3,∃(bg:Nat),∃bh bi bj,g_=a3.length∧j dD [0,2,4] [(8,iI (bg:Int))]∧KH.sub a6 bf∧m bf [] [.box bs g #[iI bh,iI bi,.bool bj] 104,.box (zz wi) (zz wi) (aS A B I D J s N q O S t U V u W X x Y Z l ab) 62]∧q.drop bg=a3∧abI k F t u x l ae a3 bg bh bi bj=some n) q.length ?_ ?_
           ·exact⟨_,a6,q,0,bx,bz,bB,rfl,fK,kr,b6,List.drop_zero,h⟩
           ·rintro _ _ kZ⟨dD,bf,a3,bg,bh,bi,bj,rfl,rfl,a7,aI,bk,h⟩;rcases a3 with _|⟨⟨k0,k1,k2,k3,k4⟩,a3⟩
            ·exact gD 7 [6,2] aI<|cNl bk<|go 15 ⟨_,bf,bh,bi,bj,fK,a7,aI,h⟩
            ·refine gD 7 [6,2] aI (cCl bk<|gP 14 [2,1] aI<|bC 237 h ?_ ?_)<;>intro _ h
             ·refine gD 10 [6,2] aI<|eN aI (me ck<|(((((((((a.sub.trans d.sub).trans e).trans f).trans p).trans y).trans C).trans G).trans af).trans aj).trans a7) bk aai.open ?_;rintro k5 k6 k7 k8 k9 iU⟨la,lc,rfl,ld,lf⟩;refine go 1<|bar (r:=(w64<|ae+1)) rfl rfl rfl<|cB h (fun _ iV=>(at2 k) iV (hG.mono<|(((((((((a.sub.trans d.sub).trans e).trans f).trans p).trans y).trans C).trans G).trans af).trans aj).trans a7) iU<|pt aI) ?_;rintro⟨iW,iX,iY⟩ _ lg⟨iZ,rfl,dE⟩ h;have i0:=ca dE aI;exact go 5<|iCl bk ((me ck<|(((((((((a.sub.trans d.sub).trans e).trans f).trans p).trans y).trans C).trans G).trans af).trans aj).trans a7).len)<|go 3 ⟨_,Nat.lt_succ_self _,_,iZ,a3,bg+1,iW,iX,iY,rfl,fK,a7.trans dE.sub,i0,aac bk,h⟩
             ·exact gd 6 ⟨_,bf,bh,bi,bj,fK,a7,aI,h⟩
          ·rintro _ lh⟨dC,b7,b8,b9,cb,rfl,ap,cc,h⟩;refine gD 6 [7,2] cc<|bar (r:=(w64<|ae+1)) rfl rfl rfl<|cB h (fun _ i1=>IH118 i1 (hG.mono<|(((((((((a.sub.trans d.sub).trans e).trans f).trans p).trans y).trans C).trans G).trans af).trans aj).trans ap) (ms dQ<|(((((((((a.sub.trans d.sub).trans e).trans f).trans p).trans y).trans C).trans G).trans af).trans aj).trans ap)<|pt cc) ?_;rintro⟨li,lj,lk⟩ _ ll⟨lm,rfl,ay⟩ h;have ce:=ca ay cc;refine gP 8 [8,2] ce<|bar (r:=(w64<|ae+1)) rfl rfl rfl<|cB h (fun _ i2=>IH118 i2 (hG.mono<|((((((((((a.sub.trans d.sub).trans e).trans f).trans p).trans y).trans C).trans G).trans af).trans aj).trans ap).trans ay.sub) (ms dR<|((((((((((a.sub.trans d.sub).trans e).trans f).trans p).trans y).trans C).trans G).trans af).trans aj).trans ap).trans ay.sub)<|pt ce) ?_;rintro⟨ln,lo,lp⟩ _ lq⟨lr,rfl,aN⟩ h;have cf:=ca aN ce;refine gP 8 [9,2] cf<|bar (r:=(w64<|ae+1)) rfl rfl rfl<|cB h (fun _ i3=>IH118 i3 (hG.mono<|(((((((((((a.sub.trans d.sub).trans e).trans f).trans p).trans y).trans C).trans G).trans af).trans aj).trans ap).trans ay.sub).trans aN.sub) (ms dS<|(((((((((((a.sub.trans d.sub).trans e).trans f).trans p).trans y).trans C).trans G).trans af).trans aj).trans ap).trans ay.sub).trans aN.sub)<|pt cf) ?_;rintro⟨i4,i5,i6⟩ _ ls⟨dF,rfl,a8⟩ h;have dG:=ca a8 cf;refine go 8<|wl dG (fun j m g_=>∃dH a9 aP,∃(aT:Nat),∃ch ci cj,g_=aP.length∧j dH [0,2,4] [(9,iI (aT:Int))]∧KH.sub dF a9∧m a9 [] [.box bs g #[iI ch,iI ci,.bool cj] 104,.box (zz wi) (zz wi) (aS A B I D J s N q O S t U V u W X x Y Z l ab) 62]∧l.drop aT=aP∧acU k F l ae aP aT ch ci cj=some n) l.length ?_ ?_
           ·exact⟨_,dF,l,0,i4,i5,i6,rfl,fK,kr,dG,List.drop_zero,h⟩
           ·rintro _ _ lu⟨dH,a9,aP,aT,ch,ci,cj,rfl,rfl,ba,az,bb,h⟩;rcases aP with _|⟨⟨i7,lv,lw,lx,ly⟩,aP⟩
            ·refine gD 7 [10,2] az<|cNl bb<|go 14 ?_;cases oj h o;exact end0 rfl ⟨a9,rfl,az.sel [0]⟩
            ·refine gD 7 [10,2] az (cCl bb<|gP 14 [2,1] az<|bC 278 h ?_ ?_)<;>intro _ h
             ·refine gd 3<|wk az (fun j m=>∃dI bD bE bF bG,j dI [0,2,4,9] []∧KH.sub a9 bD∧m bD [] [.box bs g #[iI bE,iI bF,.bool bG] 104,.box (zz wi) (zz wi) (aS A B I D J s N q O S t U V u W X x Y Z l ab) 62]∧aeI k F aT bE bF bG (acU k F l ae aP)=some n) ?_ ?_
              ·refine gD 7 [10,2] az<|eN az (mc cl<|(((((((((((((a.sub.trans d.sub).trans e).trans f).trans p).trans y).trans C).trans G).trans af).trans aj).trans ap).trans ay.sub).trans aN.sub).trans a8.sub).trans ba) bb aar.open ?_;rintro i8 dJ lz i9 ja jb⟨lB,lE,lF,lG,rfl,lH,lI,lJ⟩;refine go 1<|bar (r:=(w64<|ae+1)) rfl rfl rfl<|cB h (fun _ jc=>IH169 jc (hG.mono<|(((((((((((((a.sub.trans d.sub).trans e).trans f).trans p).trans y).trans C).trans G).trans af).trans aj).trans ap).trans ay.sub).trans aN.sub).trans a8.sub).trans ba) jb<|pt az) ?_;rintro⟨lK,lL,lM⟩ _ lP⟨lQ,rfl,bd⟩ h;have a4:=ca bd az;refine gP 7 [10,2] a4 (iNl 84 5 i9 bb<|fd (dJ+aT*5+0) avY rfl<|ld1 (v:=iI i7) Tya3 rfl (a4.cell<|bd.sub.cell<|ja 0 _ rfl)<|go 2<|bO 298 h ?_ ?_)<;>intro _ h
               ·refine go 7<|cB h (fun _ jd=>(aam k) jd (hG.mono<|((((((((((((((a.sub.trans d.sub).trans e).trans f).trans p).trans y).trans C).trans G).trans af).trans aj).trans ap).trans ay.sub).trans aN.sub).trans a8.sub).trans ba).trans bd.sub)<|pt a4) ?_;rintro⟨je,jf,jg⟩ _ lR⟨jh,rfl,dK⟩ h;have ji:=ca dK a4;exact go 3 ⟨_,jh,je,jf,jg,fK,bd.sub.trans dK.sub,ji,h⟩
               ·refine gP 9 [10,2] a4<|bar (r:=(w64<|(l.length:Int) - 1)) rfl rfl rfl<|go 3<|cB h (fun _ jj=>(aam k) jj (hG.mono<|((((((((((((((a.sub.trans d.sub).trans e).trans f).trans p).trans y).trans C).trans G).trans af).trans aj).trans ap).trans ay.sub).trans aN.sub).trans a8.sub).trans ba).trans bd.sub)<|pt a4) ?_;rintro⟨jk,jl,jm⟩ _ lT⟨jn,rfl,dL⟩ h;have jo:=ca dL a4;exact go 3 ⟨_,jn,jk,jl,jm,fK,bd.sub.trans dL.sub,jo,h⟩
              ·rintro _ lU⟨dI,bD,bE,bF,bG,rfl,jp,jq,h⟩;exact gd 2<|iCl bb ((mc cl<|(((((((((((((a.sub.trans d.sub).trans e).trans f).trans p).trans y).trans C).trans G).trans af).trans aj).trans ap).trans ay.sub).trans aN.sub).trans a8.sub).trans ba).len)<|go 3 ⟨_,Nat.lt_succ_self _,_,bD,aP,aT+1,bE,bF,bG,rfl,fK,ba.trans jp,jq,aac bb,h⟩
             ·refine gd 5 ?_;cases oj h o;exact end0 rfl ⟨a9,rfl,az.sel [0]⟩
end Go.Proofs.YtphdlngnegjgcaaGreatDoor
