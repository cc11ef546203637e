/- Words of the proof, part 3; nothing is claimed here. -/
import Derived.Test.YtphdlngnegjgcaaGreatDoorC2
set_option linter.unusedVariables false
set_option linter.unusedSimpArgs false
namespace Go.Proofs.YtphdlngnegjgcaaGreatDoor
open Go
abbrev ooO:=Option LS
abbrev ooV:=Option LE
abbrev ooC:=Option Int
abbrev ooA:=Option Bool
abbrev ooD:=Option aan
abbrev oof:=Option aah
abbrev ooJ:=Option aao
abbrev ooP:=Option aaa
abbrev oob:=Option (aar×LE)
abbrev ooc:=Option (aar×LS)
abbrev ooW:=Option (aar×Int)
abbrev ooN:=Option (aar×aae)
abbrev ooS:=Option (Except Int LE)
abbrev ooT:=Option (abu×Bool)
abbrev ooX:=Option (aar×aah)
abbrev ood:=Option (aar×aap)
abbrev ooe:=Option (aar×aab)
abbrev ooI:=Option (aaa×Int)
abbrev ooB:=Option (aaj×Bool)
abbrev ooE:=Option (aat×Bool)
abbrev ooY:=Option (Except Int aah)
abbrev ooZ:=Option (aar×Int×LS)
abbrev ooa:=Option ((List Int)×Int)
abbrev ooR:=Option (Except Int (aab×LB))
abbrev ooU:=Option (aaa×aaa×Int)
abbrev ooL:=Option (aao×(List Int)×Bool)
abbrev ooK:=Option (Except Int (aaf×LS))
abbrev ooF:=Option (Except Int (aaf×aae))
abbrev ooQ:=Option (Except Int (aaa×aaa))
abbrev ooH:=Option (aaa×(List (List Int))×Int)
abbrev ooG:=Option (Except Int (aaf×aae×LS))
abbrev ooM:=Option (Except Int (aaf×aap×LS))
def ags(k:Nat)  : LC->Nat->(List LS)->Option (List LS)
 | [],b,a=>some a
 | (.mk f g h i d)::e,b,a=>aaB (decide ((a.length+1)*24<=140737488355328)) ((ags k e) (b+1) (a++[d]))
def f124(k:Nat):aae->Option (List LS):=λa =>
 match a with
 | .mk g h i j l m n b d e f=>ags k f 0 [b,d,e]
structure aes where
 f92:LS->ooA
 f122:aae->ooA
 f1006489:LS->ooA
 f1009189:LS->ooC
 f1012326:(List LS)->ooA
 f1014826:(List LS)->ooC
def avJ(k:Nat)(F:aes):LS->ooA:=λa=>(F.f1006489 a).bind λb=>(some b)
def agC(k:Nat)(F:aes)(a:Bool):ooA:=some a
def ajy(k:Nat)(F:aes)(a:Int)(d:BA)(e:Int)(f:BA)(g b:Int)(h:LE)(i j l:LS)(m:LC)(n:Bool):ooA:=cond n (some false) (cond (a==18) (agC k F true) (cond (a==6) (cond (b==1) (agC k F true) ((f124 k (aae.mk a d e f g b h i j l m)).bind λo=>((F.f1012326 o).bind λp=>(agC k F p)))) ((f124 k (aae.mk a d e f g b h i j l m)).bind λq=>((F.f1012326 q).bind λr=>(agC k F r)))))
def amh(k:Nat)(F:aes):aae->ooA:=λn =>
 match n with
 | .mk a b d e f g h i j l m=>cond (a==21) (ajy k F a b d e f g h i j l m true) (ajy k F a b d e f g h i j l m (a==28))
def agy(k:Nat)(F:aes):LS->ooA:=λa=>(F.f1009189 a).bind λb=>(some (decide (b>=0)))
def act(k:Nat)(F:aes)  : LS->Nat->ooC
 | [],a=>some (-1)
 | (.mk b d e f g h i j l m n)::o,a=>(F.f122 (aae.mk b d e f g h i j l m n)).bind λp=>(cond p (some (a:Int)) ((act k F o) (a+1)))
def agi(k:Nat)(F:aes):LS->ooC:=λa=>act k F a 0
def agn(k:Nat)(F:aes):(List LS)->ooA:=λa=>(F.f1014826 a).bind λb=>(some (decide (b>=0)))
def ac0(k:Nat)(F:aes)  : List LS->Nat->ooC
 | [],a=>some (-1)
 | b::d,a=>(F.f92 b).bind λe=>(cond e (some (a:Int)) ((ac0 k F d) (a+1)))
def agc(k:Nat)(F:aes):(List LS)->ooC:=λa=>ac0 k F a 0
def abq(k0:Nat):Nat->aes
 | 0=>{ f92:=λ_=>none,f122:=λ_=>none,f1006489:=λ_=>none,f1009189:=λ_=>none,f1012326:=λ_=>none,f1014826:=λ_=>none }
 | k+1=>{ f92:=avJ k0 (abq k0 k),f122:=amh k0 (abq k0 k),f1006489:=agy k0 (abq k0 k),f1009189:=agi k0 (abq k0 k),f1012326:=agn k0 (abq k0 k),f1014826:=agc k0 (abq k0 k) }
def f92(k:Nat):LS->ooA:=(abq k k).f92
def f122(k:Nat):aae->ooA:=(abq k k).f122
def f1006489(k:Nat):LS->ooA:=(abq k k).f1006489
def f1009189(k:Nat):LS->ooC:=(abq k k).f1009189
def f1012326(k:Nat):(List LS)->ooA:=(abq k k).f1012326
def f1014826(k:Nat):(List LS)->ooC:=(abq k k).f1014826
structure acB where
 f40:LS->ooA
 f65:aae->ooA
 f94:aap->ooA
 f1006449:LS->ooA
 f1009149:LS->ooC
 f1009388:LC->ooA
 f1012547:LC->Unit->ooA
 f1012626:aap->Unit->ooA
 f1014947:LC->Unit->ooC
def au1(k:Nat)(F:acB):LS->ooA:=λa=>(F.f1006449 a).bind λb=>(some b)
def alV(k:Nat)(F:acB)(a:Bool):ooA:=some a
def alQ(k:Nat)(F:acB)(a:Bool):ooA:=some a
def aiO(k:Nat)(F:acB)(a:Bool):ooA:=some a
def als(k:Nat)(F:acB)(a d:Int)(b e f:LS)(g:LC)(h:Bool):ooA:=cond h ((F.f40 b).bind λi=>(some i)) (cond (a==24) ((F.f40 f).bind λj=>(cond j (aiO k F true) ((F.f40 b).bind λl=>(cond l (cond ((IntKind.i64.wrap (BitVec.ofInt IntKind.i64.bits d &&& BitVec.ofInt IntKind.i64.bits 1).toNat)==0) (aiO k F true) ((F.f40 e).bind λm=>(aiO k F m))) (aiO k F false))))) (cond (a==27) ((F.f1009388 g).bind λn=>(some n)) (some false)))
def ajb(k:Nat)(F:acB)(a d:Int)(h:LE)(b e f:LS)(g:LC)(i:Bool):ooA:=cond i (some true) (cond (a==20) (cond (d==1) ((F.f40 b).bind λj=>(cond j ((F.f40 e).bind λl=>(alV k F l)) (alV k F false))) (alV k F false)) (cond (a==21) ((idxO h 0).bind λ(.mk m n p q r)=>(cond (m==2) (cond (n==1) ((f92 k b).bind λo=>(alQ k F (!o))) (alQ k F false)) (alQ k F false))) (cond (a==23) (als k F a d b e f g (a==23)) (cond (a==25) (als k F a d b e f g (a==25)) (als k F a d b e f g (a==26))))))
def aph(k:Nat)(F:acB):aae->ooA:=λi =>
 match i with
 | .mk a j l m n b d e f g h=>cond (a==17) (ajb k F a b d e f g h (a==17)) (cond (a==15) (ajb k F a b d e f g h (a==15)) (cond (a==18) (ajb k F a b d e f g h (a==18)) (ajb k F a b d e f g h (a==19))))
def auq(k:Nat)(F:acB):aap->ooA:=λa =>
 match a with
 | .mk e f g h b=>(F.f40 b).bind λd=>(some d)
def af6(k:Nat)(F:acB):LS->ooA:=λa=>(F.f1009149 a).bind λb=>(some (decide (b>=0)))
def acr(k:Nat)(F:acB)  : LS->Nat->ooC
 | [],a=>some (-1)
 | (.mk b d e f g h i j l m n)::o,a=>(F.f65 (aae.mk b d e f g h i j l m n)).bind λp=>(cond p (some (a:Int)) ((acr k F o) (a+1)))
def agA(k:Nat)(F:acB):LS->ooC:=λa=>acr k F a 0
def agB(k:Nat)(F:acB):LC->ooA:=λa=>(F.f1012547 a ()).bind λb=>(some (!b))
def ago(k:Nat)(F:acB):LC->Unit->ooA:=λa _=>(F.f1014947 a ()).bind λb=>(some (decide (b>=0)))
def agd(k:Nat)(F:acB):aap->Unit->ooA:=λa b =>
 match a,b with
 | .mk d e f g h,_=>(F.f94 (aap.mk d e f g h)).bind λi=>(some (!i))
def aco(k:Nat)(F:acB)  : LC->Nat->ooC
 | [],a=>some (-1)
 | (.mk b d e f g)::h,a=>(F.f1012626 (aap.mk b d e f g) ()).bind λi=>(cond i (some (a:Int)) ((aco k F h) (a+1)))
def af3(k:Nat)(F:acB):LC->Unit->ooC:=λa _=>aco k F a 0
def aaT(k0:Nat):Nat->acB
 | 0=>{ f40:=λ_=>none,f65:=λ_=>none,f94:=λ_=>none,f1006449:=λ_=>none,f1009149:=λ_=>none,f1009388:=λ_=>none,f1012547:=λ_ _=>none,f1012626:=λ_ _=>none,f1014947:=λ_ _=>none }
 | k+1=>{ f40:=au1 k0 (aaT k0 k),f65:=aph k0 (aaT k0 k),f94:=auq k0 (aaT k0 k),f1006449:=af6 k0 (aaT k0 k),f1009149:=agA k0 (aaT k0 k),f1009388:=agB k0 (aaT k0 k),f1012547:=ago k0 (aaT k0 k),f1012626:=agd k0 (aaT k0 k),f1014947:=af3 k0 (aaT k0 k) }
def f40(k:Nat):LS->ooA:=(aaT k k).f40
def f65(k:Nat):aae->ooA:=(aaT k k).f65
def f94(k:Nat):aap->ooA:=(aaT k k).f94
def f1006449(k:Nat):LS->ooA:=(aaT k k).f1006449
def f1009149(k:Nat):LS->ooC:=(aaT k k).f1009149
def f1009388(k:Nat):LC->ooA:=(aaT k k).f1009388
def f1012547(k:Nat):LC->Unit->ooA:=(aaT k k).f1012547
def f1012626(k:Nat):aap->Unit->ooA:=(aaT k k).f1012626
def f1014947(k:Nat):LC->Unit->ooC:=(aaT k k).f1014947
def aiJ(k:Nat)  : LP->Nat->(List Int)->Option (List Int)
 | [],b,a=>some a
 | (.mk f d)::e,b,a=>aaB (decide ((a.length+1)*8<=140737488355328)) ((aiJ k e) (b+1) (a++[d]))
def f42(k:Nat):aab->Option (List Int):=λa =>
 match a with
 | .mk d b e f g h=>aiJ k b 0 ([]:List Int)
def f129(k:Nat):LP->Option LP:=λa=>aaB (decide (a.length*24<=140737488355328)) (some a)
def f157(k:Nat):aah->ooC:=λa =>
 match a with
 | .mk b d e f g=>some 0
structure acL where
 f1015923:LE->ooV
 f1017823:aah->oof
def ab4(k:Nat)(F:acL)  : LE->Nat->LE->ooV
 | [],b,a=>some a
 | (.mk d e f g h)::i,b,a=>(F.f1017823 (aah.mk d e f g h)).bind λ(.mk j l m n o)=>(aaB (decide ((a.length+1)*64<=140737488355328)) ((ab4 k F i) (b+1) (a++[(aah.mk j l m n o)])))
def af8(k:Nat)(F:acL):LE->ooV:=λa=>ab4 k F a 0 ([]:LE)
def adF(k:Nat)(F:acL):aah->oof:=λf =>
 match f with
 | .mk a b d g h=>(F.f1015923 h).bind λe=>((f157 k (aah.mk a b d g e)).bind λi=>(some (aah.mk a b d i e)))
def aaU(k0:Nat):Nat->acL
 | 0=>{ f1015923:=λ_=>none,f1017823:=λ_=>none }
 | k+1=>{ f1015923:=af8 k0 (aaU k0 k),f1017823:=adF k0 (aaU k0 k) }
def f1015923(k:Nat):LE->ooV:=(aaU k k).f1015923
def f1017823(k:Nat):aah->oof:=(aaU k k).f1017823
def f158(k:Nat):aah->ooC:=λa =>
 match a with
 | .mk d e f b g=>some b
structure acM where
 f1015954:LE->ooV
 f1017854:aah->oof
def afa(k:Nat)(F:acM)  : LE->Nat->LE->ooV
 | [],b,a=>some a
 | (.mk d e f g h)::i,b,a=>(F.f1017854 (aah.mk d e f g h)).bind λ(.mk j l m n o)=>(aaB (decide ((a.length+1)*64<=140737488355328)) ((afa k F i) (b+1) (a++[(aah.mk j l m n o)])))
def agj(k:Nat)(F:acM):LE->ooV:=λa=>afa k F a 0 ([]:LE)
def af7(k:Nat)(F:acM):aah->oof:=λf =>
 match f with
 | .mk a b d g h=>(F.f1015954 h).bind λe=>((f158 k (aah.mk a b d g e)).bind λi=>(some (aah.mk a b d i e)))
def abA(k0:Nat):Nat->acM
 | 0=>{ f1015954:=λ_=>none,f1017854:=λ_=>none }
 | k+1=>{ f1015954:=agj k0 (abA k0 k),f1017854:=af7 k0 (abA k0 k) }
def f1015954(k:Nat):LE->ooV:=(abA k k).f1015954
def f1017854(k:Nat):aah->oof:=(abA k k).f1017854
structure aet where
 f130:LS->Bool->ooO
def ana(k:Nat)(F:aet)(b:Bool)(a:LC)(d:Nat)(e:Int)(f:BA)(g:LE)(h:LS)(i:Int)(nx2:Nat->LC->ooO):ooO:=(f1015954 k g).bind λj=>(F.f130 h b).bind λl=>(aaB (decide ((a.length+1)*80<=140737488355328)) (nx2 (d+1) (a++[(aap.mk e f i j l)])))
def ah0(k:Nat)(F:aet)(a:Bool)(b:LS)(e:Nat)(f:Int)(g h:BA)(i j l:Int)(m:LE)(n o p:LS)(nx1:Nat->LS->ooO):LC->Nat->LC->ooO
 | [],q,d=>aaB (decide ((b.length+1)*184<=140737488355328)) (nx1 (e+1) (b++[(aae.mk f g j h l i m n o p d)]))
 | (.mk r s x t u)::v,q,d=>cond (!a) (ana k F a d q r s t u 0 (ah0 k F a b e f g h i j l m n o p nx1 v)) (ana k F a d q r s t u x (ah0 k F a b e f g h i j l m n o p nx1 v))
def amQ(k:Nat)(F:aet)(a:Bool)(b:LS)(d:Nat)(e:Int)(f g:BA)(h:Int)(i:LE)(j l m:LS)(n:LC)(o p:Int)(nx1:Nat->LS->ooO):ooO:=(f1015954 k i).bind λq=>(F.f130 j a).bind λr=>((F.f130 l a).bind λs=>((F.f130 m a).bind λt=>(ah0 k F a b d e f g h o p q r s t nx1 n 0 ([]:LC))))
def ae7(k:Nat)(F:aet)(a:Bool):LS->Nat->LS->ooO
 | [],d,b=>some b
 | (.mk e f p g q h i j l m n)::o,d,b=>cond (!a) (amQ k F a b d e f g h i j l m n 0 0 (ae7 k F a o)) (amQ k F a b d e f g h i j l m n p q (ae7 k F a o))
def ajT(k:Nat)(F:aet)(b:Bool)(a:LC)(d:Nat)(e:Int)(f:BA)(g:LE)(h:LS)(i:Int)(nx4:Nat->LC->ooO):ooO:=(f1015923 k g).bind λj=>(F.f130 h b).bind λl=>(aaB (decide ((a.length+1)*80<=140737488355328)) (nx4 (d+1) (a++[(aap.mk e f i j l)])))
def aer(k:Nat)(F:aet)(a:Bool)(b:LS)(e:Nat)(f:Int)(g h:BA)(i j l:Int)(m:LE)(n o p:LS)(nx3:Nat->LS->ooO):LC->Nat->LC->ooO
 | [],q,d=>aaB (decide ((b.length+1)*184<=140737488355328)) (nx3 (e+1) (b++[(aae.mk f g j h l i m n o p d)]))
 | (.mk r s x t u)::v,q,d=>cond (!a) (ajT k F a d q r s t u 0 (aer k F a b e f g h i j l m n o p nx3 v)) (ajT k F a d q r s t u x (aer k F a b e f g h i j l m n o p nx3 v))
def aji(k:Nat)(F:aet)(a:Bool)(b:LS)(d:Nat)(e:Int)(f g:BA)(h:Int)(i:LE)(j l m:LS)(n:LC)(o p:Int)(nx3:Nat->LS->ooO):ooO:=(f1015923 k i).bind λq=>(F.f130 j a).bind λr=>((F.f130 l a).bind λs=>((F.f130 m a).bind λt=>(aer k F a b d e f g h o p q r s t nx3 n 0 ([]:LC))))
def ac6(k:Nat)(F:aet)(a:Bool):LS->Nat->LS->ooO
 | [],d,b=>some b
 | (.mk e f p g q h i j l m n)::o,d,b=>cond (!a) (aji k F a b d e f g h i j l m n 0 0 (ac6 k F a o)) (aji k F a b d e f g h i j l m n p q (ac6 k F a o))
def aqi(k:Nat)(F:aet):LS->Bool->ooO:=λb a=>cond a (ae7 k F a b 0 ([]:LS)) (ac6 k F a b 0 ([]:LS))
def afX(k0:Nat):Nat->aet
 | 0=>{ f130:=λ_ _=>none }
 | k+1=>{ f130:=aqi k0 (afX k0 k) }
def f130(k:Nat):LS->Bool->ooO:=(afX k k).f130
def ajD(k:Nat)(b:Bool)(a:LF)(d:Nat)(e:BA)(f:LP)(g:Int)(h:Bool)(i:LS)(j:Int)(nx1:Nat->LF->ooP):ooP:=(f129 k f).bind λl=>(f130 k i b).bind λm=>(aaB (decide ((a.length+1)*88<=140737488355328)) (nx1 (d+1) (a++[(aab.mk e l g h j m)])))
def adV(k:Nat)(a:Bool):LF->Nat->LF->ooP
 | [],d,b=>some (aaa.mk b)
 | (.mk e f g h l i)::j,d,b=>cond (!a) (ajD k a b d e f g h i 0 (adV k a j)) (ajD k a b d e f g h i l (adV k a j))
def f100(k:Nat):aaa->Bool->ooP:=λb a =>
 match b,a with
 | .mk d,a=>adV k a d 0 ([]:LF)
def f98(k:Nat):Bool->Int->Option (Except Int Unit):=λa b=>cond (!a) (some (.error b)) (some (.ok ()))
def f189(k:Nat):Option (List (Int×aaz)):=some (mput qI 29 (aaz.mk 0 false 1 1 false) (mput qI 28 (aaz.mk 1 true 0 601 true) (mput qI 27 (aaz.mk 0 false 0 0 false) (mput qI 26 (aaz.mk 0 false 1 1 true) (mput qI 25 (aaz.mk 1 false 1 1 true) (mput qI 24 (aaz.mk 2 false 0 0 true) (mput qI 23 (aaz.mk 0 false 0 0 true) (mput qI 22 (aaz.mk 0 false 0 1 true) (mput qI 21 (aaz.mk 0 false 1 1 true) (mput qI 20 (aaz.mk 0 false 1 1 true) (mput qI 19 (aaz.mk 0 false 0 0 false) (mput qI 18 (aaz.mk 0 false 0 0 false) (mput qI 17 (aaz.mk 0 false 0 1 false) (mput qI 16 (aaz.mk 0 false 1 1 false) (mput qI 15 (aaz.mk 0 false 1 1 false) (mput qI 14 (aaz.mk 0 false 1 1 false) (mput qI 13 (aaz.mk 0 false 0 0 false) (mput qI 12 (aaz.mk 0 false 1 1 false) (mput qI 11 (aaz.mk 0 false 1 1 false) (mput qI 10 (aaz.mk 0 false 2 2 false) (mput qI 9 (aaz.mk 1 false 0 0 false) (mput qI 8 (aaz.mk 1 false 1 1 false) (mput qI 7 (aaz.mk 1 false 1 1 false) (mput qI 6 (aaz.mk 2 false 1 1 false) (mput qI 5 (aaz.mk 2 false 1 1 false) (mput qI 4 (aaz.mk 2 true 0 601 false) (mput qI 3 (aaz.mk 2 true 0 601 false) (mput qI 2 (aaz.mk 1 false 1 1 false) (mput qI 1 (aaz.mk 1 false 1 1 false) ([]:List (Int×aaz)))))))))))))))))))))))))))))))
def aoe(k:Nat)(a:Bool):ooA:=some a
def f77(k:Nat):Int->Int->Int->ooA:=λa b d=>cond (decide (a>=b)) (aoe k (decide (a<=d))) (aoe k false)
def aey(k:Nat)(a:Bool):ooA:=some a
def acD(k:Nat)(d a:LS)(e b f:Bool):ooA:=cond f (cond e (cond b (aey k true) (aey k ((a.length:Int)==0))) (cond ((d.length:Int)==0) (cond b (aey k true) (aey k ((a.length:Int)==0))) (aey k false))) (aey k false)
def akF(k:Nat)(a:Int)(b d:LS)(e:Bool):ooA:=acD k b d ((IntKind.i64.wrap (BitVec.ofInt IntKind.i64.bits a &&& BitVec.ofInt IntKind.i64.bits 1).toNat)==1) ((IntKind.i64.wrap (BitVec.ofInt IntKind.i64.bits a &&& BitVec.ofInt IntKind.i64.bits 2).toNat)==2) e
def f190(k:Nat):aae->ooA:=λg =>
 match g with
 | .mk e f o p q a r s b d t=>cond (e==6) ((f77 k a 0 1).bind λh=>(cond h (cond (a==0) (acD k b d false false true) (acD k b d false false (!seq f ⟨#[]⟩))) (acD k b d false false false))) (cond (e==7) ((f77 k a 0 2).bind λi=>(acD k b d false false i)) (cond (e==22) ((f77 k a 0 1).bind λj=>(acD k b d false false j)) (cond (e==20) ((f77 k a 0 1).bind λl=>(acD k b d (a==1) false l)) (cond (e==24) ((f77 k a 1 3).bind λm=>(cond m (akF k a b d ((!seq f ⟨#[]⟩)==((IntKind.i64.wrap (BitVec.ofInt IntKind.i64.bits a &&& BitVec.ofInt IntKind.i64.bits 1).toNat)==1))) (akF k a b d false))) (cond (e==28) ((f77 k a 0 66).bind λn=>(cond n (acD k b d false false (decide ((a.tmod 4)<3))) (acD k b d false false false))) (acD k b d false false (a==0)))))))
def ang(k:Nat)(a b:Int)(d:Bool)(e:Int)(f:Bool):ooB:=some ((aaj.mk (w64 (a+1)) (imax b e) d),f)
def f76(k:Nat):aaj->Int->ooB:=λf a =>
 match f,a with
 | .mk b d e,a=>cond (decide ((w64 (b+1))<=600)) (ang k b d e a (decide (a<=16))) (ang k b d e a false)
def akj(k:Nat)(a:Bool):ooA:=some a
def f135(k:Nat):Int->ooA:=λa=>cond (decide (a>=97)) (akj k (decide (a<=122))) (akj k false)
def aju(k:Nat)(a:Bool):ooA:=some a
def f136(k:Nat):Int->ooA:=λa=>cond (decide (a>=48)) (aju k (decide (a<=57))) (aju k false)
def aic(k a:Nat)(b:Bool)(nx1:Nat->ooA):ooA:=cond b (some false) (nx1 (a+1))
def ad3(k:Nat)(b:BA):List UInt8->Nat->ooA
 | [],a=>some (!seq b ⟨#[]⟩)
 | e::d,a=>(f135 k (e.toNat:Int)).bind λf=>(cond (!f) (cond ((a:Int)==0) (aic k a true (ad3 k b d)) ((f136 k (e.toNat:Int)).bind λg=>(aic k a (!g) (ad3 k b d)))) (aic k a false (ad3 k b d)))
def f111(k:Nat):BA->ooA:=λa=>ad3 k a a.data.toList 0
def aib(k:Nat)(b:BA):LB->Nat->ooC
 | [],a=>some (-1)
 | d::e,a=>cond (seq b d) (some (a:Int)) ((aib k b e) (a+1))
def f165(k:Nat):LB->BA->ooC:=λa b=>aib k b a 0
def f137(k:Nat):LB->BA->ooA:=λa b=>(f165 k a b).bind λd=>(some (decide (d>=0)))
def acg:LB:=[⟨#[97,102,116,101,114]⟩,⟨#[97,119,97,105,116]⟩,⟨#[98,111,111,108]⟩,⟨#[98,114,101,97,107]⟩,⟨#[98,117,102,102,101,114]⟩,⟨#[99,97,110,99,101,108]⟩,⟨#[99,97,116,99,104]⟩,⟨#[99,104,97,110]⟩,⟨#[99,108,111,115,101]⟩,⟨#[99,111,110,116,105,110,117,101]⟩,⟨#[100,114,111,112]⟩,⟨#[101,97,99,104]⟩,⟨#[101,108,115,101]⟩,⟨#[101,109,105,116]⟩,⟨#[102,97,108,115,101]⟩,⟨#[102,105,110,97,108,108,121]⟩,⟨#[102,108,111,119]⟩,⟨#[102,110]⟩,⟨#[102,114,111,109]⟩,⟨#[104,111,108,100]⟩,⟨#[105,102]⟩,⟨#[105,110,116]⟩,⟨#[108,101,116]⟩,⟨#[108,111,99,107]⟩,⟨#[110,101,119]⟩,⟨#[110,111,119]⟩,⟨#[111,108,100]⟩,⟨#[112,114,111,100,117,99,101]⟩,⟨#[114,101,99,101,105,118,101]⟩,⟨#[114,101,116,117,114,110]⟩,⟨#[115,99,111,112,101]⟩,⟨#[115,101,108,101,99,116]⟩,⟨#[115,101,110,100]⟩,⟨#[115,104,105,101,108,100]⟩,⟨#[115,108,101,101,112]⟩,⟨#[115,112,97,119,110]⟩,⟨#[115,117,112,101,114,118,105,115,101,100]⟩,⟨#[116,97,115,107]⟩,⟨#[116,101,120,116]⟩,⟨#[116,104,114,111,119]⟩,⟨#[116,114,117,101]⟩,⟨#[116,114,121]⟩,⟨#[117,115,101]⟩,⟨#[119,104,105,108,101]⟩,⟨#[119,105,116,104,105,110]⟩,⟨#[121,105,101,108,100]⟩]
def f138(k:Nat):Option LB:=some acg
def f112(k:Nat):BA->ooA:=λa=>(f138 k ).bind λb=>((f137 k b a).bind λd=>(some d))
def alY(k:Nat)(a:Bool):ooA:=some a
def f79(k:Nat):BA->ooA:=λa=>(f111 k a).bind λb=>(cond b (cond (decide ((a.size:Int)<=12)) ((f112 k a).bind λd=>(alY k (!d))) (alY k false)) (alY k false))
def aiX(k a:Nat)(b:Bool)(nx1:Nat->ooA):ooA:=cond b (some false) (nx1 (a+1))
def aeu(k:Nat)(a:BA):List UInt8->Nat->ooA
 | [],b=>some (decide ((a.size:Int)<=60))
 | d::e,b=>cond (decide ((d.toNat:Int)<32)) (aiX k b true (aeu k a e)) (aiX k b (decide ((d.toNat:Int)>126)) (aeu k a e))
def f95(k:Nat):BA->ooA:=λa=>aeu k a a.data.toList 0
def f78(k:Nat):BA->ooA:=λa=>f95 k a
structure afZ where
 f53:aaj->aah->Int->ooB
 f80:aaj->LE->Int->ooB
def aiT(k:Nat)(F:afZ)(a:Bool)(b d:Int)(e:Bool):ooB:=some ((aaj.mk b d e),a)
def acW(k:Nat)(F:afZ)(e:LE)(f a b:Int)(d:Bool)(g:Int)(h:Bool):ooB:=cond h (cond ((e.length:Int)==g) ((F.f80 (aaj.mk a b d) e (w64 (f+1))).bind λ(.mk i j l,m)=>(aiT k F m i j l)) (aiT k F false a b d)) (aiT k F false a b d)
def anC(k:Nat)(F:afZ)(a:LE)(b d e:Int)(f g:Bool):ooB:=acW k F a b d e f 1 g
def amg(k:Nat)(F:afZ)(a:LE)(b d e:Int)(f g:Bool):ooB:=acW k F a b d e f 2 g
def anj(k:Nat)(F:afZ)(i g:Int)(h:BA)(a:LE)(b d e:Int)(f j:Bool):ooB:=cond j (cond (g==0) (anC k F a b d e f (seq h ⟨#[]⟩)) (anC k F a b d e f false)) ((f77 k i 7 19).bind λl=>(cond l (cond (g==0) (amg k F a b d e f (seq h ⟨#[]⟩)) (amg k F a b d e f false)) (amg k F a b d e f false)))
def ahX(k:Nat)(F:afZ)(g h:Int)(i:BA)(e:LE)(f a b:Int)(d j:Bool):ooB:=cond j (some ((aaj.mk a b d),false)) (cond (g==1) ((f77 k h 0 1000000000000).bind λl=>(cond l (acW k F e f a b d 0 (seq i ⟨#[]⟩)) (acW k F e f a b d 0 false))) (cond (g==2) ((f77 k h 0 1).bind λm=>(cond m (acW k F e f a b d 0 (seq i ⟨#[]⟩)) (acW k F e f a b d 0 false))) (cond (g==3) (cond (h==0) ((f78 k i).bind λn=>(acW k F e f a b d 0 n)) (acW k F e f a b d 0 false)) (cond (g==4) (cond (h==0) ((f79 k i).bind λo=>(acW k F e f a b d 0 o)) (acW k F e f a b d 0 false)) (cond (g==5) (anj k F g h i e f a b d (g==5)) (anj k F g h i e f a b d (g==6)))))))
def ao5(k:Nat)(F:afZ):aaj->aah->Int->ooB:=λj l a =>
 match j,l,a with
 | .mk m n o,.mk d e f p g,a=>(f76 k (aaj.mk m n o) a).bind λ(.mk h i b,q)=>(cond (!q) (ahX k F d e f g a h i b true) (cond (p != 0) (ahX k F d e f g a h i b (!b)) (ahX k F d e f g a h i b false)))
def aiS(k:Nat)(F:afZ)(e:Int):LE->Nat->Int->Int->Bool->ooB
 | [],f,a,b,d=>some ((aaj.mk a b d),true)
 | (.mk j l m n o)::p,f,a,b,d=>(F.f53 (aaj.mk a b d) (aah.mk j l m n o) e).bind λ(.mk g h i,q)=>(cond (!q) (some ((aaj.mk g h i),false)) ((aiS k F e p) (f+1) g h i))
def avS(k:Nat)(F:afZ):aaj->LE->Int->ooB:=λd a b =>
 match d,a,b with
 | .mk e f g,a,b=>aiS k F b a 0 e f g
def aep(k0:Nat):Nat->afZ
 | 0=>{ f53:=λ_ _ _=>none,f80:=λ_ _ _=>none }
 | k+1=>{ f53:=ao5 k0 (aep k0 k),f80:=avS k0 (aep k0 k) }
def f53(k:Nat):aaj->aah->Int->ooB:=(aep k k).f53
def f80(k:Nat):aaj->LE->Int->ooB:=(aep k k).f80
structure ach where
 f156:aaj->LS->Int->ooB
 f177:aaj->aae->Int->ooB
 f191:aaj->aap->Int->ooB
def agz(k:Nat)(F:ach)(e:Int):LS->Nat->Int->Int->Bool->ooB
 | [],f,a,b,d=>some ((aaj.mk a b d),true)
 | (.mk j l m n o p q r s t u)::v,f,a,b,d=>(F.f177 (aaj.mk a b d) (aae.mk j l m n o p q r s t u) e).bind λ(.mk g h i,x)=>(cond (!x) (some ((aaj.mk g h i),false)) ((agz k F e v) (f+1) g h i))
def aqw(k:Nat)(F:ach):aaj->LS->Int->ooB:=λd a b =>
 match d,a,b with
 | .mk e f g,a,b=>agz k F b a 0 e f g
def ahY(k:Nat)(F:ach)(a:Bool)(b d:Int)(e:Bool):ooB:=some ((aaj.mk b d e),a)
def ahO(k:Nat)(F:ach)(e:Nat)(a b:Int)(d f:Bool)(nx1:Nat->Int->Int->Bool->ooB):ooB:=cond f (some ((aaj.mk a b d),false)) (nx1 (e+1) a b d)
def acf(k:Nat)(F:ach)(g:LE)(h i j:LS)(l:LC)(a:Int):LC->Nat->Int->Int->Bool->ooB
 | [],b,d,e,f=>(f80 k (aaj.mk d e f) g (w64 (a+1))).bind λ(.mk o p q,C)=>(cond C ((F.f156 (aaj.mk o p q) h (w64 (a+1))).bind λ(.mk r s t,D)=>(cond D ((F.f156 (aaj.mk r s t) i (w64 (a+1))).bind λ(.mk u v x,G)=>(cond G ((F.f156 (aaj.mk u v x) j (w64 (a+1))).bind λ(.mk I J N,O)=>(ahY k F O I J N)) (ahY k F false u v x))) (ahY k F false r s t))) (ahY k F false o p q))
 | (.mk m y z A B)::n,b,d,e,f=>cond (m==4) (cond (decide ((b:Int)<(w64 ((l.length:Int) - 1)))) (ahO k F b d e f true (acf k F g h i j l a n)) ((F.f191 (aaj.mk d e f) (aap.mk m y z A B) (w64 (a+1))).bind λ(.mk S U V,W)=>(ahO k F b S U V (!W) (acf k F g h i j l a n)))) ((F.f191 (aaj.mk d e f) (aap.mk m y z A B) (w64 (a+1))).bind λ(.mk X Y Z,ab)=>(ahO k F b X Y Z (!ab) (acf k F g h i j l a n)))
def acj(k:Nat)(F:ach)(f:LE)(g h i:LS)(a:LC)(j b d:Int)(e l:Bool):ooB:=cond l (some ((aaj.mk b d e),false)) (acf k F f g h i a j a 0 b d e)
def abs(k:Nat)(F:ach)(l:Int)(b:LE)(d h i:LS)(a:LC)(j m n:Int)(o:Bool)(e f:Int)(g p:Bool):ooB:=cond p (some ((aaj.mk e f g),false)) ((f77 k (b.length:Int) m n).bind λq=>(cond (!q) (acj k F b d h i a j e f g true) (cond (!o) (cond (decide ((d.length:Int)>0)) (acj k F b d h i a j e f g true) (cond (l != 27) (cond (decide ((a.length:Int)>0)) (acj k F b d h i a j e f g true) (cond (l==27) ((f77 k (a.length:Int) 1 4).bind λr=>(acj k F b d h i a j e f g (!r))) (acj k F b d h i a j e f g false))) (cond (l==27) ((f77 k (a.length:Int) 1 4).bind λs=>(acj k F b d h i a j e f g (!s))) (acj k F b d h i a j e f g false)))) (cond (l != 27) (cond (decide ((a.length:Int)>0)) (acj k F b d h i a j e f g true) (cond (l==27) ((f77 k (a.length:Int) 1 4).bind λt=>(acj k F b d h i a j e f g (!t))) (acj k F b d h i a j e f g false))) (cond (l==27) ((f77 k (a.length:Int) 1 4).bind λu=>(acj k F b d h i a j e f g (!u))) (acj k F b d h i a j e f g false))))))
def adv(k:Nat)(F:ach)(e:Int)(r p:BA)(f:LE)(g h i:LS)(j:LC)(l s:Int)(q:Bool)(m n:Int)(o:Bool)(a b:Int)(d t:Bool):ooB:=cond t (some ((aaj.mk a b d),false)) (cond (!seq r ⟨#[]⟩) (cond (s==0) (abs k F e f g h i j l m n o a b d true) ((f79 k r).bind λu=>(cond (!u) (abs k F e f g h i j l m n o a b d true) (cond (!(!seq r ⟨#[]⟩)) (cond (s==1) (abs k F e f g h i j l m n o a b d true) (cond (!((!seq p ⟨#[]⟩)==q)) (abs k F e f g h i j l m n o a b d true) (cond q ((f79 k p).bind λv=>(abs k F e f g h i j l m n o a b d (!v))) (abs k F e f g h i j l m n o a b d false)))) (cond (!((!seq p ⟨#[]⟩)==q)) (abs k F e f g h i j l m n o a b d true) (cond q ((f79 k p).bind λx=>(abs k F e f g h i j l m n o a b d (!x))) (abs k F e f g h i j l m n o a b d false))))))) (cond (!(!seq r ⟨#[]⟩)) (cond (s==1) (abs k F e f g h i j l m n o a b d true) (cond (!((!seq p ⟨#[]⟩)==q)) (abs k F e f g h i j l m n o a b d true) (cond q ((f79 k p).bind λy=>(abs k F e f g h i j l m n o a b d (!y))) (abs k F e f g h i j l m n o a b d false)))) (cond (!((!seq p ⟨#[]⟩)==q)) (abs k F e f g h i j l m n o a b d true) (cond q ((f79 k p).bind λz=>(abs k F e f g h i j l m n o a b d (!z))) (abs k F e f g h i j l m n o a b d false)))))
def af0(k:Nat)(F:ach)(x y:Int)(z:Bool)(a:Int)(b:BA)(t:Int)(d:BA)(u v:Int)(e:LE)(f g h:LS)(i:LC)(j m:Int)(n:Bool)(o p:Int)(q A:Bool):ooB:=cond (!A) (adv k F a b d e f g h i j m n o p q x y z true) ((f76 k (aaj.mk x y z) j).bind λ(.mk r s l,B)=>(cond (!B) (adv k F a b d e f g h i j m n o p q r s l true) (cond (t != 0) (cond (!l) (adv k F a b d e f g h i j m n o p q r s l true) ((f190 k (aae.mk a b t d u v e f g h i)).bind λC=>(adv k F a b d e f g h i j m n o p q r s l (!C)))) (cond (u != 0) (cond (!l) (adv k F a b d e f g h i j m n o p q r s l true) ((f190 k (aae.mk a b t d u v e f g h i)).bind λD=>(adv k F a b d e f g h i j m n o p q r s l (!D)))) ((f190 k (aae.mk a b t d u v e f g h i)).bind λG=>(adv k F a b d e f g h i j m n o p q r s l (!G)))))))
def alt(k:Nat)(F:ach):aaj->aae->Int->ooB:=λr s a =>
 match r,s,a with
 | .mk d e f,.mk b g h i j l m n o p q,a=>(f189 k ).bind λt=>(aej (mget qI b t) (af0 k F d e f b g h i j l m n o p q a 0 false 0 0 false false) (λ(.mk u v x y z)=>(af0 k F d e f b g h i j l m n o p q a u v x y z true)))
def amK(k:Nat)(F:ach)(a:Bool)(b d:Int)(e:Bool):ooB:=some ((aaj.mk b d e),a)
def acd(k:Nat)(F:ach)(i:LE)(j:LS)(a b d:Int)(e l:Bool):ooB:=cond l (some ((aaj.mk b d e),false)) ((f80 k (aaj.mk b d e) i (w64 (a+1))).bind λ(.mk f g h,m)=>(cond m ((F.f156 (aaj.mk f g h) j (w64 (a+1))).bind λ(.mk n o p,q)=>(amK k F q n o p)) (amK k F false f g h)))
def aio(k:Nat)(F:ach):aaj->aap->Int->ooB:=λo p a =>
 match o,p,a with
 | .mk j l m,.mk i h q b e,a=>aej (mget qI i (mput qI 4 0 (mput qI 3 1 (mput qI 2 2 (mput qI 1 1 ([]:List (Int×Int))))))) (some ((aaj.mk j l m),false)) (λn=>((f76 k (aaj.mk j l m) a).bind λ(.mk f g d,r)=>(cond (!r) (acd k F b e a f g d true) (cond (q != 0) (cond (!d) (acd k F b e a f g d true) (cond ((b.length:Int) != n) (acd k F b e a f g d true) (cond (!((!seq h ⟨#[]⟩)==(i==1))) (acd k F b e a f g d true) (cond (!seq h ⟨#[]⟩) ((f79 k h).bind λs=>(acd k F b e a f g d (!s))) (acd k F b e a f g d false))))) (cond ((b.length:Int) != n) (acd k F b e a f g d true) (cond (!((!seq h ⟨#[]⟩)==(i==1))) (acd k F b e a f g d true) (cond (!seq h ⟨#[]⟩) ((f79 k h).bind λt=>(acd k F b e a f g d (!t))) (acd k F b e a f g d false))))))))
def abp(k0:Nat):Nat->ach
 | 0=>{ f156:=λ_ _ _=>none,f177:=λ_ _ _=>none,f191:=λ_ _ _=>none }
 | k+1=>{ f156:=aqw k0 (abp k0 k),f177:=alt k0 (abp k0 k),f191:=aio k0 (abp k0 k) }
def f156(k:Nat):aaj->LS->Int->ooB:=(abp k k).f156
def f177(k:Nat):aaj->aae->Int->ooB:=(abp k k).f177
def f191(k:Nat):aaj->aap->Int->ooB:=(abp k k).f191
def ajU(k:Nat)(a b:Int)(d:Bool)(e:Nat)(f:Bool)(nx2:Nat->ooB):ooB:=cond f (some ((aaj.mk a b d),false)) (nx2 (e+1))
def acG(k e:Nat)(f:LS)(a b:Int)(d:Bool)(nx1:Nat->Int->Int->Bool->ooB):LP->Nat->ooB
 | [],g=>(f156 k (aaj.mk a b d) f 1).bind λ(.mk h i j,m)=>(cond (!m) (some ((aaj.mk h i j),false)) (nx1 (e+1) h i j))
 | (.mk n o)::l,g=>(f79 k n).bind λp=>(cond (!p) (ajU k a b d g true (acG k e f a b d nx1 l)) ((f77 k o 1 6).bind λq=>(ajU k a b d g (!q) (acG k e f a b d nx1 l))))
def acn(k e:Nat)(f:LP)(g:LS)(a b:Int)(d h:Bool)(nx1:Nat->Int->Int->Bool->ooB):ooB:=cond h (some ((aaj.mk a b d),false)) (acG k e g a b d nx1 f 0)
def abl(k:Nat)  : LF->Nat->Int->Int->Bool->ooB
 | [],a,j,l,m=>some ((aaj.mk j l m),true)
 | (.mk o b i n p e)::f,a,j,l,m=>(f76 k (aaj.mk j l m) 0).bind λ(.mk g h d,q)=>(cond (!q) (acn k a b e g h d true (abl k f)) ((f79 k o).bind λr=>(cond (!r) (acn k a b e g h d true (abl k f)) (cond (decide ((b.length:Int)>4)) (acn k a b e g h d true (abl k f)) (cond (p != 0) (cond (!d) (acn k a b e g h d true (abl k f)) (cond n (cond (i != 0) (acn k a b e g h d true (abl k f)) ((f77 k i 0 6).bind λs=>(acn k a b e g h d (!s) (abl k f)))) ((f77 k i 0 6).bind λt=>(acn k a b e g h d (!t) (abl k f))))) (cond n (cond (i != 0) (acn k a b e g h d true (abl k f)) ((f77 k i 0 6).bind λu=>(acn k a b e g h d (!u) (abl k f)))) ((f77 k i 0 6).bind λv=>(acn k a b e g h d (!v) (abl k f)))))))))
def f128(k:Nat):aaj->aaa->ooB:=λf g =>
 match f,g with
 | .mk a b d,.mk e=>(f77 k (e.length:Int) 1 16).bind λh=>(cond (!h) (some ((aaj.mk a b d),false)) (abl k e 0 a b d))
def f99(k:Nat):aaa->Bool->ooA:=λb a =>
 match b,a with
 | .mk d,a=>(f128 k (aaj.mk 0 0 a) (aaa.mk d)).bind λ(.mk f g h,e)=>(some e)
def f70(k:Nat):aaa->Option (Except Int aaa):=λb =>
 match b with
 | .mk a=>(f99 k (aaa.mk a) true).bind λd=>((f98 k d 2).bind λq_=>match q_ with | .error c_=>some (.error c_) | .ok _=>((f100 k (aaa.mk a) false).bind λ(.mk e)=>(some (.ok (aaa.mk e)))))
def afI(k:Nat):aaa->aaa->ooQ:=λb d =>
 match b,d with
 | .mk a,.mk sA_0=>(f70 k (aaa.mk a)).bind λq_=>match q_ with | .error c_=>some (.error c_) | .ok (.mk e)=>(some (.ok ((aaa.mk a),(aaa.mk e))))
def ag7(k:Nat):aaa->aaa->ooU:=λa b=>match afI k a b with
 | none=>none
 | some (.ok (y0,y1))=>some (y0,y1,0)
 | some (.error c)=>some (a,b,c)
def f46(k:Nat):aaa->ooI:=λa =>
 match a with
 | .mk b=>(ag7 k (aaa.mk b) (aaa.mk [])).bind λ(.mk f,.mk d,e)=>(some ((aaa.mk d),e))
def ag2(k:Nat):aab->aab->ooA:=λa b =>
 match a,b with
 | .mk d f g h i j,.mk e l m n o p=>some (seq e d)
def ac5(k:Nat)(b:BA)(d:LP)(e:Int)(f:Bool)(g:Int)(h:LS):LF->Nat->ooC
 | [],a=>some (-1)
 | (.mk i j l m n o)::p,a=>(ag2 k (aab.mk i j l m n o) (aab.mk b d e f g h)).bind λq=>(cond q (some (a:Int)) ((ac5 k b d e f g h p) (a+1)))
def ag6(k:Nat):LF->aab->ooC:=λa b =>
 match a,b with
 | a,.mk d e f g h i=>ac5 k d e f g h i a 0
def aeN(k:Nat):LF->aab->ooA:=λa b =>
 match a,b with
 | a,.mk d e f g h i=>(ag6 k a (aab.mk d e f g h i)).bind λj=>(some (decide (j>=0)))
def aid(k:Nat)(a:BA):LM->Nat->Option (Int×Bool)
 | [],b=>some (0,false)
 | d::e,b=>aej (mget seq a d) ((aid k a e) (b+1)) (λf=>(some (f,true)))
def f160(k:Nat):aaf->BA->Option (Int×Bool):=λb a =>
 match b,a with
 | .mk (.mk e) (.mk f g h i j l) m d n,a=>aid k a d 0
def f133(k:Nat):aaf->BA->Option (Except Int (aaf×Int)):=λn a =>
 match n,a with
 | .mk (.mk e) (.mk f g h i j l) b d m,a=>(f160 k (aaf.mk (aaa.mk e) (aab.mk f g h i j l) b d m) a).bind λ(q,o)=>((f98 k (!o) 21).bind λq_=>match q_ with | .error c_=>some (.error c_) | .ok _=>(aaB (decide ((b.length+1)*16<=140737488355328)) ((idxO d (w64 ((d.length:Int) - 1))).bind λp=>(some (.ok ((aaf.mk (aaa.mk e) (aab.mk f g h i j l) (b++[a]) (d.set (w64 ((d.length:Int) - 1)).toNat (mput seq a (b.length:Int) p)) m),(b.length:Int)))))))
def agY(k:Nat):aah->aaf->Option (Except Int Int):=λa b =>
 match a,b with
 | .mk d s e t u,.mk (.mk f) (.mk g h i j l m) n o p=>cond (d != 4) (some (.ok 0)) ((f160 k (aaf.mk (aaa.mk f) (aab.mk g h i j l m) n o p) e).bind λ(q,r)=>((f98 k r 20).bind λq_=>match q_ with | .error c_=>some (.error c_) | .ok _=>(some (.ok q))))
structure acO where
 f1015988:LE->aaf->ooS
 f1017888:aah->aaf->ooY
def ab5(k:Nat)(F:acO)(b:LF)(d:BA)(e:LP)(f:Int)(g:Bool)(h:Int)(i:LS)(j:LB)(l:LM)(m:Int):LE->Nat->LE->ooS
 | [],n,a=>some (.ok a)
 | (.mk o p q r s)::t,n,a=>(F.f1017888 (aah.mk o p q r s) (aaf.mk (aaa.mk b) (aab.mk d e f g h i) j l m)).bind λq_=>match q_ with | .error c_=>some (.error c_) | .ok (.mk u v x y z)=>(aaB (decide ((a.length+1)*64<=140737488355328)) ((ab5 k F b d e f g h i j l m t) (n+1) (a++[(aah.mk u v x y z)])))
def agk(k:Nat)(F:acO):LE->aaf->ooS:=λa b =>
 match a,b with
 | a,.mk (.mk d) (.mk e f g h i j) l m n=>ab5 k F d e f g h i j l m n a 0 ([]:LE)
def ady(k:Nat)(F:acO):aah->aaf->ooY:=λq r =>
 match q,r with
 | .mk a b d s t,.mk (.mk e) (.mk f g h i j l) m n o=>(F.f1015988 t (aaf.mk (aaa.mk e) (aab.mk f g h i j l) m n o)).bind λq_=>match q_ with | .error c_=>some (.error c_) | .ok p=>((agY k (aah.mk a b d s p) (aaf.mk (aaa.mk e) (aab.mk f g h i j l) m n o)).bind λq_=>match q_ with | .error c_=>some (.error c_) | .ok u=>(some (.ok (aah.mk a b d u p))))
def aaV(k0:Nat):Nat->acO
 | 0=>{ f1015988:=λ_ _=>none,f1017888:=λ_ _=>none }
 | k+1=>{ f1015988:=agk k0 (aaV k0 k),f1017888:=ady k0 (aaV k0 k) }
def f1015988(k:Nat):LE->aaf->ooS:=(aaV k k).f1015988
def f1017888(k:Nat):aah->aaf->ooY:=(aaV k k).f1017888
def f161(k:Nat):aaf->LE->ooS:=λb a =>
 match b,a with
 | .mk (.mk d) (.mk e f g h i j) l m n,a=>(f1015988 k a (aaf.mk (aaa.mk d) (aab.mk e f g h i j) l m n)).bind λq_=>match q_ with | .error c_=>some (.error c_) | .ok o=>(some (.ok o))
def ag1(k:Nat):aab->aae->ooA:=λa b =>
 match a,b with
 | .mk d f g h i j,.mk l m n e o p q r s t u=>some (seq d e)
def ada(k:Nat)(b:Int)(d:BA)(e:Int)(f:BA)(g h:Int)(i:LE)(j l m:LS)(n:LC):LF->Nat->ooC
 | [],a=>some (-1)
 | (.mk o p q r s t)::u,a=>(ag1 k (aab.mk o p q r s t) (aae.mk b d e f g h i j l m n)).bind λv=>(cond v (some (a:Int)) ((ada k b d e f g h i j l m n u) (a+1)))
def ag5(k:Nat):LF->aae->ooC:=λa b =>
 match a,b with
 | a,.mk d e f g h i j l m n o=>ada k d e f g h i j l m n o a 0
def f163(k:Nat):aaf->aae->ooF:=λd e =>
 match d,e with
 | .mk (.mk a) (.mk f g h i j l) m n o,.mk sA_0 sA_1 sA_2 sA_3 sA_4 sA_5 sA_6 sA_7 sA_8 sA_9 sA_10=>(ag5 k a (aae.mk sA_0 sA_1 sA_2 sA_3 sA_4 sA_5 sA_6 sA_7 sA_8 sA_9 sA_10)).bind λb=>((f98 k (decide (b>=0)) 20).bind λq_=>match q_ with | .error c_=>some (.error c_) | .ok _=>((idxO a b).bind λ(.mk r p s q t u)=>((f98 k (q==(sA_0==28)) 25).bind λq_=>match q_ with | .error c_=>some (.error c_) | .ok _=>((f98 k ((p.length:Int)==(sA_6.length:Int)) 24).bind λq_=>match q_ with | .error c_=>some (.error c_) | .ok _=>(some (.ok ((aaf.mk (aaa.mk a) (aab.mk f g h i j l) m n o),(aae.mk sA_0 sA_1 sA_2 sA_3 b sA_5 sA_6 sA_7 sA_8 sA_9 sA_10))))))))
structure abF where
 f134:aaf->aae->ooF
 f1016212:aaf->BA->LS->aap->ooM
 f1016220:aaf->BA->LS->aae->ooG
 f1016266:aaf->BA->LS->ooK
 f1016420:aaf->BA->LS->aae->ooG
 f1016466:aaf->BA->LS->ooK
def af2(k:Nat)(F:abF)(n:Int)(o:BA)(p:Int)(q:BA)(r s:Int)(t u v:LS)(x:LE):LC->Nat->LF->BA->LP->Int->Bool->Int->LS->LB->LM->Int->LC->ooF
 | [],y,a,b,d,e,f,g,h,i,j,l,m=>some (.ok ((aaf.mk (aaa.mk a) (aab.mk b d e f g h) i j l),(aae.mk n o p q r s x t u v m)))
 | (.mk B z C D A)::G,y,a,b,d,e,f,g,h,i,j,l,m=>(f161 k (aaf.mk (aaa.mk a) (aab.mk b d e f g h) i j l) D).bind λq_=>match q_ with | .error c_=>some (.error c_) | .ok I=>((F.f1016212 (aaf.mk (aaa.mk a) (aab.mk b d e f g h) i j l) z A (aap.mk B z C I A)).bind λq_=>match q_ with | .error c_=>some (.error c_) | .ok (.mk (.mk J) (.mk N O S U V W) X Y Z,.mk ab ac ad ae ai,af)=>(aaB (decide ((m.length+1)*80<=140737488355328)) ((af2 k F n o p q r s t u v x G) (y+1) J N O S U V W X Y Z (m++[(aap.mk ab ac ad ae af)]))))
def acq(k:Nat)(F:abF)(a:Int)(b:BA)(d:Int)(e:BA)(f g:Int)(h:LE)(i j l:LS)(m:LC)(n:LF)(o:BA)(p:LP)(q:Int)(r:Bool)(s:Int)(t:LS)(u:LB)(v:LM)(x:Int):ooF:=some (.ok ((aaf.mk (aaa.mk n) (aab.mk o p q r s t) u v x),(aae.mk a b d e f g h i j l m)))
def ah9(k:Nat)(F:abF)(a:Int)(e f:BA)(g b:Int)(h:LE)(i j l:LS)(m:LC)(n:LF)(o:BA)(p:LP)(q:Int)(r:Bool)(s:Int)(t:LS)(u:LB)(v:LM)(d x:Int):ooF:=cond (a != 6) ((f98 k true 22).bind λq_=>match q_ with | .error c_=>some (.error c_) | .ok _=>(acq k F a e x f g b h i j l m n o p q r s t u v d)) (cond (b==0) ((f98 k true 22).bind λq_=>match q_ with | .error c_=>some (.error c_) | .ok _=>(acq k F a e x f g b h i j l m n o p q r s t u v d)) ((f98 k (decide (d>0)) 22).bind λq_=>match q_ with | .error c_=>some (.error c_) | .ok _=>(acq k F a e x f g b h i j l m n o p q r s t u v d)))
def afh(k:Nat)(F:abF)(b:LF)(d:BA)(e:LP)(f:Int)(g:Bool)(h:Int)(i:LS)(j:LB)(l:LM)(m n:Int)(a:BA)(x:Int)(o:BA)(p q:Int)(r:LE)(s t u:LS)(v:LC)(y:Bool):ooF:=cond y ((F.f1016266 (aaf.mk (aaa.mk b) (aab.mk d e f g h i) j l m) ⟨#[]⟩ s).bind λq_=>match q_ with | .error c_=>some (.error c_) | .ok (.mk (.mk z) (.mk A B C D G I) J N O,S)=>((F.f1016266 (aaf.mk (aaa.mk z) (aab.mk A B C D G I) J N O) ⟨#[]⟩ t).bind λq_=>match q_ with | .error c_=>some (.error c_) | .ok (.mk (.mk U) (.mk V W X Y Z ab) ac ad ae,af)=>(acq k F n a x o p q r S af u v U V W X Y Z ab ac ad ae))) (cond (!seq a ⟨#[]⟩) ((f133 k (aaf.mk (aaa.mk b) (aab.mk d e f g h i) j l m) a).bind λq_=>match q_ with | .error c_=>some (.error c_) | .ok (.mk (.mk ai) (.mk aj ak al am an ao) ap aq ar,au)=>(ah9 k F n a o p q r s t u v ai aj ak al am an ao ap aq ar au)) (ah9 k F n a o p q r s t u v b d e f g h i j l m x))
def aho(k:Nat)(F:abF)(j:LF)(l:BA)(m:LP)(e:Int)(f:Bool)(n:Int)(o:LS)(p:LB)(q:LM)(g a:Int)(b:BA)(r:Int)(s:BA)(t u:Int)(h:LE)(d i v:LS)(x:LC)(y:Bool):ooF:=cond y ((f98 k (decide (g>0)) 22).bind λq_=>match q_ with | .error c_=>some (.error c_) | .ok _=>(acq k F a b r s t u h d i v x j l m e f n o p q g)) (cond (a==29) ((f98 k f 22).bind λq_=>match q_ with | .error c_=>some (.error c_) | .ok _=>(acq k F a b r s t u h d i v x j l m e f n o p q g)) (cond (a==17) ((f98 k ((decide ((h.length:Int)>0))==(e != 0)) 22).bind λq_=>match q_ with | .error c_=>some (.error c_) | .ok _=>(acq k F a b r s t u h d i v x j l m e f n o p q g)) (cond (a==21) ((F.f1016466 (aaf.mk (aaa.mk j) (aab.mk l m e f n o) p q g) ⟨#[]⟩ d).bind λq_=>match q_ with | .error c_=>some (.error c_) | .ok (.mk (.mk z) (.mk A B C D G I) J N O,S)=>(acq k F a b r s t u h S i v x z A B C D G I J N O)) (cond (a==28) ((F.f1016420 (aaf.mk (aaa.mk j) (aab.mk l m e f n o) p q g) b d (aae.mk a b r s t u h d i v x)).bind λq_=>match q_ with | .error c_=>some (.error c_) | .ok (.mk (.mk U) (.mk V W X Y Z ab) ac ad ae,.mk af ai aj ak al am an bL ao ap aq,ar)=>(acq k F af ai aj ak al am an ar ao ap aq U V W X Y Z ab ac ad ae)) (cond (a==25) ((F.f1016220 (aaf.mk (aaa.mk j) (aab.mk l m e f n o) p q g) b d (aae.mk a b r s t u h d i v x)).bind λq_=>match q_ with | .error c_=>some (.error c_) | .ok (.mk (.mk au) (.mk av aw ax ay az aA) aB aG aH,.mk aI aK aL aM aN aP aT bM aU aV aW,aX)=>(acq k F aI aK aL aM aN aP aT aX aU aV aW au av aw ax ay az aA aB aG aH)) (cond (a==24) ((F.f1016266 (aaf.mk (aaa.mk j) (aab.mk l m e f n o) p q g) ⟨#[]⟩ d).bind λq_=>match q_ with | .error c_=>some (.error c_) | .ok (.mk (.mk aY) (.mk aZ a0 a1 a2 a3 a4) a5 a6 a7,a8)=>((F.f1016220 (aaf.mk (aaa.mk aY) (aab.mk aZ a0 a1 a2 a3 a4) a5 a6 a7) b i (aae.mk a b r s t u h a8 i v x)).bind λq_=>match q_ with | .error c_=>some (.error c_) | .ok (.mk (.mk a9) (.mk ba bb bd be bf bg) bh bi bj,.mk bk bm bn bo bp bq br bs bP bu bv,bw)=>((F.f1016266 (aaf.mk (aaa.mk a9) (aab.mk ba bb bd be bf bg) bh bi bj) ⟨#[]⟩ bu).bind λq_=>match q_ with | .error c_=>some (.error c_) | .ok (.mk (.mk bx) (.mk bz bB bD bE bF bG) bH bI bJ,bK)=>(acq k F bk bm bn bo bp bq br bs bw bK bv bx bz bB bD bE bF bG bH bI bJ)))) (cond (a==20) (afh k F j l m e f n o p q g a b r s t u h d i v x (a==20)) (cond (a==22) (afh k F j l m e f n o p q g a b r s t u h d i v x (a==22)) (cond (a==23) (afh k F j l m e f n o p q g a b r s t u h d i v x (a==23)) (afh k F j l m e f n o p q g a b r s t u h d i v x (a==26)))))))))))
def ahF(k:Nat)(F:abF)(b:LF)(d:BA)(e:LP)(f:Int)(g:Bool)(h:Int)(i:LS)(j:LB)(l:LM)(m a:Int)(n:BA)(x:Int)(o:BA)(p q:Int)(r:LE)(s t u:LS)(v:LC):ooF:=cond (a==2) ((f160 k (aaf.mk (aaa.mk b) (aab.mk d e f g h i) j l m) n).bind λ(y,z)=>((f98 k z 20).bind λq_=>match q_ with | .error c_=>some (.error c_) | .ok _=>(acq k F a n y o p q r s t u v b d e f g h i j l m))) (cond (a==18) (aho k F b d e f g h i j l m a n x o p q r s t u v (a==18)) (aho k F b d e f g h i j l m a n x o p q r s t u v (a==19)))
def amc(k:Nat)(F:abF):aaf->aae->ooF:=λy z =>
 match y,z with
 | .mk (.mk a) (.mk b d e f g h) i j l,.mk m o p n q r A s t u v=>(f161 k (aaf.mk (aaa.mk a) (aab.mk b d e f g h) i j l) A).bind λq_=>match q_ with | .error c_=>some (.error c_) | .ok x=>(cond (m==27) (af2 k F m o p n q r s t u x v 0 a b d e f g h i j l ([]:LC)) (cond (!seq n ⟨#[]⟩) ((f163 k (aaf.mk (aaa.mk a) (aab.mk b d e f g h) i j l) (aae.mk m o p n q r x s t u v)).bind λq_=>match q_ with | .error c_=>some (.error c_) | .ok (.mk (.mk B) (.mk C D G I J N) O S U,.mk V W X Y Z ab ac ad ae af ai)=>(ahF k F B C D G I J N O S U V W X Y Z ab ac ad ae af ai)) (ahF k F a b d e f g h i j l m o p n q r x s t u v)))
def acu(k:Nat)(F:abF)(sA_0:Int)(sA_1:BA)(sA_3:LE)(sA_4:LS)(n:Int):LS->Nat->LF->BA->LP->Int->Bool->Int->LS->LB->LM->Int->LS->ooM
 | [],o,d,e,f,g,h,i,j,l,a,m,b=>aaB (decide (0<=(w64 ((a.length:Int) - 1))/\(w64 ((a.length:Int) - 1))<=(a.length:Int))) (some (.ok ((aaf.mk (aaa.mk d) (aab.mk e f g h i j) l (a.take (w64 ((a.length:Int) - 1)).toNat) m),(aap.mk sA_0 sA_1 n sA_3 sA_4),b)))
 | (.mk p q r s t u v x y z A)::B,o,d,e,f,g,h,i,j,l,a,m,b=>(F.f134 (aaf.mk (aaa.mk d) (aab.mk e f g h i j) l a m) (aae.mk p q r s t u v x y z A)).bind λq_=>match q_ with | .error c_=>some (.error c_) | .ok (.mk (.mk C) (.mk D G I J N O) S U V,.mk W X Y Z ab ac ad ae af ai aj)=>(aaB (decide ((b.length+1)*184<=140737488355328)) ((acu k F sA_0 sA_1 sA_3 sA_4 n B) (o+1) C D G I J N O S U V (b++[(aae.mk W X Y Z ab ac ad ae af ai aj)])))
def ad1(k:Nat)(F:abF)(a:LS)(sA_0:Int)(sA_1:BA)(sA_3:LE)(sA_4:LS)(b:LF)(d:BA)(e:LP)(f:Int)(g:Bool)(h:Int)(i:LS)(j:LB)(l:LM)(m n:Int):ooM:=acu k F sA_0 sA_1 sA_3 sA_4 n a 0 b d e f g h i j l m ([]:LS)
def adA(k:Nat)(F:abF):aaf->BA->LS->aap->ooM:=λo a b p =>
 match o,a,b,p with
 | .mk (.mk e) (.mk f g h i j l) m d n,a,b,.mk sA_0 sA_1 sA_2 sA_3 sA_4=>aaB (decide ((d.length+1)*8<=140737488355328)) (cond (!seq a ⟨#[]⟩) ((f133 k (aaf.mk (aaa.mk e) (aab.mk f g h i j l) m (d++[([]:List (BA×Int))]) n) a).bind λq_=>match q_ with | .error c_=>some (.error c_) | .ok (.mk (.mk q) (.mk r s t u v x) y z A,B)=>(ad1 k F b sA_0 sA_1 sA_3 sA_4 q r s t u v x y z A B)) (ad1 k F b sA_0 sA_1 sA_3 sA_4 e f g h i j l m (d++[([]:List (BA×Int))]) n sA_2))
def acs(k:Nat)(F:abF)(sA_0:Int)(sA_1 sA_3:BA)(sA_4 sA_5:Int)(sA_6:LE)(sA_7 sA_8 sA_9:LS)(sA_10:LC)(n:Int):LS->Nat->LF->BA->LP->Int->Bool->Int->LS->LB->LM->Int->LS->ooG
 | [],o,d,e,f,g,h,i,j,l,a,m,b=>aaB (decide (0<=(w64 ((a.length:Int) - 1))/\(w64 ((a.length:Int) - 1))<=(a.length:Int))) (some (.ok ((aaf.mk (aaa.mk d) (aab.mk e f g h i j) l (a.take (w64 ((a.length:Int) - 1)).toNat) m),(aae.mk sA_0 sA_1 n sA_3 sA_4 sA_5 sA_6 sA_7 sA_8 sA_9 sA_10),b)))
 | (.mk p q r s t u v x y z A)::B,o,d,e,f,g,h,i,j,l,a,m,b=>(F.f134 (aaf.mk (aaa.mk d) (aab.mk e f g h i j) l a m) (aae.mk p q r s t u v x y z A)).bind λq_=>match q_ with | .error c_=>some (.error c_) | .ok (.mk (.mk C) (.mk D G I J N O) S U V,.mk W X Y Z ab ac ad ae af ai aj)=>(aaB (decide ((b.length+1)*184<=140737488355328)) ((acs k F sA_0 sA_1 sA_3 sA_4 sA_5 sA_6 sA_7 sA_8 sA_9 sA_10 n B) (o+1) C D G I J N O S U V (b++[(aae.mk W X Y Z ab ac ad ae af ai aj)])))
def ad2(k:Nat)(F:abF)(a:LS)(sA_0:Int)(sA_1 sA_3:BA)(sA_4 sA_5:Int)(sA_6:LE)(sA_7 sA_8 sA_9:LS)(sA_10:LC)(b:LF)(d:BA)(e:LP)(f:Int)(g:Bool)(h:Int)(i:LS)(j:LB)(l:LM)(m n:Int):ooG:=acs k F sA_0 sA_1 sA_3 sA_4 sA_5 sA_6 sA_7 sA_8 sA_9 sA_10 n a 0 b d e f g h i j l m ([]:LS)
def adL(k:Nat)(F:abF):aaf->BA->LS->aae->ooG:=λo a b p =>
 match o,a,b,p with
 | .mk (.mk e) (.mk f g h i j l) m d n,a,b,.mk sA_0 sA_1 sA_2 sA_3 sA_4 sA_5 sA_6 sA_7 sA_8 sA_9 sA_10=>aaB (decide ((d.length+1)*8<=140737488355328)) (cond (!seq a ⟨#[]⟩) ((f133 k (aaf.mk (aaa.mk e) (aab.mk f g h i j l) m (d++[([]:List (BA×Int))]) n) a).bind λq_=>match q_ with | .error c_=>some (.error c_) | .ok (.mk (.mk q) (.mk r s t u v x) y z A,B)=>(ad2 k F b sA_0 sA_1 sA_3 sA_4 sA_5 sA_6 sA_7 sA_8 sA_9 sA_10 q r s t u v x y z A B)) (ad2 k F b sA_0 sA_1 sA_3 sA_4 sA_5 sA_6 sA_7 sA_8 sA_9 sA_10 e f g h i j l m (d++[([]:List (BA×Int))]) n sA_2))
def acp(k:Nat)(F:abF)  : LS->Nat->LF->BA->LP->Int->Bool->Int->LS->LB->LM->Int->LS->ooK
 | [],n,d,e,f,g,h,i,j,l,a,m,b=>aaB (decide (0<=(w64 ((a.length:Int) - 1))/\(w64 ((a.length:Int) - 1))<=(a.length:Int))) (some (.ok ((aaf.mk (aaa.mk d) (aab.mk e f g h i j) l (a.take (w64 ((a.length:Int) - 1)).toNat) m),b)))
 | (.mk o p q r s t u v x y z)::A,n,d,e,f,g,h,i,j,l,a,m,b=>(F.f134 (aaf.mk (aaa.mk d) (aab.mk e f g h i j) l a m) (aae.mk o p q r s t u v x y z)).bind λq_=>match q_ with | .error c_=>some (.error c_) | .ok (.mk (.mk B) (.mk C D G I J N) O S U,.mk V W X Y Z ab ac ad ae af ai)=>(aaB (decide ((b.length+1)*184<=140737488355328)) ((acp k F A) (n+1) B C D G I J N O S U (b++[(aae.mk V W X Y Z ab ac ad ae af ai)])))
def adN(k:Nat)(F:abF):aaf->BA->LS->ooK:=λo a b =>
 match o,a,b with
 | .mk (.mk e) (.mk f g h i j l) m d n,a,b=>aaB (decide ((d.length+1)*8<=140737488355328)) (cond (!seq a ⟨#[]⟩) ((f133 k (aaf.mk (aaa.mk e) (aab.mk f g h i j l) m (d++[([]:List (BA×Int))]) n) a).bind λq_=>match q_ with | .error c_=>some (.error c_) | .ok (.mk (.mk p) (.mk q r s t u v) x y z,A)=>(none)) (acp k F b 0 e f g h i j l m (d++[([]:List (BA×Int))]) n ([]:LS)))
def adK(k:Nat)(F:abF):aaf->BA->LS->aae->ooG:=λd a b e =>
 match d,a,b,e with
 | .mk (.mk f) (.mk g h i j l m) n o p,a,b,.mk sA_0 sA_1 sA_2 sA_3 sA_4 sA_5 sA_6 sA_7 sA_8 sA_9 sA_10=>(F.f1016220 (aaf.mk (aaa.mk f) (aab.mk g h i j l m) n o (w64 (p+1))) a b (aae.mk sA_0 sA_1 sA_2 sA_3 sA_4 sA_5 sA_6 sA_7 sA_8 sA_9 sA_10)).bind λq_=>match q_ with | .error c_=>some (.error c_) | .ok (.mk (.mk q) (.mk r s t u v x) y z A,.mk B C D G I J N O S U V,W)=>(some (.ok ((aaf.mk (aaa.mk q) (aab.mk r s t u v x) y z (w64 (A - 1))),(aae.mk B C D G I J N O S U V),W)))
def adx(k:Nat)(F:abF):aaf->BA->LS->ooK:=λd a b =>
 match d,a,b with
 | .mk (.mk e) (.mk f g h i j l) m n o,a,b=>(F.f1016266 (aaf.mk (aaa.mk e) (aab.mk f g h i j l) m n (w64 (o+1))) a b).bind λq_=>match q_ with | .error c_=>some (.error c_) | .ok (.mk (.mk p) (.mk q r s t u v) x y z,A)=>(some (.ok ((aaf.mk (aaa.mk p) (aab.mk q r s t u v) x y (w64 (z - 1))),A)))
def aaD(k0:Nat):Nat->abF
 | 0=>{ f134:=λ_ _=>none,f1016212:=λ_ _ _ _=>none,f1016220:=λ_ _ _ _=>none,f1016266:=λ_ _ _=>none,f1016420:=λ_ _ _ _=>none,f1016466:=λ_ _ _=>none }
 | k+1=>{ f134:=amc k0 (aaD k0 k),f1016212:=adA k0 (aaD k0 k),f1016220:=adL k0 (aaD k0 k),f1016266:=adN k0 (aaD k0 k),f1016420:=adK k0 (aaD k0 k),f1016466:=adx k0 (aaD k0 k) }
def f134(k:Nat):aaf->aae->ooF:=(aaD k k).f134
def f1016212(k:Nat):aaf->BA->LS->aap->ooM:=(aaD k k).f1016212
def f1016220(k:Nat):aaf->BA->LS->aae->ooG:=(aaD k k).f1016220
def f1016266(k:Nat):aaf->BA->LS->ooK:=(aaD k k).f1016266
def f1016420(k:Nat):aaf->BA->LS->aae->ooG:=(aaD k k).f1016420
def f1016466(k:Nat):aaf->BA->LS->ooK:=(aaD k k).f1016466
def amw(k:Nat)(a:BA)(b:LP)(d:Int)(e:Bool)(f:Int)(g:LS)(h:LB):ooR:=some (.ok ((aab.mk a b d e f g),h))
def agw(k:Nat)(d:BA)(e:Int)(f:Bool)(g:LP):LS->Nat->LF->BA->LP->Int->Bool->Int->LS->LB->LM->Int->LS->ooR
 | [],h,i,j,l,m,n,o,p,a,q,r,b=>(f98 k (decide ((a.length:Int)<=32)) 5).bind λq_=>match q_ with | .error c_=>some (.error c_) | .ok _=>(amw k d g e f (a.length:Int) b a)
 | (.mk s t u v x y z A B C D)::G,h,i,j,l,m,n,o,p,a,q,r,b=>(f134 k (aaf.mk (aaa.mk i) (aab.mk j l m n o p) a q r) (aae.mk s t u v x y z A B C D)).bind λq_=>match q_ with | .error c_=>some (.error c_) | .ok (.mk (.mk I) (.mk J N O S U V) W X Y,.mk Z ab ac ad ae af ai aj ak al am)=>(aaB (decide ((b.length+1)*184<=140737488355328)) ((agw k d e f g G) (h+1) I J N O S U V W X Y (b++[(aae.mk Z ab ac ad ae af ai aj ak al am)])))
def acF(k:Nat)(m:BA)(n:LP)(o:Int)(p:Bool)(q:LS):LP->Nat->LF->BA->LP->Int->Bool->Int->LS->LB->LM->Int->ooR
 | [],r,a,b,d,e,f,g,h,i,j,l=>(f129 k n).bind λs=>(agw k m o p s q 0 a b d e f g h i j l ([]:LS))
 | (.mk t J)::u,r,a,b,d,e,f,g,h,i,j,l=>(f133 k (aaf.mk (aaa.mk a) (aab.mk b d e f g h) i j l) t).bind λq_=>match q_ with | .error c_=>some (.error c_) | .ok (.mk (.mk v) (.mk x y z A B C) D G I,N)=>((acF k m n o p q u) (r+1) v x y z A B C D G I)
def f104(k:Nat):aaa->aab->ooR:=λg h =>
 match g,h with
 | .mk i,.mk b a d e j f=>acF k b a d e f a 0 i b a d e j f ([]:LB) [([]:List (BA×Int))] 0
def agN(k:Nat)(all:LF):LF->Nat->Option (Except Int Unit)
 | [],_=>some (.ok ())
 | f::rest,i=>(aeN k (all.take i) f).bind λb=>(f98 k (!b) 21).bind λq=>match q with
  | .error c=>some (.error c)
  | .ok _=>agN k all rest (i+1)
def abI:LF->Int
 | []=>20
 | .mk nm ps _ fl _ _::rest=>cond (!(seq nm ⟨#[109,97,105,110]⟩)) (abI rest) (cond fl 25 (cond (decide ((ps.length:Int)>0)) 24 0))
def afy(k:Nat)(p:aaa):LF->List aab->List LB->Option (Except Int (aaa×List LB))
 | [],out,names=>some (.ok (.mk out,names))
 | f::rest,out,names=>(f104 k p f).bind λq=>match q with
  | .error c=>some (.error c)
  | .ok (g,l)=>afy k p rest (out++[g]) (names++[l])
def f72(k:Nat):aaa->Option (Except Int (aaa×(List LB))):=λa=>match a with
 | .mk fs=>(f99 k (.mk fs) false).bind λok=>(f98 k ok 2).bind λq=>match q with
  | .error c=>some (.error c)
  | .ok _=>(agN k fs fs 0).bind λq=>match q with
   | .error c=>some (.error c)
   | .ok _=>(f98 k (decide (abI fs=0)) (abI fs)).bind λq=>match q with
    | .error c=>some (.error c)
    | .ok _=>afy k (.mk fs) fs [] []
def afA(k:Nat):aaa->aaa->ooQ:=λb d =>
 match b,d with
 | .mk a,.mk sA_0=>(f72 k (aaa.mk a)).bind λq_=>match q_ with | .error c_=>some (.error c_) | .ok (.mk e,f)=>(some (.ok ((aaa.mk a),(aaa.mk e))))
def ag8(k:Nat):aaa->aaa->ooU:=λa b=>match afA k a b with
 | none=>none
 | some (.ok (y0,y1))=>some (y0,y1,0)
 | some (.error c)=>some (a,b,c)
def f47(k:Nat):aaa->ooI:=λa =>
 match a with
 | .mk b=>(ag8 k (aaa.mk b) (aaa.mk [])).bind λ(.mk f,.mk d,e)=>(some ((aaa.mk d),e))
def f56(k:Nat):Option (List (Int×aax)):=some (mput qI 19 (aax.mk [1] 1) (mput qI 18 (aax.mk [1] 1) (mput qI 17 (aax.mk [1] 1) (mput qI 16 (aax.mk [1] 1) (mput qI 6 (aax.mk [1] 1) (mput qI 14 (aax.mk [1,3] 2) (mput qI 13 (aax.mk [1,3] 2) (mput qI 12 (aax.mk [1,3] 2) (mput qI 11 (aax.mk [1,3] 2) (mput qI 8 (aax.mk [2] 2) (mput qI 7 (aax.mk [2] 2) (mput qI 5 (aax.mk [2] 2) ([]:List (Int×aax))))))))))))))
def al7(k:Nat)(b:Int):List Int->Nat->ooC
 | [],a=>some (-1)
 | d::e,a=>cond (b==d) (some (a:Int)) ((al7 k b e) (a+1))
def f83(k:Nat):(List Int)->Int->ooC:=λa b=>al7 k b a 0
def f57(k:Nat):(List Int)->Int->ooA:=λa b=>(f83 k a b).bind λd=>(some (decide (d>=0)))
structure ald where
 f33:aah->(List Int)->ooC
def anA(k:Nat)(F:ald)(a:Int)(b:Bool):ooC:=cond b (some (-1)) (some a)
def anQ(k:Nat)(F:ald)(a:Int)(b:List Int)(d:Int):ooC:=(f57 k b a).bind λe=>cond (!e) (some (-1)) (some d)
def anw(k:Nat)(F:ald)(b a:Int)(d:Bool):ooC:=cond d (some 2) (cond (b==15) (cond (a != 1) (anA k F a (a != 3)) (anA k F a false)) ((f56 k ).bind λe=>(aej (mget qI b e) (anQ k F a [] 0) (λ(.mk f g)=>(anQ k F a f g)))))
def aiP(k:Nat)(F:ald)(a b:Int)(d:Bool):ooC:=cond d (some (-1)) (cond (a==9) (anw k F a b (a==9)) (anw k F a b (a==10)))
def arO(k:Nat)(F:ald):aah->(List Int)->ooC:=λf b =>
 match f,b with
 | .mk a u v g e,b=>cond (a==1) (some 1) (cond (a==2) (some 2) (cond (a==3) (some 3) (cond (a==4) ((idxO b g).bind λh=>(some h)) ((idxO e 0).bind λ(.mk i j l m n)=>((F.f33 (aah.mk i j l m n) b).bind λd=>(cond (d==(-1)) (aiP k F a d true) (cond ((e.length:Int)==2) ((idxO e 1).bind λ(.mk o p q r s)=>((F.f33 (aah.mk o p q r s) b).bind λt=>(aiP k F a d (t != d)))) (aiP k F a d false))))))))
def amX(k0:Nat):Nat->ald
 | 0=>{ f33:=λ_ _=>none }
 | k+1=>{ f33:=arO k0 (amX k0 k) }
def f33(k:Nat):aah->(List Int)->ooC:=(amX k k).f33
def ah7(k:Nat)(b d:(List Int)):LE->Nat->ooA
 | [],a=>some true
 | (.mk e f g h i)::j,a=>(idxO d (a:Int)).bind λl=>((f33 k (aah.mk e f g h i) b).bind λm=>(cond (m != l) (some false) ((ah7 k b d j) (a+1))))
def f105(k:Nat):aat->LE->(List Int)->ooA:=λd a b =>
 match d,a,b with
 | .mk (.mk f) (.mk g h i j l m) e,a,b=>ah7 k e b a 0
def f106(k:Nat):Option (List (Int×(List Int))):=some (mput qI 26 [6] (mput qI 21 [2] (mput qI 20 [2] (mput qI 15 [3] (mput qI 22 [1] (mput qI 29 [1] (mput qI 25 [1] (mput qI 8 [1] (mput qI 7 [1] (mput qI 12 [1] (mput qI 10 [4,1] (mput qI 11 [4] (mput qI 6 [4] (mput qI 16 [5] (mput qI 5 [5] ([]:List (Int×(List Int))))))))))))))))))
structure adr where
 f48:aat->LS->ooE
 f73:aat->aae->ooE
def aiB(k:Nat)(F:adr)  : LS->Nat->LF->BA->LP->Int->Bool->Int->LS->(List Int)->ooE
 | [],j,a,b,d,e,f,g,h,i=>some ((aat.mk (aaa.mk a) (aab.mk b d e f g h) i),true)
 | (.mk t u v x y z A B C D G)::I,j,a,b,d,e,f,g,h,i=>(F.f73 (aat.mk (aaa.mk a) (aab.mk b d e f g h) i) (aae.mk t u v x y z A B C D G)).bind λ(.mk (.mk l) (.mk m n o p q r) s,J)=>(cond (!J) (some ((aat.mk (aaa.mk l) (aab.mk m n o p q r) s),false)) ((aiB k F I) (j+1) l m n o p q r s))
def auw(k:Nat)(F:adr):aat->LS->ooE:=λb a =>
 match b,a with
 | .mk (.mk d) (.mk e f g h i j) l,a=>aiB k F a 0 d e f g h i j l
def ama(k:Nat)(F:adr)(a:Bool)(b:LF)(d:BA)(e:LP)(f:Int)(g:Bool)(h:Int)(i:LS)(j:List Int):ooE:=some ((aat.mk (aaa.mk b) (aab.mk d e f g h i) j),a)
def akT(k:Nat)(F:adr)(j:LF)(l:BA)(m:LP)(n:Int)(o:Bool)(p:Int)(q:LS)(r:Nat)(s:LS)(t:List Int)(nx1:Nat->LF->BA->LP->Int->Bool->Int->LS->(List Int)->ooE):ooE:=(F.f48 (aat.mk (aaa.mk j) (aab.mk l m n o p q) t) s).bind λ(.mk (.mk a) (.mk b d e f g h) i,u)=>cond (!u) (some ((aat.mk (aaa.mk a) (aab.mk b d e f g h) i),false)) (nx1 (r+1) a b d e f g h i)
def aiQ(k:Nat)(F:adr)(b:LF)(d:BA)(e:LP)(f:Int)(g:Bool)(h:Int)(i:LS)(a:List Int)(j:Nat)(n:BA)(l:Int)(m:LS)(nx1:Nat->LF->BA->LP->Int->Bool->Int->LS->(List Int)->ooE):ooE:=cond (!seq n ⟨#[]⟩) ((idxO a l).bind λo=>(akT k F b d e f g h i j m (a.set l.toNat 1) nx1)) (akT k F b d e f g h i j m a nx1)
def acS(k:Nat)(F:adr)(j l m:LS):LC->Nat->LF->BA->LP->Int->Bool->Int->LS->(List Int)->ooE
 | [],n,a,b,d,e,f,g,h,i=>(F.f48 (aat.mk (aaa.mk a) (aab.mk b d e f g h) i) j).bind λ(.mk (.mk o) (.mk p q r s t u) v,U)=>(cond U ((F.f48 (aat.mk (aaa.mk o) (aab.mk p q r s t u) v) l).bind λ(.mk (.mk x) (.mk y z A B C D) G,V)=>(cond V ((F.f48 (aat.mk (aaa.mk x) (aab.mk y z A B C D) G) m).bind λ(.mk (.mk W) (.mk X Y Z ab ac ad) ae,af)=>(ama k F af W X Y Z ab ac ad ae)) (ama k F false x y z A B C D G))) (ama k F false o p q r s t u v))
 | (.mk ai I J N O)::S,n,a,b,d,e,f,g,h,i=>aej (mget qI ai (mput qI 3 [1] (mput qI 2 [4,1] (mput qI 1 [4] ([]:List (Int×(List Int))))))) ((f105 k (aat.mk (aaa.mk a) (aab.mk b d e f g h) i) N []).bind λaj=>(cond (!aj) (some ((aat.mk (aaa.mk a) (aab.mk b d e f g h) i),false)) (aiQ k F a b d e f g h i n I J O (acS k F j l m S)))) (λak=>((f105 k (aat.mk (aaa.mk a) (aab.mk b d e f g h) i) N ak).bind λal=>(cond (!al) (some ((aat.mk (aaa.mk a) (aab.mk b d e f g h) i),false)) (aiQ k F a b d e f g h i n I J O (acS k F j l m S)))))
def anZ(k:Nat)(F:adr)(a:LF)(b:BA)(d:LP)(e:Int)(f:Bool)(g:Int)(h i j l:LS)(m:LC)(n:List Int):ooE:=acS k F i j l m 0 a b d e f g h n
def aiW(k:Nat)(F:adr)(b:LF)(d:BA)(e:LP)(f:Int)(g:Bool)(h:Int)(i:LS)(a:(List Int))(p:BA)(j:Int)(l m n:LS)(o:LC)(q:Int)(r:Bool):ooE:=cond r (some ((aat.mk (aaa.mk b) (aab.mk d e f g h i) a),false)) (cond (!seq p ⟨#[]⟩) ((idxO a j).bind λs=>(anZ k F b d e f g h i l m n o (a.set j.toNat q))) (anZ k F b d e f g h i l m n o a))
def an6(k:Nat)(F:adr)(a:LF)(b:BA)(d:LP)(e:Int)(f:Bool)(g:Int)(h:LS)(i:(List Int))(j:BA)(l:Int)(r:LE)(m n o:LS)(p:LC)(q:Int)(s:List Int)(t:Bool):ooE:=cond t ((f105 k (aat.mk (aaa.mk a) (aab.mk b d e f g h) i) r s).bind λu=>(aiW k F a b d e f g h i j l m n o p q (!u))) (aiW k F a b d e f g h i j l m n o p q false)
def aee(k:Nat)(F:adr)(a:LF)(b:BA)(d:LP)(e:Int)(f:Bool)(g:Int)(h:LS)(i:(List Int))(s:Int)(j:BA)(l:Int)(m:LE)(n o p:LS)(q:LC)(r:Int):ooE:=(f106 k ).bind λt=>aej (mget qI s t) (an6 k F a b d e f g h i j l m n o p q r [] false) (λu=>(an6 k F a b d e f g h i j l m n o p q r u true))
def ahr(k:Nat)(F:adr)(b:LF)(d:BA)(e:LP)(f:Int)(g:Bool)(h:Int)(i:LS)(j:(List Int))(a:Int)(l:BA)(m:Int)(n:LE)(o p q:LS)(r:LC)(s:Int):ooE:=cond (a==28) (aee k F b d e f g h i j a l m n o p q r 1) (aee k F b d e f g h i j a l m n o p q r s)
def akb(k:Nat)(F:adr)(a:LF)(b:BA)(d:LP)(e:Int)(f:Bool)(g:Int)(h:LS)(i:(List Int))(j:Int)(l:BA)(m:Int)(n:LE)(o p q:LS)(r:LC)(s:Bool):ooE:=cond s (some ((aat.mk (aaa.mk a) (aab.mk b d e f g h) i),false)) (ahr k F a b d e f g h i j l m n o p q r 5)
def ah3(k:Nat)(F:adr)(a:LF)(b:BA)(d:LP)(e:Int)(f:Bool)(g:Int)(h:LS)(i:(List Int))(j:Int)(l:BA)(m:Int)(n:LE)(o p q:LS)(r:LC)(s:Int)(t:Bool):ooE:=cond t (some ((aat.mk (aaa.mk a) (aab.mk b d e f g h) i),false)) (cond (j==4) (cond (s != 1) (akb k F a b d e f g h i j l m n o p q r (s != 0)) (akb k F a b d e f g h i j l m n o p q r false)) (ahr k F a b d e f g h i j l m n o p q r s))
def aeT(k:Nat)(F:adr)(b:LF)(d:BA)(e:LP)(f:Int)(g:Bool)(h:Int)(i:LS)(j:(List Int))(a:Int)(l:BA)(n t:Int)(m:LE)(o p q:LS)(r:LC)(u:Bool):ooE:=cond u ((idxO b t).bind λ(.mk v x s y z A)=>((f42 k (aab.mk v x s y z A)).bind λB=>((f105 k (aat.mk (aaa.mk b) (aab.mk d e f g h i) j) m B).bind λC=>(cond (!C) (ah3 k F b d e f g h i j a l n m o p q r s true) (cond (a==3) (cond (!seq l ⟨#[]⟩) (ah3 k F b d e f g h i j a l n m o p q r s (s==0)) (ah3 k F b d e f g h i j a l n m o p q r s false)) (ah3 k F b d e f g h i j a l n m o p q r s false)))))) (cond (a==7) (aee k F b d e f g h i j a l n m o p q r 4) (cond (a==8) (aee k F b d e f g h i j a l n m o p q r 6) (cond (a==24) (aee k F b d e f g h i j a l n m o p q r 3) (aee k F b d e f g h i j a l n m o p q r 1))))
def aoG(k:Nat)(F:adr):aat->aae->ooE:=λu v =>
 match u,v with
 | .mk (.mk e) (.mk f g d h i j) a,.mk b n m ab s ac l o p q r=>cond (b==1) ((idxO l 0).bind λ(.mk x y z A B)=>((f33 k (aah.mk x y z A B) a).bind λt=>(cond (t==(-1)) (some ((aat.mk (aaa.mk e) (aab.mk f g d h i j) a),false)) (aee k F e f g d h i j a b n m l o p q r t)))) (cond (b==14) ((idxO l 0).bind λ(.mk C D G I J)=>((f33 k (aah.mk C D G I J) a).bind λN=>(cond (N==(-1)) (some ((aat.mk (aaa.mk e) (aab.mk f g d h i j) a),false)) (aee k F e f g d h i j a b n m l o p q r 1)))) (cond (b==2) ((idxO l 0).bind λ(.mk O S U V W)=>((idxO a m).bind λX=>((f33 k (aah.mk O S U V W) a).bind λY=>(some ((aat.mk (aaa.mk e) (aab.mk f g d h i j) a),(Y==X)))))) (cond (b==17) ((f105 k (aat.mk (aaa.mk e) (aab.mk f g d h i j) a) l [d]).bind λZ=>(some ((aat.mk (aaa.mk e) (aab.mk f g d h i j) a),Z))) (cond (b==3) (aeT k F e f g d h i j a b n m s l o p q r (b==3)) (cond (b==4) (aeT k F e f g d h i j a b n m s l o p q r (b==4)) (aeT k F e f g d h i j a b n m s l o p q r (b==28)))))))
def afw(k0:Nat):Nat->adr
 | 0=>{ f48:=λ_ _=>none,f73:=λ_ _=>none }
 | k+1=>{ f48:=auw k0 (afw k0 k),f73:=aoG k0 (afw k0 k) }
def f48(k:Nat):aat->LS->ooE:=(afw k k).f48
def f73(k:Nat):aat->aae->ooE:=(afw k k).f73
def alA(k:Nat)(b:LF)(a:Int)(d:List (List Int)):ooH:=cond (a != 0) (some ((aaa.mk []),[],a)) (some ((aaa.mk b),d,0))
def ak4(k:Nat)(d:LF)(a:List (List Int))(e:Nat)(b:Int)(f:List Int)(nx1:Nat->Int->(List (List Int))->ooH):ooH:=cond (b != 0) (alA k d b a) (aaB (decide ((a.length+1)*24<=140737488355328)) (nx1 (e+1) b (a++[f])))
def an5(k:Nat)(a:LF)(f:Int)(b:List (List Int))(d:Nat)(e:(List Int))(g:Bool)(nx1:Nat->Int->(List (List Int))->ooH):ooH:=cond g (ak4 k a b d 26 e nx1) (ak4 k a b d f e nx1)
def aq9(k:Nat)(a:LF)(f:Int)(b:List (List Int))(d:Nat)(h:Int)(g:LS)(i:LF)(j:BA)(l:LP)(m:Int)(n:Bool)(o:Int)(p:LS)(q:List Int)(nx1:Nat->Int->(List (List Int))->ooH):ooH:=(f48 k (aat.mk (aaa.mk i) (aab.mk j l m n o p) q) g).bind λ(.mk (.mk t) (.mk u v x y z A) e,r)=>cond (!r) (ak4 k a b d 23 e nx1) (cond (h != 0) ((f40 k g).bind λs=>(an5 k a f b d e (!s) nx1)) (an5 k a f b d e false nx1))
def afq(k:Nat)(d:LF):LF->Nat->Int->(List (List Int))->ooH
 | [],i,e,f=>alA k d e f
 | (.mk j a g l b h)::n,i,e,f=>(f42 k (aab.mk j a g l b h)).bind λm=>(aaB (decide (0<=(w64 (b - (a.length:Int)))/\((m.length:Int)+(w64 (b - (a.length:Int))))*((8:Nat):Int)<=140737488355328)) (aq9 k d e f i g h d j a g l b h (m++List.replicate (w64 (b - (a.length:Int))).toNat (0:Int)) (afq k d n)))
def f26(k:Nat):aaa->ooH:=λe =>
 match e with
 | .mk f=>(f46 k (aaa.mk f)).bind λ(.mk g,b)=>(cond (b != 0) (some ((aaa.mk []),[],b)) ((f47 k (aaa.mk g)).bind λ(.mk d,a)=>(cond (a != 0) (some ((aaa.mk []),[],a)) (afq k d d 0 a ([]:List (List Int))))))
def f10(k:Nat):aaa->ooI:=λa =>
 match a with
 | .mk b=>(f26 k (aaa.mk b)).bind λ(.mk d,f,e)=>(some ((aaa.mk d),e))
structure anF where
 f121:LE->ooV
def afd(k:Nat)(F:anF)  : LE->Nat->LE->ooV
 | [],b,a=>some a
 | (.mk d e f g h)::i,b,a=>(F.f121 h).bind λj=>(aaB (decide ((a.length+1)*64<=140737488355328)) ((afd k F i) (b+1) (a++[(aah.mk d e f g j)])))
def aqW(k:Nat)(F:anF):LE->ooV:=λa=>afd k F a 0 ([]:LE)
def agH(k0:Nat):Nat->anF
 | 0=>{ f121:=λ_=>none }
 | k+1=>{ f121:=aqW k0 (agH k0 k) }
def f121(k:Nat):LE->ooV:=(agH k k).f121
structure arR where
 f89:LS->ooO
def aiF(k:Nat)(F:arR)(b:LS)(d:Nat)(e:Int)(f:BA)(g:Int)(h:BA)(i j:Int)(l:LE)(m n o:LS)(nx1:Nat->LS->ooO):LC->Nat->LC->ooO
 | [],p,a=>aaB (decide ((b.length+1)*184<=140737488355328)) (nx1 (d+1) (b++[(aae.mk e f g h i j l m n o a)]))
 | (.mk q r s t u)::v,p,a=>(f121 k t).bind λx=>((F.f89 u).bind λy=>(aaB (decide ((a.length+1)*80<=140737488355328)) ((aiF k F b d e f g h i j l m n o nx1 v) (p+1) (a++[(aap.mk q r s x y)]))))
def agJ(k:Nat)(F:arR)  : LS->Nat->LS->ooO
 | [],b,a=>some a
 | (.mk d e f g h i j l m n o)::p,b,a=>(f121 k j).bind λq=>((F.f89 l).bind λr=>((F.f89 m).bind λs=>((F.f89 n).bind λt=>(aiF k F a b d e f g h i q r s t (agJ k F p) o 0 ([]:LC)))))
def avs(k:Nat)(F:arR):LS->ooO:=λa=>agJ k F a 0 ([]:LS)
def ako(k0:Nat):Nat->arR
 | 0=>{ f89:=λ_=>none }
 | k+1=>{ f89:=avs k0 (ako k0 k) }
def f89(k:Nat):LS->ooO:=(ako k k).f89
def ahM(k:Nat)  : LF->Nat->LF->ooP
 | [],b,a=>some (aaa.mk a)
 | (.mk e d f g h i)::j,b,a=>aaB (decide ((([]:LP).length+d.length)*24<=140737488355328)) ((f89 k i).bind λl=>(aaB (decide ((a.length+1)*88<=140737488355328)) ((ahM k j) (b+1) (a++[(aab.mk e (([]:LP)++d) f g h l)]))))
def f62(k:Nat):aaa->ooP:=λa =>
 match a with
 | .mk b=>ahM k b 0 ([]:LF)
structure asz where
 f90:LE->ooV
def ahi(k:Nat)(F:asz)  : LE->Nat->LE->ooV
 | [],b,a=>some a
 | (.mk d e f j g)::h,b,a=>(F.f90 g).bind λi=>(aaB (decide ((a.length+1)*64<=140737488355328)) ((ahi k F h) (b+1) (a++[(aah.mk d e f 0 i)])))
def au8(k:Nat)(F:asz):LE->ooV:=λa=>ahi k F a 0 ([]:LE)
def alG(k0:Nat):Nat->asz
 | 0=>{ f90:=λ_=>none }
 | k+1=>{ f90:=au8 k0 (alG k0 k) }
def f90(k:Nat):LE->ooV:=(alG k k).f90
structure aqu where
 f63:LS->ooO
def air(k:Nat)(F:aqu)(b:LS)(d:Nat)(e:Int)(f g:BA)(h:Int)(i:LE)(j l m:LS)(nx1:Nat->LS->ooO):LC->Nat->LC->ooO
 | [],n,a=>aaB (decide ((b.length+1)*184<=140737488355328)) (nx1 (d+1) (b++[(aae.mk e f 0 g 0 h i j l m a)]))
 | (.mk o p v q r)::s,n,a=>(f90 k q).bind λt=>((F.f63 r).bind λu=>(aaB (decide ((a.length+1)*80<=140737488355328)) ((air k F b d e f g h i j l m nx1 s) (n+1) (a++[(aap.mk o p 0 t u)]))))
def agL(k:Nat)(F:aqu)  : LS->Nat->LS->ooO
 | [],b,a=>some a
 | (.mk d e s f t g h i j l m)::n,b,a=>(f90 k h).bind λo=>((F.f63 i).bind λp=>((F.f63 j).bind λq=>((F.f63 l).bind λr=>(air k F a b d e f g o p q r (agL k F n) m 0 ([]:LC)))))
def auL(k:Nat)(F:aqu):LS->ooO:=λa=>agL k F a 0 ([]:LS)
def ajk(k0:Nat):Nat->aqu
 | 0=>{ f63:=λ_=>none }
 | k+1=>{ f63:=auL k0 (ajk k0 k) }
def f63(k:Nat):LS->ooO:=(ajk k k).f63
def aiV(k:Nat)  : Nat->LF->Int->ooP
 | 0,_,_=>none
 | j760+1,b,a=>cond (decide (a<(b.length:Int))) ((idxO b a).bind λ(.mk d e f g j h)=>((f63 k h).bind λi=>((aiV k j760) ((b.set a.toNat (aab.mk d e f g 0 h)).set a.toNat (aab.mk d e f g 0 i)) (w64 (a+1))))) (some (aaa.mk b))
def f39(k:Nat):aaa->ooP:=λa =>
 match a with
 | .mk b=>(f62 k (aaa.mk b)).bind λ(.mk d)=>(aiV k k d 0)
def aka(k:Nat)(a b:Int)(e:Bool)(d:Int)(f:Bool):ooD:=cond f (some (aan.mk (w64 (a+1)) (imax b d) true)) (some (aan.mk (w64 (a+1)) (imax b d) e))
def f114(k:Nat):aan->Int->ooD:=λf a =>
 match f,a with
 | .mk b d e,a=>cond (decide ((w64 (b+1))>600)) (aka k b d e a true) (aka k b d e a (decide (a>16)))
def f115(k:Nat):aan->Bool->ooD:=λe a =>
 match e,a with
 | .mk b d f,a=>cond (!a) (some (aan.mk b d true)) (some (aan.mk b d f))
def akh(k:Nat)(a:Bool):ooA:=some a
def f139(k:Nat):Int->ooA:=λa=>cond (decide (a>=97)) (akh k (decide (a<=122))) (akh k false)
def akL(k:Nat)(a:Bool):ooA:=some a
def f140(k:Nat):Int->ooA:=λa=>cond (decide (a>=48)) (akL k (decide (a<=57))) (akL k false)
def f167(k:Nat):Option LB:=some [⟨#[97,102,116,101,114]⟩,⟨#[97,119,97,105,116]⟩,⟨#[98,111,111,108]⟩,⟨#[98,114,101,97,107]⟩,⟨#[98,117,102,102,101,114]⟩,⟨#[99,97,110,99,101,108]⟩,⟨#[99,97,116,99,104]⟩,⟨#[99,104,97,110]⟩,⟨#[99,108,111,115,101]⟩,⟨#[99,111,110,116,105,110,117,101]⟩,⟨#[100,114,111,112]⟩,⟨#[101,97,99,104]⟩,⟨#[101,108,115,101]⟩,⟨#[101,109,105,116]⟩,⟨#[102,97,108,115,101]⟩,⟨#[102,105,110,97,108,108,121]⟩,⟨#[102,108,111,119]⟩,⟨#[102,110]⟩,⟨#[102,114,111,109]⟩,⟨#[104,111,108,100]⟩,⟨#[105,102]⟩,⟨#[105,110,116]⟩,⟨#[108,101,116]⟩,⟨#[108,111,99,107]⟩,⟨#[110,101,119]⟩,⟨#[110,111,119]⟩,⟨#[111,108,100]⟩,⟨#[112,114,111,100,117,99,101]⟩,⟨#[114,101,99,101,105,118,101]⟩,⟨#[114,101,116,117,114,110]⟩,⟨#[115,99,111,112,101]⟩,⟨#[115,101,108,101,99,116]⟩,⟨#[115,101,110,100]⟩,⟨#[115,104,105,101,108,100]⟩,⟨#[115,108,101,101,112]⟩,⟨#[115,112,97,119,110]⟩,⟨#[115,117,112,101,114,118,105,115,101,100]⟩,⟨#[116,97,115,107]⟩,⟨#[116,101,120,116]⟩,⟨#[116,104,114,111,119]⟩,⟨#[116,114,117,101]⟩,⟨#[116,114,121]⟩,⟨#[117,115,101]⟩,⟨#[119,104,105,108,101]⟩,⟨#[119,105,116,104,105,110]⟩,⟨#[121,105,101,108,100]⟩]
def ah2(k:Nat)(a:BA):LB->Nat->ooA
 | [],b=>some false
 | d::e,b=>cond (seq d a) (some true) ((ah2 k a e) (b+1))
def f141(k:Nat):BA->ooA:=λa=>(f167 k ).bind λb=>(ah2 k a b 0)
def ahm(k:Nat)(a:Bool):ooA:=some a
def ahp(k a:Nat)(b:Bool)(nx1:Nat->ooA):ooA:=cond b (some false) (nx1 (a+1))
def adR(k:Nat)(a:BA):List UInt8->Nat->ooA
 | [],b=>cond (decide ((a.size:Int)>=1)) (cond (decide ((a.size:Int)<=12)) ((f141 k a).bind λf=>(ahm k (!f))) (ahm k false)) (ahm k false)
 | e::d,b=>(f139 k (e.toNat:Int)).bind λg=>(cond (!g) (cond ((b:Int)==0) (ahp k b true (adR k a d)) ((f140 k (e.toNat:Int)).bind λh=>(ahp k b (!h) (adR k a d)))) (ahp k b false (adR k a d)))
def f117(k:Nat):BA->ooA:=λa=>adR k a a.data.toList 0
def akR(k:Nat)(a:Int)(b:Bool):ooT:=cond b (some ((abu.mk 1 1 0 false true 0),true)) (cond (a==22) (some ((abu.mk 0 1 0 false true 1),true)) (cond (a==23) (some ((abu.mk 0 0 0 false true 0),true)) (cond (a==24) (some ((abu.mk 0 0 2 false true 3),true)) (cond (a==25) (some ((abu.mk 1 1 1 false true 0),true)) (cond (a==28) (some ((abu.mk 0 600 1 true true 66),true)) (some ((abu.mk 0 0 0 false false 0),false)))))))
def agm(k:Nat)(a:Int)(b:Bool):ooT:=cond b (some ((abu.mk 0 0 0 false false 0),true)) (cond (a==17) (some ((abu.mk 0 1 0 false false 0),true)) (cond (a==20) (some ((abu.mk 1 1 0 false true 1),true)) (cond (a==21) (akR k a (a==21)) (akR k a (a==26)))))
def aev(k:Nat)(a:Int)(b:Bool):ooT:=cond b (some ((abu.mk 1 1 0 false false 0),true)) (cond (a==13) (agm k a (a==13)) (cond (a==18) (agm k a (a==18)) (cond (a==19) (agm k a (a==19)) (agm k a (a==27)))))
def ajs(k:Nat)(a:Int)(b:Bool):ooT:=cond b (some ((abu.mk 0 600 2 true false 0),true)) (cond (a==5) (some ((abu.mk 1 1 2 false false 0),true)) (cond (a==6) (some ((abu.mk 1 1 2 false false 1),true)) (cond (a==10) (some ((abu.mk 2 2 0 false false 0),true)) (cond (a==11) (aev k a (a==11)) (cond (a==12) (aev k a (a==12)) (cond (a==14) (aev k a (a==14)) (cond (a==15) (aev k a (a==15)) (cond (a==16) (aev k a (a==16)) (aev k a (a==29))))))))))
def ahU(k:Nat)(a:Int)(b:Bool):ooT:=cond b (some ((abu.mk 1 1 1 false false 0),true)) (cond (a==7) (some ((abu.mk 1 1 1 false false 2),true)) (cond (a==9) (some ((abu.mk 0 0 1 false false 0),true)) (cond (a==3) (ajs k a (a==3)) (ajs k a (a==4)))))
def f168(k:Nat):Int->ooT:=λa=>cond (a==1) (ahU k a (a==1)) (cond (a==2) (ahU k a (a==2)) (ahU k a (a==8)))
def akG(k a:Nat)(b:Bool)(nx1:Nat->ooA):ooA:=cond b (some false) (nx1 (a+1))
def aeg(k:Nat)(a:BA):List UInt8->Nat->ooA
 | [],b=>some (decide ((a.size:Int)<=60))
 | d::e,b=>cond (decide ((d.toNat:Int)<32)) (akG k b true (aeg k a e)) (akG k b (decide ((d.toNat:Int)>126)) (aeg k a e))
def f116(k:Nat):BA->ooA:=λa=>aeg k a a.data.toList 0
structure alM where
 f84:aan->aah->Int->Bool->ooD
def agG(k:Nat)(F:alM)(e:Int)(f:Bool):LE->Nat->Int->Int->Bool->ooD
 | [],g,b,d,a=>some (aan.mk b d a)
 | (.mk h i j l m)::n,g,b,d,a=>cond (!a) ((F.f84 (aan.mk b d a) (aah.mk h i j l m) (w64 (e+1)) f).bind λ(.mk o p q)=>((agG k F e f n) (g+1) o p q)) (some (aan.mk b d a))
def acl(k:Nat)(F:alM)(a:LE)(b:Int)(d:Bool)(e f:Int)(g:Bool)(h:Int):ooD:=(f115 k (aan.mk e f g) ((a.length:Int)==h)).bind λ(.mk i j l)=>agG k F b d a 0 i j l
def anU(k:Nat)(F:alM)(h i:Int)(j:BA)(a:LE)(b:Int)(d:Bool)(e f:Int)(g l:Bool):ooD:=cond l (cond (i==0) ((f115 k (aan.mk e f g) (seq j ⟨#[]⟩)).bind λ(.mk m n o)=>(acl k F a b d m n o 1)) ((f115 k (aan.mk e f g) false).bind λ(.mk p q r)=>(acl k F a b d p q r 1))) (cond (decide (h>=7)) (cond (decide (h<=19)) (cond (i==0) ((f115 k (aan.mk e f g) (seq j ⟨#[]⟩)).bind λ(.mk s t u)=>(acl k F a b d s t u 2)) ((f115 k (aan.mk e f g) false).bind λ(.mk v x y)=>(acl k F a b d v x y 2))) ((f115 k (aan.mk e f g) false).bind λ(.mk z A B)=>(acl k F a b d z A B 2))) ((f115 k (aan.mk e f g) false).bind λ(.mk C D G)=>(acl k F a b d C D G 2)))
def ak0(k:Nat)(F:alM)(h i:Int)(j:BA)(a:LE)(b:Int)(d:Bool)(e f:Int)(g:Bool):ooD:=cond (h==1) (cond (decide (i>=0)) (cond (decide (i<=1000000000000)) ((f115 k (aan.mk e f g) (seq j ⟨#[]⟩)).bind λ(.mk l m n)=>(acl k F a b d l m n 0)) ((f115 k (aan.mk e f g) false).bind λ(.mk o p q)=>(acl k F a b d o p q 0))) ((f115 k (aan.mk e f g) false).bind λ(.mk r s t)=>(acl k F a b d r s t 0))) (cond (h==2) (cond (i==0) ((f115 k (aan.mk e f g) (seq j ⟨#[]⟩)).bind λ(.mk u v x)=>(acl k F a b d u v x 0)) (cond (i==1) ((f115 k (aan.mk e f g) (seq j ⟨#[]⟩)).bind λ(.mk y z A)=>(acl k F a b d y z A 0)) ((f115 k (aan.mk e f g) false).bind λ(.mk B C D)=>(acl k F a b d B C D 0)))) (cond (h==3) (cond (i==0) ((f116 k j).bind λG=>((f115 k (aan.mk e f g) G).bind λ(.mk I J N)=>(acl k F a b d I J N 0))) ((f115 k (aan.mk e f g) false).bind λ(.mk O S U)=>(acl k F a b d O S U 0))) (cond (h==4) (cond (i==0) ((f117 k j).bind λV=>((f115 k (aan.mk e f g) V).bind λ(.mk W X Y)=>(acl k F a b d W X Y 0))) ((f115 k (aan.mk e f g) false).bind λ(.mk Z ab ac)=>(acl k F a b d Z ab ac 0))) (cond (h==5) (anU k F h i j a b d e f g true) (anU k F h i j a b d e f g (h==6))))))
def apY(k:Nat)(F:alM):aan->aah->Int->Bool->ooD:=λo p a b =>
 match o,p,a,b with
 | .mk e f d,.mk g h i q j,a,b=>cond d (some (aan.mk e f d)) ((f114 k (aan.mk e f d) a).bind λ(.mk l m n)=>(cond b ((f115 k (aan.mk l m n) true).bind λ(.mk r s t)=>(ak0 k F g h i j a b r s t)) ((f115 k (aan.mk l m n) (q==0)).bind λ(.mk u v x)=>(ak0 k F g h i j a b u v x))))
def akp(k0:Nat):Nat->alM
 | 0=>{ f84:=λ_ _ _ _=>none }
 | k+1=>{ f84:=apY k0 (akp k0 k) }
def f84(k:Nat):aan->aah->Int->Bool->ooD:=(akp k k).f84
structure abk where
 f118:aan->LS->Int->ooD
 f142:aan->aae->Int->ooD
 f169:aan->aap->Int->ooD
def ae5(k:Nat)(F:abk)(e:Int):LS->Nat->Int->Int->Bool->ooD
 | [],f,b,d,a=>some (aan.mk b d a)
 | (.mk g h i j l m n o p q r)::s,f,b,d,a=>cond (!a) ((F.f142 (aan.mk b d a) (aae.mk g h i j l m n o p q r) e).bind λ(.mk t u v)=>((ae5 k F e s) (f+1) t u v)) (some (aan.mk b d a))
def aqn(k:Nat)(F:abk):aan->LS->Int->ooD:=λd a b =>
 match d,a,b with
 | .mk e f g,a,b=>ae5 k F b a 0 e f g
def aeB(k:Nat)(F:abk)(a:Nat)(b d:Int)(e:Bool)(nx1:Nat->Int->Int->Bool->ooD):ooD:=nx1 (a+1) b d e
def ac9(k:Nat)(F:abk)(f:LC)(g:Int):LC->Nat->Int->Int->Bool->ooD
 | [],b,d,e,a=>some (aan.mk d e a)
 | (.mk h n o p q)::i,b,d,e,a=>cond (!a) ((F.f169 (aan.mk d e a) (aap.mk h n o p q) (w64 (g+1))).bind λ(.mk j l m)=>(cond (h != 4) ((f115 k (aan.mk j l m) true).bind λ(.mk r s t)=>(aeB k F b r s t (ac9 k F f g i))) ((f115 k (aan.mk j l m) ((b:Int)==(w64 ((f.length:Int) - 1)))).bind λ(.mk u v x)=>(aeB k F b u v x (ac9 k F f g i))))) (some (aan.mk d e a))
def ae9(k:Nat)(F:abk)(d e f:LS)(b:LC)(a g h:Int)(i:Bool):ooD:=(F.f118 (aan.mk g h i) d (w64 (a+1))).bind λ(.mk j l m)=>(F.f118 (aan.mk j l m) e (w64 (a+1))).bind λ(.mk n o p)=>((F.f118 (aan.mk n o p) f (w64 (a+1))).bind λ(.mk q r s)=>(ac9 k F b a b 0 q r s))
def abG(k:Nat)(F:abk)(f g h:LS)(i:LC)(b:Int):LE->Nat->Int->Int->Bool->ooD
 | [],j,d,e,a=>ae9 k F f g h i b d e a
 | (.mk l m n o p)::q,j,d,e,a=>cond (!a) ((f84 k (aan.mk d e a) (aah.mk l m n o p) (w64 (b+1)) false).bind λ(.mk r s t)=>((abG k F f g h i b q) (j+1) r s t)) (ae9 k F f g h i b d e a)
def ajE(k:Nat)(F:abk)(a:LE)(b d e:LS)(f:LC)(g h i:Int)(j:Bool):ooD:=abG k F b d e f g a 0 h i j
def adQ(k:Nat)(F:abk)(l:Int)(b:LE)(d e f:LS)(a:LC)(g h i:Int)(j:Bool):ooD:=cond ((l==27)==(decide ((a.length:Int)>0))) ((f115 k (aan.mk h i j) (decide ((a.length:Int)<=4))).bind λ(.mk m n o)=>(ajE k F b d e f a g m n o)) ((f115 k (aan.mk h i j) false).bind λ(.mk p q r)=>(ajE k F b d e f a g p q r))
def aif(k:Nat)(F:abk)(a:Int)(n:BA)(m:Int)(b:LE)(d e f:LS)(g:LC)(h i j:Int)(l:Bool):ooD:=cond (a==6) (cond (m==0) ((f115 k (aan.mk i j l) true).bind λ(.mk o p q)=>(adQ k F a b d e f g h o p q)) ((f115 k (aan.mk i j l) (!seq n ⟨#[]⟩)).bind λ(.mk r s t)=>(adQ k F a b d e f g h r s t))) (cond (a==24) (cond (decide (m>0)) ((f115 k (aan.mk i j l) (((m.tmod 2)==1)==(!seq n ⟨#[]⟩))).bind λ(.mk u v x)=>(adQ k F a b d e f g h u v x)) ((f115 k (aan.mk i j l) false).bind λ(.mk y z A)=>(adQ k F a b d e f g h y z A))) (cond (a==28) ((f115 k (aan.mk i j l) (decide ((m.tmod 4)<3))).bind λ(.mk B C D)=>(adQ k F a b d e f g h B C D)) (adQ k F a b d e f g h i j l)))
def aen(k:Nat)(F:abk)(a:Int)(e:BA)(b:Int)(f:LE)(g h d:LS)(i:LC)(j l m:Int)(n:Bool):ooD:=cond ((d.length:Int)==0) ((f115 k (aan.mk l m n) true).bind λ(.mk o p q)=>(aif k F a e b f g h d i j o p q)) (cond (a==24) ((f115 k (aan.mk l m n) (decide (b>=2))).bind λ(.mk r s t)=>(aif k F a e b f g h d i j r s t)) ((f115 k (aan.mk l m n) false).bind λ(.mk u v x)=>(aif k F a e b f g h d i j u v x)))
def ahl(k:Nat)(F:abk)(a:Int)(e:BA)(b:Int)(f:LE)(g d h:LS)(i:LC)(j l m:Int)(n:Bool):ooD:=cond ((d.length:Int)==0) ((f115 k (aan.mk l m n) true).bind λ(.mk o p q)=>(aen k F a e b f g d h i j o p q)) (cond (a==20) (cond (b==1) ((f115 k (aan.mk l m n) true).bind λ(.mk r s t)=>(aen k F a e b f g d h i j r s t)) (cond (a==24) ((f115 k (aan.mk l m n) ((b.tmod 2)==1)).bind λ(.mk u v x)=>(aen k F a e b f g d h i j u v x)) ((f115 k (aan.mk l m n) false).bind λ(.mk y z A)=>(aen k F a e b f g d h i j y z A)))) (cond (a==24) ((f115 k (aan.mk l m n) ((b.tmod 2)==1)).bind λ(.mk B C D)=>(aen k F a e b f g d h i j B C D)) ((f115 k (aan.mk l m n) false).bind λ(.mk G I J)=>(aen k F a e b f g d h i j G I J))))
def aeW(k:Nat)(F:abk)(b:Int)(d:BA)(e:Int)(f:LE)(a g h:LS)(i:LC)(j:Int)(o:Bool)(l m:Int)(n:Bool):ooD:=cond o ((f115 k (aan.mk l m n) true).bind λ(.mk p q r)=>(ahl k F b d e f a g h i j p q r)) ((f115 k (aan.mk l m n) ((a.length:Int)==0)).bind λ(.mk s t u)=>(ahl k F b d e f a g h i j s t u))
def ab3(k:Nat)(F:abk)(a:Int)(b p:BA)(d:Int)(e:LE)(f g h:LS)(i:LC)(j:Int)(q l:Bool)(m n:Int)(o:Bool):ooD:=cond q ((f117 k p).bind λr=>(cond r ((f115 k (aan.mk m n o) true).bind λ(.mk s t u)=>(aeW k F a b d e f g h i j l s t u)) (cond (!q) ((f115 k (aan.mk m n o) (seq p ⟨#[]⟩)).bind λ(.mk v x y)=>(aeW k F a b d e f g h i j l v x y)) ((f115 k (aan.mk m n o) false).bind λ(.mk z A B)=>(aeW k F a b d e f g h i j l z A B))))) (cond (!q) ((f115 k (aan.mk m n o) (seq p ⟨#[]⟩)).bind λ(.mk C D G)=>(aeW k F a b d e f g h i j l C D G)) ((f115 k (aan.mk m n o) false).bind λ(.mk I J N)=>(aeW k F a b d e f g h i j l I J N)))
def adt(k:Nat)(F:abk)(b:Int)(a d:BA)(e:Int)(f:LE)(g h i:LS)(j:LC)(l r:Int)(m n:Bool)(o p:Int)(q:Bool):ooD:=cond (r==0) (cond (seq a ⟨#[]⟩) ((f115 k (aan.mk o p q) true).bind λ(.mk s t u)=>(ab3 k F b a d e f g h i j l m n s t u)) (cond (r==1) ((f117 k a).bind λv=>(cond v ((f115 k (aan.mk o p q) true).bind λ(.mk x y z)=>(ab3 k F b a d e f g h i j l m n x y z)) (cond (r==2) ((f117 k a).bind λA=>((f115 k (aan.mk o p q) A).bind λ(.mk B C D)=>(ab3 k F b a d e f g h i j l m n B C D))) ((f115 k (aan.mk o p q) false).bind λ(.mk G I J)=>(ab3 k F b a d e f g h i j l m n G I J))))) (cond (r==2) ((f117 k a).bind λN=>((f115 k (aan.mk o p q) N).bind λ(.mk O S U)=>(ab3 k F b a d e f g h i j l m n O S U))) ((f115 k (aan.mk o p q) false).bind λ(.mk V W X)=>(ab3 k F b a d e f g h i j l m n V W X))))) (cond (r==1) ((f117 k a).bind λY=>(cond Y ((f115 k (aan.mk o p q) true).bind λ(.mk Z ab ac)=>(ab3 k F b a d e f g h i j l m n Z ab ac)) (cond (r==2) (cond (seq a ⟨#[]⟩) ((f115 k (aan.mk o p q) true).bind λ(.mk ad ae af)=>(ab3 k F b a d e f g h i j l m n ad ae af)) ((f117 k a).bind λai=>((f115 k (aan.mk o p q) ai).bind λ(.mk aj ak al)=>(ab3 k F b a d e f g h i j l m n aj ak al)))) ((f115 k (aan.mk o p q) false).bind λ(.mk am an ao)=>(ab3 k F b a d e f g h i j l m n am an ao))))) (cond (r==2) (cond (seq a ⟨#[]⟩) ((f115 k (aan.mk o p q) true).bind λ(.mk ap aq ar)=>(ab3 k F b a d e f g h i j l m n ap aq ar)) ((f117 k a).bind λau=>((f115 k (aan.mk o p q) au).bind λ(.mk av aw ax)=>(ab3 k F b a d e f g h i j l m n av aw ax)))) ((f115 k (aan.mk o p q) false).bind λ(.mk ay az aA)=>(ab3 k F b a d e f g h i j l m n ay az aA))))
def aiI(k:Nat)(F:abk):aan->aae->Int->ooD:=λv x a =>
 match v,x,a with
 | .mk t u s,.mk e f y g z b d h i j l,a=>cond s (some (aan.mk t u s)) ((f114 k (aan.mk t u s) a).bind λ(.mk m n o)=>((f168 k e).bind λ(.mk A B p q r C,D)=>(cond D (cond (decide ((d.length:Int)>=A)) (cond (decide ((d.length:Int)<=B)) (cond (decide (b>=0)) (cond (decide (b<=C)) (cond (y==0) ((f115 k (aan.mk m n o) (z==0)).bind λ(.mk G I J)=>(adt k F e f g b d h i j l a p q r G I J)) ((f115 k (aan.mk m n o) false).bind λ(.mk N O S)=>(adt k F e f g b d h i j l a p q r N O S))) ((f115 k (aan.mk m n o) false).bind λ(.mk U V W)=>(adt k F e f g b d h i j l a p q r U V W))) ((f115 k (aan.mk m n o) false).bind λ(.mk X Y Z)=>(adt k F e f g b d h i j l a p q r X Y Z))) ((f115 k (aan.mk m n o) false).bind λ(.mk ab ac ad)=>(adt k F e f g b d h i j l a p q r ab ac ad))) ((f115 k (aan.mk m n o) false).bind λ(.mk ae af ai)=>(adt k F e f g b d h i j l a p q r ae af ai))) ((f115 k (aan.mk m n o) false).bind λ(.mk aj ak al)=>(adt k F e f g b d h i j l a p q r aj ak al)))))
def afb(k:Nat)(F:abk)(a:LS)(b d e:Int)(f:Bool):ooD:=(F.f118 (aan.mk d e f) a (w64 (b+1))).bind λ(.mk g h i)=>some (aan.mk g h i)
def ac4(k:Nat)(F:abk)(f:LS)(b:Int):LE->Nat->Int->Int->Bool->ooD
 | [],g,d,e,a=>afb k F f b d e a
 | (.mk h i j l m)::n,g,d,e,a=>cond (!a) ((f84 k (aan.mk d e a) (aah.mk h i j l m) (w64 (b+1)) false).bind λ(.mk o p q)=>((ac4 k F f b n) (g+1) o p q)) (afb k F f b d e a)
def afe(k:Nat)(F:abk)(a:LE)(b:LS)(d e f:Int)(g:Bool):ooD:=ac4 k F b d a 0 e f g
def age(k:Nat)(F:abk)(h:Int)(i:BA)(a:LE)(b:LS)(d e f:Int)(g:Bool):ooD:=cond (h==1) ((f117 k i).bind λj=>(cond j ((f115 k (aan.mk e f g) true).bind λ(.mk l m n)=>(afe k F a b d l m n)) (cond (h != 1) ((f115 k (aan.mk e f g) (seq i ⟨#[]⟩)).bind λ(.mk o p q)=>(afe k F a b d o p q)) ((f115 k (aan.mk e f g) false).bind λ(.mk r s t)=>(afe k F a b d r s t))))) (cond (h != 1) ((f115 k (aan.mk e f g) (seq i ⟨#[]⟩)).bind λ(.mk u v x)=>(afe k F a b d u v x)) ((f115 k (aan.mk e f g) false).bind λ(.mk y z A)=>(afe k F a b d y z A)))
def ahs(k:Nat)(F:abk)(a:Int)(d:BA)(j:Int)(b:LE)(e:LS)(f g h:Int)(i:Bool)(l:Int):ooD:=cond (decide (a>=1)) (cond (decide (a<=4)) (cond ((b.length:Int)==l) ((f115 k (aan.mk g h i) (j==0)).bind λ(.mk m n o)=>(age k F a d b e f m n o)) ((f115 k (aan.mk g h i) false).bind λ(.mk p q r)=>(age k F a d b e f p q r))) ((f115 k (aan.mk g h i) false).bind λ(.mk s t u)=>(age k F a d b e f s t u))) ((f115 k (aan.mk g h i) false).bind λ(.mk v x y)=>(age k F a d b e f v x y))
def aiN(k:Nat)(F:abk):aan->aap->Int->ooD:=λl m a =>
 match l,m,a with
 | .mk n o p,.mk b d e f g,a=>(f114 k (aan.mk n o p) a).bind λ(.mk h i j)=>(cond (b==2) (ahs k F b d e f g a h i j 2) (cond (b==4) (ahs k F b d e f g a h i j 0) (ahs k F b d e f g a h i j 1)))
def aaW(k0:Nat):Nat->abk
 | 0=>{ f118:=λ_ _ _=>none,f142:=λ_ _ _=>none,f169:=λ_ _ _=>none }
 | k+1=>{ f118:=aqn k0 (aaW k0 k),f142:=aiI k0 (aaW k0 k),f169:=aiN k0 (aaW k0 k) }
def f118(k:Nat):aan->LS->Int->ooD:=(aaW k k).f118
def f142(k:Nat):aan->aae->Int->ooD:=(aaW k k).f142
def f169(k:Nat):aan->aap->Int->ooD:=(aaW k k).f169
def aoQ(k:Nat)(a b:Int)(d:Bool):ooD:=some (aan.mk a b d)
def agR(k a:Nat)(b:LS)(d e:Int)(f:Bool)(nx1:Nat->Int->Int->Bool->ooD):ooD:=(f118 k (aan.mk d e f) b 1).bind λ(.mk g h i)=>nx1 (a+1) g h i
def alZ(k a:Nat)(b d:Int)(e:Bool)(nx2:Nat->Int->Int->Bool->ooD):ooD:=nx2 (a+1) b d e
def afP(k e:Nat)(f:LS)(nx1:Nat->Int->Int->Bool->ooD):LP->Nat->Int->Int->Bool->ooD
 | [],g,b,d,a=>agR k e f b d a nx1
 | (.mk j i)::h,g,b,d,a=>cond (!a) ((f117 k j).bind λl=>(cond l (cond (decide (i>=1)) ((f115 k (aan.mk b d a) (decide (i<=6))).bind λ(.mk m n o)=>(alZ k g m n o (afP k e f nx1 h))) ((f115 k (aan.mk b d a) false).bind λ(.mk p q r)=>(alZ k g p q r (afP k e f nx1 h)))) ((f115 k (aan.mk b d a) false).bind λ(.mk s t u)=>(alZ k g s t u (afP k e f nx1 h))))) (agR k e f b d a nx1)
def afC(k a:Nat)(b:LP)(d:LS)(e f:Int)(g:Bool)(nx1:Nat->Int->Int->Bool->ooD):ooD:=afP k a d nx1 b 0 e f g
def abU(k:Nat)  : LF->Nat->Int->Int->Bool->ooD
 | [],a,j,l,i=>aoQ k j l i
 | (.mk o b m p n d)::e,a,j,l,i=>cond (!i) ((f114 k (aan.mk j l i) 0).bind λ(.mk f g h)=>((f117 k o).bind λq=>(cond q (cond (decide ((b.length:Int)<=4)) (cond (decide (m>=0)) (cond (decide (m<=6)) (cond (!p) ((f115 k (aan.mk f g h) (n==0)).bind λ(.mk r s t)=>(afC k a b d r s t (abU k e))) (cond (m==0) ((f115 k (aan.mk f g h) (n==0)).bind λ(.mk u v x)=>(afC k a b d u v x (abU k e))) ((f115 k (aan.mk f g h) false).bind λ(.mk y z A)=>(afC k a b d y z A (abU k e))))) ((f115 k (aan.mk f g h) false).bind λ(.mk B C D)=>(afC k a b d B C D (abU k e)))) ((f115 k (aan.mk f g h) false).bind λ(.mk G I J)=>(afC k a b d G I J (abU k e)))) ((f115 k (aan.mk f g h) false).bind λ(.mk N O S)=>(afC k a b d N O S (abU k e)))) ((f115 k (aan.mk f g h) false).bind λ(.mk U V W)=>(afC k a b d U V W (abU k e)))))) (aoQ k j l i)
def an4(k:Nat)(a:LF)(b d:Int)(e:Bool):ooD:=abU k a 0 b d e
def f85(k:Nat):aaa->ooD:=λb =>
 match b with
 | .mk a=>cond (decide ((a.length:Int)>=1)) ((f115 k (aan.mk 0 0 false) (decide ((a.length:Int)<=16))).bind λ(.mk d e f)=>(an4 k a d e f)) ((f115 k (aan.mk 0 0 false) false).bind λ(.mk g h i)=>(an4 k a g h i))
def f59(k:Nat):aaa->ooA:=λa =>
 match a with
 | .mk b=>(f85 k (aaa.mk b)).bind λ(.mk e f d)=>(some (!d))
def anD(k:Nat)(a:Bool):ooA:=some a
def f37(k:Nat):aaa->ooA:=λb =>
 match b with
 | .mk a=>cond (decide ((a.length:Int)<=16)) ((f39 k (aaa.mk a)).bind λ(.mk d)=>((f59 k (aaa.mk d)).bind λe=>(anD k e))) (anD k false)
def aeo(k:Nat)(b:BA):LF->Nat->ooC
 | [],a=>some (-1)
 | (.mk d f g h i j)::e,a=>cond (seq d b) (some (a:Int)) ((aeo k b e) (a+1))
def f60(k:Nat):LF->BA->ooC:=λa b=>aeo k b a 0
def afY(k:Nat)(b:LF)(d:BA)(e:LP)(f:Int)(g:Bool)(h:Int)(i:LS)(a:LB)(j:(List Int))(l m:Int)(n:BA):List Int->Nat->ooW
 | [],o=>some ((aar.mk b (aab.mk d e f g h i) a j l m),(-1))
 | p::q,o=>(idxO a p).bind λr=>(cond (seq r n) (some ((aar.mk b (aab.mk d e f g h i) a j l m),p)) ((afY k b d e f g h i a j l m n q) (o+1)))
def f119(k:Nat):aar->BA->ooW:=λd a =>
 match d,a with
 | .mk e (.mk f g h i j l) m b n o,a=>afY k e f g h i j l m b n o a b 0
def anP(k:Nat)(a:LF)(b:BA)(d:LP)(e:Int)(f:Bool)(g:Int)(h:LS)(i:LB)(j:(List Int))(l m n:Int)(o:Bool):Option aar:=cond o (some (aar.mk a (aab.mk b d e f g h) i j l n)) (some (aar.mk a (aab.mk b d e f g h) i j l m))
def f88(k:Nat):aar->Bool->Int->Option aar:=λp b a =>
 match p,b,a with
 | .mk e (.mk f g h i j l) m n o d,b,a=>cond (!b) (anP k e f g h i j l m n o d a (d==0)) (anP k e f g h i j l m n o d a false)
def f86(k:Nat):aar->BA->ooW:=λe a =>
 match e,a with
 | .mk f (.mk g h i j l m) n o p q,a=>(f119 k (aar.mk f (aab.mk g h i j l m) n o p q) a).bind λ(.mk r (.mk s t u v x y) z A B C,D)=>((f88 k (aar.mk r (aab.mk s t u v x y) z A B C) (decide (D<0)) 21).bind λ(.mk G (.mk I J N O S U) b d V W)=>(aaB (decide ((b.length+1)*16<=140737488355328)) (aaB (decide ((d.length+1)*8<=140737488355328)) (some ((aar.mk G (aab.mk I J N O S U) (b++[a]) (d++[(b.length:Int)]) V W),(b.length:Int))))))
structure ahw where
 f143:aar->LE->oob
 f170:aar->aah->ooX
def ae4(k:Nat)(F:ahw)  : LE->Nat->LF->BA->LP->Int->Bool->Int->LS->LB->(List Int)->Int->Int->LE->oob
 | [],o,b,d,e,f,g,h,i,j,l,m,n,a=>some ((aar.mk b (aab.mk d e f g h i) j l m n),a)
 | (.mk p q r s t)::u,o,b,d,e,f,g,h,i,j,l,m,n,a=>(F.f170 (aar.mk b (aab.mk d e f g h i) j l m n) (aah.mk p q r s t)).bind λ(.mk v (.mk x y z A B C) D G I J,.mk N O S U V)=>(aaB (decide ((a.length+1)*64<=140737488355328)) ((ae4 k F u) (o+1) v x y z A B C D G I J (a++[(aah.mk N O S U V)])))
def arj(k:Nat)(F:ahw):aar->LE->oob:=λb a =>
 match b,a with
 | .mk d (.mk e f g h i j) l m n o,a=>ae4 k F a 0 d e f g h i j l m n o ([]:LE)
def ajn(k:Nat)(F:ahw)(a b:Int)(d:BA)(e:LE)(f:LF)(g:BA)(h:LP)(i:Int)(j:Bool)(l:Int)(m:LS)(n:LB)(o:List Int)(p q r:Int):ooX:=(F.f143 (aar.mk f (aab.mk g h i j l m) n o p q) e).bind λ(.mk s (.mk t u v x y z) A B C D,G)=>some ((aar.mk s (aab.mk t u v x y z) A B C D),(aah.mk a b d r G))
def ala(k:Nat)(F:ahw):aar->aah->ooX:=λs t =>
 match s,t with
 | .mk d (.mk e f g h i j) l m n o,.mk a p b u q=>cond (a==4) ((f119 k (aar.mk d (aab.mk e f g h i j) l m n o) b).bind λ(.mk v (.mk x y z A B C) D G I J,r)=>((f88 k (aar.mk v (aab.mk x y z A B C) D G I J) (decide (r>=0)) 20).bind λ(.mk N (.mk O S U V W X) Y Z ab ac)=>(ajn k F a p b q N O S U V W X Y Z ab ac r))) (ajn k F a p b q d e f g h i j l m n o u)
def adc(k0:Nat):Nat->ahw
 | 0=>{ f143:=λ_ _=>none,f170:=λ_ _=>none }
 | k+1=>{ f143:=arj k0 (adc k0 k),f170:=ala k0 (adc k0 k) }
def f143(k:Nat):aar->LE->oob:=(adc k k).f143
def f170(k:Nat):aar->aah->ooX:=(adc k k).f170
def f144(k:Nat):aar->aae->ooW:=λp q =>
 match p,q with
 | .mk a (.mk d e f g h i) j l m n,.mk r aq ar s au av t aw ax ay az=>(f60 k a s).bind λb=>(cond (decide (b<0)) ((f88 k (aar.mk a (aab.mk d e f g h i) j l m n) false 20).bind λ(.mk u (.mk v x y z A B) C D G I)=>(some ((aar.mk u (aab.mk v x y z A B) C D G I),0))) ((idxO a b).bind λ(.mk aA aB aG J aH aI)=>((f88 k (aar.mk a (aab.mk d e f g h i) j l m n) (J==(r==28)) 25).bind λ(.mk o (.mk N O S U V W) X Y Z ab)=>((idxO o b).bind λ(.mk aK ac aL aM aN aP)=>((f88 k (aar.mk o (aab.mk N O S U V W) X Y Z ab) ((t.length:Int)==(ac.length:Int)) 24).bind λ(.mk ad (.mk ae af ai aj ak al) am an ao ap)=>(some ((aar.mk ad (aab.mk ae af ai aj ak al) am an ao ap),b)))))))
def adu(k:Nat)(a:Bool):ooA:=cond a (some true) (some false)
def f145(k:Nat):Int->ooA:=λa=>cond (a==1) (adu k (a==1)) (cond (a==3) (adu k (a==3)) (cond (a==4) (adu k (a==4)) (cond (a==5) (adu k (a==5)) (cond (a==6) (adu k (a==6)) (cond (a==7) (adu k (a==7)) (cond (a==8) (adu k (a==8)) (adu k (a==9))))))))
structure aek where
 f87:aar->LS->Int->ooc
 f120:aar->aae->ooN
 f146:aar->BA->LS->Int->ooZ
 f147:aar->aap->ood
def aiu(k:Nat)(F:aek)(a:(List Int))(p:Int):LS->Nat->LF->BA->LP->Int->Bool->Int->LS->LB->(List Int)->Int->Int->LS->ooc
 | [],q,e,f,g,h,i,j,l,m,b,n,o,d=>aaB (decide (0<=(a.length:Int)/\(a.length:Int)<=(b.length:Int))) (some ((aar.mk e (aab.mk f g h i j l) m (b.take (a.length:Int).toNat) (w64 (n - p)) o),d))
 | (.mk r s t u v x y z A B C)::D,q,e,f,g,h,i,j,l,m,b,n,o,d=>(F.f120 (aar.mk e (aab.mk f g h i j l) m b n o) (aae.mk r s t u v x y z A B C)).bind λ(.mk G (.mk I J N O S U) V W X Y,.mk Z ab ac ad ae af ai aj ak al am)=>(aaB (decide ((d.length+1)*184<=140737488355328)) ((aiu k F a p D) (q+1) G I J N O S U V W X Y (d++[(aae.mk Z ab ac ad ae af ai aj ak al am)])))
def arq(k:Nat)(F:aek):aar->LS->Int->ooc:=λe b a =>
 match e,b,a with
 | .mk f (.mk g h i j l m) n d o p,b,a=>aiu k F d a b 0 f g h i j l m n d (w64 (o+a)) p ([]:LS)
def abW(k:Nat)(F:aek)(a:Int)(b d:BA)(e:Int)(f:LE)(g h:Int)(i j l:LS)(m:LC)(n:LF)(o:BA)(p:LP)(q:Int)(r:Bool)(s:Int)(t:LS)(u:LB)(v:List Int)(x y:Int):ooN:=some ((aar.mk n (aab.mk o p q r s t) u v x y),(aae.mk a b h d g e f i j l m))
def ajN(k:Nat)(F:aek)(a:Int)(b d:BA)(e:Int)(f:LS)(g:LC)(h:LE)(i:Int)(j:LS)(l:LF)(m:BA)(n:LP)(o:Int)(p:Bool)(q:Int)(r:LS)(s:LB)(t:List Int)(u v x:Int)(y:LS):ooN:=(F.f87 (aar.mk l (aab.mk m n o p q r) s t u v) f 0).bind λ(.mk z (.mk A B C D G I) J N O S,U)=>abW k F a b d e h i x j y U g z A B C D G I J N O S
def ahf(k:Nat)(F:aek)(o:Int)(p q:BA)(r:Int)(s t u:LS)(v:LE)(x y:Int):LC->Nat->LF->BA->LP->Int->Bool->Int->LS->LB->(List Int)->Int->Int->LC->ooN
 | [],z,b,d,e,f,g,h,i,j,l,m,n,a=>abW k F o p q r v x y s t u a b d e f g h i j l m n
 | (.mk A B C D G)::I,z,b,d,e,f,g,h,i,j,l,m,n,a=>(F.f147 (aar.mk b (aab.mk d e f g h i) j l m n) (aap.mk A B C D G)).bind λ(.mk J (.mk N O S U V W) X Y Z ab,.mk ac ad ae af ai)=>(aaB (decide ((a.length+1)*80<=140737488355328)) ((ahf k F o p q r s t u v x y I) (z+1) J N O S U V W X Y Z ab (a++[(aap.mk ac ad ae af ai)])))
def agv(k:Nat)(F:aek)(a:Int)(b g:BA)(d:Int)(o h i:LS)(j:LC)(e:LE)(l:Int)(p:LF)(q:BA)(r:LP)(m:Int)(n:Bool)(s:Int)(t:LS)(u:LB)(v:List Int)(f x y:Int)(V:Bool):ooN:=cond V ((f88 k (aar.mk p (aab.mk q r m n s t) u v f x) (decide (f>0)) 22).bind λ(.mk W (.mk X Y Z ab ac ad) ae af ai aj)=>(abW k F a b g d e l y o h i j W X Y Z ab ac ad ae af ai aj)) (cond (a==6) (cond (d==0) ((f88 k (aar.mk p (aab.mk q r m n s t) u v f x) true 22).bind λ(.mk ak (.mk al am an ao ap aq) ar au av aw)=>(abW k F a b g d e l y o h i j ak al am an ao ap aq ar au av aw)) ((f88 k (aar.mk p (aab.mk q r m n s t) u v f x) (decide (f>0)) 22).bind λ(.mk ax (.mk ay az aA aB aG aH) aI aK aL aM)=>(abW k F a b g d e l y o h i j ax ay az aA aB aG aH aI aK aL aM))) (cond (a==29) ((f88 k (aar.mk p (aab.mk q r m n s t) u v f x) n 22).bind λ(.mk aN (.mk aP aT aU aV aW aX) aY aZ a0 a1)=>(abW k F a b g d e l y o h i j aN aP aT aU aV aW aX aY aZ a0 a1)) (cond (a==17) ((f88 k (aar.mk p (aab.mk q r m n s t) u v f x) (((e.length:Int)==1)==(m != 0)) 22).bind λ(.mk a2 (.mk a3 a4 a5 a6 a7 a8) a9 ba bb bd)=>(abW k F a b g d e l y o h i j a2 a3 a4 a5 a6 a7 a8 a9 ba bb bd)) (cond (a==25) ((F.f146 (aar.mk p (aab.mk q r m n s t) u v f x) b o 0).bind λ(.mk be (.mk bf bg bh bi bj bk) bm bn bo bp,bq,br)=>(abW k F a b g d e l bq br h i j be bf bg bh bi bj bk bm bn bo bp)) (cond (a==28) ((F.f146 (aar.mk p (aab.mk q r m n s t) u v f x) b o 1).bind λ(.mk bs (.mk bu bv bw bx bz bB) bD bE bF bG,bH,bI)=>(abW k F a b g d e l bH bI h i j bs bu bv bw bx bz bB bD bE bF bG)) (cond (a==21) ((F.f87 (aar.mk p (aab.mk q r m n s t) u v f x) o 1).bind λ(.mk bJ (.mk bK bL bM bP bQ bR) bS bT bU bV,bW)=>(abW k F a b g d e l y bW h i j bJ bK bL bM bP bQ bR bS bT bU bV)) (cond (a==24) ((F.f87 (aar.mk p (aab.mk q r m n s t) u v f x) o 0).bind λ(.mk z (.mk A B C D G I) J N O S,U)=>(cond ((d.tmod 2)==1) ((F.f146 (aar.mk z (aab.mk A B C D G I) J N O S) b h 0).bind λ(.mk bX (.mk bY bZ b0 b1 b2 b3) b4 b5 b6 b7,b8,b9)=>(ajN k F a b g d i j e l U bX bY bZ b0 b1 b2 b3 b4 b5 b6 b7 b8 b9)) (ajN k F a b g d i j e l U z A B C D G I J N O S y h))) (cond (a==27) (ahf k F a b g d o h i e l y j 0 p q r m n s t u v f x ([]:LC)) ((F.f87 (aar.mk p (aab.mk q r m n s t) u v f x) o 0).bind λ(.mk cb (.mk cc ce cf ch ci cj) ck cl cm cn,co)=>((F.f87 (aar.mk cb (aab.mk cc ce cf ch ci cj) ck cl cm cn) h 0).bind λ(.mk cq (.mk cr cs ct cu cw cx) cy cz cA cC,cD)=>(abW k F a b g d e l y co cD i j cq cr cs ct cu cw cx cy cz cA cC)))))))))))
def adT(k:Nat)(F:aek)(a:Int)(b d:BA)(e:Int)(f g h:LS)(i:LC)(j:LE)(l:Int)(m:LF)(n:BA)(o:LP)(p:Int)(q:Bool)(r:Int)(s:LS)(t:LB)(u:List Int)(v x y:Int):ooN:=cond (a==2) ((f119 k (aar.mk m (aab.mk n o p q r s) t u v x) b).bind λ(.mk A (.mk B C D G I J) N O S U,z)=>((f88 k (aar.mk A (aab.mk B C D G I J) N O S U) (decide (z>=0)) 20).bind λ(.mk V (.mk W X Y Z ab ac) ad ae af ai)=>(abW k F a b d e j l z f g h i V W X Y Z ab ac ad ae af ai))) (cond (a==18) (agv k F a b d e f g h i j l m n o p q r s t u v x y (a==18)) (agv k F a b d e f g h i j l m n o p q r s t u v x y (a==19)))
def ahv(k:Nat)(F:aek)(b:Int)(a:BA)(y:Int)(d:BA)(e:Int)(f g h:LS)(i:LC)(j:LE)(l:LF)(m:BA)(n:LP)(o:Int)(p:Bool)(q:Int)(r:LS)(s:LB)(t:List Int)(u v x:Int)(z:Bool):ooN:=cond z ((f86 k (aar.mk l (aab.mk m n o p q r) s t u v) a).bind λ(.mk A (.mk B C D G I J) N O S U,V)=>(adT k F b a d e f g h i j x A B C D G I J N O S U V)) (adT k F b a d e f g h i j x l m n o p q r s t u v y)
def agb(k:Nat)(F:aek)(a:Int)(b:BA)(d:Int)(e:BA)(f:Int)(g h i:LS)(j:LC)(l:LE)(m:LF)(n:BA)(o:LP)(p:Int)(q:Bool)(r:Int)(s:LS)(t:LB)(u:List Int)(v x y:Int):ooN:=(f145 k a).bind λz=>cond z (ahv k F a b d e f g h i j l m n o p q r s t u v x y (!seq b ⟨#[]⟩)) (ahv k F a b d e f g h i j l m n o p q r s t u v x y false)
def ali(k:Nat)(F:aek):aar->aae->ooN:=λz A =>
 match z,A with
 | .mk B (.mk C D G I J N) O S U V,.mk b d e a m f W g h i j=>(f143 k (aar.mk B (aab.mk C D G I J N) O S U V) W).bind λ(.mk n (.mk o p q r s t) u v x y,l)=>(cond (!seq a ⟨#[]⟩) ((f144 k (aar.mk n (aab.mk o p q r s t) u v x y) (aae.mk b d e a m f l g h i j)).bind λ(.mk X (.mk Y Z ab ac ad ae) af ai aj ak,al)=>(agb k F b d e a f g h i j l X Y Z ab ac ad ae af ai aj ak al)) (agb k F b d e a f g h i j l n o p q r s t u v x y m))
def aln(k:Nat)(F:aek):aar->BA->LS->Int->ooZ:=λg b d e =>
 match g,b,d,e with
 | .mk h (.mk i j l m n o) p a q r,b,d,e=>(f86 k (aar.mk h (aab.mk i j l m n o) p a q r) b).bind λ(.mk s (.mk t u v x y z) A B C D,G)=>((F.f87 (aar.mk s (aab.mk t u v x y z) A B C D) d e).bind λ(.mk I (.mk J N O S U V) W f X Y,Z)=>(aaB (decide (0<=(a.length:Int)/\(a.length:Int)<=(f.length:Int))) (some ((aar.mk I (aab.mk J N O S U V) W (f.take (a.length:Int).toNat) X Y),G,Z))))
def alC(k:Nat)(F:aek):aar->aap->ood:=λr s =>
 match r,s with
 | .mk t (.mk u v x y z A) B C D G,.mk a b I J d=>(f143 k (aar.mk t (aab.mk u v x y z A) B C D G) J).bind λ(.mk e (.mk f g h i j l) m n o p,q)=>(cond (a==1) ((F.f146 (aar.mk e (aab.mk f g h i j l) m n o p) b d 0).bind λ(.mk N (.mk O S U V W X) Y Z ab ac,ad,ae)=>(some ((aar.mk N (aab.mk O S U V W X) Y Z ab ac),(aap.mk a b ad q ae)))) ((F.f87 (aar.mk e (aab.mk f g h i j l) m n o p) d 0).bind λ(.mk af (.mk ai aj ak al am an) ao ap aq ar,au)=>(some ((aar.mk af (aab.mk ai aj ak al am an) ao ap aq ar),(aap.mk a b I q au)))))
def abE(k0:Nat):Nat->aek
 | 0=>{ f87:=λ_ _ _=>none,f120:=λ_ _=>none,f146:=λ_ _ _ _=>none,f147:=λ_ _=>none }
 | k+1=>{ f87:=arq k0 (abE k0 k),f120:=ali k0 (abE k0 k),f146:=aln k0 (abE k0 k),f147:=alC k0 (abE k0 k) }
def f87(k:Nat):aar->LS->Int->ooc:=(abE k k).f87
def f120(k:Nat):aar->aae->ooN:=(abE k k).f120
def f146(k:Nat):aar->BA->LS->Int->ooZ:=(abE k k).f146
def f147(k:Nat):aar->aap->ood:=(abE k k).f147
def ar4(k:Nat)(a:LF)(b:BA)(d:LP)(e:Int)(f:Bool)(g:Int)(h:LS)(i:LB)(j:List Int)(l m:Int)(n:BA)(o:LP)(p:Int)(q:Bool)(r:Int)(s:LS):ooe:=some ((aar.mk a (aab.mk b d e f g h) i j l m),(aab.mk n o p q r s))
def agF(k:Nat)(o:BA)(p:LP)(q:Int)(r:Bool)(s:LS):LP->Nat->LF->BA->LP->Int->Bool->Int->LS->LB->(List Int)->Int->Int->ooe
 | [],t,a,b,d,e,f,g,h,i,j,l,m=>(f87 k (aar.mk a (aab.mk b d e f g h) i j l m) s 0).bind λ(.mk u (.mk v x y z A B) n C D G,I)=>((f88 k (aar.mk u (aab.mk v x y z A B) n C D G) (decide ((n.length:Int)<=32)) 5).bind λ(.mk J (.mk N O S U V W) X Y Z ab)=>(ar4 k J N O S U V W X Y Z ab o p q r (n.length:Int) I))
 | (.mk ac ar)::ad,t,a,b,d,e,f,g,h,i,j,l,m=>(f86 k (aar.mk a (aab.mk b d e f g h) i j l m) ac).bind λ(.mk ae (.mk af ai aj ak al am) an ao ap aq,au)=>((agF k o p q r s ad) (t+1) ae af ai aj ak al am an ao ap aq)
def f61(k:Nat):LF->aab->ooe:=λa h =>
 match a,h with
 | a,.mk d b e f i g=>agF k d b e f g b 0 a d b e f i g ([]:LB) ([]:List Int) 0 0
def apu(k:Nat)(a:Int):ooI:=some ((aaa.mk []),a)
def arF(k:Nat)(a:LF)(d:Nat)(b:Int)(e:BA)(f:LP)(g:Int)(h:Bool)(i:Int)(j:LS)(nx2:Nat->LF->ooI):ooI:=cond (b != 0) (apu k b) (aaB (decide ((a.length+1)*88<=140737488355328)) (nx2 (d+1) (a++[(aab.mk e f g h i j)])))
def agE(k:Nat)(b:LF):LF->Nat->LF->ooI
 | [],d,a=>some ((aaa.mk a),0)
 | (.mk e f g h i j)::l,d,a=>(f61 k b (aab.mk e f g h i j)).bind λ(.mk t (.mk u v x y z A) B C D m,.mk n o p q r s)=>(arF k a d m n o p q r s (agE k b l))
def ahJ(k:Nat)(a:LF):LF->Nat->ooI
 | [],b=>(f60 k a ⟨#[109,97,105,110]⟩).bind λd=>(cond (decide (d<0)) (some ((aaa.mk []),20)) ((idxO a d).bind λ(.mk j e l f m n)=>(cond f (some ((aaa.mk []),25)) (cond (decide ((e.length:Int)>0)) (some ((aaa.mk []),24)) (agE k a a 0 ([]:LF))))))
 | (.mk g o p q r s)::h,b=>(f60 k a g).bind λi=>(cond (decide (i<(b:Int))) (some ((aaa.mk []),21)) ((ahJ k a h) (b+1)))
def f38(k:Nat):aaa->ooI:=λb =>
 match b with
 | .mk a=>(f59 k (aaa.mk a)).bind λd=>(cond (!d) (some ((aaa.mk []),2)) (ahJ k a a 0))
def f16(k:Nat):aaa->ooI:=λb =>
 match b with
 | .mk a=>(f37 k (aaa.mk a)).bind λd=>(cond (!d) (some ((aaa.mk []),2)) ((f39 k (aaa.mk a)).bind λ(.mk e)=>((f38 k (aaa.mk e)).bind λ(.mk f,g)=>(some ((aaa.mk f),g)))))
structure aig where
 f66:LS->ooA
def anr(k:Nat)(F:aig)(a:Nat)(nx1:Nat->ooA):ooA:=nx1 (a+1)
def amf(k:Nat)(F:aig)(a:Nat)(nx1:Nat->ooA):LC->Nat->ooA
 | [],b=>anr k F a nx1
 | (.mk g h i j d)::e,b=>(F.f66 d).bind λf=>(cond f (some true) ((amf k F a nx1 e) (b+1)))
def aiq(k:Nat)(F:aig)(a:Nat)(b:LC)(d:Bool)(nx1:Nat->ooA):ooA:=cond d (some true) (amf k F a nx1 b 0)
def alX(k:Nat)(F:aig)(a:Nat)(d e f:LS)(b:LC)(g:Bool)(nx1:Nat->ooA):ooA:=cond g (anr k F a nx1) ((F.f66 d).bind λh=>(cond h (aiq k F a b true nx1) ((F.f66 e).bind λi=>(cond i (aiq k F a b true nx1) ((F.f66 f).bind λj=>(aiq k F a b j nx1))))))
def ai6(k:Nat)(F:aig)(a:Nat)(b:Int)(d e f:LS)(g:LC)(h:Bool)(nx1:Nat->ooA):ooA:=cond h (some true) (cond (b==21) (alX k F a d e f g true nx1) (alX k F a d e f g (b==28) nx1))
def acI(k:Nat)(F:aig)  : LS->Nat->ooA
 | [],b=>some false
 | (.mk a j l m n i o d e f g)::h,b=>cond (a==18) (ai6 k F b a d e f g true (acI k F h)) (cond (a==6) (ai6 k F b a d e f g (i==1) (acI k F h)) (ai6 k F b a d e f g false (acI k F h)))
def av1(k:Nat)(F:aig):LS->ooA:=λa=>acI k F a 0
def amS(k0:Nat):Nat->aig
 | 0=>{ f66:=λ_=>none }
 | k+1=>{ f66:=av1 k0 (amS k0 k) }
def f66(k:Nat):LS->ooA:=(amS k k).f66
structure afc where
 f21:LS->ooA
 f41:aae->ooA
def akW(k:Nat)(F:afc)  : LS->Nat->ooA
 | [],a=>some false
 | (.mk b d e f g h i j l m n)::o,a=>(F.f41 (aae.mk b d e f g h i j l m n)).bind λp=>(cond p (some true) ((akW k F o) (a+1)))
def auF(k:Nat)(F:afc):LS->ooA:=λa=>akW k F a 0
def ale(k:Nat)(F:afc)(a:Bool):ooA:=some a
def alz(k:Nat)(F:afc)(a:Bool):ooA:=some a
def afB(k:Nat)(F:afc)(a:Bool):ooA:=some a
def amd(k:Nat)(F:afc)  : LC->Nat->ooA
 | [],a=>some true
 | (.mk f g h i b)::d,a=>(F.f21 b).bind λe=>(cond (!e) (some false) ((amd k F d) (a+1)))
def ai2(k:Nat)(F:afc)(d a:Int)(b e f:LS)(g:LC)(h:Bool):ooA:=cond h ((F.f21 b).bind λi=>(some i)) (cond (d==24) (cond (decide (a>=2)) ((F.f21 f).bind λj=>(cond j (afB k F true) ((F.f21 b).bind λl=>(cond l (cond ((a.tmod 2)==0) (afB k F true) ((F.f21 e).bind λm=>(afB k F m))) (afB k F false))))) ((F.f21 b).bind λn=>(cond n (cond ((a.tmod 2)==0) (afB k F true) ((F.f21 e).bind λo=>(afB k F o))) (afB k F false)))) (cond (d==27) (amd k F g 0) (some false)))
def ahT(k:Nat)(F:afc)(a d:Int)(h:LE)(b e f:LS)(g:LC)(i:Bool):ooA:=cond i (some true) (cond (a==20) (cond (d==1) ((F.f21 b).bind λj=>(cond j ((F.f21 e).bind λl=>(ale k F l)) (ale k F false))) (ale k F false)) (cond (a==21) ((idxO h 0).bind λ(.mk m n p q r)=>(cond (m==2) (cond (n==1) ((f66 k b).bind λo=>(alz k F (!o))) (alz k F false)) (alz k F false))) (cond (a==23) (ai2 k F a d b e f g (a==23)) (cond (a==25) (ai2 k F a d b e f g (a==25)) (ai2 k F a d b e f g (a==26))))))
def aqG(k:Nat)(F:afc):aae->ooA:=λi =>
 match i with
 | .mk a j l m n b d e f g h=>cond (a==17) (ahT k F a b d e f g h (a==17)) (cond (a==15) (ahT k F a b d e f g h (a==15)) (cond (a==18) (ahT k F a b d e f g h (a==18)) (ahT k F a b d e f g h (a==19))))
def afz(k0:Nat):Nat->afc
 | 0=>{ f21:=λ_=>none,f41:=λ_=>none }
 | k+1=>{ f21:=auF k0 (afz k0 k),f41:=aqG k0 (afz k0 k) }
def f21(k:Nat):LS->ooA:=(afz k k).f21
def f41(k:Nat):aae->ooA:=(afz k k).f41
def f49(k:Nat):aao->Int->Int->ooJ:=λe a b =>
 match e,a,b with
 | .mk f (.mk g h i j l m) d n,a,b=>(idxO d a).bind λo=>(some (aao.mk f (aab.mk g h i j l m) (d.set a.toNat b) n))
def ahk(k:Nat)(a:LF)(e:BA)(f:LP)(g:Int)(h:Bool)(i:Int)(j:LS)(l:(List Int))(m:Bool)(n:Int):Nat->(List Int)->Int->ooL
 | 0,_,_=>none
 | j1502+1,b,d=>(idxO a n).bind λ(.mk q o r s t u)=>(cond (decide (d<(o.length:Int))) ((idxO o d).bind λ(.mk v p)=>(aaB (decide ((b.length+1)*8<=140737488355328)) ((ahk k a e f g h i j l m n j1502) (b++[p]) (w64 (d+1))))) (some ((aao.mk a (aab.mk e f g h i j) l m),b,true)))
def akP(k:Nat)(b:LF)(d:BA)(e:LP)(a:Int)(f:Bool)(g:Int)(h:LS)(i:(List Int))(j:Bool)(l:Int)(m:Bool):ooL:=cond m (some ((aao.mk b (aab.mk d e a f g h) i j),[2],true)) (cond (l==26) (some ((aao.mk b (aab.mk d e a f g h) i j),[6],true)) (cond (l==17) (some ((aao.mk b (aab.mk d e a f g h) i j),[a],true)) (some ((aao.mk b (aab.mk d e a f g h) i j),[],false))))
def ael(k:Nat)(b:LF)(d:BA)(e:LP)(f:Int)(g:Bool)(h:Int)(i:LS)(j:(List Int))(l:Bool)(a:Int)(m:Bool):ooL:=cond m (some ((aao.mk b (aab.mk d e f g h i) j l),[1],true)) (cond (a==15) (some ((aao.mk b (aab.mk d e f g h i) j l),[3],true)) (cond (a==20) (akP k b d e f g h i j l a (a==20)) (akP k b d e f g h i j l a (a==21))))
def ajI(k:Nat)(b:LF)(d:BA)(e:LP)(f:Int)(g:Bool)(h:Int)(i:LS)(j:(List Int))(l:Bool)(a:Int)(m:Bool):ooL:=cond m (some ((aao.mk b (aab.mk d e f g h i) j l),[4],true)) (cond (a==10) (some ((aao.mk b (aab.mk d e f g h i) j l),[4,1],true)) (cond (a==12) (ael k b d e f g h i j l a (a==12)) (cond (a==7) (ael k b d e f g h i j l a (a==7)) (cond (a==8) (ael k b d e f g h i j l a (a==8)) (cond (a==25) (ael k b d e f g h i j l a (a==25)) (cond (a==29) (ael k b d e f g h i j l a (a==29)) (ael k b d e f g h i j l a (a==22))))))))
def akC(k:Nat)(b:LF)(d:BA)(e:LP)(f:Int)(g:Bool)(h:Int)(i:LS)(j:(List Int))(l:Bool)(a:Int)(m:Bool):ooL:=cond m (some ((aao.mk b (aab.mk d e f g h i) j l),[5],true)) (cond (a==6) (ajI k b d e f g h i j l a (a==6)) (ajI k b d e f g h i j l a (a==11)))
def aef(k:Nat)(b:LF)(d:BA)(e:LP)(f:Int)(g:Bool)(h:Int)(i:LS)(j:(List Int))(l:Bool)(a m:Int)(n:Bool):ooL:=cond n (ahk k b d e f g h i j l m k ([]:List Int) 0) (cond (a==5) (akC k b d e f g h i j l a (a==5)) (akC k b d e f g h i j l a (a==16)))
def f107(k:Nat):aao->aae->ooL:=λn o =>
 match n,o with
 | .mk d (.mk e f g h i j) b l,.mk a r p s m t u v x y z=>cond (a==2) ((idxO b p).bind λq=>(some ((aao.mk d (aab.mk e f g h i j) b l),[q],true))) (cond (a==3) (aef k d e f g h i j b l a m (a==3)) (cond (a==4) (aef k d e f g h i j b l a m (a==4)) (aef k d e f g h i j b l a m (a==28))))
def ak8(k:Nat)  : ooC:=some (-1)
def aqO(k:Nat)(a:Bool):ooC:=cond a (some 2) (ak8 k)
def aqV(k:Nat)(a:Int)(b:Bool):ooC:=cond b (some a) (ak8 k)
def ap2(k:Nat)(b a:Int)(d:Bool):ooC:=cond d (cond (a==1) (aqO k true) (aqO k (a==3))) (cond (b==15) (cond (a==1) (aqV k a true) (aqV k a (a==3))) (cond (a==1) (some 1) (ak8 k)))
def arS(k:Nat)(a b:Int)(d:Bool):ooC:=cond d (some 2) (cond (decide (a>=11)) (ap2 k a b (decide (a<=14))) (ap2 k a b false))
def aoa(k:Nat)(a b:Int)(d:Bool):ooC:=cond d (cond (b==2) (some 2) (ak8 k)) (cond (a==9) (arS k a b true) (arS k a b (a==10)))
def ann(k:Nat)(a b:Int)(d:Bool):ooC:=cond d (some (-1)) (cond (a==5) (aoa k a b true) (cond (a==7) (aoa k a b true) (aoa k a b (a==8))))
def f36(k:Nat):Int->Int->Int->ooC:=λb a d=>cond (a != d) (ann k b a true) (ann k b a (a==(-1)))
structure atB where
 f15:aah->(List Int)->ooC
def anN(k:Nat)(F:atB)(a b d:Int):ooC:=(f36 k a b d).bind λe=>some e
def apL(k:Nat)(F:atB):aah->(List Int)->ooC:=λf b =>
 match f,b with
 | .mk a u v g d,b=>cond (a==1) (some 1) (cond (a==2) (some 2) (cond (a==3) (some 3) (cond (a==4) ((idxO b g).bind λh=>(some h)) ((idxO d 0).bind λ(.mk i j l m n)=>((F.f15 (aah.mk i j l m n) b).bind λe=>(cond ((d.length:Int)==2) ((idxO d 1).bind λ(.mk o p q r s)=>((F.f15 (aah.mk o p q r s) b).bind λt=>(anN k F a e t))) (anN k F a e e)))))))
def amu(k0:Nat):Nat->atB
 | 0=>{ f15:=λ_ _=>none }
 | k+1=>{ f15:=apL k0 (amu k0 k) }
def f15(k:Nat):aah->(List Int)->ooC:=(amu k k).f15
def f108(k:Nat):aao->aah->Int->ooJ:=λl m a =>
 match l,m,a with
 | .mk d (.mk e f g h i j) b n,.mk o p q r s,a=>(f15 k (aah.mk o p q r s) b).bind λt=>(cond (t != a) (some (aao.mk d (aab.mk e f g h i j) b true)) (some (aao.mk d (aab.mk e f g h i j) b n)))
def f109(k:Nat):aao->aae->Option (aao×Int):=λm n =>
 match m,n with
 | .mk a (.mk d e f g h i) b j,.mk l y z A o B p C D G I=>cond (l==1) ((idxO p 0).bind λ(.mk q r s t u)=>((f15 k (aah.mk q r s t u) b).bind λv=>(some ((aao.mk a (aab.mk d e f g h i) b j),v)))) (cond (l==3) ((idxO a o).bind λ(.mk J N x O S U)=>(some ((aao.mk a (aab.mk d e f g h i) b j),x))) (cond (l==4) (some ((aao.mk a (aab.mk d e f g h i) b j),5)) (cond (l==7) (some ((aao.mk a (aab.mk d e f g h i) b j),4)) (cond (l==8) (some ((aao.mk a (aab.mk d e f g h i) b j),6)) (cond (l==24) (some ((aao.mk a (aab.mk d e f g h i) b j),3)) (some ((aao.mk a (aab.mk d e f g h i) b j),1)))))))
structure acC where
 f50:aao->LS->ooJ
 f74:aao->aae->ooJ
 f110:aao->aap->ooJ
def aiD(k:Nat)(F:acC)  : LS->Nat->LF->BA->LP->Int->Bool->Int->LS->(List Int)->Bool->ooJ
 | [],l,b,d,e,f,g,h,i,j,a=>some (aao.mk b (aab.mk d e f g h i) j a)
 | (.mk m n o p q r s t u v x)::y,l,b,d,e,f,g,h,i,j,a=>cond (!a) ((F.f74 (aao.mk b (aab.mk d e f g h i) j a) (aae.mk m n o p q r s t u v x)).bind λ(.mk z (.mk A B C D G I) J N)=>((aiD k F y) (l+1) z A B C D G I J N)) (some (aao.mk b (aab.mk d e f g h i) j a))
def av3(k:Nat)(F:acC):aao->LS->ooJ:=λb a =>
 match b,a with
 | .mk d (.mk e f g h i j) l m,a=>aiD k F a 0 d e f g h i j l m
def ah4(k:Nat)(F:acC)  : LC->Nat->LF->BA->LP->Int->Bool->Int->LS->(List Int)->Bool->ooJ
 | [],l,b,d,e,f,g,h,i,j,a=>some (aao.mk b (aab.mk d e f g h i) j a)
 | (.mk m n o p q)::r,l,b,d,e,f,g,h,i,j,a=>cond (!a) ((F.f110 (aao.mk b (aab.mk d e f g h i) j a) (aap.mk m n o p q)).bind λ(.mk s (.mk t u v x y z) A B)=>((ah4 k F r) (l+1) s t u v x y z A B)) (some (aao.mk b (aab.mk d e f g h i) j a))
def ahI(k:Nat)(F:acC)(a b:LS)(d:LC)(e:LF)(f:BA)(g:LP)(h:Int)(i:Bool)(j:Int)(l:LS)(m:List Int)(n:Bool):ooJ:=(F.f50 (aao.mk e (aab.mk f g h i j l) m n) a).bind λ(.mk o (.mk p q r s t u) v x)=>(F.f50 (aao.mk o (aab.mk p q r s t u) v x) b).bind λ(.mk y (.mk z A B C D G) I J)=>(ah4 k F d 0 y z A B C D G I J)
def agO(k:Nat)(F:acC)(o:Int)(p a b:LS)(d:LC)(e:LF)(f:BA)(g:LP)(h:Int)(i:Bool)(j:Int)(l:LS)(m:List Int)(n:Bool):ooJ:=cond (o != 24) ((F.f50 (aao.mk e (aab.mk f g h i j l) m n) p).bind λ(.mk q (.mk r s t u v x) y z)=>(ahI k F a b d q r s t u v x y z)) (ahI k F a b d e f g h i j l m n)
def anY(k:Nat)(F:acC)(a:Int)(p:BA)(q:Int)(r:BA)(s t:Int)(u:LE)(b d e:LS)(f:LC)(v:LF)(x:BA)(y:LP)(z:Int)(A:Bool)(B:Int)(C:LS)(D:List Int)(G:Bool):ooJ:=(f109 k (aao.mk v (aab.mk x y z A B C) D G) (aae.mk a p q r s t u b d e f)).bind λ(.mk g (.mk h i j l m n) o I,J)=>cond (J==0) (agO k F a b d e f g h i j l m n o true) (agO k F a b d e f g h i j l m n o I)
def alj(k:Nat)(F:acC)(a:Int)(h:BA)(b:Int)(i:BA)(j l:Int)(m:LE)(d e f:LS)(g:LC)(n:LF)(o:BA)(p:LP)(q:Int)(r:Bool)(s:Int)(t:LS)(u:List Int)(v x:Bool):ooJ:=cond x ((f109 k (aao.mk n (aab.mk o p q r s t) u v) (aae.mk a h b i j l m d e f g)).bind λ(.mk y (.mk z A B C D G) I J,N)=>((f49 k (aao.mk y (aab.mk z A B C D G) I J) b N).bind λ(.mk O (.mk S U V W X Y) Z ab)=>(anY k F a h b i j l m d e f g O S U V W X Y Z ab))) (agO k F a d e f g n o p q r s t u v)
def aia(k:Nat)(F:acC)(a:Int)(b:BA)(d:Int)(e:BA)(f g:Int)(h:LE)(i j l:LS)(m:LC)(n:LF)(o:BA)(p:LP)(q:Int)(r:Bool)(s:Int)(t:LS)(u:List Int)(v:Bool):ooJ:=cond (!seq b ⟨#[]⟩) (alj k F a b d e f g h i j l m n o p q r s t u v (a != 2)) (alj k F a b d e f g h i j l m n o p q r s t u v false)
def alb(k:Nat)(F:acC)(b:Int)(n:BA)(o:Int)(p:BA)(q r:Int)(s:LE)(d t u:LS)(v:LC)(e:LF)(f:BA)(g:LP)(h:Int)(i:Bool)(j:Int)(l:LS)(m:List Int)(a:Bool):ooJ:=cond a (some (aao.mk e (aab.mk f g h i j l) m a)) (cond (b==24) ((F.f50 (aao.mk e (aab.mk f g h i j l) m a) d).bind λ(.mk x (.mk y z A B C D) G I)=>(aia k F b n o p q r s d t u v x y z A B C D G I)) (aia k F b n o p q r s d t u v e f g h i j l m a))
def al9(k:Nat)(F:acC)(a:Int)(b:BA)(d:Int)(e:BA)(f g:Int)(h:LE)(i j l:LS)(m:LC)(n:LF)(o:BA)(p:LP)(q:Int)(r:Bool)(s:Int)(t:LS)(u:List Int)(v x:Bool):ooJ:=cond x (alb k F a b d e f g h i j l m n o p q r s t u true) (alb k F a b d e f g h i j l m n o p q r s t u v)
def anI(k:Nat)(F:acC)(a:Nat)(b:LF)(d:BA)(e:LP)(f:Int)(g:Bool)(h:Int)(i:LS)(j:List Int)(l:Bool)(nx1:Nat->LF->BA->LP->Int->Bool->Int->LS->(List Int)->Bool->ooJ):ooJ:=nx1 (a+1) b d e f g h i j l
def ad6(k:Nat)(F:acC)(d:Int)(m:BA)(n:Int)(o:BA)(e p:Int)(q:LE)(r s t:LS)(u:LC)(y:(List Int))(z:Bool):LE->Nat->LF->BA->LP->Int->Bool->Int->LS->(List Int)->Bool->ooJ
 | [],v,a,f,g,h,i,j,l,b,x=>cond (d==4) ((idxO a e).bind λ(.mk ad ae J af ai aj)=>(al9 k F d m n o e p q r s t u a f g h i j l b x (decide (J>1)))) (al9 k F d m n o e p q r s t u a f g h i j l b x false)
 | (.mk B C D G I)::A,v,a,f,g,h,i,j,l,b,x=>cond z ((idxO y (v:Int)).bind λN=>((f108 k (aao.mk a (aab.mk f g h i j l) b x) (aah.mk B C D G I) N).bind λ(.mk O (.mk S U V W X Y) Z ab)=>(anI k F v O S U V W X Y Z ab (ad6 k F d m n o e p q r s t u y z A)))) ((f15 k (aah.mk B C D G I) b).bind λac=>(cond (ac==(-1)) (anI k F v a f g h i j l b true (ad6 k F d m n o e p q r s t u y z A)) (anI k F v a f g h i j l b x (ad6 k F d m n o e p q r s t u y z A))))
def ao7(k:Nat)(F:acC):aao->aae->ooJ:=λn o =>
 match n,o with
 | .mk p (.mk q r s t u v) x y,.mk b d e f g h a i j l m=>(f107 k (aao.mk p (aab.mk q r s t u v) x y) (aae.mk b d e f g h a i j l m)).bind λ(.mk z (.mk A B C D G I) J N,O,S)=>(ad6 k F b d e f g h a i j l m O S a 0 z A B C D G I J N)
def aff(k:Nat)(F:acC)(a:LS)(b:LF)(d:BA)(e:LP)(f:Int)(g:Bool)(h:Int)(i:LS)(j:List Int)(l:Bool):ooJ:=(F.f50 (aao.mk b (aab.mk d e f g h i) j l) a).bind λ(.mk m (.mk n o p q r s) t u)=>some (aao.mk m (aab.mk n o p q r s) t u)
def aeY(k:Nat)(F:acC)(n o:Int)(l:LS)(p:List Int):LE->Nat->LF->BA->LP->Int->Bool->Int->LS->(List Int)->Bool->ooJ
 | [],m,a,b,d,e,f,g,h,i,j=>cond (n==1) ((f49 k (aao.mk a (aab.mk b d e f g h) i j) o 1).bind λ(.mk q (.mk r s t u v x) y z)=>(aff k F l q r s t u v x y z)) (aff k F l a b d e f g h i j)
 | (.mk A B C D G)::I,m,a,b,d,e,f,g,h,i,j=>(idxO p (m:Int)).bind λJ=>((f108 k (aao.mk a (aab.mk b d e f g h) i j) (aah.mk A B C D G) J).bind λ(.mk N (.mk O S U V W X) Y Z)=>((aeY k F n o l p I) (m+1) N O S U V W X Y Z))
def akz(k:Nat)(F:acC)(a:LF)(b:BA)(d:LP)(e:Int)(f:Bool)(g:Int)(h:LS)(i:(List Int))(j:Bool)(l m:Int)(n:LE)(o:LS)(p:List Int):ooJ:=aeY k F l m o p n 0 a b d e f g h i j
def alP(k:Nat)(F:acC):aao->aap->ooJ:=λp q =>
 match p,q with
 | .mk b (.mk d e f g h i) j l,.mk a r m n o=>cond (a==3) (akz k F b d e f g h i j l a m n o [1]) (akz k F b d e f g h i j l a m n o [4,1])
def ade(k0:Nat):Nat->acC
 | 0=>{ f50:=λ_ _=>none,f74:=λ_ _=>none,f110:=λ_ _=>none }
 | k+1=>{ f50:=av3 k0 (ade k0 k),f74:=ao7 k0 (ade k0 k),f110:=alP k0 (ade k0 k) }
def f50(k:Nat):aao->LS->ooJ:=(ade k k).f50
def f74(k:Nat):aao->aae->ooJ:=(ade k k).f74
def f110(k:Nat):aao->aap->ooJ:=(ade k k).f110
def an0(k:Nat)(a:(List Int))(b:Bool):ooa:=cond b (some ([],26)) (some (a,0))
def aht(k:Nat)(n:Int)(a:LS):LP->Nat->LF->BA->LP->Int->Bool->Int->LS->(List Int)->Bool->ooa
 | [],b,d,e,f,g,h,i,j,l,m=>(f50 k (aao.mk d (aab.mk e f g h i j) l m) a).bind λ(.mk D (.mk G I J N O S) o p)=>(cond p (some ([],23)) (cond (n != 0) ((f21 k a).bind λq=>(an0 k o (!q))) (an0 k o false)))
 | (.mk U r)::s,b,d,e,f,g,h,i,j,l,m=>(f49 k (aao.mk d (aab.mk e f g h i j) l m) (b:Int) r).bind λ(.mk t (.mk u v x y z A) B C)=>((aht k n a s) (b+1) t u v x y z A B C)
def f27(k:Nat):LF->aab->ooa:=λb g =>
 match b,g with
 | b,.mk h d e i a f=>aaB (decide (0<=a/\a*(8:Nat)<=140737488355328)) (aht k e f d 0 b h d e i a f (List.replicate a.toNat (0:Int)) false)
def alw(k:Nat)(a:LF):LF->Nat->ooI
 | [],b=>some ((aaa.mk a),0)
 | (.mk e f g h i j)::l,b=>(f27 k a (aab.mk e f g h i j)).bind λ(m,d)=>(cond (d != 0) (some ((aaa.mk []),d)) ((alw k a l) (b+1)))
def f11(k:Nat):aaa->ooI:=λd =>
 match d with
 | .mk e=>(f16 k (aaa.mk e)).bind λ(.mk a,b)=>(cond (b != 0) (some ((aaa.mk []),b)) (alw k a a 0))
structure amR where
 f51:LE->LE->ooA
 f75:aah->aah->ooA
def alH(k:Nat)(F:amR)(b:LE):LE->Nat->ooA
 | [],a=>some true
 | (.mk d e f g h)::i,a=>(idxO b (a:Int)).bind λ(.mk j l m n o)=>((F.f75 (aah.mk d e f g h) (aah.mk j l m n o)).bind λp=>(cond (!p) (some false) ((alH k F b i) (a+1))))
def apW(k:Nat)(F:amR):LE->LE->ooA:=λa b=>cond ((a.length:Int) != (b.length:Int)) (some false) (alH k F b a 0)
def ahn(k:Nat)(F:amR)(a:Bool):ooA:=some a
def aqJ(k:Nat)(F:amR):aah->aah->ooA:=λa b =>
 match a,b with
 | .mk d e f g h,.mk i j l m n=>cond (d==i) (cond (e==j) (cond (seq f l) (cond (g==m) ((F.f51 h n).bind λo=>(ahn k F o)) (ahn k F false)) (ahn k F false)) (ahn k F false)) (ahn k F false)
def aeX(k0:Nat):Nat->amR
 | 0=>{ f51:=λ_ _=>none,f75:=λ_ _=>none }
 | k+1=>{ f51:=apW k0 (aeX k0 k),f75:=aqJ k0 (aeX k0 k) }
def f51(k:Nat):LE->LE->ooA:=(aeX k k).f51
def f75(k:Nat):aah->aah->ooA:=(aeX k k).f75
structure ain where
 f28:LS->LS->ooA
def ahd(k:Nat)(F:ain)(a:Nat)(b:Bool)(nx2:Nat->ooA):ooA:=cond b (some false) (nx2 (a+1))
def aqS(k:Nat)(F:ain)(a:Nat)(b:Int)(d:BA)(e:Int)(f:LE)(g:LS)(h:Int)(i:BA)(j:Int)(l:LE)(m:LS)(nx2:Nat->ooA):ooA:=cond (b != h) (ahd k F a true nx2) (cond (!seq d i) (ahd k F a true nx2) (cond (e != j) (ahd k F a true nx2) ((f51 k f l).bind λn=>(cond (!n) (ahd k F a true nx2) ((F.f28 g m).bind λo=>(ahd k F a (!o) nx2))))))
def ahS(k:Nat)(F:ain)(b:Nat)(d:LC)(nx1:Nat->ooA):LC->Nat->ooA
 | [],a=>nx1 (b+1)
 | (.mk e f g h i)::j,a=>(idxO d (a:Int)).bind λ(.mk l m n o p)=>(aqS k F a e f g h i l m n o p (ahS k F b d nx1 j))
def ai5(k:Nat)(F:ain)(a:Nat)(b d:LC)(e:Bool)(nx1:Nat->ooA):ooA:=cond e (some false) (ahS k F a d nx1 b 0)
def afv(k:Nat)(F:ain)(d:Nat)(e f g:LS)(a:LC)(h i j:LS)(b:LC)(l:Bool)(nx1:Nat->ooA):ooA:=cond l (some false) ((F.f28 e h).bind λm=>(cond (!m) (ai5 k F d a b true nx1) ((F.f28 f i).bind λn=>(cond (!n) (ai5 k F d a b true nx1) ((F.f28 g j).bind λo=>(cond (!o) (ai5 k F d a b true nx1) (ai5 k F d a b ((a.length:Int) != (b.length:Int)) nx1)))))))
def aqY(k:Nat)(F:ain)(a:Nat)(l:Int)(m:BA)(n:Int)(o:BA)(p q:Int)(r:LE)(b d e:LS)(f:LC)(s:Int)(t:BA)(u:Int)(v:BA)(x y:Int)(z:LE)(g h i:LS)(j:LC)(nx1:Nat->ooA):ooA:=cond (l != s) (afv k F a b d e f g h i j true nx1) (cond (!seq m t) (afv k F a b d e f g h i j true nx1) (cond (n != u) (afv k F a b d e f g h i j true nx1) (cond (!seq o v) (afv k F a b d e f g h i j true nx1) (cond (p != x) (afv k F a b d e f g h i j true nx1) (cond (q != y) (afv k F a b d e f g h i j true nx1) ((f51 k r z).bind λA=>(afv k F a b d e f g h i j (!A) nx1)))))))
def ad7(k:Nat)(F:ain)(b:LS):LS->Nat->ooA
 | [],a=>some true
 | (.mk d e f g h i j l m n o)::p,a=>(idxO b (a:Int)).bind λ(.mk q r s t u v x y z A B)=>(aqY k F a d e f g h i j l m n o q r s t u v x y z A B (ad7 k F b p))
def apA(k:Nat)(F:ain):LS->LS->ooA:=λa b=>cond ((a.length:Int) != (b.length:Int)) (some false) (ad7 k F b a 0)
def ail(k0:Nat):Nat->ain
 | 0=>{ f28:=λ_ _=>none }
 | k+1=>{ f28:=apA k0 (ail k0 k) }
def f28(k:Nat):LS->LS->ooA:=(ail k k).f28
def alL(k b:Nat)(d:LP)(nx1:Nat->ooA):LP->Nat->ooA
 | [],a=>nx1 (b+1)
 | (.mk e f)::g,a=>(idxO d (a:Int)).bind λ(.mk h i)=>(cond (!(((seq e h&&f==i))==true)) (some false) ((alL k b d nx1 g) (a+1)))
def agP(k a:Nat)(b d:LP)(e:Bool)(nx1:Nat->ooA):ooA:=cond e (some false) (alL k a d nx1 b 0)
def apg(k d:Nat)(e:BA)(a:LP)(f:Int)(g:Bool)(h:Int)(i:LS)(j:BA)(b:LP)(l:Int)(m:Bool)(n:Int)(o:LS)(nx1:Nat->ooA):ooA:=cond (!seq e j) (agP k d a b true nx1) (cond ((a.length:Int) != (b.length:Int)) (agP k d a b true nx1) (cond (f != l) (agP k d a b true nx1) (cond (!(g==m)) (agP k d a b true nx1) (cond (h != n) (agP k d a b true nx1) ((f28 k i o).bind λp=>(agP k d a b (!p) nx1))))))
def afU(k:Nat)(b:LF):LF->Nat->ooA
 | [],a=>some true
 | (.mk d e f g h i)::j,a=>(idxO b (a:Int)).bind λ(.mk l m n o p q)=>(apg k a d e f g h i l m n o p q (afU k b j))
def f12(k:Nat):aaa->aaa->ooA:=λd e =>
 match d,e with
 | .mk a,.mk b=>cond ((a.length:Int) != (b.length:Int)) (some false) (afU k b a 0)
structure apy where
 f45:LE->Int->ooC
def apJ(k:Nat)(F:apy)(a:Int):ooC:=some a
def ak3(k:Nat)(F:apy)(b:Int):LE->Nat->Int->ooC
 | [],d,a=>apJ k F a
 | (.mk h i j l e)::f,d,a=>cond (decide (a<=2000)) ((F.f45 e (w64 (b+1))).bind λg=>((ak3 k F b f) (d+1) (w64 ((w64 (a+1))+g)))) (apJ k F a)
def ars(k:Nat)(F:apy):LE->Int->ooC:=λb a=>cond (decide (a>60)) (some 4000) (ak3 k F a b 0 0)
def alW(k0:Nat):Nat->apy
 | 0=>{ f45:=λ_ _=>none }
 | k+1=>{ f45:=ars k0 (alW k0 k) }
def f45(k:Nat):LE->Int->ooC:=(alW k k).f45
structure amj where
 f24:LS->Int->ooC
def aqL(k:Nat)(F:amj)(a:Int):ooC:=some a
def aoV(k:Nat)(F:amj)(a:Nat)(b:Int)(nx1:Nat->Int->ooC):ooC:=nx1 (a+1) b
def alS(k:Nat)(F:amj)(b:Int)(d:Nat)(nx1:Nat->Int->ooC):LC->Nat->Int->ooC
 | [],e,a=>aoV k F d a nx1
 | (.mk l m n f g)::h,e,a=>cond (decide (a<=2000)) ((f45 k f (w64 (b+1))).bind λi=>((F.f24 g (w64 (b+1))).bind λj=>((alS k F b d nx1 h) (e+1) (w64 ((w64 ((w64 (a+1))+i))+j))))) (aoV k F d a nx1)
def aie(k:Nat)(F:amj)(a:Int):LS->Nat->Int->ooC
 | [],d,b=>aqL k F b
 | (.mk p q r s t u e f g h i)::j,d,b=>cond (decide (b<=2000)) ((f45 k e (w64 (a+1))).bind λl=>((F.f24 f (w64 (a+1))).bind λm=>((F.f24 g (w64 (a+1))).bind λn=>((F.f24 h (w64 (a+1))).bind λo=>(alS k F a d (aie k F a j) i 0 (w64 ((w64 ((w64 ((w64 ((w64 (b+1))+l))+m))+n))+o))))))) (aqL k F b)
def aqE(k:Nat)(F:amj):LS->Int->ooC:=λb a=>cond (decide (a>40)) (some 4000) (aie k F a b 0 0)
def akg(k0:Nat):Nat->amj
 | 0=>{ f24:=λ_ _=>none }
 | k+1=>{ f24:=aqE k0 (akg k0 k) }
def f24(k:Nat):LS->Int->ooC:=(akg k k).f24
def avc(k:Nat)(a:Int):ooA:=some (decide (a<=2000))
def auy(k:Nat)  : LF->Nat->Int->ooA
 | [],b,a=>avc k a
 | (.mk g h i j l d)::e,b,a=>cond (decide (a<=2000)) ((f24 k d 0).bind λf=>((auy k e) (b+1) (w64 ((w64 (a+1))+f)))) (avc k a)
def f8(k:Nat):aaa->ooA:=λa =>
 match a with
 | .mk b=>auy k b 0 0
def aqI(k:Nat)(a:Bool):ooA:=some a
def f30(k:Nat):Int->ooA:=λa=>cond (decide (a<0)) (aqI k true) (aqI k (decide (a>6)))
def ae8(k:Nat)  : List Int->Nat->ooC
 | [],a=>some (-1)
 | b::d,a=>(f30 k b).bind λe=>(cond e (some (a:Int)) ((ae8 k d) (a+1)))
def ajW(k:Nat):(List Int)->ooC:=λa=>ae8 k a 0
def ajG(k:Nat):(List Int)->ooA:=λa=>(ajW k a).bind λb=>(some (decide (b>=0)))
def f31(k:Nat):aah->Bool->ooA:=λb a =>
 match b,a with
 | .mk d e f g h,a=>(f53 k (aaj.mk 0 0 a) (aah.mk d e f g h) 1).bind λ(.mk j l m,i)=>(some i)
structure aeZ where
 f32:aah->Int->ooA
 f1005440:LE->Int->ooA
 f1005532:aah->Int->ooA
 f1008147:LE->Unit->Int->ooA
 f1008221:aah->Unit->Int->ooA
 f1011347:LE->Unit->Int->ooC
def alF(k:Nat)(F:aeZ)(a:Bool):ooA:=some a
def avf(k:Nat)(F:aeZ):aah->Int->ooA:=λe a =>
 match e,a with
 | .mk f i j b d,a=>cond (f != 4) ((F.f1005440 d a).bind λg=>(alF k F g)) (cond (decide (b>=0)) (cond (decide (b<a)) ((F.f1005440 d a).bind λh=>(alF k F h)) (alF k F false)) (alF k F false))
def agq(k:Nat)(F:aeZ):LE->Int->ooA:=λa s=>(F.f1008147 a () s).bind λb=>(some (!b))
def agt(k:Nat)(F:aeZ):aah->Int->ooA:=λa b =>
 match a,b with
 | .mk d e f g h,s=>(F.f32 (aah.mk d e f g h) s).bind λi=>(some i)
def af1(k:Nat)(F:aeZ):LE->Unit->Int->ooA:=λa _ sA=>(F.f1011347 a () sA).bind λb=>(some (decide (b>=0)))
def af5(k:Nat)(F:aeZ):aah->Unit->Int->ooA:=λa b d =>
 match a,b,d with
 | .mk e f g h i,_,sA=>(F.f1005532 (aah.mk e f g h i) sA).bind λj=>(some (!j))
def ae3(k:Nat)(F:aeZ)(sA:Int):LE->Nat->ooC
 | [],a=>some (-1)
 | (.mk b d e f g)::h,a=>(F.f1008221 (aah.mk b d e f g) () sA).bind λi=>(cond i (some (a:Int)) ((ae3 k F sA h) (a+1)))
def agf(k:Nat)(F:aeZ):LE->Unit->Int->ooC:=λa _ sA=>ae3 k F sA a 0
def acb(k0:Nat):Nat->aeZ
 | 0=>{ f32:=λ_ _=>none,f1005440:=λ_ _=>none,f1005532:=λ_ _=>none,f1008147:=λ_ _ _=>none,f1008221:=λ_ _ _=>none,f1011347:=λ_ _ _=>none }
 | k+1=>{ f32:=avf k0 (acb k0 k),f1005440:=agq k0 (acb k0 k),f1005532:=agt k0 (acb k0 k),f1008147:=af1 k0 (acb k0 k),f1008221:=af5 k0 (acb k0 k),f1011347:=agf k0 (acb k0 k) }
def f32(k:Nat):aah->Int->ooA:=(acb k k).f32
def f1005440(k:Nat):LE->Int->ooA:=(acb k k).f1005440
def f1005532(k:Nat):aah->Int->ooA:=(acb k k).f1005532
def f1008147(k:Nat):LE->Unit->Int->ooA:=(acb k k).f1008147
def f1008221(k:Nat):aah->Unit->Int->ooA:=(acb k k).f1008221
def f1011347(k:Nat):LE->Unit->Int->ooC:=(acb k k).f1011347
def ani(k:Nat)(b d:Int)(e:BA)(f:Int)(g:LE)(h:(List Int))(i:Bool):Option (Int×Int):=cond i (some (0,2)) ((f33 k (aah.mk b d e f g) h).bind λa=>(cond (a==(-1)) (some (0,23)) (some (a,0))))
def f13(k:Nat):aah->(List Int)->Option (Int×Int):=λh a =>
 match h,a with
 | .mk b d e f g,a=>(ajG k a).bind λi=>((f31 k (aah.mk b d e f g) true).bind λj=>(cond (!j) (ani k b d e f g a true) ((f32 k (aah.mk b d e f g) (a.length:Int)).bind λl=>(cond (!l) (ani k b d e f g a true) (ani k b d e f g a i)))))
def f25(k:Nat):LS->ooP:=λa=>some (aaa.mk [(aab.mk ⟨#[109,97,105,110]⟩ [] 0 false 0 []),(aab.mk ⟨#[102]⟩ [] 1 false 0 [(aae.mk 21 ⟨#[]⟩ 0 ⟨#[]⟩ 0 0 [(aah.mk 2 1 ⟨#[]⟩ 0 [])] a [] [] [])])])
def aow(k:Nat)(a:Bool):ooA:=some a
def f9(k:Nat):ooA:=(f25 k []).bind λ(.mk a)=>(f10 k (aaa.mk a)).bind λ(.mk h,b)=>((f25 k [(aae.mk 18 ⟨#[]⟩ 0 ⟨#[]⟩ 0 0 [] [] [] [] [])]).bind λ(.mk d)=>((f10 k (aaa.mk d)).bind λ(.mk i,e)=>((f13 k (aah.mk 11 0 ⟨#[]⟩ 0 [(aah.mk 1 0 ⟨#[]⟩ 0 []),(aah.mk 4 0 ⟨#[120]⟩ 1 [])]) [3,1]).bind λ(f,g)=>(cond (b==0) (cond (e==26) (cond (g==0) (cond (f==2) (aow k true) (aow k false)) (aow k false)) (aow k false)) (aow k false)))))
def aoF(k:Nat)(a:Bool):ooA:=some a
def f3(k:Nat):aaa->ooA:=λb =>
 match b with
 | .mk a=>(f8 k (aaa.mk a)).bind λd=>(cond (!d) ((f9 k ).bind λe=>(some e)) ((f10 k (aaa.mk a)).bind λ(.mk f,g)=>((f11 k (aaa.mk a)).bind λ(.mk h,i)=>((f12 k (aaa.mk f) (aaa.mk h)).bind λj=>(cond j (cond (g==i) ((f9 k ).bind λl=>(aoF k l)) (aoF k false)) (aoF k false))))))
def aqo(X:aae->Option (List LS)):Prop:=∀{K w b d a},X b=some a->GK K->aag K b d-> SR K K w w [] []->Calls Tryz.prog 124 #[.agg d.toArray] w (Ret (λx v=>∃z q y,x=sl q a y/\SR K z w v [] []/\RSl LS (RSlE aae (λK=>(aag K)) 11 184 z) 1 24 z q y a))
def acv(X:LS->ooA):Prop:=∀{K w a b d e},X a=some e->GK K->tS K b d a-> SR K K w w [] []->Calls Tryz.prog 92 #[sl b a d] w (Ret (λq z=>∃y,q=.bool e/\SR K y w z [] []))
def ab0(X:aae->ooA):Prop:=∀{K w a b d},X a=some d->GK K->aag K a b-> SR K K w w [] []->Calls Tryz.prog 122 #[.agg b.toArray] w (Ret (λq z=>∃y,q=.bool d/\SR K y w z [] []))
def aa9(X:LS->ooA):Prop:=∀{K w a b d e},X a=some e->GK K->tS K b d a-> SR K K w w [] []->Calls Tryz.prog 64 #[sl b a d,.func (.func 122) #[] #[]] w (Ret (λq z=>∃y,q=.bool e/\SR K y w z [] []))
def aa5(X:LS->ooC):Prop:=∀{K w a b d e},X a=some e->GK K->tS K b d a-> SR K K w w [] []->Calls Tryz.prog 91 #[sl b a d,.func (.func 122) #[] #[]] w (Ret (λq z=>∃y,q=iI e/\SR K y w z [] []))
def aa3(X:(List LS)->ooA):Prop:=∀{K w a b d e},X a=some e->GK K->RSl LS (RSlE aae (λK=>(aag K)) 11 184 K) 1 24 K b d a-> SR K K w w [] []->Calls Tryz.prog 123 #[sl b a d,.func (.func 92) #[] #[]] w (Ret (λq z=>∃y,q=.bool e/\SR K y w z [] []))
def aa7(X:(List LS)->ooC):Prop:=∀{K w a b d e},X a=some e->GK K->RSl LS (RSlE aae (λK=>(aag K)) 11 184 K) 1 24 K b d a-> SR K K w w [] []->Calls Tryz.prog 148 #[sl b a d,.func (.func 92) #[] #[]] w (Ret (λq z=>∃y,q=iI e/\SR K y w z [] []))
def abT(X:LS->ooA):Prop:=∀{K w a b d e},X a=some e->GK K->tS K b d a-> SR K K w w [] []->Calls Tryz.prog 40 #[sl b a d] w (Ret (λq z=>∃y,q=.bool e/\SR K y w z [] []))
def abJ(X:aae->ooA):Prop:=∀{K w a b d},X a=some d->GK K->aag K a b-> SR K K w w [] []->Calls Tryz.prog 65 #[.agg b.toArray] w (Ret (λq z=>∃y,q=.bool d/\SR K y w z [] []))
def abL(X:aap->ooA):Prop:=∀{K w a b d},X a=some d->GK K->aaq K a b-> SR K K w w [] []->Calls Tryz.prog 94 #[.agg b.toArray] w (Ret (λq z=>∃y,q=.bool d/\SR K y w z [] []))
def aaL(X:LS->ooA):Prop:=∀{K w a b d e},X a=some e->GK K->tS K b d a-> SR K K w w [] []->Calls Tryz.prog 64 #[sl b a d,.func (.func 65) #[] #[]] w (Ret (λq z=>∃y,q=.bool e/\SR K y w z [] []))
def aaG(X:LS->ooC):Prop:=∀{K w a b d e},X a=some e->GK K->tS K b d a-> SR K K w w [] []->Calls Tryz.prog 91 #[sl b a d,.func (.func 65) #[] #[]] w (Ret (λq z=>∃y,q=iI e/\SR K y w z [] []))
def aaK(X:LC->ooA):Prop:=∀{K w a b d e},X a=some e->GK K->tC K b d a-> SR K K w w [] []->Calls Tryz.prog 93 #[sl b a d,.func (.func 94) #[] #[]] w (Ret (λq z=>∃y,q=.bool e/\SR K y w z [] []))
def aaH(X:LC->Unit->ooA):Prop:=∀{K w a b d g bs e},X a ()=some e->GK K->tC K b d a-> (λE:Ents=>SR K K w w E E->Calls Tryz.prog 125 #[sl b a d,.func (.func 126) #[] #[.pointer (some ⟨g,0,none⟩)]] w (Ret (λq z=>∃y,q=.bool e/\SR K y w z E E))) [.box bs g #[.func (.func 94) #[] #[]] 137]
def aaJ(X:aap->Unit->ooA):Prop:=∀{K w a b g bs d},X a ()=some d->GK K->aaq K a b-> (λE:Ents=>SR K K w w E E->Calls Tryz.prog 126 #[.agg b.toArray,.pointer (some ⟨g,0,none⟩)] w (Ret (λq z=>∃y,q=.bool d/\SR K y w z E E))) [.box bs g #[.func (.func 94) #[] #[]] 137]
def aaI(X:LC->Unit->ooC):Prop:=∀{K w a b d g bs e},X a ()=some e->GK K->tC K b d a-> (λE:Ents=>SR K K w w E E->Calls Tryz.prog 149 #[sl b a d,.func (.func 126) #[] #[.pointer (some ⟨g,0,none⟩)]] w (Ret (λq z=>∃y,q=iI e/\SR K y w z E E))) [.box bs g #[.func (.func 94) #[] #[]] 137]
def as8(X:aab->Option (List Int)):Prop:=∀{K w b d a},X b=some a->GK K->aak K b d-> SR K K w w [] []->Calls Tryz.prog 42 #[.agg d.toArray] w (Ret (λx v=>∃u q z y,x=sl q a z/\SR K u w v [] [eW (zz w) q a z 3 1 y]/\Reps (RInt .i64) 1 a y/\a.length*8<=mB))
def alp(X:LP->Option LP):Prop:=∀{K w a d e b},X a=some b->GK K->tP K d e a-> SR K K w w [] []->Calls Tryz.prog 129 #[sl d a e] w (Ret (λx v=>∃z q y,x=sl q b y/\SR K z w v [] []/\tP z q y b))
def arV(X:aah->ooC):Prop:=∀{K w a b d},X a=some d->GK K->aai K a b-> SR K K w w [] []->Calls Tryz.prog 157 #[.agg b.toArray] w (Ret (λq z=>∃y,q=iI d/\SR K y w z [] []))
def abR(X:LE->ooV):Prop:=∀{K w a d e b},X a=some b->GK K->tE K d e a-> SR K K w w [] []->Calls Tryz.prog 159 #[sl d a e,.func (.func 157) #[] #[]] w (Ret (λx v=>∃z q y,x=sl q b y/\SR K z w v [] []/\tE z q y b))
def abQ(X:aah->oof):Prop:=∀{K w a b d},X a=some d->GK K->aai K a b-> SR K K w w [] []->Calls Tryz.prog 178 #[.agg b.toArray,.func (.func 157) #[] #[]] w (Ret (λz x=>∃y q,z=.agg q.toArray/\SR K y w x [] []/\aai y d q))
def apv(X:aah->ooC):Prop:=∀{K w a b d},X a=some d->GK K->aai K a b-> SR K K w w [] []->Calls Tryz.prog 158 #[.agg b.toArray] w (Ret (λq z=>∃y,q=iI d/\SR K y w z [] []))
def abS(X:LE->ooV):Prop:=∀{K w a d e b},X a=some b->GK K->tE K d e a-> SR K K w w [] []->Calls Tryz.prog 159 #[sl d a e,.func (.func 158) #[] #[]] w (Ret (λx v=>∃z q y,x=sl q b y/\SR K z w v [] []/\tE z q y b))
def abP(X:aah->oof):Prop:=∀{K w a b d},X a=some d->GK K->aai K a b-> SR K K w w [] []->Calls Tryz.prog 178 #[.agg b.toArray,.func (.func 158) #[] #[]] w (Ret (λz x=>∃y q,z=.agg q.toArray/\SR K y w x [] []/\aai y d q))
def aed(X:LS->Bool->ooO):Prop:=∀{K w a d e f b},X a f=some b->GK K->tS K d e a-> SR K K w w [] []->Calls Tryz.prog 130 #[sl d a e,.bool f] w (Ret (λx v=>∃z q y,x=sl q b y/\SR K z w v [] []/\tS z q y b))
def arc(X:aaa->Bool->ooP):Prop:=∀{K w a b d e},X a d=some e->GK K->aad K a b-> SR K K w w [] []->Calls Tryz.prog 100 #[.agg b.toArray,.bool d] w (Ret (λz x=>∃y q,z=.agg q.toArray/\SR K y w x [] []/\aad y e q))
def aod(X:Bool->Int->Option (Except Int Unit)):Prop:=∀{K w a b q},X a b=some q->GK K-> SR K K w w [] []->Calls Tryz.prog 98 #[.bool a,iI b] w (RetP (λy z=>∃x,q=.ok ()/\y=.tuple #[]/\SR K x w z [] []) (λy z=>∃v x,q=.error v/\y=.iface 140 (.agg #[iI v])/\SR K x w z [] []))
def aoX(X:Option (List (Int×aaz))):Prop:=∀{K w a},X =some a->GK K-> SR K K w w [] []->Calls Tryz.prog 189 #[] w (Ret (λz x=>∃q br0 er0 y,z=.map (some br0)/\SR K q w x [] [.mp (zz w) br0 er0 y]/\MapR kI (VAgg (abe q)) a er0.toList))
def asN(X:Int->Int->Int->ooA):Prop:=∀{K w a b d e},X a b d=some e->GK K-> SR K K w w [] []->Calls Tryz.prog 77 #[iI a,iI b,iI d] w (Ret (λq z=>∃y,q=.bool e/\SR K y w z [] []))
def ao9(X:aae->ooA):Prop:=∀{K w a b d},X a=some d->GK K->aag K a b-> SR K K w w [] []->Calls Tryz.prog 190 #[.agg b.toArray] w (Ret (λq z=>∃y,q=.bool d/\SR K y w z [] []))
def atl(X:aaj->Int->ooB):Prop:=∀{K w g bs a b d e f h i j},X (aaj.mk a b d) e=some ((aaj.mk f h i),j)->GK K-> (λE:Ents=>SR K K w w E E->Calls Tryz.prog 76 #[.pointer (some ⟨g,0,none⟩),iI e] w (Ret (λq z=>∃y,q=.bool j/\SR K y w z E [.box bs g #[iI f,iI h,.bool i] 96]))) [.box bs g #[iI a,iI b,.bool d] 96]
def arb(X:Int->ooA):Prop:=∀{K w a b},X a=some b->GK K-> SR K K w w [] []->Calls Tryz.prog 135 #[.int .u8 a] w (Ret (λq z=>∃y,q=.bool b/\SR K y w z [] []))
def aoS(X:Int->ooA):Prop:=∀{K w a b},X a=some b->GK K-> SR K K w w [] []->Calls Tryz.prog 136 #[.int .u8 a] w (Ret (λq z=>∃y,q=.bool b/\SR K y w z [] []))
def apM(X:BA->ooA):Prop:=∀{K w a b},X a=some b->GK K->a.size<=mB-> SR K K w w [] []->Calls Tryz.prog 111 #[.string a] w (Ret (λq z=>∃y,q=.bool b/\SR K y w z [] []))
def apo(X:LB->BA->ooC):Prop:=∀{K w a d e b f},X a b=some f->GK K->RSl BA RStr 1 16 K d e a->b.size<=mB-> SR K K w w [] []->Calls Tryz.prog 165 #[sl d a e,.string b] w (Ret (λq z=>∃y,q=iI f/\SR K y w z [] []))
def aoZ(X:LB->BA->ooA):Prop:=∀{K w a d e b f},X a b=some f->GK K->RSl BA RStr 1 16 K d e a->b.size<=mB-> SR K K w w [] []->Calls Tryz.prog 137 #[sl d a e,.string b] w (Ret (λq z=>∃y,q=.bool f/\SR K y w z [] []))
def ak5(X:Option LB):Prop:=∀{K w a},X =some a->GK K-> SR K K w w [] []->Calls Tryz.prog 138 #[] w (Ret (λx v=>∃z q y,x=sl q a y/\SR K z w v [] []/\RSl BA RStr 1 16 z q y a))
def aqH(X:BA->ooA):Prop:=∀{K w a b},X a=some b->GK K->a.size<=mB-> SR K K w w [] []->Calls Tryz.prog 112 #[.string a] w (Ret (λq z=>∃y,q=.bool b/\SR K y w z [] []))
def atk(X:BA->ooA):Prop:=∀{K w a b},X a=some b->GK K->a.size<=mB-> SR K K w w [] []->Calls Tryz.prog 79 #[.string a] w (Ret (λq z=>∃y,q=.bool b/\SR K y w z [] []))
def aok(X:BA->ooA):Prop:=∀{K w a b},X a=some b->GK K->a.size<=mB-> SR K K w w [] []->Calls Tryz.prog 95 #[.string a] w (Ret (λq z=>∃y,q=.bool b/\SR K y w z [] []))
def anz(X:BA->ooA):Prop:=∀{K w a b},X a=some b->GK K->a.size<=mB-> SR K K w w [] []->Calls Tryz.prog 78 #[.string a] w (Ret (λq z=>∃y,q=.bool b/\SR K y w z [] []))
def aeK(X:aaj->aah->Int->ooB):Prop:=∀{K w g bs a b d e f h i j k l},X (aaj.mk a b d) e h=some ((aaj.mk i j k),l)->GK K->aai K e f-> (λE:Ents=>SR K K w w E E->Calls Tryz.prog 53 #[.pointer (some ⟨g,0,none⟩),.agg f.toArray,iI h] w (Ret (λq z=>∃y,q=.bool l/\SR K y w z E [.box bs g #[iI i,iI j,.bool k] 96]))) [.box bs g #[iI a,iI b,.bool d] 96]
def aeE(X:aaj->LE->Int->ooB):Prop:=∀{K w g bs a b d e f h i j k l m},X (aaj.mk a b d) e i=some ((aaj.mk j k l),m)->GK K->tE K f h e-> (λE:Ents=>SR K K w w E E->Calls Tryz.prog 80 #[.pointer (some ⟨g,0,none⟩),sl f e h,iI i] w (Ret (λq z=>∃y,q=.bool m/\SR K y w z E [.box bs g #[iI j,iI k,.bool l] 96]))) [.box bs g #[iI a,iI b,.bool d] 96]
def ac3(X:aaj->LS->Int->ooB):Prop:=∀{K w g bs a b d e f h i j k l m},X (aaj.mk a b d) e i=some ((aaj.mk j k l),m)->GK K->tS K f h e-> (λE:Ents=>SR K K w w E E->Calls Tryz.prog 156 #[.pointer (some ⟨g,0,none⟩),sl f e h,iI i] w (Ret (λq z=>∃y,q=.bool m/\SR K y w z E [.box bs g #[iI j,iI k,.bool l] 96]))) [.box bs g #[iI a,iI b,.bool d] 96]
def ac8(X:aaj->aae->Int->ooB):Prop:=∀{K w g bs a b d e f h i j k l},X (aaj.mk a b d) e h=some ((aaj.mk i j k),l)->GK K->aag K e f-> (λE:Ents=>SR K K w w E E->Calls Tryz.prog 177 #[.pointer (some ⟨g,0,none⟩),.agg f.toArray,iI h] w (Ret (λq z=>∃y,q=.bool l/\SR K y w z E [.box bs g #[iI i,iI j,.bool k] 96]))) [.box bs g #[iI a,iI b,.bool d] 96]
def acZ(X:aaj->aap->Int->ooB):Prop:=∀{K w g bs a b d e f h i j k l},X (aaj.mk a b d) e h=some ((aaj.mk i j k),l)->GK K->aaq K e f-> (λE:Ents=>SR K K w w E E->Calls Tryz.prog 191 #[.pointer (some ⟨g,0,none⟩),.agg f.toArray,iI h] w (Ret (λq z=>∃y,q=.bool l/\SR K y w z E [.box bs g #[iI i,iI j,.bool k] 96]))) [.box bs g #[iI a,iI b,.bool d] 96]
def aqN(X:aaj->aaa->ooB):Prop:=∀{K w g bs a b d e f h i j k},X (aaj.mk a b d) e=some ((aaj.mk h i j),k)->GK K->aad K e f-> (λE:Ents=>SR K K w w E E->Calls Tryz.prog 128 #[.pointer (some ⟨g,0,none⟩),.agg f.toArray] w (Ret (λq z=>∃y,q=.bool k/\SR K y w z E [.box bs g #[iI h,iI i,.bool j] 96]))) [.box bs g #[iI a,iI b,.bool d] 96]
def anV(X:aaa->Bool->ooA):Prop:=∀{K w a b d e},X a d=some e->GK K->aad K a b-> SR K K w w [] []->Calls Tryz.prog 99 #[.agg b.toArray,.bool d] w (Ret (λq z=>∃y,q=.bool e/\SR K y w z [] []))
def asI(X:aaa->Option (Except Int aaa)):Prop:=∀{K w a b q},X a=some q->GK K->aad K a b-> SR K K w w [] []->Calls Tryz.prog 70 #[.agg b.toArray] w (RetP (λx v=>∃d z y,q=.ok d/\x=.agg y.toArray/\SR K z w v [] []/\aad z d y) (λx v=>∃u z,q=.error u/\x=.iface 140 (.agg #[iI u])/\SR K z w v [] []))
def aj1(X:aaa->aaa->ooQ):Prop:=∀{K w g bs a b d gA bsA sA_0 AsA_0 csA_0 q},X (aaa.mk a) (aaa.mk sA_0)=some q->GK K->tF K b d a->tF K AsA_0 csA_0 sA_0-> (λE:Ents=>SR K K w w E E->Calls Tryz.prog 69 #[.pointer (some ⟨g,0,none⟩),.pointer (some ⟨gA,0,none⟩)] w (RetP (λv u=>∃e zA_0 z x y AzA_0 czA_0,q=.ok ((aaa.mk e),(aaa.mk zA_0))/\v=.tuple #[]/\SR K z w u E [.box bs g #[sl x e y] 24,.box bsA gA #[sl AzA_0 zA_0 czA_0] 24]/\tF z x y e/\tF z AzA_0 czA_0 zA_0) (λv u=>∃t z,q=.error t/\v=.iface 140 (.agg #[iI t])/\SR K z w u E E))) [.box bs g #[sl b a d] 24,.box bsA gA #[sl AsA_0 sA_0 csA_0] 24]
def afQ(X:aaa->aaa->ooU):Prop:=∀{K w g bs a b d gA bsA sA_0 AsA_0 csA_0 e zA_0 f},X (aaa.mk a) (aaa.mk sA_0)=some ((aaa.mk e),(aaa.mk zA_0),f)->GK K->tF K b d a->tF K AsA_0 csA_0 sA_0-> (λE:Ents=>SR K K w w E E->Calls Tryz.prog 68 #[.func (.func 69) #[] #[.pointer (some ⟨g,0,none⟩),.pointer (some ⟨gA,0,none⟩)]] w (Ret (λx v=>∃z y q AzA_0 czA_0,x=iI f/\SR K z w v E [.box bs g #[sl y e q] 24,.box bsA gA #[sl AzA_0 zA_0 czA_0] 24]/\tF z y q e/\tF z AzA_0 czA_0 zA_0))) [.box bs g #[sl b a d] 24,.box bsA gA #[sl AsA_0 sA_0 csA_0] 24]
def att(X:aaa->ooI):Prop:=∀{K w a b d e},X a=some (d,e)->GK K->aad K a b-> SR K K w w [] []->Calls Tryz.prog 46 #[.agg b.toArray] w (Ret (λz x=>∃y q,z=.tuple #[.agg q.toArray,iI e]/\SR K y w x [] []/\aad y d q))
def ajB(X:aab->aab->ooA):Prop:=∀{K w m n g bs a b e f h i j d k l o},X m (aab.mk a b h i j d)=some o->GK K->aak K m n->a.size<=mB->tP K e f b->tS K k l d-> (λE:Ents=>SR K K w w E E->Calls Tryz.prog 103 #[.agg n.toArray,.pointer (some ⟨g,0,none⟩)] w (Ret (λq z=>∃y,q=.bool o/\SR K y w z E E))) [.box bs g (aF a e b f h i j k d l) 52]
def ake(X:LF->aab->ooC):Prop:=∀{K w m n o g bs a b e f h i j d k l p},X m (aab.mk a b h i j d)=some p->GK K->tF K n o m->a.size<=mB->tP K e f b->tS K k l d-> (λE:Ents=>SR K K w w E E->Calls Tryz.prog 132 #[sl n m o,.func (.func 103) #[] #[.pointer (some ⟨g,0,none⟩)]] w (Ret (λq z=>∃y,q=iI p/\SR K y w z E E))) [.box bs g (aF a e b f h i j k d l) 52]
def afF(X:LF->aab->ooA):Prop:=∀{K w m n o g bs a b e f h i j d k l p},X m (aab.mk a b h i j d)=some p->GK K->tF K n o m->a.size<=mB->tP K e f b->tS K k l d-> (λE:Ents=>SR K K w w E E->Calls Tryz.prog 102 #[sl n m o,.func (.func 103) #[] #[.pointer (some ⟨g,0,none⟩)]] w (Ret (λq z=>∃y,q=.bool p/\SR K y w z E E))) [.box bs g (aF a e b f h i j k d l) 52]
def ao2(X:aaf->BA->Option (Int×Bool)):Prop:=∀{K w g bs br i m n j k o p q r s l t u a d e v b f h x y z A B},X (aaf.mk (aaa.mk i) (aab.mk j k q r s l) a b y) z=some (A,B)->GK K->tF K m n i->j.size<=mB->tP K o p k->tS K t u l->Reps RStr 1 a v->a.length*16<=mB->StkR kS VInt b x->b.length*8<=mB->br<=(zz w)->z.size<=mB-> (λE:Ents=>SR K K w w E E->Calls Tryz.prog 160 #[.pointer (some ⟨g,0,none⟩),.string z] w (Ret (λQ Z=>∃Y,Q=.tuple #[iI A,.bool B]/\SR K Y w Z E E))) [.box bs g (aR m i n j o k p q r s t l u d a e f b h y) 176,eW br d a e 9 1 v,eK br f b h 173 x]
def aqK(X:aaf->BA->Option (Except Int (aaf×Int))):Prop:=∀{K w g bs br i o p j k q r s t u l v x a d e y b f h z A B H},X (aaf.mk (aaa.mk i) (aab.mk j k s t u l) a b A) B=some H->GK K->tF K o p i->j.size<=mB->tP K q r k->tS K v x l->Reps RStr 1 a y->a.length*16<=mB->StkR kS VInt b z->b.length*8<=mB->br<=(zz w)->B.size<=mB-> (λE:Ents=>SR K K w w E E->Calls Tryz.prog 133 #[.pointer (some ⟨g,0,none⟩),.string B] w (RetP (λv_ w_=>∃C D G J N O I m n S U F L Q Y V T Z q0 z0 y0 x0 v0 u0,H=.ok ((aaf.mk (aaa.mk C) (aab.mk D G J N O I) m n S),U)/\v_=iI U/\SR K F w w_ E [.box bs g (aR L C Q D Y G V J N O T I Z q0 m z0 x0 n v0 S) 176,eW br q0 m z0 9 1 y0,eK br x0 n v0 173 u0]/\tF F L Q C/\D.size<=mB/\tP F Y V G/\tS F T Z I/\Reps RStr 1 m y0/\m.length*16<=mB/\StkR kS VInt n u0/\n.length*8<=mB) (λv_ w_=>∃c_ F,H=.error c_/\v_=.iface 140 (.agg #[iI c_])/\SR K F w w_ E []))) [.box bs g (aR o i p j q k r s t u v l x d a e f b h A) 176,eW br d a e 9 1 y,eK br f b h 173 z]
def akl(X:aah->aaf->Option (Except Int Int)):Prop:=∀{K w z A gr bsr g bs br i m n j k o p q r s l t u a d e v b f h x y Q},X z (aaf.mk (aaa.mk i) (aab.mk j k q r s l) a b y)=some Q->GK K->aai K z A->tF K m n i->j.size<=mB->tP K o p k->tS K t u l->Reps RStr 1 a v->a.length*16<=mB->StkR kS VInt b x->b.length*8<=mB->br<=(zz w)-> (λE:Ents=>SR K K w w E E->Calls Tryz.prog 179 #[.agg A.toArray,.pointer (some ⟨gr,0,none⟩)] w (RetP (λY Z=>∃B V,Q=.ok B/\Y=iI B/\SR K V w Z E E) (λY Z=>∃U V,Q=.error U/\Y=.iface 140 (.agg #[iI U])/\SR K V w Z E []))) [.box bsr gr #[.pointer (some ⟨g,0,none⟩)] 172,.box bs g (aR m i n j o k p q r s t l u d a e f b h y) 176,eW br d a e 9 1 v,eK br f b h 173 x]
def abM(X:LE->aaf->ooS):Prop:=∀{K w z B C gr bsr g bs br i m n j k o p q r s l t u a d e v b f h x y Q},X z (aaf.mk (aaa.mk i) (aab.mk j k q r s l) a b y)=some Q->GK K->tE K B C z->tF K m n i->j.size<=mB->tP K o p k->tS K t u l->Reps RStr 1 a v->a.length*16<=mB->StkR kS VInt b x->b.length*8<=mB->br<=(zz w)-> (λE:Ents=>SR K K w w E E->Calls Tryz.prog 159 #[sl B z C,.func (.func 179) #[] #[.pointer (some ⟨gr,0,none⟩)]] w (RetP (λU T=>∃A Y Z V,Q=.ok A/\U=sl Z A V/\SR K Y w T E E/\tE Y Z V A) (λU T=>∃S Y,Q=.error S/\U=.iface 140 (.agg #[iI S])/\SR K Y w T E []))) [.box bsr gr #[.pointer (some ⟨g,0,none⟩)] 172,.box bs g (aR m i n j o k p q r s t l u d a e f b h y) 176,eW br d a e 9 1 v,eK br f b h 173 x]
def abO(X:aah->aaf->ooY):Prop:=∀{K w z A gr bsr g bs br i m n j k o p q r s l t u a d e v b f h x y Q},X z (aaf.mk (aaa.mk i) (aab.mk j k q r s l) a b y)=some Q->GK K->aai K z A->tF K m n i->j.size<=mB->tP K o p k->tS K t u l->Reps RStr 1 a v->a.length*16<=mB->StkR kS VInt b x->b.length*8<=mB->br<=(zz w)-> (λE:Ents=>SR K K w w E E->Calls Tryz.prog 178 #[.agg A.toArray,.func (.func 179) #[] #[.pointer (some ⟨gr,0,none⟩)]] w (RetP (λV U=>∃B Z Y,Q=.ok B/\V=.agg Y.toArray/\SR K Z w U E E/\aai Z B Y) (λV U=>∃T Z,Q=.error T/\V=.iface 140 (.agg #[iI T])/\SR K Z w U E []))) [.box bsr gr #[.pointer (some ⟨g,0,none⟩)] 172,.box bs g (aR m i n j o k p q r s t l u d a e f b h y) 176,eW br d a e 9 1 v,eK br f b h 173 x]
def api(X:aaf->LE->ooS):Prop:=∀{K w g bs br i m n j k o p q r s l t u a d e v b f h x y z B C Q},X (aaf.mk (aaa.mk i) (aab.mk j k q r s l) a b y) z=some Q->GK K->tF K m n i->j.size<=mB->tP K o p k->tS K t u l->Reps RStr 1 a v->a.length*16<=mB->StkR kS VInt b x->b.length*8<=mB->br<=(zz w)->tE K B C z-> (λE:Ents=>SR K K w w E E->Calls Tryz.prog 161 #[.pointer (some ⟨g,0,none⟩),sl B z C] w (RetP (λU T=>∃A Y Z V,Q=.ok A/\U=sl Z A V/\SR K Y w T E E/\tE Y Z V A) (λU T=>∃S Y,Q=.error S/\U=.iface 140 (.agg #[iI S])/\SR K Y w T E []))) [.box bs g (aR m i n j o k p q r s t l u d a e f b h y) 176,eW br d a e 9 1 v,eK br f b h 173 x]
def aj4(X:aab->aae->ooA):Prop:=∀{K w y z gr bsr g bs j a k b l m d n o e p q f r s h t u i v x A},X y (aae.mk j a k b l m d e f h i)=some A->GK K->aak K y z->a.size<=mB->b.size<=mB->tE K n o d->tS K p q e->tS K r s f->tS K t u h->tC K v x i-> (λE:Ents=>SR K K w w E E->Calls Tryz.prog 180 #[.agg z.toArray,.pointer (some ⟨gr,0,none⟩)] w (Ret (λQ Z=>∃Y,Q=.bool A/\SR K Y w Z E E))) [.box bsr gr #[.pointer (some ⟨g,0,none⟩)] 206,.box bs g (aS j a k b l m n d o p e q r f s t h u v i x) 62]
def ajL(X:LF->aae->ooC):Prop:=∀{K w y z A gr bsr g bs j a k b l m d n o e p q f r s h t u i v x B},X y (aae.mk j a k b l m d e f h i)=some B->GK K->tF K z A y->a.size<=mB->b.size<=mB->tE K n o d->tS K p q e->tS K r s f->tS K t u h->tC K v x i-> (λE:Ents=>SR K K w w E E->Calls Tryz.prog 132 #[sl z y A,.func (.func 180) #[] #[.pointer (some ⟨gr,0,none⟩)]] w (Ret (λQ Z=>∃Y,Q=iI B/\SR K Y w Z E E))) [.box bsr gr #[.pointer (some ⟨g,0,none⟩)] 206,.box bs g (aS j a k b l m n d o p e q r f s t h u v i x) 62]
def arE(X:aaf->aae->ooF):Prop:=∀{K w g bs br i o p j k q r s t u l v x a d e y b f h z A gA bsA sA_0 sA_1 sA_2 sA_3 sA_4 sA_5 sA_6 AsA_6 csA_6 sA_7 AsA_7 csA_7 sA_8 AsA_8 csA_8 sA_9 AsA_9 csA_9 sA_10 AsA_10 csA_10 L},X (aaf.mk (aaa.mk i) (aab.mk j k s t u l) a b A) (aae.mk sA_0 sA_1 sA_2 sA_3 sA_4 sA_5 sA_6 sA_7 sA_8 sA_9 sA_10)=some L->GK K->tF K o p i->j.size<=mB->tP K q r k->tS K v x l->Reps RStr 1 a y->a.length*16<=mB->StkR kS VInt b z->b.length*8<=mB->br<=(zz w)->sA_1.size<=mB->sA_3.size<=mB->tE K AsA_6 csA_6 sA_6->tS K AsA_7 csA_7 sA_7->tS K AsA_8 csA_8 sA_8->tS K AsA_9 csA_9 sA_9->tC K AsA_10 csA_10 sA_10-> (λE:Ents=>SR K K w w E E->Calls Tryz.prog 163 #[.pointer (some ⟨g,0,none⟩),.pointer (some ⟨gA,0,none⟩)] w (RetP (λv_ w_=>∃B C D I J N G m n O zA_0 zA_1 zA_2 zA_3 zA_4 zA_5 zA_6 zA_7 zA_8 zA_9 zA_10 Q S Y Z U T V H q0 F y0 z0 x0 AzA_6 czA_6 AzA_7 czA_7 AzA_8 czA_8 AzA_9 czA_9 AzA_10 czA_10,L=.ok ((aaf.mk (aaa.mk B) (aab.mk C D I J N G) m n O),(aae.mk zA_0 zA_1 zA_2 zA_3 zA_4 zA_5 zA_6 zA_7 zA_8 zA_9 zA_10))/\v_=.tuple #[]/\SR K Q w w_ E [.box bs g (aR S B Y C Z D U I J N T G V H m q0 y0 n z0 O) 176,eW br H m q0 9 1 F,eK br y0 n z0 173 x0,.box bsA gA (aS zA_0 zA_1 zA_2 zA_3 zA_4 zA_5 AzA_6 zA_6 czA_6 AzA_7 zA_7 czA_7 AzA_8 zA_8 czA_8 AzA_9 zA_9 czA_9 AzA_10 zA_10 czA_10) 62]/\tF Q S Y B/\C.size<=mB/\tP Q Z U D/\tS Q T V G/\Reps RStr 1 m F/\m.length*16<=mB/\StkR kS VInt n x0/\n.length*8<=mB/\zA_1.size<=mB/\zA_3.size<=mB/\tE Q AzA_6 czA_6 zA_6/\tS Q AzA_7 czA_7 zA_7/\tS Q AzA_8 czA_8 zA_8/\tS Q AzA_9 czA_9 zA_9/\tC Q AzA_10 czA_10 zA_10) (λv_ w_=>∃c_ Q,L=.error c_/\v_=.iface 140 (.agg #[iI c_])/\SR K Q w w_ E []))) [.box bs g (aR o i p j q k r s t u v l x d a e f b h A) 176,eW br d a e 9 1 y,eK br f b h 173 z,.box bsA gA (aS sA_0 sA_1 sA_2 sA_3 sA_4 sA_5 AsA_6 sA_6 csA_6 AsA_7 sA_7 csA_7 AsA_8 sA_8 csA_8 AsA_9 sA_9 csA_9 AsA_10 sA_10 csA_10) 62]
def abX(X:aaf->aae->ooF):Prop:=∀{K w g bs br i o p j k q r s t u l v x a d e y b f h z A I J q0},X (aaf.mk (aaa.mk i) (aab.mk j k s t u l) a b A) I=some q0->GK K->tF K o p i->j.size<=mB->tP K q r k->tS K v x l->Reps RStr 1 a y->a.length*16<=mB->StkR kS VInt b z->b.length*8<=mB->br<=(zz w)->aag K I J-> (λE:Ents=>SR K K w w E E->Calls Tryz.prog 134 #[.pointer (some ⟨g,0,none⟩),.agg J.toArray] w (RetP (λv_ w_=>∃B C D N O S G m n U V F H Q Y T L Z y0 x0 z0 u0 t0 s0 v0,q0=.ok ((aaf.mk (aaa.mk B) (aab.mk C D N O S G) m n U),V)/\v_=.agg v0.toArray/\SR K F w w_ E [.box bs g (aR H B Q C Y D T N O S L G Z y0 m x0 u0 n t0 U) 176,eW br y0 m x0 9 1 z0,eK br u0 n t0 173 s0]/\tF F H Q B/\C.size<=mB/\tP F Y T D/\tS F L Z G/\Reps RStr 1 m z0/\m.length*16<=mB/\StkR kS VInt n s0/\n.length*8<=mB/\aag F V v0) (λv_ w_=>∃c_ F,q0=.error c_/\v_=.iface 140 (.agg #[iI c_])/\SR K F w w_ E []))) [.box bs g (aR o i p j q k r s t u v l x d a e f b h A) 176,eW br d a e 9 1 y,eK br f b h 173 z]
def aa8(X:aaf->BA->LS->aap->ooM):Prop:=∀{K w g bs br i o p j k q r s t u l v x a d e y b f h z A B C O S gA bsA sA_0 sA_1 sA_2 sA_3 AsA_3 csA_3 sA_4 AsA_4 csA_4 y0},X (aaf.mk (aaa.mk i) (aab.mk j k s t u l) a b A) B C (aap.mk sA_0 sA_1 sA_2 sA_3 sA_4)=some y0->GK K->tF K o p i->j.size<=mB->tP K q r k->tS K v x l->Reps RStr 1 a y->a.length*16<=mB->StkR kS VInt b z->b.length*8<=mB->br<=(zz w)->B.size<=mB->tS K O S C->sA_1.size<=mB->tE K AsA_3 csA_3 sA_3->tS K AsA_4 csA_4 sA_4-> (λE:Ents=>SR K K w w E E->Calls Tryz.prog 162 #[.pointer (some ⟨g,0,none⟩),.string B,sl O C S,.pointer (some ⟨gA,2,none⟩)] w (RetP (λv_ w_=>∃D G I U V W J m n Y zA_0 zA_1 zA_2 zA_3 zA_4 N Q q0 F H T L Z x0 z0 u0 v0 s0 t0 AzA_3 czA_3 AzA_4 czA_4 p0 m0,y0=.ok ((aaf.mk (aaa.mk D) (aab.mk G I U V W J) m n Y),(aap.mk zA_0 zA_1 zA_2 zA_3 zA_4),N)/\v_=sl p0 N m0/\SR K Q w w_ E [.box bs g (aR q0 D F G H I T U V W L J Z x0 m z0 v0 n s0 Y) 176,eW br x0 m z0 9 1 u0,eK br v0 n s0 173 t0,.box bsA gA (aC' zA_0 zA_1 zA_2 AzA_3 zA_3 czA_3 AzA_4 zA_4 czA_4) 84]/\tF Q q0 F D/\G.size<=mB/\tP Q H T I/\tS Q L Z J/\Reps RStr 1 m u0/\m.length*16<=mB/\StkR kS VInt n t0/\n.length*8<=mB/\zA_1.size<=mB/\tE Q AzA_3 czA_3 zA_3/\tS Q AzA_4 czA_4 zA_4/\tS Q p0 m0 N) (λv_ w_=>∃c_ Q,y0=.error c_/\v_=.iface 140 (.agg #[iI c_])/\SR K Q w w_ E []))) [.box bs g (aR o i p j q k r s t u v l x d a e f b h A) 176,eW br d a e 9 1 y,eK br f b h 173 z,.box bsA gA (aC' sA_0 sA_1 sA_2 AsA_3 sA_3 csA_3 AsA_4 sA_4 csA_4) 84]
def aa4(X:aaf->BA->LS->aae->ooG):Prop:=∀{K w g bs br i o p j k q r s t u l v x a d e y b f h z A B C O S gA bsA sA_0 sA_1 sA_2 sA_3 sA_4 sA_5 sA_6 AsA_6 csA_6 sA_7 AsA_7 csA_7 sA_8 AsA_8 csA_8 sA_9 AsA_9 csA_9 sA_10 AsA_10 csA_10 y0},X (aaf.mk (aaa.mk i) (aab.mk j k s t u l) a b A) B C (aae.mk sA_0 sA_1 sA_2 sA_3 sA_4 sA_5 sA_6 sA_7 sA_8 sA_9 sA_10)=some y0->GK K->tF K o p i->j.size<=mB->tP K q r k->tS K v x l->Reps RStr 1 a y->a.length*16<=mB->StkR kS VInt b z->b.length*8<=mB->br<=(zz w)->B.size<=mB->tS K O S C->sA_1.size<=mB->sA_3.size<=mB->tE K AsA_6 csA_6 sA_6->tS K AsA_7 csA_7 sA_7->tS K AsA_8 csA_8 sA_8->tS K AsA_9 csA_9 sA_9->tC K AsA_10 csA_10 sA_10-> (λE:Ents=>SR K K w w E E->Calls Tryz.prog 162 #[.pointer (some ⟨g,0,none⟩),.string B,sl O C S,.pointer (some ⟨gA,2,none⟩)] w (RetP (λv_ w_=>∃D G I U V W J m n Y zA_0 zA_1 zA_2 zA_3 zA_4 zA_5 zA_6 zA_7 zA_8 zA_9 zA_10 N Q q0 F H T L Z x0 z0 u0 v0 s0 t0 AzA_6 czA_6 AzA_7 czA_7 AzA_8 czA_8 AzA_9 czA_9 AzA_10 czA_10 p0 m0,y0=.ok ((aaf.mk (aaa.mk D) (aab.mk G I U V W J) m n Y),(aae.mk zA_0 zA_1 zA_2 zA_3 zA_4 zA_5 zA_6 zA_7 zA_8 zA_9 zA_10),N)/\v_=sl p0 N m0/\SR K Q w w_ E [.box bs g (aR q0 D F G H I T U V W L J Z x0 m z0 v0 n s0 Y) 176,eW br x0 m z0 9 1 u0,eK br v0 n s0 173 t0,.box bsA gA (aS zA_0 zA_1 zA_2 zA_3 zA_4 zA_5 AzA_6 zA_6 czA_6 AzA_7 zA_7 czA_7 AzA_8 zA_8 czA_8 AzA_9 zA_9 czA_9 AzA_10 zA_10 czA_10) 62]/\tF Q q0 F D/\G.size<=mB/\tP Q H T I/\tS Q L Z J/\Reps RStr 1 m u0/\m.length*16<=mB/\StkR kS VInt n t0/\n.length*8<=mB/\zA_1.size<=mB/\zA_3.size<=mB/\tE Q AzA_6 czA_6 zA_6/\tS Q AzA_7 czA_7 zA_7/\tS Q AzA_8 czA_8 zA_8/\tS Q AzA_9 czA_9 zA_9/\tC Q AzA_10 czA_10 zA_10/\tS Q p0 m0 N) (λv_ w_=>∃c_ Q,y0=.error c_/\v_=.iface 140 (.agg #[iI c_])/\SR K Q w w_ E []))) [.box bs g (aR o i p j q k r s t u v l x d a e f b h A) 176,eW br d a e 9 1 y,eK br f b h 173 z,.box bsA gA (aS sA_0 sA_1 sA_2 sA_3 sA_4 sA_5 AsA_6 sA_6 csA_6 AsA_7 sA_7 csA_7 AsA_8 sA_8 csA_8 AsA_9 sA_9 csA_9 AsA_10 sA_10 csA_10) 62]
def aba(X:aaf->BA->LS->ooK):Prop:=∀{K w g bs br i o p j k q r s t u l v x a d e y b f h z A B C O S y0},X (aaf.mk (aaa.mk i) (aab.mk j k s t u l) a b A) B C=some y0->GK K->tF K o p i->j.size<=mB->tP K q r k->tS K v x l->Reps RStr 1 a y->a.length*16<=mB->StkR kS VInt b z->b.length*8<=mB->br<=(zz w)->B.size<=mB->tS K O S C-> (λE:Ents=>SR K K w w E E->Calls Tryz.prog 162 #[.pointer (some ⟨g,0,none⟩),.string B,sl O C S,.pointer none] w (RetP (λv_ w_=>∃D G I U V W J m n Y N K_ F H L Z T Q x0 z0 u0 v0 s0 t0 p0 m0,y0=.ok ((aaf.mk (aaa.mk D) (aab.mk G I U V W J) m n Y),N)/\v_=sl p0 N m0/\SR K K_ w w_ E [.box bs g (aR F D H G L I Z U V W T J Q x0 m z0 v0 n s0 Y) 176,eW br x0 m z0 9 1 u0,eK br v0 n s0 173 t0]/\tF K_ F H D/\G.size<=mB/\tP K_ L Z I/\tS K_ T Q J/\Reps RStr 1 m u0/\m.length*16<=mB/\StkR kS VInt n t0/\n.length*8<=mB/\tS K_ p0 m0 N) (λv_ w_=>∃c_ K_,y0=.error c_/\v_=.iface 140 (.agg #[iI c_])/\SR K K_ w w_ E []))) [.box bs g (aR o i p j q k r s t u v l x d a e f b h A) 176,eW br d a e 9 1 y,eK br f b h 173 z]
def aaZ(X:aaf->BA->LS->aae->ooG):Prop:=∀{K w g bs br i o p j k q r s t u l v x a d e y b f h z A B C O S gA bsA sA_0 sA_1 sA_2 sA_3 sA_4 sA_5 sA_6 AsA_6 csA_6 sA_7 AsA_7 csA_7 sA_8 AsA_8 csA_8 sA_9 AsA_9 csA_9 sA_10 AsA_10 csA_10 y0},X (aaf.mk (aaa.mk i) (aab.mk j k s t u l) a b A) B C (aae.mk sA_0 sA_1 sA_2 sA_3 sA_4 sA_5 sA_6 sA_7 sA_8 sA_9 sA_10)=some y0->GK K->tF K o p i->j.size<=mB->tP K q r k->tS K v x l->Reps RStr 1 a y->a.length*16<=mB->StkR kS VInt b z->b.length*8<=mB->br<=(zz w)->B.size<=mB->tS K O S C->sA_1.size<=mB->sA_3.size<=mB->tE K AsA_6 csA_6 sA_6->tS K AsA_7 csA_7 sA_7->tS K AsA_8 csA_8 sA_8->tS K AsA_9 csA_9 sA_9->tC K AsA_10 csA_10 sA_10-> (λE:Ents=>SR K K w w E E->Calls Tryz.prog 164 #[.pointer (some ⟨g,0,none⟩),.string B,sl O C S,.pointer (some ⟨gA,2,none⟩)] w (RetP (λv_ w_=>∃D G I U V W J m n Y zA_0 zA_1 zA_2 zA_3 zA_4 zA_5 zA_6 zA_7 zA_8 zA_9 zA_10 N Q q0 F H T L Z x0 z0 u0 v0 s0 t0 AzA_6 czA_6 AzA_7 czA_7 AzA_8 czA_8 AzA_9 czA_9 AzA_10 czA_10 p0 m0,y0=.ok ((aaf.mk (aaa.mk D) (aab.mk G I U V W J) m n Y),(aae.mk zA_0 zA_1 zA_2 zA_3 zA_4 zA_5 zA_6 zA_7 zA_8 zA_9 zA_10),N)/\v_=sl p0 N m0/\SR K Q w w_ E [.box bs g (aR q0 D F G H I T U V W L J Z x0 m z0 v0 n s0 Y) 176,eW br x0 m z0 9 1 u0,eK br v0 n s0 173 t0,.box bsA gA (aS zA_0 zA_1 zA_2 zA_3 zA_4 zA_5 AzA_6 zA_6 czA_6 AzA_7 zA_7 czA_7 AzA_8 zA_8 czA_8 AzA_9 zA_9 czA_9 AzA_10 zA_10 czA_10) 62]/\tF Q q0 F D/\G.size<=mB/\tP Q H T I/\tS Q L Z J/\Reps RStr 1 m u0/\m.length*16<=mB/\StkR kS VInt n t0/\n.length*8<=mB/\zA_1.size<=mB/\zA_3.size<=mB/\tE Q AzA_6 czA_6 zA_6/\tS Q AzA_7 czA_7 zA_7/\tS Q AzA_8 czA_8 zA_8/\tS Q AzA_9 czA_9 zA_9/\tC Q AzA_10 czA_10 zA_10/\tS Q p0 m0 N) (λv_ w_=>∃c_ Q,y0=.error c_/\v_=.iface 140 (.agg #[iI c_])/\SR K Q w w_ E []))) [.box bs g (aR o i p j q k r s t u v l x d a e f b h A) 176,eW br d a e 9 1 y,eK br f b h 173 z,.box bsA gA (aS sA_0 sA_1 sA_2 sA_3 sA_4 sA_5 AsA_6 sA_6 csA_6 AsA_7 sA_7 csA_7 AsA_8 sA_8 csA_8 AsA_9 sA_9 csA_9 AsA_10 sA_10 csA_10) 62]
def aa1(X:aaf->BA->LS->ooK):Prop:=∀{K w g bs br i o p j k q r s t u l v x a d e y b f h z A B C O S y0},X (aaf.mk (aaa.mk i) (aab.mk j k s t u l) a b A) B C=some y0->GK K->tF K o p i->j.size<=mB->tP K q r k->tS K v x l->Reps RStr 1 a y->a.length*16<=mB->StkR kS VInt b z->b.length*8<=mB->br<=(zz w)->B.size<=mB->tS K O S C-> (λE:Ents=>SR K K w w E E->Calls Tryz.prog 164 #[.pointer (some ⟨g,0,none⟩),.string B,sl O C S,.pointer none] w (RetP (λv_ w_=>∃D G I U V W J m n Y N K_ F H L Z T Q x0 z0 u0 v0 s0 t0 p0 m0,y0=.ok ((aaf.mk (aaa.mk D) (aab.mk G I U V W J) m n Y),N)/\v_=sl p0 N m0/\SR K K_ w w_ E [.box bs g (aR F D H G L I Z U V W T J Q x0 m z0 v0 n s0 Y) 176,eW br x0 m z0 9 1 u0,eK br v0 n s0 173 t0]/\tF K_ F H D/\G.size<=mB/\tP K_ L Z I/\tS K_ T Q J/\Reps RStr 1 m u0/\m.length*16<=mB/\StkR kS VInt n t0/\n.length*8<=mB/\tS K_ p0 m0 N) (λv_ w_=>∃c_ K_,y0=.error c_/\v_=.iface 140 (.agg #[iI c_])/\SR K K_ w w_ E []))) [.box bs g (aR o i p j q k r s t u v l x d a e f b h A) 176,eW br d a e 9 1 y,eK br f b h 173 z]
def ak6(X:aaa->aab->ooR):Prop:=∀{K w b d e f q},X b e=some q->GK K->aad K b d->aak K e f-> SR K K w w [] []->Calls Tryz.prog 104 #[.agg d.toArray,.agg f.toArray] w (RetP (λu t=>∃g a z y x v,q=.ok (g,a)/\u=.tuple #[.agg y.toArray,sl x a v]/\SR K z w t [] []/\aak z g y/\RSl BA RStr 1 16 z x v a) (λu t=>∃s z,q=.error s/\u=.iface 140 (.agg #[iI s])/\SR K z w t [] []))
def anu(X:aaa->Option (Except Int (aaa×(List LB)))):Prop:=∀(K:KH) (w:World) (b:aaa) (d:List Value) (q:(Except Int (aaa×(List LB)))),X b=some q->GK K->aad K b d-> SR K K w w [] []->Calls Tryz.prog 72 #[.agg d.toArray] w (RetP (λu t=>∃e a y z x v,q=.ok (e,a)/\u=.tuple #[.agg z.toArray,sl x a v]/\SR K y w t [] []/\aad y e z/\RSl LB (RSlE BA (λK=>RStr) 1 16 y) 1 24 y x v a) (λu t=>∃s y,q=.error s/\u=.iface 140 (.agg #[iI s])/\SR K y w t [] []))
def akw(X:aaa->aaa->ooQ):Prop:=∀{K w g bs a b d gA bsA sA_0 AsA_0 csA_0 q},X (aaa.mk a) (aaa.mk sA_0)=some q->GK K->tF K b d a->tF K AsA_0 csA_0 sA_0-> (λE:Ents=>SR K K w w E E->Calls Tryz.prog 71 #[.pointer (some ⟨g,0,none⟩),.pointer (some ⟨gA,0,none⟩)] w (RetP (λv u=>∃e zA_0 z x y AzA_0 czA_0,q=.ok ((aaa.mk e),(aaa.mk zA_0))/\v=.tuple #[]/\SR K z w u E [.box bs g #[sl x e y] 24,.box bsA gA #[sl AzA_0 zA_0 czA_0] 24]/\tF z x y e/\tF z AzA_0 czA_0 zA_0) (λv u=>∃t z,q=.error t/\v=.iface 140 (.agg #[iI t])/\SR K z w u E E))) [.box bs g #[sl b a d] 24,.box bsA gA #[sl AsA_0 sA_0 csA_0] 24]
def afr(X:aaa->aaa->ooU):Prop:=∀{K w g bs a b d gA bsA sA_0 AsA_0 csA_0 e zA_0 f},X (aaa.mk a) (aaa.mk sA_0)=some ((aaa.mk e),(aaa.mk zA_0),f)->GK K->tF K b d a->tF K AsA_0 csA_0 sA_0-> (λE:Ents=>SR K K w w E E->Calls Tryz.prog 68 #[.func (.func 71) #[] #[.pointer (some ⟨g,0,none⟩),.pointer (some ⟨gA,0,none⟩)]] w (Ret (λx v=>∃z y q AzA_0 czA_0,x=iI f/\SR K z w v E [.box bs g #[sl y e q] 24,.box bsA gA #[sl AzA_0 zA_0 czA_0] 24]/\tF z y q e/\tF z AzA_0 czA_0 zA_0))) [.box bs g #[sl b a d] 24,.box bsA gA #[sl AsA_0 sA_0 csA_0] 24]
def asV(X:aaa->ooI):Prop:=∀{K w a b d e},X a=some (d,e)->GK K->aad K a b-> SR K K w w [] []->Calls Tryz.prog 47 #[.agg b.toArray] w (Ret (λz x=>∃y q,z=.tuple #[.agg q.toArray,iI e]/\SR K y w x [] []/\aad y d q))
def asp(X:Option (List (Int×aax))):Prop:=∀{K w a},X =some a->GK K-> SR K K w w [] []->Calls Tryz.prog 56 #[] w (Ret (λz x=>∃q br0 er0 y,z=.map (some br0)/\SR K q w x [] [.mp (zz w) br0 er0 y]/\MapR kI (VAgg (aal q)) a er0.toList))
def ash(X:(List Int)->Int->ooC):Prop:=∀{K w a b d e f},X a e=some f->GK K->RSl Int (RInt .i64) 1 8 K b d a-> SR K K w w [] []->Calls Tryz.prog 83 #[sl b a d,iI e] w (Ret (λq z=>∃y,q=iI f/\SR K y w z [] []))
def asD(X:(List Int)->Int->ooA):Prop:=∀{K w a b d e f},X a e=some f->GK K->RSl Int (RInt .i64) 1 8 K b d a-> SR K K w w [] []->Calls Tryz.prog 57 #[sl b a d,iI e] w (Ret (λq z=>∃y,q=.bool f/\SR K y w z [] []))
def afO(X:aah->(List Int)->ooC):Prop:=∀{K w b d a e f g},X b a=some g->GK K->aai K b d->RSl Int (RInt .i64) 1 8 K e f a-> SR K K w w [] []->Calls Tryz.prog 33 #[.agg d.toArray,sl e a f] w (Ret (λq z=>∃y,q=iI g/\SR K y w z [] []))
def aqy(X:aat->LE->(List Int)->ooA):Prop:=∀{K w g bs br e j k f h l m n o p i q r a b d s t v x u y z A},X (aat.mk (aaa.mk e) (aab.mk f h n o p i) a) t u=some A->GK K->tF K j k e->f.size<=mB->tP K l m h->tS K q r i->Reps (RInt .i64) 1 a s->a.length*8<=mB->br<=(zz w)->tE K v x t->RSl Int (RInt .i64) 1 8 K y z u-> (λE:Ents=>SR K K w w E E->Calls Tryz.prog 105 #[.pointer (some ⟨g,0,none⟩),sl v t x,sl y u z] w (Ret (λQ Z=>∃Y,Q=.bool A/\SR K Y w Z E E))) [.box bs g #[sl j e k,.string f,sl l h m,iI n,.bool o,iI p,sl q i r,sl b a d] 87,eW br b a d 3 1 s]
def apk(X:Option (List (Int×(List Int)))):Prop:=∀{K w a},X =some a->GK K-> SR K K w w [] []->Calls Tryz.prog 106 #[] w (Ret (λz x=>∃q br0 er0 y,z=.map (some br0)/\SR K q w x [] [.mp (zz w) br0 er0 y]/\MapR kI (VSl Int (RInt .i64) 1 8 q) a er0.toList))
def aeL(X:aat->LS->ooE):Prop:=∀{K w g bs br f k l h i m n o p q j r s a b d t u A B v x y C D G z e I},X (aat.mk (aaa.mk f) (aab.mk h i o p q j) a) u=some ((aat.mk (aaa.mk v) (aab.mk x y C D G z) e),I)->GK K->tF K k l f->h.size<=mB->tP K m n i->tS K r s j->Reps (RInt .i64) 1 a t->a.length*8<=mB->br<=(zz w)->tS K A B u-> (λE:Ents=>SR K K w w E E->Calls Tryz.prog 48 #[.pointer (some ⟨g,0,none⟩),sl A u B] w (Ret (λJ H=>∃L T Q Y V U Z S N O,J=.bool I/\SR K L w H E [.box bs g #[sl T v Q,.string x,sl Y y V,iI C,.bool D,iI G,sl U z Z,sl S e N] 87,eW br S e N 3 1 O]/\tF L T Q v/\x.size<=mB/\tP L Y V y/\tS L U Z z/\Reps (RInt .i64) 1 e O/\e.length*8<=mB))) [.box bs g #[sl k f l,.string h,sl m i n,iI o,.bool p,iI q,sl r j s,sl b a d] 87,eW br b a d 3 1 t]
def aeQ(X:aat->aae->ooE):Prop:=∀{K w g bs br f k l h i m n o p q j r s a b d t z A u v x B C D y e G},X (aat.mk (aaa.mk f) (aab.mk h i o p q j) a) z=some ((aat.mk (aaa.mk u) (aab.mk v x B C D y) e),G)->GK K->tF K k l f->h.size<=mB->tP K m n i->tS K r s j->Reps (RInt .i64) 1 a t->a.length*8<=mB->br<=(zz w)->aag K z A-> (λE:Ents=>SR K K w w E E->Calls Tryz.prog 73 #[.pointer (some ⟨g,0,none⟩),.agg A.toArray] w (Ret (λJ I=>∃L T Q Y V U Z S N O,J=.bool G/\SR K L w I E [.box bs g #[sl T u Q,.string v,sl Y x V,iI B,.bool C,iI D,sl U y Z,sl S e N] 87,eW br S e N 3 1 O]/\tF L T Q u/\v.size<=mB/\tP L Y V x/\tS L U Z y/\Reps (RInt .i64) 1 e O/\e.length*8<=mB))) [.box bs g #[sl k f l,.string h,sl m i n,iI o,.bool p,iI q,sl r j s,sl b a d] 87,eW br b a d 3 1 t]
def asS(X:aaa->ooH):Prop:=∀{K w b d e a f},X b=some (e,a,f)->GK K->aad K b d-> SR K K w w [] []->Calls Tryz.prog 26 #[.agg d.toArray] w (Ret (λv u=>∃y q z x,v=.tuple #[.agg q.toArray,sl z a x,iI f]/\SR K y w u [] []/\aad y e q/\RSl (List Int) (RSlE Int (λK=>(RInt .i64)) 1 8 y) 1 24 y z x a))
def atC(X:aaa->ooI):Prop:=∀{K w a b d e},X a=some (d,e)->GK K->aad K a b-> SR K K w w [] []->Calls Tryz.prog 10 #[.agg b.toArray] w (Ret (λz x=>∃y q,z=.tuple #[.agg q.toArray,iI e]/\SR K y w x [] []/\aad y d q))
def aew(X:LE->ooV):Prop:=∀{K w a d e b},X a=some b->GK K->tE K d e a-> SR K K w w [] []->Calls Tryz.prog 121 #[sl d a e] w (Ret (λx v=>∃z q y,x=sl q b y/\SR K z w v [] []/\tE z q y b))
def afH(X:LS->ooO):Prop:=∀{K w a d e b},X a=some b->GK K->tS K d e a-> SR K K w w [] []->Calls Tryz.prog 89 #[sl d a e] w (Ret (λx v=>∃z q y,x=sl q b y/\SR K z w v [] []/\tS z q y b))
def asm(X:aaa->ooP):Prop:=∀{K w b d a},X b=some (aaa.mk a)->GK K->aad K b d-> SR K K w w [] []->Calls Tryz.prog 62 #[.agg d.toArray] w (Ret (λv u=>∃x q y z,v=.agg #[sl q a y]/\SR K x w u [] [eW (zz w) q a y 52 6 z]/\Reps (aak x) 6 a z/\a.length*88<=mB))
def afk(X:LE->ooV):Prop:=∀{K w a d e b},X a=some b->GK K->tE K d e a-> SR K K w w [] []->Calls Tryz.prog 90 #[sl d a e] w (Ret (λx v=>∃z q y,x=sl q b y/\SR K z w v [] []/\tE z q y b))
def afs(X:LS->ooO):Prop:=∀{K w a d e b},X a=some b->GK K->tS K d e a-> SR K K w w [] []->Calls Tryz.prog 63 #[sl d a e] w (Ret (λx v=>∃z q y,x=sl q b y/\SR K z w v [] []/\tS z q y b))
def atA(X:aaa->ooP):Prop:=∀{K w a b d},X a=some d->GK K->aad K a b-> SR K K w w [] []->Calls Tryz.prog 39 #[.agg b.toArray] w (Ret (λz x=>∃y q,z=.agg q.toArray/\SR K y w x [] []/\aad y d q))
def apn(X:aan->Int->ooD):Prop:=∀{K w g bs a b d e f h i},X (aan.mk a b d) e=some (aan.mk f h i)->GK K-> (λE:Ents=>SR K K w w E E->Calls Tryz.prog 114 #[.pointer (some ⟨g,0,none⟩),iI e] w (Ret (λq z=>∃y,q=.tuple #[]/\SR K y w z E [.box bs g #[iI f,iI h,.bool i] 104]))) [.box bs g #[iI a,iI b,.bool d] 104]
def aq5(X:aan->Bool->ooD):Prop:=∀{K w g bs a b d e f h i},X (aan.mk a b d) e=some (aan.mk f h i)->GK K-> (λE:Ents=>SR K K w w E E->Calls Tryz.prog 115 #[.pointer (some ⟨g,0,none⟩),.bool e] w (Ret (λq z=>∃y,q=.tuple #[]/\SR K y w z E [.box bs g #[iI f,iI h,.bool i] 104]))) [.box bs g #[iI a,iI b,.bool d] 104]
def ap4(X:Int->ooA):Prop:=∀{K w a b},X a=some b->GK K-> SR K K w w [] []->Calls Tryz.prog 139 #[.int .u8 a] w (Ret (λq z=>∃y,q=.bool b/\SR K y w z [] []))
def arP(X:Int->ooA):Prop:=∀{K w a b},X a=some b->GK K-> SR K K w w [] []->Calls Tryz.prog 140 #[.int .u8 a] w (Ret (λq z=>∃y,q=.bool b/\SR K y w z [] []))
def are(X:Option LB):Prop:=∀{K w a},X =some a->GK K-> SR K K w w [] []->Calls Tryz.prog 167 #[] w (Ret (λx v=>∃z q y,x=sl q a y/\SR K z w v [] []/\RSl BA RStr 1 16 z q y a))
def aql(X:BA->ooA):Prop:=∀{K w a b},X a=some b->GK K->a.size<=mB-> SR K K w w [] []->Calls Tryz.prog 141 #[.string a] w (Ret (λq z=>∃y,q=.bool b/\SR K y w z [] []))
def arw(X:BA->ooA):Prop:=∀{K w a b},X a=some b->GK K->a.size<=mB-> SR K K w w [] []->Calls Tryz.prog 117 #[.string a] w (Ret (λq z=>∃y,q=.bool b/\SR K y w z [] []))
def aqC(X:Int->ooT):Prop:=∀{K w a b d},X a=some (b,d)->GK K-> SR K K w w [] []->Calls Tryz.prog 168 #[iI a] w (Ret (λz x=>∃y q,z=.tuple #[.agg q.toArray,.bool d]/\SR K y w x [] []/\aci y b q))
def art(X:BA->ooA):Prop:=∀{K w a b},X a=some b->GK K->a.size<=mB-> SR K K w w [] []->Calls Tryz.prog 116 #[.string a] w (Ret (λq z=>∃y,q=.bool b/\SR K y w z [] []))
def afp(X:aan->aah->Int->Bool->ooD):Prop:=∀{K w g bs a b d e f h i j k l},X (aan.mk a b d) e h i=some (aan.mk j k l)->GK K->aai K e f-> (λE:Ents=>SR K K w w E E->Calls Tryz.prog 84 #[.pointer (some ⟨g,0,none⟩),.agg f.toArray,iI h,.bool i] w (Ret (λq z=>∃y,q=.tuple #[]/\SR K y w z E [.box bs g #[iI j,iI k,.bool l] 104]))) [.box bs g #[iI a,iI b,.bool d] 104]
def acU(X:aan->LS->Int->ooD):Prop:=∀{K w g bs a b d e f h i j k l},X (aan.mk a b d) e i=some (aan.mk j k l)->GK K->tS K f h e-> (λE:Ents=>SR K K w w E E->Calls Tryz.prog 118 #[.pointer (some ⟨g,0,none⟩),sl f e h,iI i] w (Ret (λq z=>∃y,q=.tuple #[]/\SR K y w z E [.box bs g #[iI j,iI k,.bool l] 104]))) [.box bs g #[iI a,iI b,.bool d] 104]
def acV(X:aan->aae->Int->ooD):Prop:=∀{K w g bs a b d e f h i j k},X (aan.mk a b d) e h=some (aan.mk i j k)->GK K->aag K e f-> (λE:Ents=>SR K K w w E E->Calls Tryz.prog 142 #[.pointer (some ⟨g,0,none⟩),.agg f.toArray,iI h] w (Ret (λq z=>∃y,q=.tuple #[]/\SR K y w z E [.box bs g #[iI i,iI j,.bool k] 104]))) [.box bs g #[iI a,iI b,.bool d] 104]
def adb(X:aan->aap->Int->ooD):Prop:=∀{K w g bs a b d e f h i j k},X (aan.mk a b d) e h=some (aan.mk i j k)->GK K->aaq K e f-> (λE:Ents=>SR K K w w E E->Calls Tryz.prog 169 #[.pointer (some ⟨g,0,none⟩),.agg f.toArray,iI h] w (Ret (λq z=>∃y,q=.tuple #[]/\SR K y w z E [.box bs g #[iI i,iI j,.bool k] 104]))) [.box bs g #[iI a,iI b,.bool d] 104]
def ar5(X:aaa->ooD):Prop:=∀{K w a b d},X a=some d->GK K->aad K a b-> SR K K w w [] []->Calls Tryz.prog 85 #[.agg b.toArray] w (Ret (λz x=>∃y q,z=.agg q.toArray/\SR K y w x [] []/\adk y d q))
def atI(X:aaa->ooA):Prop:=∀{K w a b d},X a=some d->GK K->aad K a b-> SR K K w w [] []->Calls Tryz.prog 59 #[.agg b.toArray] w (Ret (λq z=>∃y,q=.bool d/\SR K y w z [] []))
def asu(X:aaa->ooA):Prop:=∀{K w a b d},X a=some d->GK K->aad K a b-> SR K K w w [] []->Calls Tryz.prog 37 #[.agg b.toArray] w (Ret (λq z=>∃y,q=.bool d/\SR K y w z [] []))
def asw(X:LF->BA->ooC):Prop:=∀{K w a d e b f},X a b=some f->GK K->tF K d e a->b.size<=mB-> SR K K w w [] []->Calls Tryz.prog 60 #[sl d a e,.string b] w (Ret (λq z=>∃y,q=iI f/\SR K y w z [] []))
def ar3(X:aar->BA->ooW):Prop:=∀{K w g bs br k o p l m q r s t u n v x a d e y b f h z A B C D G I N O S J i j U V W},X (aar.mk k (aab.mk l m s t u n) a b A B) C=some ((aar.mk D (aab.mk G I N O S J) i j U V),W)->GK K->tF K o p k->l.size<=mB->tP K q r m->tS K v x n->Reps RStr 1 a y->a.length*16<=mB->Reps (RInt .i64) 1 b z->b.length*8<=mB->br<=(zz w)->C.size<=mB-> (λE:Ents=>SR K K w w E E->Calls Tryz.prog 119 #[.pointer (some ⟨g,0,none⟩),.string C] w (Ret (λv_ w_=>∃K_ v0 L Q Z T Y H q0 F z0 y0 x0,v_=iI W/\SR K K_ w w_ E [.box bs g #[sl v0 D L,.string G,sl Q I Z,iI N,.bool O,iI S,sl T J Y,sl H i q0,sl z0 j y0,iI U,iI V] 109,eW br H i q0 9 1 F,eW br z0 j y0 3 1 x0]/\tF K_ v0 L D/\G.size<=mB/\tP K_ Q Z I/\tS K_ T Y J/\Reps RStr 1 i F/\i.length*16<=mB/\Reps (RInt .i64) 1 j x0/\j.length*8<=mB))) [.box bs g #[sl o k p,.string l,sl q m r,iI s,.bool t,iI u,sl v n x,sl d a e,sl f b h,iI A,iI B] 109,eW br d a e 9 1 y,eW br f b h 3 1 z]
def as4(X:aar->Bool->Int->Option aar):Prop:=∀{K w g bs br k o p l m q r s t u n v x a d e y b f h z A B J N C D G O S U I i j V W},X (aar.mk k (aab.mk l m s t u n) a b A B) J N=some (aar.mk C (aab.mk D G O S U I) i j V W)->GK K->tF K o p k->l.size<=mB->tP K q r m->tS K v x n->Reps RStr 1 a y->a.length*16<=mB->Reps (RInt .i64) 1 b z->b.length*8<=mB->br<=(zz w)-> (λE:Ents=>SR K K w w E E->Calls Tryz.prog 88 #[.pointer (some ⟨g,0,none⟩),.bool J,iI N] w (Ret (λv_ w_=>∃K_ v0 L Q Z T Y H q0 F z0 y0 x0,v_=.tuple #[]/\SR K K_ w w_ E [.box bs g #[sl v0 C L,.string D,sl Q G Z,iI O,.bool S,iI U,sl T I Y,sl H i q0,sl z0 j y0,iI V,iI W] 109,eW br H i q0 9 1 F,eW br z0 j y0 3 1 x0]/\tF K_ v0 L C/\D.size<=mB/\tP K_ Q Z G/\tS K_ T Y I/\Reps RStr 1 i F/\i.length*16<=mB/\Reps (RInt .i64) 1 j x0/\j.length*8<=mB))) [.box bs g #[sl o k p,.string l,sl q m r,iI s,.bool t,iI u,sl v n x,sl d a e,sl f b h,iI A,iI B] 109,eW br d a e 9 1 y,eW br f b h 3 1 z]
def atE(X:aar->BA->ooW):Prop:=∀{K w g bs br k o p l m q r s t u n v x a d e y b f h z A B C D G I N O S J i j U V W},X (aar.mk k (aab.mk l m s t u n) a b A B) C=some ((aar.mk D (aab.mk G I N O S J) i j U V),W)->GK K->tF K o p k->l.size<=mB->tP K q r m->tS K v x n->Reps RStr 1 a y->a.length*16<=mB->Reps (RInt .i64) 1 b z->b.length*8<=mB->br<=(zz w)->C.size<=mB-> (λE:Ents=>SR K K w w E E->Calls Tryz.prog 86 #[.pointer (some ⟨g,0,none⟩),.string C] w (Ret (λv_ w_=>∃K_ v0 L Q Z T Y H q0 F z0 y0 x0,v_=iI W/\SR K K_ w w_ E [.box bs g #[sl v0 D L,.string G,sl Q I Z,iI N,.bool O,iI S,sl T J Y,sl H i q0,sl z0 j y0,iI U,iI V] 109,eW br H i q0 9 1 F,eW br z0 j y0 3 1 x0]/\tF K_ v0 L D/\G.size<=mB/\tP K_ Q Z I/\tS K_ T Y J/\Reps RStr 1 i F/\i.length*16<=mB/\Reps (RInt .i64) 1 j x0/\j.length*8<=mB))) [.box bs g #[sl o k p,.string l,sl q m r,iI s,.bool t,iI u,sl v n x,sl d a e,sl f b h,iI A,iI B] 109,eW br d a e 9 1 y,eW br f b h 3 1 z]
def adE(X:aar->LE->oob):Prop:=∀{K w g bs br k o p l m q r s t u n v x a d e y b f h z A B C O S D G I U V W J i j Y Z N},X (aar.mk k (aab.mk l m s t u n) a b A B) C=some ((aar.mk D (aab.mk G I U V W J) i j Y Z),N)->GK K->tF K o p k->l.size<=mB->tP K q r m->tS K v x n->Reps RStr 1 a y->a.length*16<=mB->Reps (RInt .i64) 1 b z->b.length*8<=mB->br<=(zz w)->tE K O S C-> (λE:Ents=>SR K K w w E E->Calls Tryz.prog 143 #[.pointer (some ⟨g,0,none⟩),sl O C S] w (Ret (λv_ w_=>∃K_ s0 F Q L H T q0 z0 y0 u0 v0 t0 p0 m0,v_=sl p0 N m0/\SR K K_ w w_ E [.box bs g #[sl s0 D F,.string G,sl Q I L,iI U,.bool V,iI W,sl H J T,sl q0 i z0,sl u0 j v0,iI Y,iI Z] 109,eW br q0 i z0 9 1 y0,eW br u0 j v0 3 1 t0]/\tF K_ s0 F D/\G.size<=mB/\tP K_ Q L I/\tS K_ H T J/\Reps RStr 1 i y0/\i.length*16<=mB/\Reps (RInt .i64) 1 j t0/\j.length*8<=mB/\tE K_ p0 m0 N))) [.box bs g #[sl o k p,.string l,sl q m r,iI s,.bool t,iI u,sl v n x,sl d a e,sl f b h,iI A,iI B] 109,eW br d a e 9 1 y,eW br f b h 3 1 z]
def adD(X:aar->aah->ooX):Prop:=∀{K w g bs br k o p l m q r s t u n v x a d e y b f h z A B J N C D G O S U I i j V W Y},X (aar.mk k (aab.mk l m s t u n) a b A B) J=some ((aar.mk C (aab.mk D G O S U I) i j V W),Y)->GK K->tF K o p k->l.size<=mB->tP K q r m->tS K v x n->Reps RStr 1 a y->a.length*16<=mB->Reps (RInt .i64) 1 b z->b.length*8<=mB->br<=(zz w)->aai K J N-> (λE:Ents=>SR K K w w E E->Calls Tryz.prog 170 #[.pointer (some ⟨g,0,none⟩),.agg N.toArray] w (Ret (λv_ w_=>∃K_ s0 H Q T L Z F y0 q0 u0 v0 t0 z0,v_=.agg z0.toArray/\SR K K_ w w_ E [.box bs g #[sl s0 C H,.string D,sl Q G T,iI O,.bool S,iI U,sl L I Z,sl F i y0,sl u0 j v0,iI V,iI W] 109,eW br F i y0 9 1 q0,eW br u0 j v0 3 1 t0]/\tF K_ s0 H C/\D.size<=mB/\tP K_ Q T G/\tS K_ L Z I/\Reps RStr 1 i q0/\i.length*16<=mB/\Reps (RInt .i64) 1 j t0/\j.length*8<=mB/\aai K_ Y z0))) [.box bs g #[sl o k p,.string l,sl q m r,iI s,.bool t,iI u,sl v n x,sl d a e,sl f b h,iI A,iI B] 109,eW br d a e 9 1 y,eW br f b h 3 1 z]
def arv(X:aar->aae->ooW):Prop:=∀{K w g bs br k o p l m q r s t u n v x a d e y b f h z A B J N C D G O S U I i j V W Y},X (aar.mk k (aab.mk l m s t u n) a b A B) J=some ((aar.mk C (aab.mk D G O S U I) i j V W),Y)->GK K->tF K o p k->l.size<=mB->tP K q r m->tS K v x n->Reps RStr 1 a y->a.length*16<=mB->Reps (RInt .i64) 1 b z->b.length*8<=mB->br<=(zz w)->aag K J N-> (λE:Ents=>SR K K w w E E->Calls Tryz.prog 144 #[.pointer (some ⟨g,0,none⟩),.agg N.toArray] w (Ret (λv_ w_=>∃K_ u0 H Q T L Z F y0 q0 x0 z0 v0,v_=iI Y/\SR K K_ w w_ E [.box bs g #[sl u0 C H,.string D,sl Q G T,iI O,.bool S,iI U,sl L I Z,sl F i y0,sl x0 j z0,iI V,iI W] 109,eW br F i y0 9 1 q0,eW br x0 j z0 3 1 v0]/\tF K_ u0 H C/\D.size<=mB/\tP K_ Q T G/\tS K_ L Z I/\Reps RStr 1 i q0/\i.length*16<=mB/\Reps (RInt .i64) 1 j v0/\j.length*8<=mB))) [.box bs g #[sl o k p,.string l,sl q m r,iI s,.bool t,iI u,sl v n x,sl d a e,sl f b h,iI A,iI B] 109,eW br d a e 9 1 y,eW br f b h 3 1 z]
def apV(X:Int->ooA):Prop:=∀{K w a b},X a=some b->GK K-> SR K K w w [] []->Calls Tryz.prog 145 #[iI a] w (Ret (λq z=>∃y,q=.bool b/\SR K y w z [] []))
def adm(X:aar->LS->Int->ooc):Prop:=∀{K w g bs br k o p l m q r s t u n v x a d e y b f h z A B C O S U D G I V W Y J i j Z ab N},X (aar.mk k (aab.mk l m s t u n) a b A B) C U=some ((aar.mk D (aab.mk G I V W Y J) i j Z ab),N)->GK K->tF K o p k->l.size<=mB->tP K q r m->tS K v x n->Reps RStr 1 a y->a.length*16<=mB->Reps (RInt .i64) 1 b z->b.length*8<=mB->br<=(zz w)->tS K O S C-> (λE:Ents=>SR K K w w E E->Calls Tryz.prog 87 #[.pointer (some ⟨g,0,none⟩),sl O C S,iI U] w (Ret (λv_ w_=>∃K_ s0 F Q L H T q0 z0 y0 u0 v0 t0 p0 m0,v_=sl p0 N m0/\SR K K_ w w_ E [.box bs g #[sl s0 D F,.string G,sl Q I L,iI V,.bool W,iI Y,sl H J T,sl q0 i z0,sl u0 j v0,iI Z,iI ab] 109,eW br q0 i z0 9 1 y0,eW br u0 j v0 3 1 t0]/\tF K_ s0 F D/\G.size<=mB/\tP K_ Q L I/\tS K_ H T J/\Reps RStr 1 i y0/\i.length*16<=mB/\Reps (RInt .i64) 1 j t0/\j.length*8<=mB/\tS K_ p0 m0 N))) [.box bs g #[sl o k p,.string l,sl q m r,iI s,.bool t,iI u,sl v n x,sl d a e,sl f b h,iI A,iI B] 109,eW br d a e 9 1 y,eW br f b h 3 1 z]
def acA(X:aar->aae->ooN):Prop:=∀{K w g bs br k o p l m q r s t u n v x a d e y b f h z A B J N C D G O S U I i j V W Y},X (aar.mk k (aab.mk l m s t u n) a b A B) J=some ((aar.mk C (aab.mk D G O S U I) i j V W),Y)->GK K->tF K o p k->l.size<=mB->tP K q r m->tS K v x n->Reps RStr 1 a y->a.length*16<=mB->Reps (RInt .i64) 1 b z->b.length*8<=mB->br<=(zz w)->aag K J N-> (λE:Ents=>SR K K w w E E->Calls Tryz.prog 120 #[.pointer (some ⟨g,0,none⟩),.agg N.toArray] w (Ret (λv_ w_=>∃K_ s0 H Q T L Z F y0 q0 u0 v0 t0 z0,v_=.agg z0.toArray/\SR K K_ w w_ E [.box bs g #[sl s0 C H,.string D,sl Q G T,iI O,.bool S,iI U,sl L I Z,sl F i y0,sl u0 j v0,iI V,iI W] 109,eW br F i y0 9 1 q0,eW br u0 j v0 3 1 t0]/\tF K_ s0 H C/\D.size<=mB/\tP K_ Q T G/\tS K_ L Z I/\Reps RStr 1 i q0/\i.length*16<=mB/\Reps (RInt .i64) 1 j t0/\j.length*8<=mB/\aag K_ Y z0))) [.box bs g #[sl o k p,.string l,sl q m r,iI s,.bool t,iI u,sl v n x,sl d a e,sl f b h,iI A,iI B] 109,eW br d a e 9 1 y,eW br f b h 3 1 z]
def acz(X:aar->BA->LS->Int->ooZ):Prop:=∀{K w g bs br k o p l m q r s t u n v x a d e y b f h z A B C D S U V G I J W Y Z N i j ab ac ad O},X (aar.mk k (aab.mk l m s t u n) a b A B) C D V=some ((aar.mk G (aab.mk I J W Y Z N) i j ab ac),ad,O)->GK K->tF K o p k->l.size<=mB->tP K q r m->tS K v x n->Reps RStr 1 a y->a.length*16<=mB->Reps (RInt .i64) 1 b z->b.length*8<=mB->br<=(zz w)->C.size<=mB->tS K S U D-> (λE:Ents=>SR K K w w E E->Calls Tryz.prog 146 #[.pointer (some ⟨g,0,none⟩),.string C,sl S D U,iI V] w (Ret (λv_ w_=>∃K_ s0 F Q L H T q0 z0 y0 u0 v0 t0 p0 m0,v_=.tuple #[iI ad,sl p0 O m0]/\SR K K_ w w_ E [.box bs g #[sl s0 G F,.string I,sl Q J L,iI W,.bool Y,iI Z,sl H N T,sl q0 i z0,sl u0 j v0,iI ab,iI ac] 109,eW br q0 i z0 9 1 y0,eW br u0 j v0 3 1 t0]/\tF K_ s0 F G/\I.size<=mB/\tP K_ Q L J/\tS K_ H T N/\Reps RStr 1 i y0/\i.length*16<=mB/\Reps (RInt .i64) 1 j t0/\j.length*8<=mB/\tS K_ p0 m0 O))) [.box bs g #[sl o k p,.string l,sl q m r,iI s,.bool t,iI u,sl v n x,sl d a e,sl f b h,iI A,iI B] 109,eW br d a e 9 1 y,eW br f b h 3 1 z]
def acx(X:aar->aap->ood):Prop:=∀{K w g bs br k o p l m q r s t u n v x a d e y b f h z A B J N C D G O S U I i j V W Y},X (aar.mk k (aab.mk l m s t u n) a b A B) J=some ((aar.mk C (aab.mk D G O S U I) i j V W),Y)->GK K->tF K o p k->l.size<=mB->tP K q r m->tS K v x n->Reps RStr 1 a y->a.length*16<=mB->Reps (RInt .i64) 1 b z->b.length*8<=mB->br<=(zz w)->aaq K J N-> (λE:Ents=>SR K K w w E E->Calls Tryz.prog 147 #[.pointer (some ⟨g,0,none⟩),.agg N.toArray] w (Ret (λv_ w_=>∃K_ s0 H Q T L Z F y0 q0 u0 v0 t0 z0,v_=.agg z0.toArray/\SR K K_ w w_ E [.box bs g #[sl s0 C H,.string D,sl Q G T,iI O,.bool S,iI U,sl L I Z,sl F i y0,sl u0 j v0,iI V,iI W] 109,eW br F i y0 9 1 q0,eW br u0 j v0 3 1 t0]/\tF K_ s0 H C/\D.size<=mB/\tP K_ Q T G/\tS K_ L Z I/\Reps RStr 1 i q0/\i.length*16<=mB/\Reps (RInt .i64) 1 j t0/\j.length*8<=mB/\aaq K_ Y z0))) [.box bs g #[sl o k p,.string l,sl q m r,iI s,.bool t,iI u,sl v n x,sl d a e,sl f b h,iI A,iI B] 109,eW br d a e 9 1 y,eW br f b h 3 1 z]
def asF(X:LF->aab->ooe):Prop:=∀{K w a b d e f g h},X a e=some (g,h)->GK K->tF K b d a->aak K e f-> SR K K w w [] []->Calls Tryz.prog 61 #[sl b a d,.agg f.toArray] w (Ret (λx v=>∃z q y,x=.tuple #[.agg q.toArray,.agg y.toArray]/\SR K z w v [] []/\ack z g q/\aak z h y))
def as7(X:aaa->ooI):Prop:=∀{K w a b d e},X a=some (d,e)->GK K->aad K a b-> SR K K w w [] []->Calls Tryz.prog 38 #[.agg b.toArray] w (Ret (λz x=>∃y q,z=.tuple #[.agg q.toArray,iI e]/\SR K y w x [] []/\aad y d q))
def ar7(X:aaa->ooI):Prop:=∀{K w a b d e},X a=some (d,e)->GK K->aad K a b-> SR K K w w [] []->Calls Tryz.prog 16 #[.agg b.toArray] w (Ret (λz x=>∃y q,z=.tuple #[.agg q.toArray,iI e]/\SR K y w x [] []/\aad y d q))
def afN(X:LS->ooA):Prop:=∀{K w a b d e},X a=some e->GK K->tS K b d a-> SR K K w w [] []->Calls Tryz.prog 66 #[sl b a d] w (Ret (λq z=>∃y,q=.bool e/\SR K y w z [] []))
def aeC(X:LS->ooA):Prop:=∀{K w a b d e},X a=some e->GK K->tS K b d a-> SR K K w w [] []->Calls Tryz.prog 21 #[sl b a d] w (Ret (λq z=>∃y,q=.bool e/\SR K y w z [] []))
def aeM(X:aae->ooA):Prop:=∀{K w a b d},X a=some d->GK K->aag K a b-> SR K K w w [] []->Calls Tryz.prog 41 #[.agg b.toArray] w (Ret (λq z=>∃y,q=.bool d/\SR K y w z [] []))
def atr(X:aao->Int->Int->ooJ):Prop:=∀{K w g bs br f k l h i m n o p q j r s a b d t u A B v x y C D G z e I},X (aao.mk f (aab.mk h i o p q j) a u) A B=some (aao.mk v (aab.mk x y C D G z) e I)->GK K->tF K k l f->h.size<=mB->tP K m n i->tS K r s j->Reps (RInt .i64) 1 a t->a.length*8<=mB->br<=(zz w)-> (λE:Ents=>SR K K w w E E->Calls Tryz.prog 49 #[.pointer (some ⟨g,0,none⟩),iI A,iI B] w (Ret (λJ H=>∃L N U Q Z V Y T O S,J=.tuple #[]/\SR K L w H E [.box bs g #[sl N v U,.string x,sl Q y Z,iI C,.bool D,iI G,sl V z Y,sl T e O,.bool I] 90,eW br T e O 3 1 S]/\tF L N U v/\x.size<=mB/\tP L Q Z y/\tS L V Y z/\Reps (RInt .i64) 1 e S/\e.length*8<=mB))) [.box bs g #[sl k f l,.string h,sl m i n,iI o,.bool p,iI q,sl r j s,sl b a d,.bool u] 90,eW br b a d 3 1 t]
def aoY(X:aao->aae->ooL):Prop:=∀{K w g bs br f k l h i m n o p q j r s a b d t u B C v x y D G I z e J A N},X (aao.mk f (aab.mk h i o p q j) a u) B=some ((aao.mk v (aab.mk x y D G I z) e J),A,N)->GK K->tF K k l f->h.size<=mB->tP K m n i->tS K r s j->Reps (RInt .i64) 1 a t->a.length*8<=mB->br<=(zz w)->aag K B C-> (λE:Ents=>SR K K w w E E->Calls Tryz.prog 107 #[.pointer (some ⟨g,0,none⟩),.agg C.toArray] w (Ret (λv_ w_=>∃L H U Q Z V Y T O S F q0,v_=.tuple #[sl F A q0,.bool N]/\SR K L w w_ E [.box bs g #[sl H v U,.string x,sl Q y Z,iI D,.bool G,iI I,sl V z Y,sl T e O,.bool J] 90,eW br T e O 3 1 S]/\tF L H U v/\x.size<=mB/\tP L Q Z y/\tS L V Y z/\Reps (RInt .i64) 1 e S/\e.length*8<=mB/\RSl Int (RInt .i64) 1 8 L F q0 A))) [.box bs g #[sl k f l,.string h,sl m i n,iI o,.bool p,iI q,sl r j s,sl b a d,.bool u] 90,eW br b a d 3 1 t]
def atj(X:Int->Int->Int->ooC):Prop:=∀{K w a b d e},X a b d=some e->GK K-> SR K K w w [] []->Calls Tryz.prog 36 #[iI a,iI b,iI d] w (Ret (λq z=>∃y,q=iI e/\SR K y w z [] []))
def afJ(X:aah->(List Int)->ooC):Prop:=∀{K w b d a e f g},X b a=some g->GK K->aai K b d->RSl Int (RInt .i64) 1 8 K e f a-> SR K K w w [] []->Calls Tryz.prog 15 #[.agg d.toArray,sl e a f] w (Ret (λq z=>∃y,q=iI g/\SR K y w z [] []))
def arx(X:aao->aah->Int->ooJ):Prop:=∀{K w g bs br f k l h i m n o p q j r s a b d t u A B C v x y D G I z e J},X (aao.mk f (aab.mk h i o p q j) a u) A C=some (aao.mk v (aab.mk x y D G I z) e J)->GK K->tF K k l f->h.size<=mB->tP K m n i->tS K r s j->Reps (RInt .i64) 1 a t->a.length*8<=mB->br<=(zz w)->aai K A B-> (λE:Ents=>SR K K w w E E->Calls Tryz.prog 108 #[.pointer (some ⟨g,0,none⟩),.agg B.toArray,iI C] w (Ret (λH F=>∃L N U Q Z V Y T O S,H=.tuple #[]/\SR K L w F E [.box bs g #[sl N v U,.string x,sl Q y Z,iI D,.bool G,iI I,sl V z Y,sl T e O,.bool J] 90,eW br T e O 3 1 S]/\tF L N U v/\x.size<=mB/\tP L Q Z y/\tS L V Y z/\Reps (RInt .i64) 1 e S/\e.length*8<=mB))) [.box bs g #[sl k f l,.string h,sl m i n,iI o,.bool p,iI q,sl r j s,sl b a d,.bool u] 90,eW br b a d 3 1 t]
def ard(X:aao->aae->Option (aao×Int)):Prop:=∀{K w g bs br f k l h i m n o p q j r s a b d t u A B v x y C D G z e I J},X (aao.mk f (aab.mk h i o p q j) a u) A=some ((aao.mk v (aab.mk x y C D G z) e I),J)->GK K->tF K k l f->h.size<=mB->tP K m n i->tS K r s j->Reps (RInt .i64) 1 a t->a.length*8<=mB->br<=(zz w)->aag K A B-> (λE:Ents=>SR K K w w E E->Calls Tryz.prog 109 #[.pointer (some ⟨g,0,none⟩),.agg B.toArray] w (Ret (λH F=>∃L N U Q Z V Y T O S,H=iI J/\SR K L w F E [.box bs g #[sl N v U,.string x,sl Q y Z,iI C,.bool D,iI G,sl V z Y,sl T e O,.bool I] 90,eW br T e O 3 1 S]/\tF L N U v/\x.size<=mB/\tP L Q Z y/\tS L V Y z/\Reps (RInt .i64) 1 e S/\e.length*8<=mB))) [.box bs g #[sl k f l,.string h,sl m i n,iI o,.bool p,iI q,sl r j s,sl b a d,.bool u] 90,eW br b a d 3 1 t]
def adU(X:aao->LS->ooJ):Prop:=∀{K w g bs br f k l h i m n o p q j r s a b d t u v B C x y z D G I A e J},X (aao.mk f (aab.mk h i o p q j) a u) v=some (aao.mk x (aab.mk y z D G I A) e J)->GK K->tF K k l f->h.size<=mB->tP K m n i->tS K r s j->Reps (RInt .i64) 1 a t->a.length*8<=mB->br<=(zz w)->tS K B C v-> (λE:Ents=>SR K K w w E E->Calls Tryz.prog 50 #[.pointer (some ⟨g,0,none⟩),sl B v C] w (Ret (λH F=>∃L N U Q Z V Y T O S,H=.tuple #[]/\SR K L w F E [.box bs g #[sl N x U,.string y,sl Q z Z,iI D,.bool G,iI I,sl V A Y,sl T e O,.bool J] 90,eW br T e O 3 1 S]/\tF L N U x/\y.size<=mB/\tP L Q Z z/\tS L V Y A/\Reps (RInt .i64) 1 e S/\e.length*8<=mB))) [.box bs g #[sl k f l,.string h,sl m i n,iI o,.bool p,iI q,sl r j s,sl b a d,.bool u] 90,eW br b a d 3 1 t]
def adX(X:aao->aae->ooJ):Prop:=∀{K w g bs br f k l h i m n o p q j r s a b d t u A B v x y C D G z e I},X (aao.mk f (aab.mk h i o p q j) a u) A=some (aao.mk v (aab.mk x y C D G z) e I)->GK K->tF K k l f->h.size<=mB->tP K m n i->tS K r s j->Reps (RInt .i64) 1 a t->a.length*8<=mB->br<=(zz w)->aag K A B-> (λE:Ents=>SR K K w w E E->Calls Tryz.prog 74 #[.pointer (some ⟨g,0,none⟩),.agg B.toArray] w (Ret (λJ H=>∃L N U Q Z V Y T O S,J=.tuple #[]/\SR K L w H E [.box bs g #[sl N v U,.string x,sl Q y Z,iI C,.bool D,iI G,sl V z Y,sl T e O,.bool I] 90,eW br T e O 3 1 S]/\tF L N U v/\x.size<=mB/\tP L Q Z y/\tS L V Y z/\Reps (RInt .i64) 1 e S/\e.length*8<=mB))) [.box bs g #[sl k f l,.string h,sl m i n,iI o,.bool p,iI q,sl r j s,sl b a d,.bool u] 90,eW br b a d 3 1 t]
def acT(X:aao->aap->ooJ):Prop:=∀{K w g bs br f k l h i m n o p q j r s a b d t u A B v x y C D G z e I},X (aao.mk f (aab.mk h i o p q j) a u) A=some (aao.mk v (aab.mk x y C D G z) e I)->GK K->tF K k l f->h.size<=mB->tP K m n i->tS K r s j->Reps (RInt .i64) 1 a t->a.length*8<=mB->br<=(zz w)->aaq K A B-> (λE:Ents=>SR K K w w E E->Calls Tryz.prog 110 #[.pointer (some ⟨g,0,none⟩),.agg B.toArray] w (Ret (λJ H=>∃L N U Q Z V Y T O S,J=.tuple #[]/\SR K L w H E [.box bs g #[sl N v U,.string x,sl Q y Z,iI C,.bool D,iI G,sl V z Y,sl T e O,.bool I] 90,eW br T e O 3 1 S]/\tF L N U v/\x.size<=mB/\tP L Q Z y/\tS L V Y z/\Reps (RInt .i64) 1 e S/\e.length*8<=mB))) [.box bs g #[sl k f l,.string h,sl m i n,iI o,.bool p,iI q,sl r j s,sl b a d,.bool u] 90,eW br b a d 3 1 t]
def asJ(X:LF->aab->ooa):Prop:=∀{K w a d e f g b h},X a f=some (b,h)->GK K->tF K d e a->aak K f g-> SR K K w w [] []->Calls Tryz.prog 27 #[sl d a e,.agg g.toArray] w (Ret (λx v=>∃z q y,x=.tuple #[sl q b y,iI h]/\SR K z w v [] []/\RSl Int (RInt .i64) 1 8 z q y b))
def asn(X:aaa->ooI):Prop:=∀{K w a b d e},X a=some (d,e)->GK K->aad K a b-> SR K K w w [] []->Calls Tryz.prog 11 #[.agg b.toArray] w (Ret (λz x=>∃y q,z=.tuple #[.agg q.toArray,iI e]/\SR K y w x [] []/\aad y d q))
def aeD(X:LE->LE->ooA):Prop:=∀{K w a d e b f g h},X a b=some h->GK K->tE K d e a->tE K f g b-> SR K K w w [] []->Calls Tryz.prog 51 #[sl d a e,sl f b g] w (Ret (λq z=>∃y,q=.bool h/\SR K y w z [] []))
def aeO(X:aah->aah->ooA):Prop:=∀{K w a b d e f},X a d=some f->GK K->aai K a b->aai K d e-> SR K K w w [] []->Calls Tryz.prog 75 #[.agg b.toArray,.agg e.toArray] w (Ret (λq z=>∃y,q=.bool f/\SR K y w z [] []))
def afG(X:LS->LS->ooA):Prop:=∀{K w a d e b f g h},X a b=some h->GK K->tS K d e a->tS K f g b-> SR K K w w [] []->Calls Tryz.prog 28 #[sl d a e,sl f b g] w (Ret (λq z=>∃y,q=.bool h/\SR K y w z [] []))
def ate(X:aaa->aaa->ooA):Prop:=∀{K w a b d e f},X a d=some f->GK K->aad K a b->aad K d e-> SR K K w w [] []->Calls Tryz.prog 12 #[.agg b.toArray,.agg e.toArray] w (Ret (λq z=>∃y,q=.bool f/\SR K y w z [] []))
def afD(X:LE->Int->ooC):Prop:=∀{K w a b d e f},X a e=some f->GK K->tE K b d a-> SR K K w w [] []->Calls Tryz.prog 45 #[sl b a d,iI e] w (Ret (λq z=>∃y,q=iI f/\SR K y w z [] []))
def afE(X:LS->Int->ooC):Prop:=∀{K w a b d e f},X a e=some f->GK K->tS K b d a-> SR K K w w [] []->Calls Tryz.prog 24 #[sl b a d,iI e] w (Ret (λq z=>∃y,q=iI f/\SR K y w z [] []))
def avZ(X:aaa->ooA):Prop:=∀{K w a b d},X a=some d->GK K->aad K a b-> SR K K w w [] []->Calls Tryz.prog 8 #[.agg b.toArray] w (Ret (λq z=>∃y,q=.bool d/\SR K y w z [] []))
def ase(X:Int->ooA):Prop:=∀{K w a b},X a=some b->GK K-> SR K K w w [] []->Calls Tryz.prog 30 #[iI a] w (Ret (λq z=>∃y,q=.bool b/\SR K y w z [] []))
def ajo(X:(List Int)->ooC):Prop:=∀{K w a b d e},X a=some e->GK K->RSl Int (RInt .i64) 1 8 K b d a-> SR K K w w [] []->Calls Tryz.prog 52 #[sl b a d,.func (.func 30) #[] #[]] w (Ret (λq z=>∃y,q=iI e/\SR K y w z [] []))
def akq(X:(List Int)->ooA):Prop:=∀{K w a b d e},X a=some e->GK K->RSl Int (RInt .i64) 1 8 K b d a-> SR K K w w [] []->Calls Tryz.prog 29 #[sl b a d,.func (.func 30) #[] #[]] w (Ret (λq z=>∃y,q=.bool e/\SR K y w z [] []))
def as5(X:aah->Bool->ooA):Prop:=∀{K w a b d e},X a d=some e->GK K->aai K a b-> SR K K w w [] []->Calls Tryz.prog 31 #[.agg b.toArray,.bool d] w (Ret (λq z=>∃y,q=.bool e/\SR K y w z [] []))
def acw(X:aah->Int->ooA):Prop:=∀{K w a b d e},X a d=some e->GK K->aai K a b-> SR K K w w [] []->Calls Tryz.prog 32 #[.agg b.toArray,iI d] w (Ret (λq z=>∃y,q=.bool e/\SR K y w z [] []))
def aaY(X:LE->Int->ooA):Prop:=∀{K w a b d g bs s e},X a s=some e->GK K->tE K b d a-> (λE:Ents=>SR K K w w E E->Calls Tryz.prog 54 #[sl b a d,.func (.func 55) #[] #[.pointer (some ⟨g,0,none⟩)]] w (Ret (λq z=>∃y,q=.bool e/\SR K y w z E E))) [.box bs g #[iI s] 3]
def aa6(X:aah->Int->ooA):Prop:=∀{K w a b g bs s d},X a s=some d->GK K->aai K a b-> (λE:Ents=>SR K K w w E E->Calls Tryz.prog 55 #[.agg b.toArray,.pointer (some ⟨g,0,none⟩)] w (Ret (λq z=>∃y,q=.bool d/\SR K y w z E E))) [.box bs g #[iI s] 3]
def aa2(X:LE->Unit->Int->ooA):Prop:=∀{K w a b d g bs gA bsA sA e},X a () sA=some e->GK K->tE K b d a-> (λE:Ents=>SR K K w w E E->Calls Tryz.prog 81 #[sl b a d,.func (.func 82) #[] #[.pointer (some ⟨g,0,none⟩)]] w (Ret (λq z=>∃y,q=.bool e/\SR K y w z E E))) [.box bs g #[.func (.func 55) #[] #[.pointer (some ⟨gA,0,none⟩)]] 74,.box bsA gA #[iI sA] 3]
def aa0(X:aah->Unit->Int->ooA):Prop:=∀{K w a b g bs gA bsA sA d},X a () sA=some d->GK K->aai K a b-> (λE:Ents=>SR K K w w E E->Calls Tryz.prog 82 #[.agg b.toArray,.pointer (some ⟨g,0,none⟩)] w (Ret (λq z=>∃y,q=.bool d/\SR K y w z E E))) [.box bs g #[.func (.func 55) #[] #[.pointer (some ⟨gA,0,none⟩)]] 74,.box bsA gA #[iI sA] 3]
def aaX(X:LE->Unit->Int->ooC):Prop:=∀{K w a b d g bs gA bsA sA e},X a () sA=some e->GK K->tE K b d a-> (λE:Ents=>SR K K w w E E->Calls Tryz.prog 113 #[sl b a d,.func (.func 82) #[] #[.pointer (some ⟨g,0,none⟩)]] w (Ret (λq z=>∃y,q=iI e/\SR K y w z E E))) [.box bs g #[.func (.func 55) #[] #[.pointer (some ⟨gA,0,none⟩)]] 74,.box bsA gA #[iI sA] 3]
def atO(X:aah->(List Int)->Option (Int×Int)):Prop:=∀{K w b d a e f g h},X b a=some (g,h)->GK K->aai K b d->RSl Int (RInt .i64) 1 8 K e f a-> SR K K w w [] []->Calls Tryz.prog 13 #[.agg d.toArray,sl e a f] w (Ret (λq z=>∃y,q=.tuple #[iI g,iI h]/\SR K y w z [] []))
def asX(X:LS->ooP):Prop:=∀{K w a b d e},X a=some e->GK K->tS K b d a-> SR K K w w [] []->Calls Tryz.prog 25 #[sl b a d] w (Ret (λz x=>∃y q,z=.agg q.toArray/\SR K y w x [] []/\aad y e q))
def au9(X:ooA):Prop:=∀{K w a},X =some a->GK K-> SR K K w w [] []->Calls Tryz.prog 9 #[] w (Ret (λq z=>∃y,q=.bool a/\SR K y w z [] []))
def avA(X:aaa->ooA):Prop:=∀{K w a b d},X a=some d->GK K->aad K a b-> SR K K w w [] []->Calls Tryz.prog 3 #[.agg b.toArray] w (Ret (λq z=>∃y,q=.bool d/\SR K y w z [] []))
end Go.Proofs.YtphdlngnegjgcaaGreatDoor
set_option maxRecDepth 100000
set_option maxHeartbeats 20000000
namespace Go.Proofs.YtphdlngnegjgcaaGreatDoor
open Go
theorem arM(k:Nat):aqo (f124 k):=by
 intro K wi S aB aG h hG U V;obtain⟨r_,n,h⟩:=rz h;obtain⟨aH,aI,aK,aL,aM,aN,aP,d,f,g,z⟩:=S;obtain⟨aT,aU,p,q,r,s,t,u,aV,aW,rfl,aX,aY,aZ,W,X,Y,D⟩:=aag.open U;refine en 27 Tryz.func124 rfl ?_;unfold f124 at h;refine gI 14 [7,1,8,1,9,1] [] V (λZ ab=>bsl (e:=50) (cells:=#[sl p d q,sl r f s,sl t g u]) (vs:=[(0,sl p d q),(1,sl r f s),(2,sl t g u)]) ab rfl (λw=>by kernel_rfl) (λa1 ac=>(have A:=ac.boxrowN (i:=0) (size:=1) (m:=3) rfl rfl (by decide);(gP 13 [10,2] A<|wl A (λj m g_=>∃G b,∃(l:Nat),∃a v x B,g_=b.length/\j G [14,15] [(3,sl v a x),(16,iI (l:Int))]/\m K [] [eW (zz wi) v a x 50 1 B]/\z.drop l=b/\Reps (RSlE aae (λK=>aag K) 11 184 K) 1 a B/\a.length*24<=mB/\ags k b l a=some r_) z.length ?_ ?_))))
 ·exact⟨_,z,0,[d,f,g],some ⟨zz Z,0,none⟩,3,[sl p d q,sl r f s,sl t g u],rfl,fK,A.sel [0],List.drop_zero,⟨[sl p d q],_,rfl,rfl,⟨_,_,rfl,W⟩,⟨[sl r f s],_,rfl,rfl,⟨_,_,rfl,X⟩,⟨[sl t g u],_,rfl,rfl,⟨_,_,rfl,Y⟩,abm (R:=(RSlE aae (λK=>aag K) 11 184 K)) (size:=1)⟩⟩⟩,Nat.le_of_ble_eq_true rfl,h⟩
 ·rintro _ _ ad⟨G,b,l,a,v,x,B,rfl,rfl,C,o,I,ae,h⟩;rcases b with _|⟨⟨af,ai,aj,ak,y⟩,b⟩
  ·refine gd 2<|cNl o<|go 16 ?_;obtain⟨al,am,a2,an⟩:=abD (i:=0) (bytes:=24) (R:=λK=>(RSlE aae (λK=>(aag K)) 11 184 K)) C rfl (Nat.le_refl _) I ae (λhs=>(λ_ _ h=>RSlE.mono (R:=λK=>(aag K)) (λhs _ _ h=>aag.mono hs h) hs h));cases oj h n;exact rt1 ⟨al,v,x,rfl,am,an⟩
  ·refine gd 2<|cCl o<|go 10<|eN C D o aaq.open ?_;rintro a3 a4 a5 a6 a7 a8⟨ao,ap,aq,ar,rfl,a9,ba,au⟩;refine gR 9 [0,4,1,50] [[iI 0,sE,iI 0,nS,nS]] C (λbb bd be av=>aJ h 2 0 av rfl rfl I ⟨_,_,rfl,au⟩ ?_);rintro J N O aw ax ay az h;have aA:=p12 ax;exact go 5<|iCl o ((D).len)<|go 3 ⟨_,Nat.lt_succ_self _,_,b,l+1,a++[y],J,N,O,rfl,fK,aA.sel [1],aac o,ay,aav az,h⟩
theorem atq(k:Nat)(F:aes)(IH92:acv F.f92)(IH122:ab0 F.f122)(IH1006489:aa9 F.f1006489)(IH1009189:aa5 F.f1009189)(IH1012326:aa3 F.f1012326)(IH1014826:aa7 F.f1014826):acv (avJ k F):=by
 intro K wi j l m b h hG d a;obtain⟨y,z,h⟩:=rz h;refine en 5 Tryz.func92 rfl ?_;unfold avJ at h;refine gd 8<|cB h (λ_ e=>IH1006489 e (hG.mono kr) d<|pt a) ?_;rintro b _ o⟨f,rfl,g⟩ h;have i:=ca g a;refine go 4 ?_;cases oj h z;exact rt1 ⟨f,rfl,i⟩
theorem arz(k:Nat)(F:aes)(IH92:acv F.f92)(IH122:ab0 F.f122)(IH1006489:aa9 F.f1006489)(IH1009189:aa5 F.f1009189)(IH1012326:aa3 F.f1012326)(IH1014826:aa7 F.f1014826):ab0 (amh k F):=by
 intro K wi W aB aG h hG X Y;obtain⟨r_,n,h⟩:=rz h;obtain⟨e,o,p,q,r,s,t,u,v,x,y⟩:=W;obtain⟨Z,ab,ac,ad,ae,af,ai,aj,ak,al,rfl,z,A,B,C,D,G,I⟩:=aag.open X;refine en 29 Tryz.func122 rfl ?_;unfold amh at h;refine gI 7 [] [] Y (λaH b=>wk b (λj m=>∃J f,j J [1] [(10,.bool f)]/\m K [] [.box (zz wi) (zz wi) (aS e o p q r s Z t ab ac u ad ae v af ai x aj ak y al) 62]/\ajy k F e o p q r s t u v x y f=some r_) ?_ ?_)
 ·refine gD 5 [0,1] b (bO 6 h ?_ ?_)<;>intro _ h
  ·exact go 6 ⟨_,true,fK,b,h⟩
  ·exact gP 9 [0,1] b ⟨_,e==28,fK,b,h⟩
 ·rintro _ aI⟨J,f,rfl,a,h⟩;refine bC 10 h ?_ ?_<;>intro _ h
  ·refine gd 8 ?_;cases oj h n;exact rt1 ⟨K,rfl,a.sel []⟩
  ·refine gd 3<|wk a (λj m=>∃N d g,j N [] [(2,.bool g)]/\KH.sub K d/\m d [] []/\agC k F g=some r_) ?_ ?_
   ·refine gD 5 [0,1] a (bO 14 h ?_ ?_)<;>intro _ h
    ·exact go 17 ⟨_,K,true,fK,kr,a.sel [],h⟩
    ·refine gP 8 [0,1] a (bO 18 h ?_ ?_)<;>intro _ h
     ·refine gP 10 [5,1] a (bO 24 h ?_ ?_)<;>intro _ h
      ·exact go 7 ⟨_,K,true,fK,kr,a.sel [],h⟩
      ·refine gP 3 [0,0,11] a<|cB h (λ_ am=>(arM k) am (hG.mono kr) (aag.intro z A B C D G I)<|pt a) ?_;rintro aK _ aL⟨aM,aN,aP,rfl,i,an⟩ h;have O:=ca i a;refine go 1<|cB h (λ_ ao=>IH1012326 ao (gm hG i) an<|pt O) ?_;rintro ap _ aT⟨aq,rfl,S⟩ h;have ar:=ca S O;exact go 4 ⟨_,aq,ap,fK,i.sub.trans S.sub,ar.sel [],h⟩
     ·refine gP 10 [0,0,11] a<|cB h (λ_ au=>(arM k) au (hG.mono kr) (aag.intro z A B C D G I)<|pt a) ?_;rintro aU _ aV⟨aW,aX,aY,rfl,l,av⟩ h;have U:=ca l a;refine go 1<|cB h (λ_ aw=>IH1012326 aw (gm hG l) av<|pt U) ?_;rintro ax _ aZ⟨ay,rfl,V⟩ h;have az:=ca V U;exact go 4 ⟨_,ay,ax,fK,l.sub.trans V.sub,az.sel [],h⟩
   ·rintro _ a1⟨N,d,g,rfl,a2,aA,h⟩;refine gd 1 ?_;cases oj h n;exact rt1 ⟨d,rfl,aA⟩
theorem ajq(k:Nat)(F:aes)(IH92:acv F.f92)(IH122:ab0 F.f122)(IH1006489:aa9 F.f1006489)(IH1009189:aa5 F.f1009189)(IH1012326:aa3 F.f1012326)(IH1014826:aa7 F.f1014826):aa9 (agy k F):=by
 intro K wi j l m b h hG d a;obtain⟨y,z,h⟩:=rz h;refine en 9 Tryz.func64 rfl ?_;unfold agy at h;refine gd 9<|cB h (λ_ e=>IH1009189 e (hG.mono kr) d<|pt a) ?_;rintro b _ o⟨f,rfl,g⟩ h;have i:=ca g a;refine go 5 ?_;cases oj h z;exact rt1 ⟨f,rfl,i⟩
theorem ajc(k:Nat)(F:aes)(IH92:acv F.f92)(IH122:ab0 F.f122)(IH1006489:aa9 F.f1006489)(IH1009189:aa5 F.f1009189)(IH1012326:aa3 F.f1012326)(IH1014826:aa7 F.f1014826):aa5 (agi k F):=by
 intro K wi i v x y h hG l o;obtain⟨r_,n,h⟩:=rz h;refine en 19 Tryz.func91 rfl ?_;unfold agi at h;refine gd 14<|wl o (λj m g_=>∃p e a,∃(b:Nat),g_=a.length/\j p [0,1,7] [(8,iI (b:Int))]/\KH.sub K e/\m e [] []/\i.drop b=a/\act k F a b=some r_) i.length ?_ ?_
 ·exact⟨_,K,i,0,rfl,fK,kr,o,List.drop_zero,h⟩
 ·rintro _ _ z⟨p,e,a,b,rfl,rfl,f,g,d,h⟩;rcases a with _|⟨⟨A,B,C,D,G,I,J,N,O,S,U⟩,a⟩
  ·refine gd 2<|cNl d<|go 15 ?_;cases oj h n;exact rt1 ⟨e,rfl,g⟩
  ·refine gd 2<|cCl d<|go 19<|eN g (ms l f) d aag.open ?_;rintro V W X Y Z t⟨ab,ac,ad,ae,af,ai,aj,ak,al,am,rfl,an,ao,ap,aq,ar,au,av⟩;refine cB h (λ_ u=>IH122 u (hG.mono f) t<|pt g) ?_;rintro aw _ ax⟨q,rfl,r⟩ h;have s:=ca r g;refine go 2 (bC 16 h ?_ ?_)<;>intro _ h
   ·refine gd 13 ?_;cases oj h n;exact rt1 ⟨q,rfl,s⟩
   ·exact gd 5<|iCl d ((ms l f).len)<|go 3 ⟨_,Nat.lt_succ_self _,_,q,a,b+1,rfl,fK,f.trans r.sub,s,aac d,h⟩
theorem aj6(k:Nat)(F:aes)(IH92:acv F.f92)(IH122:ab0 F.f122)(IH1006489:aa9 F.f1006489)(IH1009189:aa5 F.f1009189)(IH1012326:aa3 F.f1012326)(IH1014826:aa7 F.f1014826):aa3 (agn k F):=by
 intro K wi j l m b h hG d a;obtain⟨y,z,h⟩:=rz h;refine en 9 Tryz.func123 rfl ?_;unfold agn at h;refine gd 9<|cB h (λ_ e=>IH1014826 e (hG.mono kr) d<|pt a) ?_;rintro b _ o⟨f,rfl,g⟩ h;have i:=ca g a;refine go 5 ?_;cases oj h z;exact rt1 ⟨f,rfl,i⟩
theorem akn(k:Nat)(F:aes)(IH92:acv F.f92)(IH122:ab0 F.f122)(IH1006489:aa9 F.f1006489)(IH1009189:aa5 F.f1009189)(IH1012326:aa3 F.f1012326)(IH1014826:aa7 F.f1014826):aa7 (agc k F):=by
 intro K wi p O S U h hG q r;obtain⟨n,o,h⟩:=rz h;refine en 19 Tryz.func148 rfl ?_;unfold agc at h;refine gd 14<|wl r (λj m g_=>∃s g a,∃(d:Nat),g_=a.length/\j s [0,1,7] [(8,iI (d:Int))]/\KH.sub K g/\m g [] []/\p.drop d=a/\ac0 k F a d=some n) p.length ?_ ?_
 ·exact⟨_,K,p,0,rfl,fK,kr,r,List.drop_zero,h⟩
 ·rintro _ _ V⟨s,g,a,d,rfl,rfl,e,l,f,h⟩;rcases a with _|⟨y,a⟩
  ·refine gd 2<|cNl f<|go 15 ?_;cases oj h o;exact rt1 ⟨g,rfl,l⟩
  ·refine gd 2<|cCl f<|go 19 ?_;obtain⟨z,A,W,B,X,C,D⟩:=((q.mono e (λ_ _ h=>RSlE.mono (R:=λK=>(aag K)) (λhs _ _ h=>aag.mono hs h) e h))).row.at_ (aaC f);obtain⟨G,I,rfl,J⟩:=D;refine iNl 50 1 B f<|ld1 (v:=sl G y I) aoA rfl (l.cell<|kr.cell<|C 0 _ rfl)<|cB h (λ_ N=>IH92 N (hG.mono e) J<|pt l) ?_;rintro Y _ Z⟨t,rfl,u⟩ h;have x:=ca u l;refine go 2 (bC 16 h ?_ ?_)<;>intro _ h
   ·refine gd 13 ?_;cases oj h o;exact rt1 ⟨t,rfl,x⟩
   ·exact gd 5<|iCl f ((q.mono e (λ_ _ h=>RSlE.mono (R:=λK=>aag K) (λhs _ _ h=>aag.mono hs h) e h)).len)<|go 3 ⟨_,Nat.lt_succ_self _,_,t,a,d+1,rfl,fK,e.trans u.sub,x,aac f,h⟩
theorem aeI(k0:Nat) : ∀k,acv (abq k0 k).f92/\ab0 (abq k0 k).f122/\aa9 (abq k0 k).f1006489/\aa5 (abq k0 k).f1009189/\aa3 (abq k0 k).f1012326/\aa7 (abq k0 k).f1014826:=by
 intro k;induction k with
 | zero=>exact⟨by simp[acv,abq],by simp[ab0,abq],by simp[aa9,abq],by simp[aa5,abq],by simp[aa3,abq],by simp[aa7,abq]⟩
 | succ k ih=>exact⟨atq k0 (abq k0 k) ih.1 ih.2.1 ih.2.2.1 ih.2.2.2.1 ih.2.2.2.2.1 ih.2.2.2.2.2,arz k0 (abq k0 k) ih.1 ih.2.1 ih.2.2.1 ih.2.2.2.1 ih.2.2.2.2.1 ih.2.2.2.2.2,ajq k0 (abq k0 k) ih.1 ih.2.1 ih.2.2.1 ih.2.2.2.1 ih.2.2.2.2.1 ih.2.2.2.2.2,ajc k0 (abq k0 k) ih.1 ih.2.1 ih.2.2.1 ih.2.2.2.1 ih.2.2.2.2.1 ih.2.2.2.2.2,aj6 k0 (abq k0 k) ih.1 ih.2.1 ih.2.2.1 ih.2.2.2.1 ih.2.2.2.2.1 ih.2.2.2.2.2,akn k0 (abq k0 k) ih.1 ih.2.1 ih.2.2.1 ih.2.2.2.1 ih.2.2.2.2.1 ih.2.2.2.2.2⟩
theorem axW(k:Nat):acv (f92 k):=(aeI k k).1
theorem ayS(k:Nat):ab0 (f122 k):=(aeI k k).2.1
theorem avw(k:Nat):aa9 (f1006489 k):=(aeI k k).2.2.1
theorem awb(k:Nat):aa5 (f1009189 k):=(aeI k k).2.2.2.1
theorem ave(k:Nat):aa3 (f1012326 k):=(aeI k k).2.2.2.2.1
theorem awp(k:Nat):aa7 (f1014826 k):=(aeI k k).2.2.2.2.2
theorem asK(k:Nat)(F:acB)(IH40:abT F.f40)(IH65:abJ F.f65)(IH94:abL F.f94)(IH1006449:aaL F.f1006449)(IH1009149:aaG F.f1009149)(IH1009388:aaK F.f1009388)(IH1012547:aaH F.f1012547)(IH1012626:aaJ F.f1012626)(IH1014947:aaI F.f1014947):abT (au1 k F):=by
 intro K wi j l m b h hG d a;obtain⟨y,z,h⟩:=rz h;refine en 5 Tryz.func40 rfl ?_;unfold au1 at h;refine gd 8<|cB h (λ_ e=>IH1006449 e (hG.mono kr) d<|pt a) ?_;rintro b _ o⟨f,rfl,g⟩ h;have i:=ca g a;refine go 4 ?_;cases oj h z;exact rt1 ⟨f,rfl,i⟩
theorem asO(k:Nat)(F:acB)(IH40:abT F.f40)(IH65:abJ F.f65)(IH94:abL F.f94)(IH1006449:aaL F.f1006449)(IH1009149:aaG F.f1009149)(IH1009388:aaK F.f1009388)(IH1012547:aaH F.f1012547)(IH1012626:aaJ F.f1012626)(IH1014947:aaI F.f1014947):abJ (aph k F):=by
 intro K wi aH bw bx h hG aI aK;obtain⟨n,o,h⟩:=rz h;obtain⟨d,X,Y,Z,ab,p,N,u,x,y,z⟩:=aH;obtain⟨ac,ad,ae,af,ai,aj,ak,al,am,an,rfl,bz,bB,aL,A,ao,aM,aN⟩:=aag.open aI;refine en 80 Tryz.func65 rfl ?_;unfold aph at h;refine gI 14 [0,1] [] aK (λbD q=>wk q (λj m=>∃ap O,j ap [1,4] [(5,.bool O)]/\m K [] [.box (zz wi) (zz wi) (aS d X Y Z ab p ac N ad ae u af ai x aj ak y al am z an) 62]/\ajb k F d p N u x y z O=some n) ?_ ?_)
 ·refine gd 6 (bC 5 h ?_ ?_)<;>intro aP h
  ·exact gd 3<|lX 5 aP.symm ⟨_,d==17,fK,q,h⟩
  ·refine gd 7 (bC 5 h ?_ ?_)<;>intro aT h
   ·exact gd 3<|lX 5 aT.symm ⟨_,d==15,fK,q,h⟩
   ·refine gd 7 (bC 5 h ?_ ?_)<;>intro aU h
    ·exact gd 3<|lX 5 aU.symm ⟨_,d==18,fK,q,h⟩
    ·exact gd 6 ⟨_,d==19,fK,q,h⟩
 ·rintro _ bE⟨ap,O,rfl,a,h⟩;refine bC 5 h ?_ ?_<;>intro _ h
  ·refine gd 9 ?_;cases oj h o;exact rt1 ⟨K,rfl,a.sel []⟩
  ·refine gd 7 (bC 10 h ?_ ?_)<;>intro _ h
   ·refine gd 1<|wk a (λj m=>∃aq B S,j aq [] [(2,.bool S)]/\KH.sub K B/\m B [] []/\alV k F S=some n) ?_ ?_
    ·refine gD 5 [5,1] a (bO 15 h ?_ ?_)<;>intro _ h
     ·refine gP 5 [7,1] a<|cB h (λ_ aV=>IH40 aV (hG.mono kr) A<|pt a) ?_;rintro bF _ bG⟨aW,rfl,s⟩ h;have C:=ca s a;refine go 2 (bO 20 h ?_ ?_)<;>intro _ h
      ·refine gP 5 [8,1] C<|cB h (λ_ aX=>IH40 aX (gm hG s) (ms ao s.sub)<|pt C) ?_;rintro aY _ bH⟨aZ,rfl,ar⟩ h;have a1:=ca ar C;exact go 4 ⟨_,aZ,aY,fK,s.sub.trans ar.sub,a1.sel [],h⟩
      ·exact go 7 ⟨_,aW,false,fK,s.sub,C.sel [],h⟩
     ·exact go 12 ⟨_,K,false,fK,kr,a.sel [],h⟩
    ·rintro _ bI⟨aq,B,S,rfl,bJ,a2,h⟩;refine gd 3 ?_;cases oj h o;exact rt1 ⟨B,rfl,a2⟩
   ·refine gd 7 (bC 25 h ?_ ?_)<;>intro _ h
    ·refine gd 1<|wk a (λj m=>∃au D U,j au [] [(2,.bool U)]/\KH.sub K D/\m D [] []/\alQ k F U=some n) ?_ ?_
     ·refine gD 3 [6,1] a ?_;obtain⟨⟨a3,a4,bK,bL,bM⟩,t,h⟩:=ob h;obtain⟨av,G,bP,aw,bQ,ax,a5⟩:=(aL).row.at_ (aaA t).1;obtain⟨bR,bS,rfl,bT,bU⟩:=aai.open a5;refine iGl 35 5 aw t (fd (G+(0:Int).toNat*5+0) arn rfl<|ld1 (v:=iI a3) Tya3 rfl (a.cell<|kr.cell<|ax 0 _ rfl)<|go 2<|bO 33 h ?_ ?_)<;>intro _ h
      ·refine gP 5 [6,1] a (iGl 35 5 aw t<|go 1<|fd (G+(0:Int).toNat*5+1) aqx rfl<|go 1<|ld1 (v:=iI a4) Tya3 rfl (a.cell<|kr.cell<|ax 1 _ rfl)<|go 4<|bO 41 h ?_ ?_)<;>intro _ h
       ·refine gP 5 [7,1] a<|cB h (λ_ a6=>(axW k) a6 (hG.mono kr) A<|pt a) ?_;rintro a7 _ bV⟨a8,rfl,ay⟩ h;have a9:=ca ay a;exact go 6 ⟨_,a8,!a7,fK,ay.sub,a9.sel [],h⟩
       ·exact go 8 ⟨_,K,false,fK,kr,a.sel [],h⟩
      ·exact go 16 ⟨_,K,false,fK,kr,a.sel [],h⟩
     ·rintro _ bW⟨au,D,U,rfl,bX,ba,h⟩;refine gd 3 ?_;cases oj h o;exact rt1 ⟨D,rfl,ba⟩
    ·refine gd 1<|wk a (λj m=>∃az V,j az [1,4] [(47,.bool V)]/\m K [] [.box (zz wi) (zz wi) (aS d X Y Z ab p ac N ad ae u af ai x aj ak y al am z an) 62]/\als k F d p u x y z V=some n) ?_ ?_
     ·refine gd 6 (bC 47 h ?_ ?_)<;>intro bb h
      ·exact gd 3<|lX 47 bb.symm ⟨_,d==23,fK,a,h⟩
      ·refine gd 7 (bC 47 h ?_ ?_)<;>intro bd h
       ·exact gd 3<|lX 47 bd.symm ⟨_,d==25,fK,a,h⟩
       ·exact gd 6 ⟨_,d==26,fK,a,h⟩
     ·rintro _ bY⟨az,V,rfl,e,h⟩;refine bC 47 h ?_ ?_<;>intro _ h
      ·refine gD 5 [7,1] e<|cB h (λ_ be=>IH40 be (hG.mono kr) A<|pt e) ?_;rintro bZ _ b0⟨bf,rfl,bg⟩ h;have bh:=ca bg e;refine go 6 ?_;cases oj h o;exact rt1 ⟨bf,rfl,bh.sel []⟩
      ·refine gd 7 (bC 54 h ?_ ?_)<;>intro _ h
       ·refine gd 1<|wk e (λj m=>∃aA I W,j aA [] [(2,.bool W)]/\KH.sub K I/\m I [] []/\aiO k F W=some n) ?_ ?_
        ·refine gD 3 [9,1] e<|cB h (λ_ bi=>IH40 bi (hG.mono kr) aM<|pt e) ?_;rintro b1 _ b2⟨bj,rfl,f⟩ h;have J:=ca f e;refine go 1 (bO 59 h ?_ ?_)<;>intro _ h
         ·exact go 18 ⟨_,bj,true,fK,f.sub,J.sel [],h⟩
         ·refine gP 5 [7,1] J<|cB h (λ_ bk=>IH40 bk (gm hG f) (ms A f.sub)<|pt J) ?_;rintro b3 _ b4⟨aB,rfl,g⟩ h;have l:=ca g J;refine go 2 (bO 63 h ?_ ?_)<;>intro _ h
          ·refine gP 5 [5,1] l (bbt (r:=(IntKind.i64.wrap (BitVec.ofInt IntKind.i64.bits p &&& BitVec.ofInt IntKind.i64.bits 1).toNat)) rfl rfl rfl<|go 4<|bO 68 h ?_ ?_)<;>intro _ h
           ·exact go 11 ⟨_,aB,true,fK,f.sub.trans g.sub,l.sel [],h⟩
           ·refine gP 5 [8,1] l<|cB h (λ_ bm=>IH40 bm (hG.mono<|f.sub.trans g.sub) (ms ao<|f.sub.trans g.sub)<|pt l) ?_;rintro bn _ b5⟨bo,rfl,aG⟩ h;have bp:=ca aG l;exact go 8 ⟨_,bo,bn,fK,(f.sub.trans g.sub).trans aG.sub,bp.sel [],h⟩
          ·exact go 15 ⟨_,aB,false,fK,f.sub.trans g.sub,l.sel [],h⟩
        ·rintro _ b6⟨aA,I,W,rfl,b7,bq,h⟩;refine gd 3 ?_;cases oj h o;exact rt1 ⟨I,rfl,bq⟩
       ·refine gd 7 (bC 75 h ?_ ?_)<;>intro _ h
        ·refine gD 5 [10,1] e<|cB h (λ_ br=>IH1009388 br (hG.mono kr) aN<|pt e) ?_;rintro b8 _ b9⟨bs,rfl,bu⟩ h;have bv:=ca bu e;refine go 6 ?_;cases oj h o;exact rt1 ⟨bs,rfl,bv.sel []⟩
        ·refine gd 10 ?_;cases oj h o;exact rt1 ⟨K,rfl,e.sel []⟩
theorem asa(k:Nat)(F:acB)(IH40:abT F.f40)(IH65:abJ F.f65)(IH94:abL F.f94)(IH1006449:aaL F.f1006449)(IH1009149:aaG F.f1009149)(IH1009388:aaK F.f1009388)(IH1012547:aaH F.f1012547)(IH1012626:aaJ F.f1012626)(IH1014947:aaI F.f1014947):abL (auq k F):=by
 intro K wi b m o h hG d e;obtain⟨Z,n,h⟩:=rz h;obtain⟨p,q,r,s,t⟩:=b;obtain⟨u,v,x,y,rfl,z,A,f⟩:=aaq.open d;refine en 6 Tryz.func94 rfl ?_;unfold auq at h;refine gI 10 [4,1] [] e (λB a=>cB h (λ_ g=>IH40 g (hG.mono kr) f<|pt a) ?_);rintro C _ D⟨i,rfl,j⟩ h;have l:=ca j a;refine go 4 ?_;cases oj h n;exact rt1 ⟨i,rfl,l.sel []⟩
theorem aky(k:Nat)(F:acB)(IH40:abT F.f40)(IH65:abJ F.f65)(IH94:abL F.f94)(IH1006449:aaL F.f1006449)(IH1009149:aaG F.f1009149)(IH1009388:aaK F.f1009388)(IH1012547:aaH F.f1012547)(IH1012626:aaJ F.f1012626)(IH1014947:aaI F.f1014947):aaL (af6 k F):=by
 intro K wi j l m b h hG d a;obtain⟨y,z,h⟩:=rz h;refine en 9 Tryz.func64 rfl ?_;unfold af6 at h;refine gd 9<|cB h (λ_ e=>IH1009149 e (hG.mono kr) d<|pt a) ?_;rintro b _ o⟨f,rfl,g⟩ h;have i:=ca g a;refine go 5 ?_;cases oj h z;exact rt1 ⟨f,rfl,i⟩
theorem akE(k:Nat)(F:acB)(IH40:abT F.f40)(IH65:abJ F.f65)(IH94:abL F.f94)(IH1006449:aaL F.f1006449)(IH1009149:aaG F.f1009149)(IH1009388:aaK F.f1009388)(IH1012547:aaH F.f1012547)(IH1012626:aaJ F.f1012626)(IH1014947:aaI F.f1014947):aaG (agA k F):=by
 intro K wi i v x y h hG l o;obtain⟨r_,n,h⟩:=rz h;refine en 19 Tryz.func91 rfl ?_;unfold agA at h;refine gd 14<|wl o (λj m g_=>∃p e a,∃(b:Nat),g_=a.length/\j p [0,1,7] [(8,iI (b:Int))]/\KH.sub K e/\m e [] []/\i.drop b=a/\acr k F a b=some r_) i.length ?_ ?_
 ·exact⟨_,K,i,0,rfl,fK,kr,o,List.drop_zero,h⟩
 ·rintro _ _ z⟨p,e,a,b,rfl,rfl,f,g,d,h⟩;rcases a with _|⟨⟨A,B,C,D,G,I,J,N,O,S,U⟩,a⟩
  ·refine gd 2<|cNl d<|go 15 ?_;cases oj h n;exact rt1 ⟨e,rfl,g⟩
  ·refine gd 2<|cCl d<|go 19<|eN g (ms l f) d aag.open ?_;rintro V W X Y Z t⟨ab,ac,ad,ae,af,ai,aj,ak,al,am,rfl,an,ao,ap,aq,ar,au,av⟩;refine cB h (λ_ u=>IH65 u (hG.mono f) t<|pt g) ?_;rintro aw _ ax⟨q,rfl,r⟩ h;have s:=ca r g;refine go 2 (bC 16 h ?_ ?_)<;>intro _ h
   ·refine gd 13 ?_;cases oj h n;exact rt1 ⟨q,rfl,s⟩
   ·exact gd 5<|iCl d ((ms l f).len)<|go 3 ⟨_,Nat.lt_succ_self _,_,q,a,b+1,rfl,fK,f.trans r.sub,s,aac d,h⟩
theorem aj0(k:Nat)(F:acB)(IH40:abT F.f40)(IH65:abJ F.f65)(IH94:abL F.f94)(IH1006449:aaL F.f1006449)(IH1009149:aaG F.f1009149)(IH1009388:aaK F.f1009388)(IH1012547:aaH F.f1012547)(IH1012626:aaJ F.f1012626)(IH1014947:aaI F.f1014947):aaK (agB k F):=by
 intro K wi i j l m h hG b a;obtain⟨y,z,h⟩:=rz h;refine en 9 Tryz.func93 rfl ?_;unfold agB at h;refine gI 9 [] [] a (λo a=>mkf (us:=[]) (vs:=[pp (zz wi) 0]) rfl rfl<|cB h (λ_ d=>IH1012547 d (hG.mono kr) b<|pt a) ?_);rintro p _ q⟨e,rfl,f⟩ h;have g:=ca f a;refine go 5 ?_;cases oj h z;exact rt1 ⟨e,rfl,g.sel []⟩
theorem akf(k:Nat)(F:acB)(IH40:abT F.f40)(IH65:abJ F.f65)(IH94:abL F.f94)(IH1006449:aaL F.f1006449)(IH1009149:aaG F.f1009149)(IH1009388:aaK F.f1009388)(IH1012547:aaH F.f1012547)(IH1012626:aaJ F.f1012626)(IH1014947:aaI F.f1014947):aaH (ago k F):=by
 intro K wi l m o g bs b h hG d a;obtain⟨y,z,h⟩:=rz h;refine en 9 Tryz.func125 rfl ?_;unfold ago at h;refine gd 9<|cB h (λ_ e=>IH1014947 e (hG.mono kr) d<|pt a) ?_;rintro b _ p⟨f,rfl,i⟩ h;have j:=ca i a;refine go 5 ?_;cases oj h z;exact rt1 ⟨f,rfl,j⟩
theorem akA(k:Nat)(F:acB)(IH40:abT F.f40)(IH65:abJ F.f65)(IH94:abL F.f94)(IH1006449:aaL F.f1006449)(IH1009149:aaG F.f1009149)(IH1009388:aaK F.f1009388)(IH1012547:aaH F.f1012547)(IH1012626:aaJ F.f1012626)(IH1014947:aaI F.f1014947):aaJ (agd k F):=by
 intro K wi b q g bs r h hG d e;obtain⟨Z,n,h⟩:=rz h;obtain⟨s,t,u,v,x⟩:=b;obtain⟨y,z,A,B,rfl,f,i,j⟩:=aaq.open d;refine en 8 Tryz.func126 rfl ?_;unfold agd at h;refine gI 10 [2,0,0,5] [] e (λC a=>cB h (λ_ l=>IH94 l (hG.mono kr) (aaq.intro f i j)<|pt a) ?_);rintro D _ G⟨m,rfl,o⟩ h;have p:=ca o a;refine go 5 ?_;cases oj h n;exact rt1 ⟨m,rfl,p.sel [1]⟩
theorem ajC(k:Nat)(F:acB)(IH40:abT F.f40)(IH65:abJ F.f65)(IH94:abL F.f94)(IH1006449:aaL F.f1006449)(IH1009149:aaG F.f1009149)(IH1009388:aaK F.f1009388)(IH1012547:aaH F.f1012547)(IH1012626:aaJ F.f1012626)(IH1014947:aaI F.f1014947):aaI (af3 k F):=by
 intro K wi l J N g bs O h hG o p;obtain⟨r_,n,h⟩:=rz h;refine en 19 Tryz.func149 rfl ?_;unfold af3 at h;refine gd 14<|wl p (λj m g_=>∃q e a,∃(b:Nat),g_=a.length/\j q [0,1,7] [(8,iI (b:Int))]/\KH.sub K e/\m e [0] []/\l.drop b=a/\aco k F a b=some r_) l.length ?_ ?_
 ·exact⟨_,K,l,0,rfl,fK,kr,p,List.drop_zero,h⟩
 ·rintro _ _ S⟨q,e,a,b,rfl,rfl,f,i,d,h⟩;rcases a with _|⟨⟨u,v,x,y,z⟩,a⟩
  ·refine gd 2<|cNl d<|go 15 ?_;cases oj h n;exact rt1 ⟨e,rfl,i⟩
  ·refine gd 2<|cCl d<|go 19<|eN i (mc o f) d aaq.open ?_;rintro U V W X Y A⟨B,C,D,G,rfl,Z,ab,ac⟩;obtain⟨ad,I,h⟩:=ob h;refine clV (caps:=#[pp g 0]) (vs:=[.agg (aC' u v x B y C D z G),pp g 0]) rfl ayc rfl (IH1012626 I (hG.mono f) A<|pt i) ?_;rintro _ ae⟨r,rfl,s⟩;have t:=ca s i;refine go 2 (bC 16 h ?_ ?_)<;>intro _ h
   ·refine gd 13 ?_;cases oj h n;exact rt1 ⟨r,rfl,t⟩
   ·exact gd 5<|iCl d ((mc o f).len)<|go 3 ⟨_,Nat.lt_succ_self _,_,r,a,b+1,rfl,fK,f.trans s.sub,t,aac d,h⟩
theorem acK(k0:Nat) : ∀k,abT (aaT k0 k).f40/\abJ (aaT k0 k).f65/\abL (aaT k0 k).f94/\aaL (aaT k0 k).f1006449/\aaG (aaT k0 k).f1009149/\aaK (aaT k0 k).f1009388/\aaH (aaT k0 k).f1012547/\aaJ (aaT k0 k).f1012626/\aaI (aaT k0 k).f1014947:=by
 intro k;induction k with
 | zero=>exact⟨by simp[abT,aaT],by simp[abJ,aaT],by simp[abL,aaT],by simp[aaL,aaT],by simp[aaG,aaT],by simp[aaK,aaT],by simp[aaH,aaT],by simp[aaJ,aaT],by simp[aaI,aaT]⟩
 | succ k ih=>exact⟨asK k0 (aaT k0 k) ih.1 ih.2.1 ih.2.2.1 ih.2.2.2.1 ih.2.2.2.2.1 ih.2.2.2.2.2.1 ih.2.2.2.2.2.2.1 ih.2.2.2.2.2.2.2.1 ih.2.2.2.2.2.2.2.2,asO k0 (aaT k0 k) ih.1 ih.2.1 ih.2.2.1 ih.2.2.2.1 ih.2.2.2.2.1 ih.2.2.2.2.2.1 ih.2.2.2.2.2.2.1 ih.2.2.2.2.2.2.2.1 ih.2.2.2.2.2.2.2.2,asa k0 (aaT k0 k) ih.1 ih.2.1 ih.2.2.1 ih.2.2.2.1 ih.2.2.2.2.1 ih.2.2.2.2.2.1 ih.2.2.2.2.2.2.1 ih.2.2.2.2.2.2.2.1 ih.2.2.2.2.2.2.2.2,aky k0 (aaT k0 k) ih.1 ih.2.1 ih.2.2.1 ih.2.2.2.1 ih.2.2.2.2.1 ih.2.2.2.2.2.1 ih.2.2.2.2.2.2.1 ih.2.2.2.2.2.2.2.1 ih.2.2.2.2.2.2.2.2,akE k0 (aaT k0 k) ih.1 ih.2.1 ih.2.2.1 ih.2.2.2.1 ih.2.2.2.2.1 ih.2.2.2.2.2.1 ih.2.2.2.2.2.2.1 ih.2.2.2.2.2.2.2.1 ih.2.2.2.2.2.2.2.2,aj0 k0 (aaT k0 k) ih.1 ih.2.1 ih.2.2.1 ih.2.2.2.1 ih.2.2.2.2.1 ih.2.2.2.2.2.1 ih.2.2.2.2.2.2.1 ih.2.2.2.2.2.2.2.1 ih.2.2.2.2.2.2.2.2,akf k0 (aaT k0 k) ih.1 ih.2.1 ih.2.2.1 ih.2.2.2.1 ih.2.2.2.2.1 ih.2.2.2.2.2.1 ih.2.2.2.2.2.2.1 ih.2.2.2.2.2.2.2.1 ih.2.2.2.2.2.2.2.2,akA k0 (aaT k0 k) ih.1 ih.2.1 ih.2.2.1 ih.2.2.2.1 ih.2.2.2.2.1 ih.2.2.2.2.2.1 ih.2.2.2.2.2.2.1 ih.2.2.2.2.2.2.2.1 ih.2.2.2.2.2.2.2.2,ajC k0 (aaT k0 k) ih.1 ih.2.1 ih.2.2.1 ih.2.2.2.1 ih.2.2.2.2.1 ih.2.2.2.2.2.1 ih.2.2.2.2.2.2.1 ih.2.2.2.2.2.2.2.1 ih.2.2.2.2.2.2.2.2⟩
theorem awH(k:Nat):abT (f40 k):=(acK k k).1
theorem azj(k:Nat):abJ (f65 k):=(acK k k).2.1
theorem azg(k:Nat):abL (f94 k):=(acK k k).2.2.1
theorem au0(k:Nat):aaL (f1006449 k):=(acK k k).2.2.2.1
theorem av6(k:Nat):aaG (f1009149 k):=(acK k k).2.2.2.2.1
theorem avg(k:Nat):aaK (f1009388 k):=(acK k k).2.2.2.2.2.1
theorem avB(k:Nat):aaH (f1012547 k):=(acK k k).2.2.2.2.2.2.1
theorem avF(k:Nat):aaJ (f1012626 k):=(acK k k).2.2.2.2.2.2.2.1
theorem avt(k:Nat):aaI (f1014947 k):=(acK k k).2.2.2.2.2.2.2.2
theorem aiL(k:Nat):as8 (f42 k):=by
 intro K wi y V W h hG z A;obtain⟨r_,n,h⟩:=rz h;obtain⟨X,o,Y,Z,ab,ac⟩:=y;obtain⟨ad,ae,af,ai,rfl,aj,q,ak⟩:=aak.open z;refine en 20 Tryz.func42 rfl ?_;unfold f42 at h;refine gI 21 [1,1] [] A (λal B=>?_);have r:=B.row_ (zz wi) 3 1;refine wl r (λj m g_=>∃s b,∃(d:Nat),∃a f g i,g_=b.length/\j s [7,8] [(3,sl f a g),(9,iI (d:Int))]/\m K [] [eW (zz wi) f a g 3 1 i]/\o.drop d=b/\Reps (RInt .i64) 1 a i/\a.length*8<=mB/\aiJ k b d a=some r_) o.length ?_ ?_
 ·exact⟨_,o,0,([]:List Int),none,0,[],rfl,fK,r.sel [0],List.drop_zero,abm (R:=(RInt .i64)) (size:=1),(by simp),h⟩
 ·rintro _ _ C⟨s,b,d,a,f,g,i,rfl,rfl,p,e,t,D,h⟩;rcases b with _|⟨⟨G,l⟩,b⟩
  ·refine gd 2<|cNl e<|go 16 ?_;cases oj h n;exact rt1 ⟨K,f,g,i,rfl,p,t,D⟩
  ·refine gd 2<|cCl e<|go 10<|eN p q e aaw.open ?_;rintro am an ao ap aq ar⟨rfl,au⟩;refine gR 9 [0,1,1,3] [[sE,iI 0]] p (λav aw ax I=>aJ h 2 0 I rfl rfl t rfl ?_);rintro u v x J N O S h;have U:=p12 N;exact go 5<|iCl e ((q).len)<|go 3 ⟨_,Nat.lt_succ_self _,_,b,d+1,a++[l],u,v,x,rfl,fK,U.sel [1],aac e,O,aav S,h⟩
theorem apc(k:Nat):alp (f129 k):=by
 unfold alp;intro K wi a0 Aa0 ca0 r0 h hG ha0 S0;unfold f129 at h;obtain⟨hn,h⟩:=aaR h;have e_:=Option.some.inj h;subst e_;refine enter Tryz.func129 rfl (n:=8) rfl ?_;refine wp_seq ?_;refine wp_region_lit ?_;refine asg (v:=.slice none 0 0) rfl ?_;refine wpList_nil ?_;refine aaQ ?_;refine wp_seq ?_;refine wp_seq ?_;refine wp_region_lit ?_;refine mv (v:=.slice Aa0 a0.length ca0) rfl ?_;refine bsn (A:=Aa0) auW rfl rfl ?_;refine wpList_nil ?_;refine aaQ ?_;rcases Bool.eq_false_or_eq_true Aa0.isNone with hb1 | hb1
 ·have ha:a0=[]:=by
   obtain⟨b,o,cs,g1,g2,g3⟩:=ha0.row;cases a0 with
   | nil=>rfl
   | cons x xs=>rw[g1 (by simp)] at hb1;cases hb1
  subst ha;refine cndT (congrArg Value.bool hb1) ?_;refine wp_seq ?_;refine wp_region_lit ?_;refine asg (v:=.slice none 0 0) rfl ?_;refine wpList_nil ?_;refine aaQ ?_;refine wp_ret ?_;refine asQ ?_;exact adq rfl (resT rfl) ⟨K,none,0,rfl,S0,RSl.nil _ _ _ _ _ _⟩
 ·refine cndF (congrArg Value.bool hb1) ?_;refine wp_skip ?_;refine aaQ ?_;refine wp_seq ?_;refine wp_region_lit ?_;refine bsl (e:=70) (cells:=#[]) (vs:=[]) S0 rfl (λw=>by kernel_rfl) ?_;intro w3 S2;have S4:=S2.boxrow (i:=0) (size:=2) rfl;refine mv (v:=.slice Aa0 a0.length ca0) rfl ?_;have hn11:(([]:List aau).length+a0.length)*24<=mB:=by simpa using hn
  refine apS (R:=λK=>aaw K) (zs:=a0) (i:=0) S4 rfl auW aw2 rfl (by decide) rfl rfl (abm (R:=(aaw K)) (size:=2)) ha0 (λ_ _ h=>aaw.one h) (Nat.le_refl _) hn11 (by decide) ?_;intro A5 c6 ys7 w8 S9 hr10;refine asg (v:=.slice A5 (([]:List aau)++a0).length c6) rfl ?_;refine wpList_nil ?_;refine aaQ ?_;refine wp_ret ?_;obtain⟨K12,S13,hs14,hr15⟩:=abD (i:=0) (bytes:=24) (R:=λK=>(aaw K)) S9 rfl (Nat.le_refl _) hr10 (aiz hn11) (λhs=>(λ_ _ h=>aaw.mono hs h));exact adq rfl (resT rfl) ⟨K12,A5,c6,rfl,S13,hr15⟩
theorem auT(k:Nat):arV (f157 k):=by
 intro K wi a f g h hG b d;obtain⟨y,z,h⟩:=rz h;obtain⟨i,j,l,m,o⟩:=a;obtain⟨p,q,rfl,r,s⟩:=aai.open b;refine en 3 Tryz.func157 rfl ?_;unfold f157 at h;refine gI 12 [] [] d (λt e=>?_);cases oj h z;exact rt1 ⟨K,rfl,e.sel []⟩
theorem ajz(k:Nat)(F:acL)(IH1015923:abR F.f1015923)(IH1017823:abQ F.f1017823):abR (af8 k F):=by
 intro K wi p av aw ax h hG z S;obtain⟨r_,n,h⟩:=rz h;refine en 22 Tryz.func159 rfl ?_;unfold af8 at h;refine gd 19 ?_;have A:=S.row_ (zz wi) 35 5;refine wl A (λj m g_=>∃B f b,∃(d:Nat),∃a g l q,g_=b.length/\j B [1,8,9] [(5,sl g a l),(10,iI (d:Int))]/\KH.sub K f/\m f [] [eW (zz wi) g a l 35 5 q]/\p.drop d=b/\Reps (aai f) 5 a q/\a.length*64<=mB/\ab4 k F b d a=some r_) p.length ?_ ?_
 ·exact⟨_,K,p,0,([]:LE),none,0,[],rfl,fK,kr,A,List.drop_zero,abm (R:=(aai K)) (size:=5),(by simp),h⟩
 ·rintro _ _ U⟨B,f,b,d,a,g,l,q,rfl,rfl,o,r,e,C,V,h⟩;rcases b with _|⟨⟨W,X,Y,Z,ab⟩,b⟩
  ·refine gd 2<|cNl e<|go 16 ?_;obtain⟨ac,ad,ay,ae⟩:=abD (i:=0) (bytes:=64) (R:=λK=>(aai K)) r rfl (Nat.le_refl _) C V (λhs=>(λ_ _ h=>aai.mono hs h));cases oj h n;exact rt1 ⟨ac,g,l,rfl,ad,ae⟩
  ·refine gd 2<|cCl e<|go 10<|eN r (me z o) e aai.open ?_;rintro az aA aB aG aH aI⟨af,ai,rfl,aj,ak⟩;refine gR 8 [0,0,0,5] [[iI 0,iI 0,sE,iI 0,nS]] r (λaK aL D=>cB h (λ_ al=>IH1017823 al (hG.mono o) (aai.intro aj ak)<|pt D) ?_);rintro⟨s,t,u,v,x⟩ _ aM⟨G,aN,rfl,y,I⟩ h;have am:=ca y D;obtain⟨aP,aT,rfl,aU,aV⟩:=aai.open I;refine gR 1 [35] [] am (λaW an=>aJ h 2 0 an rfl rfl (C.mono (λ_ _ h=>aai.mono y.sub h)) I ?_);rintro J N O ao ap aq ar h;have au:=p12 ap;exact go 5<|iCl e ((me z o).len)<|go 3 ⟨_,Nat.lt_succ_self _,_,G,b,d+1,a++[(aah.mk s t u v x)],J,N,O,rfl,fK,o.trans y.sub,au.sel [1],aac e,aq,aav ar,h⟩
theorem akQ(k:Nat)(F:acL)(IH1015923:abR F.f1015923)(IH1017823:abQ F.f1017823):abQ (adF k F):=by
 intro K wi j C D h hG l m;obtain⟨r_,n,h⟩:=rz h;obtain⟨o,p,q,G,I⟩:=j;obtain⟨J,N,rfl,a,r⟩:=aai.open l;refine en 15 Tryz.func178 rfl ?_;unfold adF at h;refine gI 11 [4,2] [[iI 0,iI 0,sE,iI 0,nS]] m (λO S b=>cB h (λ_ s=>IH1015923 s (hG.mono kr) r<|pt b) ?_);rintro t _ U⟨V,u,v,rfl,d,e⟩ h;have x:=ca d b;refine gR 8 [4,1,0,1,5] [] x (λW f=>cB h (λ_ y=>(auT k) y (gm hG d) (aai.intro a e)<|pt f) ?_);rintro z _ X⟨A,rfl,g⟩ h;have B:=ca g f;refine gR 11 [3,1,0,1,5,0] [] B (λY Z i=>?_);cases oj h n;exact adq rfl (rNl 0 i rfl) ⟨A,vE o p q z u t v,rfl,i.sel [],aai.intro a<|me e g.sub⟩
theorem afR(k0:Nat) : ∀k,abR (aaU k0 k).f1015923/\abQ (aaU k0 k).f1017823:=by
 intro k;induction k with
 | zero=>exact⟨by simp[abR,aaU],by simp[abQ,aaU]⟩
 | succ k ih=>exact⟨ajz k0 (aaU k0 k) ih.1 ih.2,akQ k0 (aaU k0 k) ih.1 ih.2⟩
theorem aha(k:Nat):abR (f1015923 k):=(afR k k).1
theorem avX(k:Nat):abQ (f1017823 k):=(afR k k).2
theorem auV(k:Nat):apv (f158 k):=by
 intro K wi a f g h hG b d;obtain⟨y,z,h⟩:=rz h;obtain⟨i,j,l,m,o⟩:=a;obtain⟨p,q,rfl,r,s⟩:=aai.open b;refine en 5 Tryz.func158 rfl ?_;unfold f158 at h;refine gI 14 [3,1] [] d (λt e=>?_);cases oj h z;exact rt1 ⟨K,rfl,e.sel []⟩
theorem ajX(k:Nat)(F:acM)(IH1015954:abS F.f1015954)(IH1017854:abP F.f1017854):abS (agj k F):=by
 intro K wi p av aw ax h hG z S;obtain⟨r_,n,h⟩:=rz h;refine en 22 Tryz.func159 rfl ?_;unfold agj at h;refine gd 19 ?_;have A:=S.row_ (zz wi) 35 5;refine wl A (λj m g_=>∃B f b,∃(d:Nat),∃a g l q,g_=b.length/\j B [1,8,9] [(5,sl g a l),(10,iI (d:Int))]/\KH.sub K f/\m f [] [eW (zz wi) g a l 35 5 q]/\p.drop d=b/\Reps (aai f) 5 a q/\a.length*64<=mB/\afa k F b d a=some r_) p.length ?_ ?_
 ·exact⟨_,K,p,0,([]:LE),none,0,[],rfl,fK,kr,A,List.drop_zero,abm (R:=(aai K)) (size:=5),(by simp),h⟩
 ·rintro _ _ U⟨B,f,b,d,a,g,l,q,rfl,rfl,o,r,e,C,V,h⟩;rcases b with _|⟨⟨W,X,Y,Z,ab⟩,b⟩
  ·refine gd 2<|cNl e<|go 16 ?_;obtain⟨ac,ad,ay,ae⟩:=abD (i:=0) (bytes:=64) (R:=λK=>(aai K)) r rfl (Nat.le_refl _) C V (λhs=>(λ_ _ h=>aai.mono hs h));cases oj h n;exact rt1 ⟨ac,g,l,rfl,ad,ae⟩
  ·refine gd 2<|cCl e<|go 10<|eN r (me z o) e aai.open ?_;rintro az aA aB aG aH aI⟨af,ai,rfl,aj,ak⟩;refine gR 8 [0,0,0,5] [[iI 0,iI 0,sE,iI 0,nS]] r (λaK aL D=>cB h (λ_ al=>IH1017854 al (hG.mono o) (aai.intro aj ak)<|pt D) ?_);rintro⟨s,t,u,v,x⟩ _ aM⟨G,aN,rfl,y,I⟩ h;have am:=ca y D;obtain⟨aP,aT,rfl,aU,aV⟩:=aai.open I;refine gR 1 [35] [] am (λaW an=>aJ h 2 0 an rfl rfl (C.mono (λ_ _ h=>aai.mono y.sub h)) I ?_);rintro J N O ao ap aq ar h;have au:=p12 ap;exact go 5<|iCl e ((me z o).len)<|go 3 ⟨_,Nat.lt_succ_self _,_,G,b,d+1,a++[(aah.mk s t u v x)],J,N,O,rfl,fK,o.trans y.sub,au.sel [1],aac e,aq,aav ar,h⟩
theorem akr(k:Nat)(F:acM)(IH1015954:abS F.f1015954)(IH1017854:abP F.f1017854):abP (af7 k F):=by
 intro K wi j C D h hG l m;obtain⟨r_,n,h⟩:=rz h;obtain⟨o,p,q,G,I⟩:=j;obtain⟨J,N,rfl,a,r⟩:=aai.open l;refine en 15 Tryz.func178 rfl ?_;unfold af7 at h;refine gI 11 [4,2] [[iI 0,iI 0,sE,iI 0,nS]] m (λO S b=>cB h (λ_ s=>IH1015954 s (hG.mono kr) r<|pt b) ?_);rintro t _ U⟨V,u,v,rfl,d,e⟩ h;have x:=ca d b;refine gR 8 [4,1,0,1,5] [] x (λW f=>cB h (λ_ y=>(auV k) y (gm hG d) (aai.intro a e)<|pt f) ?_);rintro z _ X⟨A,rfl,g⟩ h;have B:=ca g f;refine gR 11 [3,1,0,1,5,0] [] B (λY Z i=>?_);cases oj h n;exact adq rfl (rNl 0 i rfl) ⟨A,vE o p q z u t v,rfl,i.sel [],aai.intro a<|me e g.sub⟩
theorem afn(k0:Nat) : ∀k,abS (abA k0 k).f1015954/\abP (abA k0 k).f1017854:=by
 intro k;induction k with
 | zero=>exact⟨by simp[abS,abA],by simp[abP,abA]⟩
 | succ k ih=>exact⟨ajX k0 (abA k0 k) ih.1 ih.2,akr k0 (abA k0 k) ih.1 ih.2⟩
theorem ahK(k:Nat):abS (f1015954 k):=(afn k k).1
theorem auv(k:Nat):abP (f1017854 k):=(afn k k).2
theorem aqf(k:Nat)(F:aet)(IH130:aed F.f130):aed (aqi k F):=by
 intro K wi ay fx fy f fz h hG a8 bX;obtain⟨r_,n,h⟩:=rz h;refine en 76 Tryz.func130 rfl ?_;unfold aqi at h;refine gd 16 (bC 12 h ?_ ?_)<;>intro _ h
 ·refine gd 19 ?_;have bY:=bX.row_ (zz wi) 62 11;refine wl bY (λj m g_=>∃bZ aM N,∃(ai:Nat),∃a aj ak au,g_=N.length/\j bZ [1,5,13,14] [(6,sl aj a ak),(15,iI (ai:Int))]/\KH.sub K aM/\m aM [] [eW (zz wi) aj a ak 62 11 au]/\ay.drop ai=N/\Reps (aag aM) 11 a au/\a.length*184<=mB/\ae7 k F f N ai a=some r_) ay.length ?_ ?_
  ·exact⟨_,K,ay,0,([]:LS),none,0,[],rfl,fK,kr,bY,List.drop_zero,abm (R:=(aag K)) (size:=11),(by simp),h⟩
  ·rintro _ _ aN⟨bZ,aM,N,ai,a,aj,ak,au,rfl,rfl,V,bH,aP,b0,c4,h⟩;rcases N with _|⟨⟨u,v,c5,x,c6,y,b1,b2,b3,b4,al⟩,N⟩
   ·refine gd 2<|cNl aP<|go 16 ?_;obtain⟨c7,c8,fA,c9⟩:=abD (i:=0) (bytes:=184) (R:=λK=>(aag K)) bH rfl (Nat.le_refl _) b0 c4 (λhs=>(λ_ _ h=>aag.mono hs h));cases oj h n;exact rt1 ⟨c7,aj,ak,rfl,c8,c9⟩
   ·refine gd 2<|cCl aP<|go 10<|eN bH (ms a8 V) aP aag.open ?_;rintro fB fC fD fE fF fG⟨da,db,dc,dd,de,df,dg,dh,a9,ba,rfl,di,dj,dk,dl,dm,dn,b5⟩;refine gR 4 [0] [[iI 0,sE,iI 0,sE,iI 0,iI 0,nS,nS,nS,nS,nS]] bH (λfH fI bI=>wk bI (λj m=>∃b6 o p,j b6 [1,5,6,8,13,14,15] []/\m aM [] [.box (zz wi) (zz aN) (aS u v o x p y da b1 db dc b2 dd de b3 df dg b4 dh a9 al ba) 62,eW (zz wi) aj a ak 62 11 au]/\amQ k F f a ai u v x y b1 b2 b3 b4 al o p (ae7 k F f N)=some r_) ?_ ?_)
    ·refine gd 6 (bC 20 h ?_ ?_)<;>intro _ h
     ·exact gI 8 [2,0,4,0] [] bI (λfJ fL dp=>⟨_,0,0,fK,dp,h⟩)
     ·exact gd 3 ⟨_,c5,c6,fK,bI,h⟩
    ·rintro _ fM⟨b6,o,p,rfl,bJ,h⟩;refine gD 5 [6,1] bJ<|cB h (λ_ dq=>(ahK k) dq (hG.mono V) dk<|pt bJ) ?_;rintro W _ fN⟨fO,bb,bd,rfl,g,dr⟩ h;have ds:=ca g bJ;refine gR 9 [6,0,7,1] [] ds (λfP b7=>cB h (λ_ dt=>IH130 dt (hG.mono<|V.trans g.sub) (ms dl g.sub)<|pt b7) ?_);rintro X _ fQ⟨fS,be,bf,rfl,q,du⟩ h;have dv:=ca q b7;refine gR 9 [7,0,8,1] [] dv (λfT b8=>cB h (λ_ dw=>IH130 dw (hG.mono<|(V.trans g.sub).trans q.sub) (ms dm<|g.sub.trans q.sub)<|pt b8) ?_);rintro Y _ fU⟨fV,bg,bh,rfl,z,dx⟩ h;have dy:=ca z b8;refine gR 9 [8,0,9,1] [] dy (λfW b9=>cB h (λ_ dz=>IH130 dz (hG.mono<|((V.trans g.sub).trans q.sub).trans z.sub) (ms dn<|(g.sub.trans q.sub).trans z.sub)<|pt b9) ?_);rintro Z _ fX⟨bK,bi,bj,rfl,O,dA⟩ h;have dB:=ca O b9;refine gR 19 [9,0,10,1] [] dB (λfY dC=>?_);have cb:=dC.row_ (zz wi) 84 5;refine wl cb (λj m g_=>∃cc aT am,∃(az:Nat),∃d aU aV bk,g_=am.length/\j cc [1,5,6,8,13,14,15,44,45] [(9,sl aU d aV),(46,iI (az:Int))]/\KH.sub bK aT/\m aT [] [.box (zz wi) (zz aN) (aS u v o x p y bb W bd be X bf bg Y bh bi Z bj a9 al ba) 62,eW (zz wi) aj a ak 62 11 au,eW (zz wi) aU d aV 84 5 bk]/\al.drop az=am/\Reps (aaq aT) 5 d bk/\d.length*80<=mB/\ah0 k F f a ai u v x y o p W X Y Z (ae7 k F f N) am az d=some r_) al.length ?_ ?_
     ·exact⟨_,bK,al,0,([]:LC),none,0,[],rfl,fK,kr,cb.sel [1,2,0],List.drop_zero,abm (R:=(aaq bK)) (size:=5),(by simp),h⟩
     ·rintro _ _ ce⟨cc,aT,am,az,d,aU,aV,bk,rfl,rfl,A,bL,aW,cf,dD,h⟩;rcases am with _|⟨⟨aA,aB,dE,ch,ci⟩,am⟩
      ·refine gd 2<|cNl aW<|gR 20 [10,0,0,0,11,62] [] bL (λfZ f0 dF=>?_);obtain⟨cj,dG,aG,dH⟩:=abD (i:=3) (bytes:=80) (R:=λK=>(aaq K)) dF rfl (Nat.le_refl _) cf dD (λhs=>(λ_ _ h=>aaq.mono hs h));refine aJ h 2 0 dG rfl rfl (b0.mono (λ_ _ h=>aag.mono (((((g.sub.trans q.sub).trans z.sub).trans O.sub).trans A).trans aG) h)) (aag.intro di dj (me dr<|(((q.sub.trans z.sub).trans O.sub).trans A).trans aG) (ms du<|((z.sub.trans O.sub).trans A).trans aG) (ms dx<|(O.sub.trans A).trans aG) (ms dA<|A.trans aG) dH) ?_;rintro ck cl cm dI dJ dK dL h;have dM:=p12 dJ;exact go 5<|iCl aP ((ms a8 V).len)<|go 3 ⟨_,Nat.lt_succ_self _,_,cj,N,ai+1,a++[(aae.mk u v o x p y W X Y Z d)],ck,cl,cm,rfl,fK,(((((V.trans g.sub).trans q.sub).trans z.sub).trans O.sub).trans A).trans aG,dM.sel [1],aac aP,dK,aav dL,h⟩
      ·refine gd 2<|cCl aW<|go 10<|eN bL (mc b5<|(((g.sub.trans q.sub).trans z.sub).trans O.sub).trans A) aW aaq.open ?_;rintro f1 f2 f4 f5 f6 f7⟨dN,dO,dP,dQ,rfl,dR,dS,dT⟩;refine gR 4 [0] [[iI 0,sE,iI 0,nS,nS]] bL (λga gb bM=>wk bM (λj m=>∃cn av,j cn [1,5,6,8,9,11,13,14,15,44,45,46] []/\m aT [] [.box (zz wi) (zz aN) (aS u v o x p y bb W bd be X bf bg Y bh bi Z bj a9 al ba) 62,.box (zz wi) (zz ce) (aC' aA aB av dN ch dO dP ci dQ) 84,eW (zz wi) aj a ak 62 11 au,eW (zz wi) aU d aV 84 5 bk]/\ana k F f d az aA aB ch ci av (ah0 k F f a ai u v x y o p W X Y Z (ae7 k F f N) am)=some r_) ?_ ?_)
       ·refine gd 6 (bC 51 h ?_ ?_)<;>intro _ h
        ·exact gI 6 [2,0] [] bM (λgc dU=>⟨_,0,fK,dU.sel [1,0,2,3],h⟩)
        ·exact gd 3 ⟨_,dE,fK,bM.sel [1,0,2,3],h⟩
       ·rintro _ ge⟨cn,av,rfl,bP,h⟩;refine gD 5 [3,2] bP<|cB h (λ_ dV=>(ahK k) dV (hG.mono<|((((V.trans g.sub).trans q.sub).trans z.sub).trans O.sub).trans A) dS<|pt bP) ?_;rintro bm _ gf⟨gg,dW,dX,rfl,aX,dY⟩ h;have dZ:=ca aX bP;refine gR 9 [3,1,4,2] [] dZ (λgh co=>cB h (λ_ d0=>IH130 d0 (hG.mono<|(((((V.trans g.sub).trans q.sub).trans z.sub).trans O.sub).trans A).trans aX.sub) (ms dT aX.sub)<|pt co) ?_);rintro bn _ gi⟨cq,d1,d2,rfl,bo,d3⟩ h;have d4:=ca bo co;refine gR 8 [4,1,0,1,5,84] [] d4 (λgj gk d5=>aJ h 4 0 d5 rfl rfl (cf.mono (λ_ _ h=>aaq.mono (aX.sub.trans bo.sub) h)) (aaq.intro dR (me dY bo.sub) d3) ?_);rintro cr cs ct d6 d7 d8 d9 h;have ea:=ajP d7;exact go 5<|iCl aW ((mc b5<|(((g.sub.trans q.sub).trans z.sub).trans O.sub).trans A).len)<|go 3 ⟨_,Nat.lt_succ_self _,_,cq,am,az+1,d++[(aap.mk aA aB av bm bn)],cr,cs,ct,rfl,fK,(A.trans aX.sub).trans bo.sub,ea.sel [0,2,3],aac aW,d8,aav d9,h⟩
 ·refine gd 17 ?_;have cu:=bX.row_ (zz wi) 62 11;refine wl cu (λj m g_=>∃cw aY S,∃(an:Nat),∃b ao ap aw,g_=S.length/\j cw [1,5,13,14] [(6,sl ao b ap),(15,iI (an:Int))]/\KH.sub K aY/\m aY [] [eW (zz wi) ao b ap 62 11 aw]/\ay.drop an=S/\Reps (aag aY) 11 b aw/\b.length*184<=mB/\ac6 k F f S an b=some r_) ay.length ?_ ?_
  ·exact⟨_,K,ay,0,([]:LS),none,0,[],rfl,fK,kr,cu,List.drop_zero,abm (R:=(aag K)) (size:=11),(by simp),h⟩
  ·rintro _ _ aZ⟨cw,aY,S,an,b,ao,ap,aw,rfl,rfl,ab,bQ,a2,cx,ec,h⟩;rcases S with _|⟨⟨B,C,ed,D,ee,G,cy,cz,cA,cC,aq⟩,S⟩
   ·refine gd 2<|cNl a2<|go 16 ?_;obtain⟨ef,eg,gl,eh⟩:=abD (i:=0) (bytes:=184) (R:=λK=>(aag K)) bQ rfl (Nat.le_refl _) cx ec (λhs=>(λ_ _ h=>aag.mono hs h));cases oj h n;exact rt1 ⟨ef,ao,ap,rfl,eg,eh⟩
   ·refine gd 2<|cCl a2<|go 10<|eN bQ (ms a8 ab) a2 aag.open ?_;rintro gn gp gq gr gs gt⟨ei,ej,ek,el,em,eo,ep,eq,bp,bq,rfl,es,et,eu,ew,ex,ey,cD⟩;refine gR 4 [0] [[iI 0,sE,iI 0,sE,iI 0,iI 0,nS,nS,nS,nS,nS]] bQ (λgu gv bR=>wk bR (λj m=>∃cG r s,j cG [1,5,6,8,13,14,15] []/\m aY [] [.box (zz wi) (zz aZ) (aS B C r D s G ei cy ej ek cz el em cA eo ep cC eq bp aq bq) 62,eW (zz wi) ao b ap 62 11 aw]/\aji k F f b an B C D G cy cz cA cC aq r s (ac6 k F f S)=some r_) ?_ ?_)
    ·refine gd 6 (bC 20 h ?_ ?_)<;>intro _ h
     ·exact gI 8 [2,0,4,0] [] bR (λgw gy ez=>⟨_,0,0,fK,ez,h⟩)
     ·exact gd 3 ⟨_,ed,ee,fK,bR,h⟩
    ·rintro _ gz⟨cG,r,s,rfl,bS,h⟩;refine gD 5 [6,1] bS<|cB h (λ_ eC=>(aha k) eC (hG.mono ab) eu<|pt bS) ?_;rintro ac _ gA⟨gB,br,bs,rfl,l,eD⟩ h;have eF:=ca l bS;refine gR 9 [6,0,7,1] [] eF (λgF cH=>cB h (λ_ eH=>IH130 eH (hG.mono<|ab.trans l.sub) (ms ew l.sub)<|pt cH) ?_);rintro ad _ gG⟨gH,bu,bv,rfl,t,eI⟩ h;have eJ:=ca t cH;refine gR 9 [7,0,8,1] [] eJ (λgJ cI=>cB h (λ_ eL=>IH130 eL (hG.mono<|(ab.trans l.sub).trans t.sub) (ms ex<|l.sub.trans t.sub)<|pt cI) ?_);rintro ae _ gK⟨gL,bw,bx,rfl,I,eM⟩ h;have eO:=ca I cI;refine gR 9 [8,0,9,1] [] eO (λgM cJ=>cB h (λ_ eP=>IH130 eP (hG.mono<|((ab.trans l.sub).trans t.sub).trans I.sub) (ms ey<|(l.sub.trans t.sub).trans I.sub)<|pt cJ) ?_);rintro af _ gN⟨bT,bz,bB,rfl,U,eQ⟩ h;have eR:=ca U cJ;refine gR 19 [9,0,10,1] [] eR (λgQ eS=>?_);have cK:=eS.row_ (zz wi) 84 5;refine wl cK (λj m g_=>∃cL a3 ar,∃(aH:Nat),∃e a4 a5 bD,g_=ar.length/\j cL [1,5,6,8,13,14,15,44,45] [(9,sl a4 e a5),(46,iI (aH:Int))]/\KH.sub bT a3/\m a3 [] [.box (zz wi) (zz aZ) (aS B C r D s G br ac bs bu ad bv bw ae bx bz af bB bp aq bq) 62,eW (zz wi) ao b ap 62 11 aw,eW (zz wi) a4 e a5 84 5 bD]/\aq.drop aH=ar/\Reps (aaq a3) 5 e bD/\e.length*80<=mB/\aer k F f b an B C D G r s ac ad ae af (ac6 k F f S) ar aH e=some r_) aq.length ?_ ?_
     ·exact⟨_,bT,aq,0,([]:LC),none,0,[],rfl,fK,kr,cK.sel [1,2,0],List.drop_zero,abm (R:=(aaq bT)) (size:=5),(by simp),h⟩
     ·rintro _ _ cM⟨cL,a3,ar,aH,e,a4,a5,bD,rfl,rfl,J,bU,a6,cN,eT,h⟩;rcases ar with _|⟨⟨aI,aK,eU,cO,cP⟩,ar⟩
      ·refine gd 2<|cNl a6<|gR 20 [10,0,0,0,11,62] [] bU (λgT gU eV=>?_);obtain⟨cQ,eX,aL,eY⟩:=abD (i:=3) (bytes:=80) (R:=λK=>(aaq K)) eV rfl (Nat.le_refl _) cN eT (λhs=>(λ_ _ h=>aaq.mono hs h));refine aJ h 2 0 eX rfl rfl (cx.mono (λ_ _ h=>aag.mono (((((l.sub.trans t.sub).trans I.sub).trans U.sub).trans J).trans aL) h)) (aag.intro es et (me eD<|(((t.sub.trans I.sub).trans U.sub).trans J).trans aL) (ms eI<|((I.sub.trans U.sub).trans J).trans aL) (ms eM<|(U.sub.trans J).trans aL) (ms eQ<|J.trans aL) eY) ?_;rintro cR cS cU eZ e0 e1 e3 h;have e4:=p12 e0;exact go 5<|iCl a2 ((ms a8 ab).len)<|go 3 ⟨_,Nat.lt_succ_self _,_,cQ,S,an+1,b++[(aae.mk B C r D s G ac ad ae af e)],cR,cS,cU,rfl,fK,(((((ab.trans l.sub).trans t.sub).trans I.sub).trans U.sub).trans J).trans aL,e4.sel [1],aac a2,e1,aav e3,h⟩
      ·refine gd 2<|cCl a6<|go 10<|eN bU (mc cD<|(((l.sub.trans t.sub).trans I.sub).trans U.sub).trans J) a6 aaq.open ?_;rintro gV gW gZ g0 g1 g2⟨e5,e6,e7,e8,rfl,e9,fa,fb⟩;refine gR 4 [0] [[iI 0,sE,iI 0,nS,nS]] bU (λg3 g4 bV=>wk bV (λj m=>∃cV ax,j cV [1,5,6,8,9,11,13,14,15,44,45,46] []/\m a3 [] [.box (zz wi) (zz aZ) (aS B C r D s G br ac bs bu ad bv bw ae bx bz af bB bp aq bq) 62,.box (zz wi) (zz cM) (aC' aI aK ax e5 cO e6 e7 cP e8) 84,eW (zz wi) ao b ap 62 11 aw,eW (zz wi) a4 e a5 84 5 bD]/\ajT k F f e aH aI aK cO cP ax (aer k F f b an B C D G r s ac ad ae af (ac6 k F f S) ar)=some r_) ?_ ?_)
       ·refine gd 6 (bC 51 h ?_ ?_)<;>intro _ h
        ·exact gI 6 [2,0] [] bV (λg5 fc=>⟨_,0,fK,fc.sel [1,0,2,3],h⟩)
        ·exact gd 3 ⟨_,eU,fK,bV.sel [1,0,2,3],h⟩
       ·rintro _ g6⟨cV,ax,rfl,bW,h⟩;refine gD 5 [3,2] bW<|cB h (λ_ fe=>(aha k) fe (hG.mono<|((((ab.trans l.sub).trans t.sub).trans I.sub).trans U.sub).trans J) fa<|pt bW) ?_;rintro bE _ g7⟨g8,ff,fg,rfl,a7,fh⟩ h;have fi:=ca a7 bW;refine gR 9 [3,1,4,2] [] fi (λg9 cW=>cB h (λ_ fj=>IH130 fj (hG.mono<|(((((ab.trans l.sub).trans t.sub).trans I.sub).trans U.sub).trans J).trans a7.sub) (ms fb a7.sub)<|pt cW) ?_);rintro bF _ ha⟨cY,fk,fl,rfl,bG,fm⟩ h;have fn:=ca bG cW;refine gR 8 [4,1,0,1,5,84] [] fn (λhb hc fo=>aJ h 4 0 fo rfl rfl (cN.mono (λ_ _ h=>aaq.mono (a7.sub.trans bG.sub) h)) (aaq.intro e9 (me fh bG.sub) fm) ?_);rintro cZ c2 c3 fp fs ft fu h;have fv:=ajP fs;exact go 5<|iCl a6 ((mc cD<|(((l.sub.trans t.sub).trans I.sub).trans U.sub).trans J).len)<|go 3 ⟨_,Nat.lt_succ_self _,_,cY,ar,aH+1,e++[(aap.mk aI aK ax bE bF)],cZ,c2,c3,rfl,fK,(J.trans a7.sub).trans bG.sub,fv.sel [0,2,3],aac a6,ft,aav fu,h⟩
theorem arT(k0:Nat) : ∀k,aed (afX k0 k).f130:=by
 intro k;induction k with
 | zero=>simp[aed,afX]
 | succ k ih=>exact aqf k0 (afX k0 k) ih
theorem awA(k:Nat):aed (f130 k):=(arT k k)
theorem au2(k:Nat):arc (f100 k):=by
 intro K wi af a2 z a3 h hG ai aj;obtain⟨r_,n,h⟩:=rz h;obtain⟨A⟩:=af;obtain⟨a4,c1,rfl,J⟩:=aad.open ai;refine en 35 Tryz.func100 rfl ?_;unfold f100 at h;refine gI 21 [0,3] [[nS],[nS]] aj (λB C a5 ak=>?_);have N:=ak.row_ (zz wi) 52 6;refine wl N (λj m g_=>∃O q b,∃(g:Nat),∃a d e u,g_=b.length/\j O [1,4,5,9,10] [(11,iI (g:Int))]/\KH.sub K q/\m q [] [.box (zz wi) (zz B) #[nS] 24,.box (zz wi) (zz C) #[sl d a e] 24,eW (zz wi) d a e 52 6 u]/\A.drop g=b/\Reps (aak q) 6 a u/\a.length*88<=mB/\adV k z b g a=some r_) A.length ?_ ?_
 ·exact⟨_,K,A,0,([]:LF),none,0,[],rfl,fK,kr,N.sel [2,1,0],List.drop_zero,abm (R:=(aak K)) (size:=6),(by simp),h⟩
 ·rintro _ _ S⟨O,q,b,g,a,d,e,u,rfl,rfl,r,D,s,U,al,h⟩;rcases b with _|⟨⟨l,V,o,p,am,W⟩,b⟩
  ·refine gd 2<|cNl s<|gR 16 [0,1,1,0] [] D (λa6 X=>?_);obtain⟨an,ao,a7,ap⟩:=abD (i:=2) (bytes:=88) (R:=λK=>(aak K)) X rfl (Nat.le_refl _) U al (λhs=>(λ_ _ h=>aak.mono hs h));cases oj h n;exact adq rfl (rNl 0 X rfl) ⟨an,[sl d a e],rfl,ao.sel [],aad.intro ap⟩
  ·refine gd 2<|cCl s<|go 10<|eN D (mf J r) s aak.open ?_;rintro a8 a9 ba bb bd be⟨aq,ar,au,av,rfl,aw,ax,ay⟩;refine gR 4 [0] [[sE,nS,iI 0,vN,iI 0,nS]] D (λbf bg G=>wk G (λj m=>∃Y f,j Y [1,4,5,7,9,10,11] []/\m q [] [.box (zz wi) (zz B) #[nS] 24,.box (zz wi) (zz C) #[sl d a e] 24,.box (zz wi) (zz S) (aF l aq V ar o p f au W av) 52,eW (zz wi) d a e 52 6 u]/\ajD k z a g l V o p W f (adV k z b)=some r_) ?_ ?_)
   ·refine gd 6 (bC 16 h ?_ ?_)<;>intro _ h
    ·exact gI 6 [4,0] [] G (λbh az=>⟨_,0,fK,az.sel [1,2,0,3],h⟩)
    ·exact gd 3 ⟨_,am,fK,G.sel [1,2,0,3],h⟩
   ·rintro _ bi⟨Y,f,rfl,I,h⟩;refine gD 4 [1,3] I<|cB h (λ_ aA=>(apc k) aA (hG.mono r) ax<|pt I) ?_;rintro v _ bj⟨bk,aB,aG,rfl,t,aH⟩ h;have aI:=ca t I;refine gR 9 [1,2,5,3] [] aI (λbm Z=>cB h (λ_ aK=>(awA k) aK (hG.mono<|r.trans t.sub) (ms ay t.sub)<|pt Z) ?_);rintro x _ bn⟨ab,aL,aM,rfl,y,aN⟩ h;have aP:=ca y Z;refine gR 9 [5,2,0,2,0,2,6,52] [] aP (λbo bp aT=>aJ h 4 0 aT rfl rfl (U.mono (λ_ _ h=>aak.mono (t.sub.trans y.sub) h)) (aak.intro aw (mp aH y.sub) aN) ?_);rintro ac ad ae aU aV aW aX h;have aY:=ajP aV;exact gR 6 [0,1] [] aY (λbq aZ=>iCl s ((mf J r).len)<|go 3 ⟨_,Nat.lt_succ_self _,_,ab,b,g+1,a++[(aab.mk l v o p f x)],ac,ad,ae,rfl,fK,(r.trans t.sub).trans y.sub,aZ.sel [0,1,3],aac s,aW,aav aX,h⟩)
theorem adf(k:Nat):aod (f98 k):=by
 intro K wi d a y h hG b;refine en 9 Tryz.func98 rfl ?_;unfold f98 at h;refine gd 6 (bC 5 h ?_ ?_)<;>intro _ h
 ·exact gd 3<|bld (cells:=#[iI a]) (vs:=[(0,iI a)]) rfl (λw=>by kernel_rfl)<|mki (v:=.agg #[iI a]) aw9 rfl<|pnc rfl<|pX<|panE<|.inr ⟨_,rfl,a,K,(oi h).symm,rfl,b.sel []⟩
 ·exact gd 2<|retP<|end0 rfl ⟨K,(oi h).symm,rfl,b⟩
theorem arU(k:Nat):aoX (f189 k):=by
 intro K wi bo h hG a;obtain⟨r_,n,h⟩:=rz h;refine en 32 Tryz.func189 rfl ?_;unfold f189 at h;refine gd 7<|mkm a (λbp a=>mI 0 1 (aaz.mk 1 false 1 1 false) [iI 1,vN,iI 1,iI 1,vN] a rfl (ajF (kv:=kI) (R:=(VAgg<|abe K))) (λbq br bs b d=>mI 0 2 (aaz.mk 1 false 1 1 false) [iI 1,vN,iI 1,iI 1,vN] b rfl d (λbu bv bw e f=>mI 0 3 (aaz.mk 2 true 0 601 false) [iI 2,vT,iI 0,iI 601,vN] e rfl f (λg i j l m=>?_))));have o:SR K K wi j [] [.mp (zz wi) (zz wi) g i]:=l;refine mI 0 4 (aaz.mk 2 true 0 601 false) [iI 2,vT,iI 0,iI 601,vN] o rfl m (λbx bz bB p q=>mI 0 5 (aaz.mk 2 false 1 1 false) [iI 2,vN,iI 1,iI 1,vN] p rfl q (λbD bE bF r s=>mI 0 6 (aaz.mk 2 false 1 1 false) [iI 2,vN,iI 1,iI 1,vN] r rfl s (λt u v x y=>?_)));have z:SR K K wi v [] [.mp (zz wi) (zz wi) t u]:=x;refine mI 0 7 (aaz.mk 1 false 1 1 false) [iI 1,vN,iI 1,iI 1,vN] z rfl y (λbG bH bI A B=>mI 0 8 (aaz.mk 1 false 1 1 false) [iI 1,vN,iI 1,iI 1,vN] A rfl B (λbJ bK bL C D=>mI 0 9 (aaz.mk 1 false 0 0 false) [iI 1,vN,iI 0,iI 0,vN] C rfl D (λG I J N O=>?_)));have S:SR K K wi J [] [.mp (zz wi) (zz wi) G I]:=N;refine mI 0 10 (aaz.mk 0 false 2 2 false) [iI 0,vN,iI 2,iI 2,vN] S rfl O (λbM bP bQ U V=>mI 0 11 (aaz.mk 0 false 1 1 false) [iI 0,vN,iI 1,iI 1,vN] U rfl V (λbR bS bT W X=>mI 0 12 (aaz.mk 0 false 1 1 false) [iI 0,vN,iI 1,iI 1,vN] W rfl X (λY Z ab ac ad=>?_)));have ae:SR K K wi ab [] [.mp (zz wi) (zz wi) Y Z]:=ac;refine mI 0 13 (aaz.mk 0 false 0 0 false) [iI 0,vN,iI 0,iI 0,vN] ae rfl ad (λbU bV bW af ai=>mI 0 14 (aaz.mk 0 false 1 1 false) [iI 0,vN,iI 1,iI 1,vN] af rfl ai (λbX bY bZ aj ak=>mI 0 15 (aaz.mk 0 false 1 1 false) [iI 0,vN,iI 1,iI 1,vN] aj rfl ak (λal am an ao ap=>?_)));have aq:SR K K wi an [] [.mp (zz wi) (zz wi) al am]:=ao;refine mI 0 16 (aaz.mk 0 false 1 1 false) [iI 0,vN,iI 1,iI 1,vN] aq rfl ap (λb0 b1 b2 ar au=>mI 0 17 (aaz.mk 0 false 0 1 false) [iI 0,vN,iI 0,iI 1,vN] ar rfl au (λb3 b4 b5 av aw=>mI 0 18 (aaz.mk 0 false 0 0 false) [iI 0,vN,iI 0,iI 0,vN] av rfl aw (λax ay az aA aB=>?_)));have aG:SR K K wi az [] [.mp (zz wi) (zz wi) ax ay]:=aA;refine mI 0 19 (aaz.mk 0 false 0 0 false) [iI 0,vN,iI 0,iI 0,vN] aG rfl aB (λb6 b7 b8 aH aI=>mI 0 20 (aaz.mk 0 false 1 1 true) [iI 0,vN,iI 1,iI 1,vT] aH rfl aI (λb9 cb cc aK aL=>mI 0 21 (aaz.mk 0 false 1 1 true) [iI 0,vN,iI 1,iI 1,vT] aK rfl aL (λaM aN aP aT aU=>?_)));have aV:SR K K wi aP [] [.mp (zz wi) (zz wi) aM aN]:=aT;refine mI 0 22 (aaz.mk 0 false 0 1 true) [iI 0,vN,iI 0,iI 1,vT] aV rfl aU (λce cf ch aW aX=>mI 0 23 (aaz.mk 0 false 0 0 true) [iI 0,vN,iI 0,iI 0,vT] aW rfl aX (λci cj ck aY aZ=>mI 0 24 (aaz.mk 2 false 0 0 true) [iI 2,vN,iI 0,iI 0,vT] aY rfl aZ (λa0 a1 a2 a3 a4=>?_)));have a5:SR K K wi a2 [] [.mp (zz wi) (zz wi) a0 a1]:=a3;refine mI 0 25 (aaz.mk 1 false 1 1 true) [iI 1,vN,iI 1,iI 1,vT] a5 rfl a4 (λcl cm cn a6 a7=>mI 0 26 (aaz.mk 0 false 1 1 true) [iI 0,vN,iI 1,iI 1,vT] a6 rfl a7 (λco cq cr a8 a9=>mI 0 27 (aaz.mk 0 false 0 0 false) [iI 0,vN,iI 0,iI 0,vN] a8 rfl a9 (λba bb bd be bf=>?_)));have bg:SR K K wi bd [] [.mp (zz wi) (zz wi) ba bb]:=be;refine mI 0 28 (aaz.mk 1 true 0 601 true) [iI 1,vT,iI 0,iI 601,vT] bg rfl bf (λcs ct cu bh bi=>mI 0 29 (aaz.mk 0 false 1 1 false) [iI 0,vN,iI 1,iI 1,vN] bh rfl bi (λbj bk cw bm bn=>go 5 ?_));cases oj h n;exact rt1 ⟨K,zz wi,bj,bk,rfl,bm,bn⟩
theorem ab9(k:Nat):asN (f77 k):=by
 intro K wi e i f l h hG a;obtain⟨y,z,h⟩:=rz h;refine en 15 Tryz.func77 rfl ?_;unfold f77 at h;refine gd 5<|wk a (λj m=>∃d b,j d [] [(6,.bool b)]/\m K [] []/\aoe k b=some y) ?_ ?_
 ·refine gd 5 (bO 10 h ?_ ?_)<;>intro _ h
  ·exact go 10 ⟨_,decide<|e<=f,fK,a,h⟩
  ·exact go 7 ⟨_,false,fK,a,h⟩
 ·rintro _ o⟨d,b,rfl,g,h⟩;refine gd 1 ?_;cases oj h z;exact rt1 ⟨K,rfl,g⟩
theorem amD(k:Nat):ao9 (f190 k):=by
 intro K wi aq aU aV h hG ar au;obtain⟨r_,n,h⟩:=rz h;obtain⟨D,i,G,I,J,b,N,O,l,e,S⟩:=aq;obtain⟨U,V,W,X,Y,Z,ab,ac,ad,ae,rfl,aW,aX,aY,aZ,a1,a2,a3⟩:=aag.open ar;refine en 97 Tryz.func190 rfl ?_;unfold f190 at h;refine gI 20 [5,1] [] au (λa4 a=>wk a (λj m=>∃af f s t u,j af [1] [(3,.bool s),(4,.bool t),(5,.bool u)]/\KH.sub K f/\m f [] [.box (zz wi) (zz wi) (aS D i G I J b U N V W O X Y l Z ab e ac ad S ae) 62]/\acD k l e s t u=some r_) ?_ ?_)
 ·refine gD 13 [0,1] a (bC 11 h ?_ ?_)<;>intro _ h
  ·refine gD 4 [5,1] a<|cB h (λ_ av=>(ab9 k) av (hG.mono kr)<|pt a) ?_;rintro a5 _ a6⟨v,rfl,o⟩ h;have g:=ca o a;refine go 1 (bO 16 h ?_ ?_)<;>intro _ h
   ·refine gP 8 [5,1] g (bO 20 h ?_ ?_)<;>intro _ h
    ·exact go 10 ⟨_,v,false,false,true,fK,o.sub,g,h⟩
    ·exact gP 13 [1,1] g ⟨_,v,false,false,!seq i ⟨#[]⟩,fK,o.sub,g,h⟩
   ·exact go 13 ⟨_,v,false,false,false,fK,o.sub,g,h⟩
  ·refine gd 7 (bC 26 h ?_ ?_)<;>intro _ h
   ·refine gD 4 [5,1] a<|cB h (λ_ aw=>(ab9 k) aw (hG.mono kr)<|pt a) ?_;rintro ax _ a7⟨ay,rfl,ai⟩ h;have az:=ca ai a;exact go 4 ⟨_,ay,false,false,ax,fK,ai.sub,az,h⟩
   ·refine gd 7 (bC 31 h ?_ ?_)<;>intro _ h
    ·refine gD 4 [5,1] a<|cB h (λ_ aA=>(ab9 k) aA (hG.mono kr)<|pt a) ?_;rintro aB _ a8⟨aG,rfl,aj⟩ h;have aH:=ca aj a;exact go 4 ⟨_,aG,false,false,aB,fK,aj.sub,aH,h⟩
    ·refine gd 7 (bC 36 h ?_ ?_)<;>intro _ h
     ·refine gD 5 [5,1] a<|cB h (λ_ aI=>(ab9 k) aI (hG.mono kr)<|pt a) ?_;rintro aK _ a9⟨aL,rfl,ak⟩ h;have al:=ca ak a;exact gP 11 [5,1] al ⟨_,aL,b==1,false,aK,fK,ak.sub,al,h⟩
     ·refine gd 7 (bC 44 h ?_ ?_)<;>intro _ h
      ·refine gd 1<|wk a (λj m=>∃am p q,j am [1] [(5,.bool q)]/\KH.sub K p/\m p [] [.box (zz wi) (zz wi) (aS D i G I J b U N V W O X Y l Z ab e ac ad S ae) 62]/\akF k b l e q=some r_) ?_ ?_
       ·refine gD 3 [5,1] a<|cB h (λ_ aM=>(ab9 k) aM (hG.mono kr)<|pt a) ?_;rintro ba _ bb⟨an,rfl,x⟩ h;have y:=ca x a;refine go 1 (bO 49 h ?_ ?_)<;>intro _ h
        ·exact gP 11 [1,1,5,1] y<|bbt (r:=(IntKind.i64.wrap (BitVec.ofInt IntKind.i64.bits b &&& BitVec.ofInt IntKind.i64.bits 1).toNat)) rfl rfl rfl<|go 8 ⟨_,an,(!seq i ⟨#[]⟩)==((IntKind.i64.wrap (BitVec.ofInt IntKind.i64.bits b &&& BitVec.ofInt IntKind.i64.bits 1).toNat)==1),fK,x.sub,y,h⟩
        ·exact go 12 ⟨_,an,false,fK,x.sub,y,h⟩
       ·rintro _ bd⟨am,p,q,rfl,aN,z,h⟩;exact gD 4 [5,1] z<|bbt (r:=(IntKind.i64.wrap (BitVec.ofInt IntKind.i64.bits b &&& BitVec.ofInt IntKind.i64.bits 1).toNat)) rfl rfl rfl<|gP 7 [5,1] z<|bbt (r:=(IntKind.i64.wrap (BitVec.ofInt IntKind.i64.bits b &&& BitVec.ofInt IntKind.i64.bits 2).toNat)) rfl rfl rfl<|go 5 ⟨_,p,(IntKind.i64.wrap (BitVec.ofInt IntKind.i64.bits b &&& BitVec.ofInt IntKind.i64.bits 1).toNat)==1,(IntKind.i64.wrap (BitVec.ofInt IntKind.i64.bits b &&& BitVec.ofInt IntKind.i64.bits 2).toNat)==2,q,fK,aN,z,h⟩
      ·refine gd 7 (bC 67 h ?_ ?_)<;>intro _ h
       ·refine gD 4 [5,1] a<|cB h (λ_ aP=>(ab9 k) aP (hG.mono kr)<|pt a) ?_;rintro be _ bf⟨ao,rfl,A⟩ h;have B:=ca A a;refine go 1 (bO 72 h ?_ ?_)<;>intro _ h
        ·exact gP 5 [5,1] B<|bdv (r:=(b.tmod 4)) rfl rfl (by decide) rfl<|go 7 ⟨_,ao,false,false,decide<|(b.tmod 4)<3,fK,A.sub,B,h⟩
        ·exact go 9 ⟨_,ao,false,false,false,fK,A.sub,B,h⟩
       ·exact gd 4 ⟨_,K,false,false,b==0,fK,kr,a,h⟩
 ·rintro _ bg⟨af,f,s,t,u,rfl,bh,d,h⟩;refine wk d (λj m=>∃ap C,j ap [] [(2,.bool C)]/\m f [] []/\aey k C=some r_) ?_ ?_
  ·refine gd 3 (bO 79 h ?_ ?_)<;>intro _ h
   ·refine go 4 (bO 81 h ?_ ?_)<;>intro _ h
    ·refine go 12 (bO 90 h ?_ ?_)<;>intro _ h
     ·exact go 10 ⟨_,true,fK,d.sel [],h⟩
     ·exact gP 14 [9,1] d ⟨_,(e.length:Int)==0,fK,d.sel [],h⟩
    ·refine gP 12 [8,1] d (bO 88 h ?_ ?_)<;>intro _ h
     ·refine go 4 (bO 90 h ?_ ?_)<;>intro _ h
      ·exact go 10 ⟨_,true,fK,d.sel [],h⟩
      ·exact gP 14 [9,1] d ⟨_,(e.length:Int)==0,fK,d.sel [],h⟩
     ·exact go 11 ⟨_,false,fK,d.sel [],h⟩
   ·exact go 20 ⟨_,false,fK,d.sel [],h⟩
  ·rintro _ bi⟨ap,C,rfl,aT,h⟩;refine gd 1 ?_;cases oj h n;exact rt1 ⟨f,rfl,aT⟩
theorem anv(k:Nat):atl (f76 k):=by
 intro K wi g bs i l p d t u v x h hG e;obtain⟨Z,n,h⟩:=rz h;refine en 30 Tryz.func76 rfl ?_;unfold f76 at h;refine gD 11 [0,1] e<|bar (r:=(w64<|i+1)) rfl rfl rfl<|gR 13 [0,0,1,1] [] e (λy e=>mxb (a:=l) (b:=d) rfl rfl<|gR 5 [1,0] [] e (λz f=>wk f (λj m=>∃q o,j q [] [(4,.bool o)]/\m K [] [.box bs g #[iI (w64<|i+1),iI<|imax l d,.bool p] 96]/\ang k i l p d o=some Z) ?_ ?_))
 ·refine gD 7 [0,1] f (bO 26 h ?_ ?_)<;>intro _ h
  ·exact go 8 ⟨_,decide<|d<=16,fK,f,h⟩
  ·exact go 6 ⟨_,false,fK,f,h⟩
 ·rintro _ A⟨q,o,rfl,s,h⟩;refine gd 1 ?_;cases oj h n;exact rt1 ⟨K,rfl,s⟩
theorem avu(k:Nat):arb (f135 k):=by
 intro K wi e g h hG a;obtain⟨y,z,h⟩:=rz h;refine en 9 Tryz.func135 rfl ?_;unfold f135 at h;refine gd 5<|wk a (λj m=>∃d b,j d [] [(2,.bool b)]/\m K [] []/\akj k b=some y) ?_ ?_
 ·refine gd 4 (bO 5 h ?_ ?_)<;>intro _ h
  ·exact go 8 ⟨_,decide<|e<=122,fK,a,h⟩
  ·exact go 6 ⟨_,false,fK,a,h⟩
 ·rintro _ i⟨d,b,rfl,f,h⟩;refine gd 1 ?_;cases oj h z;exact rt1 ⟨K,rfl,f⟩
theorem au7(k:Nat):aoS (f136 k):=by
 intro K wi e g h hG a;obtain⟨y,z,h⟩:=rz h;refine en 9 Tryz.func136 rfl ?_;unfold f136 at h;refine gd 5<|wk a (λj m=>∃d b,j d [] [(2,.bool b)]/\m K [] []/\aju k b=some y) ?_ ?_
 ·refine gd 4 (bO 5 h ?_ ?_)<;>intro _ h
  ·exact go 8 ⟨_,decide<|e<=57,fK,a,h⟩
  ·exact go 6 ⟨_,false,fK,a,h⟩
 ·rintro _ i⟨d,b,rfl,f,h⟩;refine gd 1 ?_;cases oj h z;exact rt1 ⟨K,rfl,f⟩
theorem av7(k:Nat):apM (f111 k):=by
 intro K wi e J h hG z s;obtain⟨Z,n,h⟩:=rz h;refine en 28 Tryz.func111 rfl ?_;unfold f111 at h;refine gd 14<|wl s (λj m g_=>∃t f a,∃(b:Nat),g_=a.length/\j t [0,5] [(6,iI (b:Int))]/\KH.sub K f/\m f [] []/\e.data.toList.drop b=a/\ad3 k e a b=some Z) e.data.toList.length ?_ ?_
 ·exact⟨_,K,e.data.toList,0,rfl,fK,kr,s,List.drop_zero,h⟩
 ·rintro _ _ N⟨t,f,a,b,rfl,rfl,p,l,d,h⟩;rcases a with _|⟨O,a⟩
  ·refine gd 2<|bcm (r:=false) rfl rfl (congrArg some<|ad4 d)<|go 17 ?_;cases oj h n;exact rt1 ⟨f,rfl,l⟩
  ·refine gd 2<|bcm (r:=true) rfl rfl (congrArg some<|adh d)<|go 14<|wk l (λj m=>∃u g q,j u [0,5,6] [(24,.bool q)]/\KH.sub f g/\m g [] []/\aic k b q (ad3 k e a)=some Z) ?_ ?_
   ·refine gd 3<|ixN Tyt9 rfl rfl d<|cB h (λ_ A=>(avu k) A (hG.mono p)<|pt l) ?_;rintro S _ U⟨v,rfl,i⟩ h;have o:=ca i l;refine go 2 (bO 14 h ?_ ?_)<;>intro _ h
    ·refine go 6 (bO 17 h ?_ ?_)<;>intro _ h
     ·exact go 10 ⟨_,v,true,fK,i.sub,o,h⟩
     ·refine go 5<|ixN Tyt9 rfl rfl d<|go 1<|cB h (λ_ B=>(au7 k) B (gm hG o)<|pt o) ?_;rintro C _ V⟨D,rfl,x⟩ h;have G:=ca x o;exact go 7 ⟨_,D,!C,fK,i.sub.trans x.sub,G,h⟩
    ·exact go 12 ⟨_,v,false,fK,i.sub,o,h⟩
   ·rintro _ W⟨u,g,q,rfl,I,y,h⟩;refine bC 24 h ?_ ?_<;>intro _ h
    ·refine gd 12 ?_;cases oj h n;exact rt1 ⟨g,rfl,y⟩
    ·exact gd 5<|bar (r:=((b+1:Nat):Int)) rfl rfl (aiZ<|akM z d)<|go 3 ⟨_,Nat.lt_succ_self _,_,g,a,b+1,rfl,fK,p.trans I,y,aac d,h⟩
theorem avp(k:Nat):apo (f165 k):=by
 intro K wi g A B r C h hG l D p;obtain⟨n,o,h⟩:=rz h;refine en 19 Tryz.func165 rfl ?_;unfold f165 at h;refine gd 14<|wl p (λj m g_=>∃q a,∃(d:Nat),g_=a.length/\j q [0,1,7] [(8,iI (d:Int))]/\m K [] []/\g.drop d=a/\aib k r a d=some n) g.length ?_ ?_
 ·exact⟨_,g,0,rfl,fK,p,List.drop_zero,h⟩
 ·rintro _ _ G⟨q,a,d,rfl,rfl,f,e,h⟩;rcases a with _|⟨s,a⟩
  ·refine gd 2<|cNl e<|go 15 ?_;cases oj h o;exact rt1 ⟨K,rfl,f⟩
  ·refine gd 2<|cCl e<|go 19 ?_;obtain⟨t,u,I,x,J,y,z⟩:=(l).row.at_ (aaC e);obtain⟨rfl,N⟩:=z;refine iNl 9 1 x e (ld1 (v:=.string s) Tya9 rfl (f.cell<|kr.cell<|y 0 _ rfl)<|go 3<|bC 16 h ?_ ?_)<;>intro _ h
   ·refine gd 13 ?_;cases oj h o;exact rt1 ⟨K,rfl,f⟩
   ·exact gd 5<|iCl e ((l).len)<|go 3 ⟨_,Nat.lt_succ_self _,_,a,d+1,rfl,fK,f,aac e,h⟩
theorem avW(k:Nat):aoZ (f137 k):=by
 intro K wi l m o p b h hG d e a;obtain⟨y,z,h⟩:=rz h;refine en 9 Tryz.func137 rfl ?_;unfold f137 at h;refine gd 9<|cB h (λ_ f=>(avp k) f (hG.mono kr) d e<|pt a) ?_;rintro b _ q⟨g,rfl,i⟩ h;have j:=ca i a;refine go 5 ?_;cases oj h z;exact rt1 ⟨g,rfl,j⟩
set_option maxRecDepth 100000 in
theorem agS:(Lib.fields ahH.data.toList).map (λl=>(⟨l.toArray⟩:ByteArray))=acg:=by kernel_rfl
theorem amW : ∀x∈acg,x.size<=mB:=by
 have h:acg.all (λx=>decide (x.size<=mB))=true:=by kernel_rfl
 intro x hx;simpa using List.all_eq_true.1 h x hx
set_option maxRecDepth 100000 in
theorem aux(k:Nat):ak5 (f138 k):=by
 unfold ak5;intro K wi r0 h hG S0;unfold f138 at h;obtain rfl:=Option.some.inj h;refine enter Tryz.func138 rfl (n:=2) rfl ?_;refine wp_seq ?_;refine wp_region_lit ?_;refine asg (v:=.slice none 0 0) rfl ?_;refine wpList_nil ?_;refine aaQ ?_;refine wp_seq ?_;refine wp_region_lit ?_;have hlen:(Lib.fields ahH.data.toList).length=acg.length:=by rw[<-agS,List.length_map]
 have hmap:(Lib.fields ahH.data.toList).map (λl=>Value.string ⟨l.toArray⟩)=acg.map Value.string:=by rw[<-agS,List.map_map];rfl
 obtain⟨K1,S1,hs1,hr1⟩:=S0.texts (xs:=acg) 9 amW (by decide);refine clV (caps:=#[]) (vs:=[.string ahH]) (R:=λv w'=>v=.slice (some ⟨zz wi,0,none⟩) acg.length acg.length/\w'=wi.alloc (.cells (acg.map Value.string).toArray 9)) rfl (by kernel_rfl) rfl
  ((Any.strings_Fields_core Tryz.lays157 (by kernel_rfl) ahH wi (by decide) amN (λc hc=>S0.cell (hG.1 c hc))).mono (λe w' h=>⟨_,h.1,by rw[hlen],by rw[h.2,hmap];rfl⟩)) ?_
 rintro _ _⟨rfl,rfl⟩;refine asg (v:=.slice (some ⟨zz wi,0,none⟩) acg.length acg.length) rfl ?_;refine wpList_nil ?_;refine aaQ ?_;refine wp_ret ?_;exact adq rfl (resT rfl) ⟨K1,_,_,rfl,S1,hr1⟩
theorem awf(k:Nat):aqH (f112 k):=by
 intro K wi p e h hG f a;obtain⟨y,z,h⟩:=rz h;refine en 6 Tryz.func112 rfl ?_;unfold f112 at h;refine gd 7<|cB h (λ_ g=>(aux k) g (hG.mono kr)<|pt a) ?_;rintro e _ q⟨r,s,t,rfl,b,i⟩ h;have d:=ca b a;refine go 1<|cB h (λ_ j=>(avW k) j (gm hG b) i f<|pt d) ?_;rintro u _ v⟨l,rfl,m⟩ h;have o:=ca m d;refine go 4 ?_;cases oj h z;exact rt1 ⟨l,rfl,o⟩
theorem aeU(k:Nat):atk (f79 k):=by
 intro K wi v x h hG g e;obtain⟨Z,n,h⟩:=rz h;refine en 15 Tryz.func79 rfl ?_;unfold f79 at h;refine gd 5<|wk e (λj m=>∃i b f,j i [] [(2,.bool f)]/\KH.sub K b/\m b [] []/\alY k f=some Z) ?_ ?_
 ·refine gd 2<|cB h (λ_ p=>(av7 k) p (hG.mono kr) g<|pt e) ?_;rintro y _ z⟨l,rfl,a⟩ h;have d:=ca a e;refine go 1 (bO 5 h ?_ ?_)<;>intro _ h
  ·refine go 8 (bO 10 h ?_ ?_)<;>intro _ h
   ·refine go 3<|cB h (λ_ q=>(awf k) q (gm hG a) g<|pt d) ?_;rintro r _ A⟨s,rfl,o⟩ h;have t:=ca o d;exact go 6 ⟨_,s,!r,fK,a.sub.trans o.sub,t,h⟩
   ·exact go 7 ⟨_,l,false,fK,a.sub,d,h⟩
  ·exact go 12 ⟨_,l,false,fK,a.sub,d,h⟩
 ·rintro _ B⟨i,b,f,rfl,C,u,h⟩;refine gd 1 ?_;cases oj h n;exact rt1 ⟨b,rfl,u⟩
theorem axR(k:Nat):aok (f95 k):=by
 intro K wi e t h hG q i;obtain⟨y,z,h⟩:=rz h;refine en 23 Tryz.func95 rfl ?_;unfold f95 at h;refine gd 14<|wl i (λj m g_=>∃l a,∃(b:Nat),g_=a.length/\j l [0,5] [(6,iI (b:Int))]/\m K [] []/\e.data.toList.drop b=a/\aeu k e a b=some y) e.data.toList.length ?_ ?_
 ·exact⟨_,e.data.toList,0,rfl,fK,i,List.drop_zero,h⟩
 ·rintro _ _ u⟨l,a,b,rfl,rfl,f,d,h⟩;rcases a with _|⟨s,a⟩
  ·refine gd 2<|bcm (r:=false) rfl rfl (congrArg some<|ad4 d)<|go 18 ?_;cases oj h z;exact rt1 ⟨K,rfl,f⟩
  ·refine gd 2<|bcm (r:=true) rfl rfl (congrArg some<|adh d)<|go 14<|wk f (λj m=>∃o g,j o [0,5,6] [(18,.bool g)]/\m K [] []/\aiX k b g (aeu k e a)=some y) ?_ ?_
   ·refine gd 3 (ixN Tyt9 rfl rfl d<|go 2<|bO 13 h ?_ ?_)<;>intro _ h
    ·exact go 7 ⟨_,true,fK,f,h⟩
    ·exact go 5<|ixN Tyt9 rfl rfl d<|go 5 ⟨_,decide<|(s.toNat:Int)>126,fK,f,h⟩
   ·rintro _ v⟨o,g,rfl,p,h⟩;refine bC 18 h ?_ ?_<;>intro _ h
    ·refine gd 12 ?_;cases oj h z;exact rt1 ⟨K,rfl,p⟩
    ·exact gd 5<|bar (r:=((b+1:Nat):Int)) rfl rfl (aiZ<|akM q d)<|go 3 ⟨_,Nat.lt_succ_self _,_,a,b+1,rfl,fK,p,aac d,h⟩
theorem agT(k:Nat)(a:ByteArray) : ∀(l:List UInt8) (i:Nat),aeu k a l i=some true->a.size<=60
 | [],i,h=>by
  unfold aeu at h;have:=of_decide_eq_true (Option.some.inj h);omega
 | e::l,i,h=>by
  unfold aeu at h;rcases Bool.eq_false_or_eq_true (decide ((e.toNat:Int)<32)) with h1 | h1
  ·rw[h1] at h;simp[aiX] at h
  ·rw[h1] at h;simp only[cond_false,aiX] at h;rcases Bool.eq_false_or_eq_true (decide ((e.toNat:Int)>126)) with h2 | h2
   ·rw[h2] at h;simp at h
   ·rw[h2] at h;exact agT k a l _ h
theorem ati(k:Nat)(h162:aok (f95 k)){K:KH}{wi:World}{a:ByteArray}{r:Bool}(h:f95 k a=some r)(hG:GK K)(ha:a.size<=mB)(S0:Sx K K wi wi (λb=>b∈Ents.blks []) []) :
  Calls Tryz.prog 67 #[.string a] wi (Ret λv w'=>∃(K' : KH) (s:ByteArray),v=.tuple #[.string s,.int .i64 (cond r 0 2)]/\Sx K K' wi w' (λb=>b∈Ents.blks []) []):=by
 refine enter Tryz.func67 rfl (n:=12) rfl ?_;refine wp_seq ?_;refine wp_region_lit ?_;refine asg (v:=.string ⟨#[]⟩) rfl ?_;refine asg (v:=.int .i64 0) rfl ?_;refine wpList_nil ?_;refine aaQ ?_;refine wp_seq ?_;refine wp_seq ?_;refine wp_region_lit ?_;refine mv (v:=.string a) rfl ?_;refine clV (caps:=#[]) (vs:=[.string a]) rfl (by kernel_rfl) rfl (h162 h hG ha S0) ?_;rintro _ w1⟨K1,rfl,T1⟩;refine unot (a:=r) rfl ?_;refine wpList_nil ?_;refine aaQ ?_;rcases r with _|_
 ·refine cndT rfl ?_;refine wp_seq ?_;refine wp_region_lit ?_;refine asg (v:=.string ⟨#[]⟩) rfl ?_;refine asg (v:=.int .i64 2) rfl ?_;refine wpList_nil ?_;refine aaQ ?_;refine wp_ret ?_;refine asQ ?_;exact abw rfl (resT rfl) (resT rfl) ⟨K1,_,rfl,T1⟩
 ·have hsh:a.size<=60:=agT k a _ _ h;refine cndF rfl ?_;refine wp_skip ?_;refine aaQ ?_;refine wp_seq ?_;refine wp_region_lit ?_;refine mv (v:=.string a) rfl ?_;have hG1:=hG.mono T1.sub;refine clV (caps:=#[]) (vs:=[.string a,.string ⟨#[92]⟩,.string ⟨#[92,92]⟩]) rfl (by kernel_rfl) rfl (aps T1 hG1 a ⟨#[92]⟩ ⟨#[92,92]⟩ (by omega) (by decide) (by decide)) ?_;rintro _ w2⟨s2,rfl,hs2,T2⟩;refine clV (caps:=#[]) (vs:=[.string s2,.string ⟨#[34]⟩,.string ⟨#[92,34]⟩]) rfl (by kernel_rfl) rfl (aps T2 hG1 s2 ⟨#[34]⟩ ⟨#[92,34]⟩ (by omega) (by decide) (by decide)) ?_;rintro _ w3⟨s3,rfl,hs3,T3⟩;refine bsa (a:=⟨#[34]⟩) (b:=s3) rfl rfl (by have:(⟨#[34]⟩:ByteArray).size=1:=rfl;omega) ?_;refine bsa (a:=⟨#[34]⟩++s3) (b:=⟨#[34]⟩) rfl rfl (by have:(⟨#[34]⟩:ByteArray).size=1:=rfl;rw[ByteArray.size_append];omega) ?_;refine asg (v:=.string (⟨#[34]⟩++s3++⟨#[34]⟩)) rfl ?_;refine asg (v:=.int .i64 0) rfl ?_;refine wpList_nil ?_;refine aaQ ?_;refine wp_ret ?_;exact abw rfl (resT rfl) (resT rfl) ⟨K1,_,rfl,T3⟩
theorem awQ(k:Nat):anz (f78 k):=by
 unfold anz;intro K wi a0 r0 h hG ha0 S0;unfold f78 at h;refine enter Tryz.func78 rfl (n:=12) rfl ?_;refine wp_seq ?_;refine wp_region_lit ?_;refine asg (v:=.bool false) rfl ?_;refine wpList_nil ?_;refine aaQ ?_;refine wp_seq ?_;refine wp_region_lit ?_;refine mv (v:=.string a0) rfl ?_;refine clV (caps:=#[]) (vs:=[.string a0]) rfl (by kernel_rfl) rfl (ati k (axR k) h hG ha0 S0) ?_;rintro _ w1⟨K1,s1,rfl,T1⟩;refine mv (v:=.tuple #[.string s1,.int .i64 (cond r0 0 2)]) rfl ?_;refine ext (v:=.string s1) rfl rfl ?_;refine ext (v:=.int .i64 (cond r0 0 2)) rfl rfl ?_;refine asg (v:=.string s1) rfl ?_;refine asg (v:=.int .i64 (cond r0 0 2)) rfl ?_;refine wpList_nil ?_;refine aaQ ?_;refine wp_seq ?_;refine wp_region_lit ?_;refine mv (v:=.int .i64 (cond r0 0 2)) rfl ?_;refine bcm (r:=decide ((cond r0 0 2:Int)=0)) rfl rfl rfl ?_;refine asg (v:=.bool (decide<|(cond r0 0 2:Int)=0)) rfl ?_;refine wpList_nil ?_;refine aaQ ?_;refine wp_ret ?_;exact adq rfl (resT rfl) ⟨K1,by cases r0<;>rfl,T1⟩
theorem atw(k:Nat)(F:afZ)(IH53:aeK F.f53)(IH80:aeE F.f80):aeK (ao5 k F):=by
 intro K wi g bs am an ao aL bm u bn bo bp bq h hG aM aN;obtain⟨r_,n,h⟩:=rz h;obtain⟨o,q,f,v,i⟩:=aL;obtain⟨x,y,rfl,ap,aP⟩:=aai.open aM;refine en 107 Tryz.func53 rfl ?_;unfold ao5 at h;refine gI 7 [] [] aN (λaT aq=>wk aq (λj m=>∃ar l b d e S,j ar [0,2,4] [(24,.bool S)]/\KH.sub K l/\m l [] [.box bs g #[iI b,iI d,.bool e] 96,.box (zz wi) (zz wi) (aE o q f v x i y) 35]/\ahX k F o q f i u b d e S=some r_) ?_ ?_)
 ·refine gd 3 ?_;have au:=p10 aq;refine cB h (λ_ aU=>(anv k) aU (hG.mono kr)<|pt au) ?_;rintro⟨⟨U,V,C⟩,br⟩ _ bu⟨W,rfl,D⟩ h;have A:=ca D au;refine go 2 (bO 13 h ?_ ?_)<;>intro _ h
  ·exact go 13 ⟨_,W,U,V,C,true,fK,D.sub,A,h⟩
  ·refine gP 8 [3,2] A (bO 17 h ?_ ?_)<;>intro _ h
   ·exact gP 15 [2,1] A ⟨_,W,U,V,C,!C,fK,D.sub,A,h⟩
   ·exact go 10 ⟨_,W,U,V,C,false,fK,D.sub,A,h⟩
 ·rintro _ bv⟨ar,l,b,d,e,S,rfl,s,a,h⟩;refine bC 24 h ?_ ?_<;>intro _ h
  ·refine gd 8 ?_;cases oj h n;exact rt1 ⟨l,rfl,a.sel [0]⟩
  ·refine gd 13<|wk a (λj m=>∃av z X Y,j av [0,2,4] [(7,iI X),(8,.bool Y)]/\KH.sub l z/\m z [] [.box bs g #[iI b,iI d,.bool e] 96,.box (zz wi) (zz wi) (aE o q f v x i y) 35]/\acW k F i u b d e X Y=some r_) ?_ ?_
   ·refine gD 13 [0,2] a (bC 40 h ?_ ?_)<;>intro _ h
    ·refine gD 4 [1,2] a<|cB h (λ_ aV=>(ab9 k) aV (hG.mono s)<|pt a) ?_;rintro bw _ bx⟨aw,rfl,Z⟩ h;have ab:=ca Z a;refine go 1 (bO 45 h ?_ ?_)<;>intro _ h
     ·exact gP 11 [2,2] ab ⟨_,aw,0,seq f ⟨#[]⟩,fK,Z.sub,ab,h⟩
     ·exact go 8 ⟨_,aw,0,false,fK,Z.sub,ab,h⟩
    ·refine gd 7 (bC 50 h ?_ ?_)<;>intro _ h
     ·refine gD 4 [1,2] a<|cB h (λ_ aW=>(ab9 k) aW (hG.mono s)<|pt a) ?_;rintro bz _ bB⟨ax,rfl,ac⟩ h;have ad:=ca ac a;refine go 1 (bO 55 h ?_ ?_)<;>intro _ h
      ·exact gP 11 [2,2] ad ⟨_,ax,0,seq f ⟨#[]⟩,fK,ac.sub,ad,h⟩
      ·exact go 8 ⟨_,ax,0,false,fK,ac.sub,ad,h⟩
     ·refine gd 7 (bC 60 h ?_ ?_)<;>intro _ h
      ·refine gD 6 [1,2] a (bO 65 h ?_ ?_)<;>intro _ h
       ·refine gP 5 [2,2] a<|cB h (λ_ aX=>(awQ k) aX (hG.mono s) ap<|pt a) ?_;rintro aY _ bD⟨aZ,rfl,ay⟩ h;have a0:=ca ay a;exact go 5 ⟨_,aZ,0,aY,fK,ay.sub,a0,h⟩
       ·exact go 8 ⟨_,l,0,false,fK,kr,a,h⟩
      ·refine gd 7 (bC 70 h ?_ ?_)<;>intro _ h
       ·refine gD 6 [1,2] a (bO 75 h ?_ ?_)<;>intro _ h
        ·refine gP 5 [2,2] a<|cB h (λ_ a3=>(aeU k) a3 (hG.mono s) ap<|pt a) ?_;rintro a4 _ bE⟨a5,rfl,az⟩ h;have a6:=ca az a;exact go 5 ⟨_,a5,0,a4,fK,az.sub,a6,h⟩
        ·exact go 8 ⟨_,l,0,false,fK,kr,a,h⟩
       ·refine gd 1<|wk a (λj m=>∃aA ae,j aA [0,2,4] [(80,.bool ae)]/\m l [] [.box bs g #[iI b,iI d,.bool e] 96,.box (zz wi) (zz wi) (aE o q f v x i y) 35]/\anj k F o q f i u b d e ae=some r_) ?_ ?_
        ·refine gd 6 (bC 80 h ?_ ?_)<;>intro a7 h
         ·exact gd 3<|lX 80 a7.symm ⟨_,o==5,fK,a,h⟩
         ·exact gd 6 ⟨_,o==6,fK,a,h⟩
        ·rintro _ bF⟨aA,ae,rfl,p,h⟩;refine bC 80 h ?_ ?_<;>intro _ h
         ·refine gd 1<|wk p (λj m=>∃aB G,j aB [0,2,4] [(8,.bool G)]/\m l [] [.box bs g #[iI b,iI d,.bool e] 96,.box (zz wi) (zz wi) (aE o q f v x i y) 35]/\anC k F i u b d e G=some r_) ?_ ?_
          ·refine gD 5 [1,2] p (bO 86 h ?_ ?_)<;>intro _ h
           ·exact gP 10 [2,2] p ⟨_,seq f ⟨#[]⟩,fK,p,h⟩
           ·exact go 7 ⟨_,false,fK,p,h⟩
          ·rintro _ bG⟨aB,G,rfl,a8,h⟩;exact gd 5 ⟨_,l,1,G,fK,kr,a8,h⟩
         ·refine gd 1<|wk p (λj m=>∃aG I J,j aG [0,2,4] [(8,.bool J)]/\KH.sub l I/\m I [] [.box bs g #[iI b,iI d,.bool e] 96,.box (zz wi) (zz wi) (aE o q f v x i y) 35]/\amg k F i u b d e J=some r_) ?_ ?_
          ·refine gD 3 [0,2] p<|cB h (λ_ a9=>(ab9 k) a9 (hG.mono s)<|pt p) ?_;rintro bH _ bI⟨af,rfl,N⟩ h;have B:=ca N p;refine go 1 (bO 30 h ?_ ?_)<;>intro _ h
           ·refine gP 8 [1,2] B (bO 35 h ?_ ?_)<;>intro _ h
            ·exact gP 10 [2,2] B ⟨_,af,seq f ⟨#[]⟩,fK,N.sub,B,h⟩
            ·exact go 7 ⟨_,af,false,fK,N.sub,B,h⟩
           ·exact go 12 ⟨_,af,false,fK,N.sub,B,h⟩
          ·rintro _ bJ⟨aG,I,J,rfl,ba,bb,h⟩;exact gd 5 ⟨_,I,2,J,fK,ba,bb,h⟩
   ·rintro _ bK⟨av,z,X,Y,rfl,aH,t,h⟩;refine wk t (λj m=>∃aI O ai aj ak al,j aI [] [(6,.bool ai)]/\KH.sub z O/\m O [] [.box bs g #[iI aj,iI ak,.bool al] 96]/\aiT k F ai aj ak al=some r_) ?_ ?_
    ·refine gd 3 (bO 92 h ?_ ?_)<;>intro _ h
     ·refine gP 12 [4,2] t (bO 99 h ?_ ?_)<;>intro _ h
      ·refine gP 9 [4,2] t<|bar (r:=(w64<|u+1)) rfl rfl rfl<|go 1<|cB h (λ_ bd=>IH80 bd (hG.mono<|s.trans aH) (me aP<|s.trans aH)<|pt t) ?_;rintro⟨⟨be,bf,bg⟩,bh⟩ _ bL⟨bi,rfl,aK⟩ h;have bj:=ca aK t;exact go 4 ⟨_,bi,bh,be,bf,bg,fK,aK.sub,bj.sel [0],h⟩
      ·exact go 10 ⟨_,z,false,b,d,e,fK,kr,t.sel [0],h⟩
     ·exact go 17 ⟨_,z,false,b,d,e,fK,kr,t.sel [0],h⟩
    ·rintro _ bM⟨aI,O,ai,aj,ak,al,rfl,bP,bk,h⟩;refine gd 1 ?_;cases oj h n;exact rt1 ⟨O,rfl,bk⟩
theorem atL(k:Nat)(F:afZ)(IH53:aeK F.f53)(IH80:aeE F.f80):aeE (avS k F):=by
 intro K wi g bs r s t p ae af C ai aj ak al h hG u v;obtain⟨r_,n,h⟩:=rz h;refine en 21 Tryz.func80 rfl ?_;unfold avS at h;refine gd 14<|wl v (λj m g_=>∃x b a,∃(d:Nat),∃f i l,g_=a.length/\j x [0,2,9,10] [(11,iI (d:Int))]/\KH.sub K b/\m b [] [.box bs g #[iI f,iI i,.bool l] 96]/\p.drop d=a/\aiS k F C a d f i l=some r_) p.length ?_ ?_
 ·exact⟨_,K,p,0,r,s,t,rfl,fK,kr,v,List.drop_zero,h⟩
 ·rintro _ _ D⟨x,b,a,d,f,i,l,rfl,rfl,o,q,e,h⟩;rcases a with _|⟨⟨G,I,J,N,O⟩,a⟩
  ·refine gd 2<|cNl e<|go 15 ?_;cases oj h n;exact rt1 ⟨b,rfl,q⟩
  ·refine gd 2<|cCl e<|go 10<|eN q (me u o) e aai.open ?_;rintro am an ao ap aq ar⟨S,U,rfl,V,W⟩;refine gR 9 [0,0,0,5] [[iI 0,iI 0,sE,iI 0,nS]] q (λau X Y=>?_);have y:=p10 Y;refine cB h (λ_ Z=>IH53 Z (hG.mono o) (aai.intro V W)<|pt y) ?_;rintro⟨⟨ab,ac,ad⟩,av⟩ _ aw⟨z,rfl,A⟩ h;have B:=ca A y;refine go 3 (bC 19 h ?_ ?_)<;>intro _ h
   ·refine gd 12 ?_;cases oj h n;exact rt1 ⟨z,rfl,B.sel [0]⟩
   ·exact gd 5<|iCl e ((me u o).len)<|go 3 ⟨_,Nat.lt_succ_self _,_,z,a,d+1,ab,ac,ad,rfl,fK,o.trans A.sub,B.sel [0],aac e,h⟩
theorem an1(k0:Nat) : ∀k,aeK (aep k0 k).f53/\aeE (aep k0 k).f80:=by
 intro k;induction k with
 | zero=>exact⟨by simp[aeK,aep],by simp[aeE,aep]⟩
 | succ k ih=>exact⟨atw k0 (aep k0 k) ih.1 ih.2,atL k0 (aep k0 k) ih.1 ih.2⟩
theorem awE(k:Nat):aeK (f53 k):=(an1 k k).1
theorem auj(k:Nat):aeE (f80 k):=(an1 k k).2
theorem aru(k:Nat)(F:ach)(IH156:ac3 F.f156)(IH177:ac8 F.f177)(IH191:acZ F.f191):ac3 (aqw k F):=by
 intro K wi g bs r s t p aB aG C aH aI aK aL h hG u v;obtain⟨r_,n,h⟩:=rz h;refine en 21 Tryz.func156 rfl ?_;unfold aqw at h;refine gd 14<|wl v (λj m g_=>∃x b a,∃(d:Nat),∃f i l,g_=a.length/\j x [0,2,9,10] [(11,iI (d:Int))]/\KH.sub K b/\m b [] [.box bs g #[iI f,iI i,.bool l] 96]/\p.drop d=a/\agz k F C a d f i l=some r_) p.length ?_ ?_
 ·exact⟨_,K,p,0,r,s,t,rfl,fK,kr,v,List.drop_zero,h⟩
 ·rintro _ _ D⟨x,b,a,d,f,i,l,rfl,rfl,o,q,e,h⟩;rcases a with _|⟨⟨G,I,J,N,O,S,U,V,W,X,Y⟩,a⟩
  ·refine gd 2<|cNl e<|go 15 ?_;cases oj h n;exact rt1 ⟨b,rfl,q⟩
  ·refine gd 2<|cCl e<|go 10<|eN q (ms u o) e aag.open ?_;rintro aM aN aP aT aU aV⟨Z,ab,ac,ad,ae,af,ai,aj,ak,al,rfl,am,an,ao,ap,aq,ar,au⟩;refine gR 9 [0,0,0,11] [[iI 0,sE,iI 0,sE,iI 0,iI 0,nS,nS,nS,nS,nS]] q (λaW av aw=>?_);have y:=p10 aw;refine cB h (λ_ ax=>IH177 ax (hG.mono o) (aag.intro am an ao ap aq ar au)<|pt y) ?_;rintro⟨⟨ay,az,aA⟩,aX⟩ _ aY⟨z,rfl,A⟩ h;have B:=ca A y;refine go 3 (bC 19 h ?_ ?_)<;>intro _ h
   ·refine gd 12 ?_;cases oj h n;exact rt1 ⟨z,rfl,B.sel [0]⟩
   ·exact gd 5<|iCl e ((ms u o).len)<|go 3 ⟨_,Nat.lt_succ_self _,_,z,a,d+1,ay,az,aA,rfl,fK,o.trans A.sub,B.sel [0],aac e,h⟩
end Go.Proofs.YtphdlngnegjgcaaGreatDoor
