/- Words of the same proof, part 5: what the last text needs; nothing is claimed here. -/
import Derived.Test.YtphdlngnegjgcaaGreatDoorO4
set_option linter.unusedVariables false
set_option linter.unusedSimpArgs false
set_option maxRecDepth 100000
set_option maxHeartbeats 20000000
namespace Go.Proofs.YtphdlngnegjgcaaGreatDoor
open Go
theorem asx (k:Nat) (F:ary) (IH89:afo F.f89):afo (avj k F):=by
 unfold afo;intro K wi ak aU aV cO h hG aW bi;obtain ⟨r_,hr_,h⟩:=rz h;refine aat Tryz.func89 rfl (n:=66) rfl ?_;unfold avj at h;refine gd 17 ?_;have bj:=bi.row_ (zz wi) 62 11;refine aaC (fun g_ a w=>∃ aX ax N,∃ (I:Nat),∃ f V W al,g_=N.length∧a=fr 66 (updL aX [(0,sl aU ak aV),(3,sl V f W),(4,iI (I:Int))])∧KH.sub K ax∧SR K ax wi w [] [eW (zz wi) V f W 62 11 al]∧ak.drop I=N∧Reps (aai ax) 11 f al∧f.length * 184 ≤ mB∧afy k F N I f=some r_) ak.length ?_ ?_
 ·exact ⟨_,K,ak,0,([]:LS),none,0,[],rfl,fR,kr,bj,List.drop_zero,(aa1 (R:=(aai K)) (size:=11)),(by simp),h⟩
 ·rintro _ _ ay ⟨aX,ax,N,I,f,V,W,al,rfl,rfl,J,aB,ac,aY,bk,h⟩;rcases N with _ | ⟨⟨m,q,s,t,u,x,bm,bn,bo,bp,ad⟩,N⟩
  ·unfold afy at h;refine gd 6 (bcm (r:=false) rfl rfl (congrArg some (aal ac)) (go 15 ?_));obtain ⟨bq,br,cP,bs⟩:=ab4 (i:=0) (bytes:=184) (R:=fun K=>(aai K)) aB rfl (Nat.le_refl _) aY bk (fun hs=>(fun _ _ h=>aai.mono hs h));cases (oi h).trans hr_;exact aau rfl (resT rfl) ⟨bq,V,W,rfl,br,bs⟩
  ·unfold afy at h;refine gd 6 (bcm (r:=true) rfl rfl (congrArg some (aak ac)) (go 11 ?_));obtain ⟨bu,bv,cQ,bw,cR,bx,bz⟩:=((ms aW J)).row.at_ (aaj ac);obtain ⟨bB,bD,bE,bF,bG,bH,bI,bJ,aG,aH,rfl,bK,bL,bM,bP,bQ,bR,aZ⟩:=aai.open bz;refine idxN (b:=bu) (o:=bv) (i:=I) ab2 abx rfl bw rfl (aab ac) (lD (vS m q s t u x bB bm bD bE bn bF bG bo bH bI bp bJ aG ad aH) aeH abx rfl (fun j v hj=>aB.cell (kr.cell (bx j v hj))) (gR 8 [0,6,1] [[iI 0,sE,iI 0,sE,iI 0,iI 0,nS,nS,nS,nS,nS]] aB (fun cS cU a1=>(cB h aqN (fun _ bS=>(aru k) bS (hG.mono J) bM (pt a1)) ?_))));rintro A _ cV ⟨cW,am,an,rfl,g,bT⟩ h;have bU:=ca g a1;refine gR 8 [6,0,7,1] [] bU (fun cY a2=>(cB h aqc (fun _ bV=>IH89 bV (hG.mono (J.trans g.sub)) (ms bP g.sub) (pt a2)) ?_));rintro B _ cZ ⟨c2,ao,ap,rfl,l,bW⟩ h;have bX:=ca l a2;refine gR 8 [7,0,8,1] [] bX (fun c3 a3=>(cB h aqc (fun _ bY=>IH89 bY (hG.mono ((J.trans g.sub).trans l.sub)) (ms bQ (g.sub.trans l.sub)) (pt a3)) ?_));rintro C _ c4 ⟨c5,aq,ar,rfl,y,bZ⟩ h;have b0:=ca y a3;refine gR 8 [8,0,9,1] [] b0 (fun c6 a4=>(cB h aqc (fun _ b1=>IH89 b1 (hG.mono (((J.trans g.sub).trans l.sub).trans y.sub)) (ms bR ((g.sub.trans l.sub).trans y.sub)) (pt a4)) ?_));rintro D _ c7 ⟨aI,au,av,rfl,G,b2⟩ h;have b3:=ca G a4;refine gR 16 [9,0] [] b3 (fun c8 b4=>?_);have b5:=b4.row_ (zz wi) 84 5;refine aaC (fun g_ a w=>∃ a5 az X,∃ (Y:Nat),∃ d ae af aJ,g_=X.length∧a=fr 66 (updL a5 [(0,sl aU ak aV),(3,sl V f W),(4,iI (I:Int)),(5,pp (zz ay) 0),(6,sl ae d af),(7,iI (Y:Int))])∧KH.sub aI az∧SR K az wi w [] [.box (zz wi) (zz ay) (aS m q s t u x am A an ao B ap aq C ar au D av aG ad aH) 62,eW (zz wi) V f W 62 11 al,eW (zz wi) ae d af 84 5 aJ]∧ad.drop Y=X∧Reps (aaB az) 5 d aJ∧d.length * 80 ≤ mB∧ahf k F f I m q s t u x A B C D (afy k F N) X Y d=some r_) ad.length ?_ ?_
   ·exact ⟨_,aI,ad,0,([]:LC),none,0,[],rfl,fR,kr,(b5.sel [1,2,0]),List.drop_zero,(aa1 (R:=(aaB aI)) (size:=5)),(by simp),h⟩
   ·rintro _ _ b6 ⟨a5,az,X,Y,d,ae,af,aJ,rfl,rfl,z,ah,ai,a6,b7,h⟩;rcases X with _ | ⟨⟨O,S,U,b8,b9⟩,X⟩
    ·unfold ahf at h;refine gD 7 [10,1] ah (bcm (r:=false) rfl rfl (congrArg some (aal ai)) (gR 18 [10,0,0,0,11] [] ah (fun c9 cb=>(bsl (e:=62) (cells:=(aS m q s t u x am A an ao B ap aq C ar au D av ae d af)) (vs:=[(0,.agg (aS m q s t u x am A an ao B ap aq C ar au D av ae d af))]) cb rfl (aao ab2 abx aik rfl (by decide) (by decide) rfl) (fun da cc=>?_)))));obtain ⟨aK,ce,aj,cf⟩:=ab4 (i:=3) (bytes:=80) (R:=fun K=>(aaB K)) cc rfl (Nat.le_refl _) a6 b7 (fun hs=>(fun _ _ h=>aaB.mono hs h));obtain ⟨a7,h⟩:=aaE h;refine apR (R:=(aai aK)) (p:=(aaf.mk m q s t u x A B C D d)) (i:=2) (j:=0) ce rfl rfl ab2 ak1 rfl (by decide) rfl rfl (aY.mono (fun _ _ h=>aai.mono (((((g.sub.trans l.sub).trans y.sub).trans G.sub).trans z).trans aj) h)) (aai.intro bK bL (me bT ((((l.sub.trans y.sub).trans G.sub).trans z).trans aj)) (ms bW (((y.sub.trans G.sub).trans z).trans aj)) (ms bZ ((G.sub.trans z).trans aj)) (ms b2 (z.trans aj)) cf) rfl rfl (Nat.le_refl _) a7 (by decide) (fun a8 a9 ba ch ci cj=>?_);have ck:=p12 ci;exact go 6 (bar (r:=((I + 1:Nat):Int)) rfl rfl (aaK (aaM (((ms aW J)).len) (by decide) (aab ac))) (go 3 (⟨_,Nat.lt_succ_self _,_,aK,N,I + 1,(f ++ [(aaf.mk m q s t u x A B C D d)]),a8,a9,ba,rfl,fR,((((((J.trans g.sub).trans l.sub).trans y.sub).trans G.sub).trans z).trans aj),(ck.sel [1]),aag ac,cj,(aaG a7),h⟩)))
    ·unfold ahf at h;refine gD 7 [10,1] ah (bcm (r:=true) rfl rfl (congrArg some (aak ai)) (gP 12 [10,1] ah ?_));obtain ⟨cl,cm,db,cn,dc,co,cq⟩:=((mc aZ ((((g.sub.trans l.sub).trans y.sub).trans G.sub).trans z))).row.at_ (aaj ai);obtain ⟨cr,cs,ct,cu,rfl,cw,cx,cy⟩:=aaB.open cq;refine idxN (b:=cl) (o:=cm) (i:=Y) acX acg rfl cn rfl (aab ai) (lD (vC O S U cr b8 cs ct b9 cu) ag5 acg rfl (fun j v hj=>ah.cell (kr.cell (co j v hj))) (gR 8 [0,3,1] [[iI 0,sE,iI 0,nS,nS]] ah (fun dd de bb=>(cB h aqN (fun _ cz=>(aru k) cz (hG.mono (((((J.trans g.sub).trans l.sub).trans y.sub).trans G.sub).trans z)) cx (pt bb)) ?_))));rintro Z _ df ⟨dg,aL,aM,rfl,aw,cA⟩ h;have cC:=ca aw bb;refine gR 8 [3,0,4,1] [] cC (fun dh bd=>(cB h aqc (fun _ cD=>IH89 cD (hG.mono ((((((J.trans g.sub).trans l.sub).trans y.sub).trans G.sub).trans z).trans aw.sub)) (ms cy aw.sub) (pt bd)) ?_));rintro ab _ di ⟨aN,aP,aT,rfl,aA,cG⟩ h;have cH:=ca aA bd;refine gR 7 [4,0,0,0,5] [] cH (fun dj cI=>(bsl (e:=84) (cells:=(aC' O S U aL Z aM aP ab aT)) (vs:=[(0,.agg (aC' O S U aL Z aM aP ab aT))]) cI rfl (aao acX acg apc rfl (by decide) (by decide) rfl) (fun dk cJ=>?_)));obtain ⟨be,h⟩:=aaE h;refine apR (R:=(aaB aN)) (p:=(aaz.mk O S U Z ab)) (i:=4) (j:=0) cJ rfl rfl acX ao8 rfl (by decide) rfl rfl (a6.mono (fun _ _ h=>aaB.mono (aw.sub.trans aA.sub) h)) (aaB.intro cw (me cA aA.sub) cG) rfl rfl (Nat.le_refl _) be (by decide) (fun bf bg bh cK cL cM=>?_);have cN:=amA cL;exact go 6 (bar (r:=((Y + 1:Nat):Int)) rfl rfl (aaK (aaM (((mc aZ ((((g.sub.trans l.sub).trans y.sub).trans G.sub).trans z))).len) (by decide) (aab ai))) (go 3 (⟨_,Nat.lt_succ_self _,_,aN,X,Y + 1,(d ++ [(aaz.mk O S U Z ab)]),bf,bg,bh,rfl,fR,((z.trans aw.sub).trans aA.sub),(cN.sel [1,2,3]),aag ai,cM,(aaG be),h⟩)))
theorem atK (k0:Nat) : ∀ k,afo (amc k0 k).f89:=by
 intro k;induction k with
 | zero=>exact (by unfold afo; intro _ _ _ _ _ _ h_; cases h_)
 | succ k ih=>exact asx k0 (amc k0 k) ih
theorem ayy (k:Nat):afo (f89 k):=(atK k k)
theorem asM (k:Nat):akM (awd k):=by
 unfold akM;intro K wi am a8 a9 h hG an ao;obtain ⟨r_,hr_,h⟩:=rz h;obtain ⟨D⟩:=am;obtain ⟨Z,c1,rfl,ab⟩:=aah.open an;refine aat Tryz.func62 rfl (n:=37) rfl ?_;unfold awd at h;refine gI 18 [] [[nS],[nS]] ao (fun N O ba ap=>?_);have aq:=ap.row_ (zz wi) 52 6;refine aaC (fun g_ a w=>∃ ac y t,∃ (u:Nat),∃ d z A G,g_=t.length∧a=fr 37 (updL ac [(1,pp (zz wi) 0),(2,pp (zz N) 0),(3,pp (zz O) 0),(4,iI (u:Int))])∧KH.sub K y∧SR K y wi w [] [.box (zz wi) (zz wi) #[sl Z D c1] 24,.box (zz wi) (zz N) #[nS] 24,.box (zz wi) (zz O) #[sl z d A] 24,eW (zz wi) z d A 52 6 G]∧D.drop u=t∧Reps (aar y) 6 d G∧d.length * 88 ≤ mB∧af7 k t u d=some r_) D.length ?_ ?_
 ·exact ⟨_,K,D,0,([]:LF),none,0,[],rfl,fR,kr,(aq.sel [3,2,1,0]),List.drop_zero,(aa1 (R:=(aar K)) (size:=6)),(by simp),h⟩
 ·rintro _ _ ar ⟨ac,y,t,u,d,z,A,G,rfl,rfl,I,B,C,ad,au,h⟩;rcases t with _ | ⟨⟨g,f,m,q,s,av⟩,t⟩
  ·unfold af7 at h;refine gD 7 [0,1] B (bcm (r:=false) rfl rfl (congrArg some (aal C)) (gR 15 [0,2,1,1] [] B (fun bb ae=>?_)));have e_:=(Option.some.inj h).trans hr_;have aw:=aaa.mk.inj e_;subst aw;exact aau rfl (resN (i:=1) (l:=[sl z d A]) ae rfl adQ adM rfl rfl rfl) ⟨y,z,A,G,rfl,(ae.sel [3]),ad,au⟩
  ·unfold af7 at h;refine gD 7 [0,1] B (bcm (r:=true) rfl rfl (congrArg some (aak C)) (gP 12 [0,1] B ?_));obtain ⟨ax,ay,bd,az,be,aA,aB⟩:=((mf ab I)).row.at_ (aaj C);obtain ⟨aG,aH,aI,aJ,rfl,aK,aL,aM⟩:=aar.open aB;refine idxN (b:=ax) (o:=ay) (i:=u) ac4 ab0 rfl az rfl (aab C) (lD (vF g aG f aH m q s aI av aJ) aht ab0 rfl (fun j v hj=>B.cell (kr.cell (aA j v hj))) (gR 14 [0,1,1] [[sE,nS,iI 0,vN,iI 0,nS]] B (fun bf bg aN=>?_)));have aP:=aN.row_ (zz wi) 70 2;obtain ⟨af,h⟩:=aaE h;refine apS (R:=fun K=>(aaN K)) (zs:=f) (i:=0) aP rfl ajk ayV rfl (by decide) rfl rfl (aa1 (R:=(aaN y)) (size:=2)) aL (fun _ _ h=>aaN.one h) (Nat.le_refl _) af (by decide) (fun S U bh bi aT aU=>(gR 8 [1,1,5,2] [] aT (fun bj ah=>(cB h aqc (fun _ aV=>(ayy k) aV (hG.mono I) aM (pt ah)) ?_))));rintro x _ bk ⟨bm,V,W,rfl,J,aW⟩ h;have aX:=ca J ah;refine gR 14 [5,1,0,5,0,1,6] [] aX (fun bn aY=>(bsl (e:=52) (cells:=(aF g S (([]:LP) ++ f) U m q s V x W)) (vs:=[(0,.agg (aF g S (([]:LP) ++ f) U m q s V x W))]) aY rfl (aao ac4 ab0 awM rfl (by decide) (by decide) rfl) (fun bo aZ=>?_)));obtain ⟨X,a1,Y,a2⟩:=ab4 (i:=1) (bytes:=24) (R:=fun K=>(aaN K)) aZ rfl (Nat.le_refl _) (aU.mono (fun _ _ h=>aaN.mono J.sub h)) (ajr af) (fun hs=>(fun _ _ h=>aaN.mono hs h));obtain ⟨ai,h⟩:=aaE h;refine apR (R:=(aar X)) (p:=(aac.mk g (([]:LP) ++ f) m q s x)) (i:=5) (j:=0) a1 rfl rfl ac4 awj rfl (by decide) rfl rfl (ad.mono (fun _ _ h=>aar.mono (J.sub.trans Y) h)) (aar.intro aK a2 (ms aW Y)) rfl rfl (Nat.le_refl _) ai (by decide) (fun aj ak al a3 a4 a5=>?_);have a6:=azh a4;exact gR 7 [0,3] [] a6 (fun bp a7=>(bar (r:=((u + 1:Nat):Int)) rfl rfl (aaK (aaM (((mf ab I)).len) (by decide) (aab C))) (go 3 (⟨_,Nat.lt_succ_self _,_,X,t,u + 1,(d ++ [(aac.mk g (([]:LP) ++ f) m q s x)]),aj,ak,al,rfl,fR,((I.trans J.sub).trans Y),(a7.sel [1,2,3,4]),aag C,a5,(aaG ai),h⟩))))
theorem axj (k:Nat):akM (f62 k):=asM k
theorem atp (k:Nat) (F:atv) (IH90:afv F.f90):afv (awc k F):=by
 unfold afv;intro K wi u Z ab aK h hG N ac;obtain ⟨r_,hr_,h⟩:=rz h;refine aat Tryz.func90 rfl (n:=26) rfl ?_;unfold awc at h;refine gd 17 ?_;have ad:=ac.row_ (zz wi) 35 5;refine aaC (fun g_ a w=>∃ O x m,∃ (q:Nat),∃ d y z B,g_=m.length∧a=fr 26 (updL O [(0,sl Z u ab),(3,sl y d z),(4,iI (q:Int))])∧KH.sub K x∧SR K x wi w [] [eW (zz wi) y d z 35 5 B]∧u.drop q=m∧Reps (aan x) 5 d B∧d.length * 64 ≤ mB∧af4 k F m q d=some r_) u.length ?_ ?_
 ·exact ⟨_,K,u,0,([]:LE),none,0,[],rfl,fR,kr,ad,List.drop_zero,(aa1 (R:=(aan K)) (size:=5)),(by simp),h⟩
 ·rintro _ _ ae ⟨O,x,m,q,d,y,z,B,rfl,rfl,A,C,t,S,af,h⟩;rcases m with _ | ⟨⟨f,g,l,ah,ai⟩,m⟩
  ·unfold af4 at h;refine gd 6 (bcm (r:=false) rfl rfl (congrArg some (aal t)) (go 15 ?_));obtain ⟨aj,ak,aL,al⟩:=ab4 (i:=0) (bytes:=64) (R:=fun K=>(aan K)) C rfl (Nat.le_refl _) S af (fun hs=>(fun _ _ h=>aan.mono hs h));cases (oi h).trans hr_;exact aau rfl (resT rfl) ⟨aj,y,z,rfl,ak,al⟩
  ·unfold af4 at h;refine gd 6 (bcm (r:=true) rfl rfl (congrArg some (aak t)) (go 11 ?_));obtain ⟨am,an,aM,ao,aN,ap,aq⟩:=((me N A)).row.at_ (aaj t);obtain ⟨ar,au,rfl,av,aw⟩:=aan.open aq;refine idxN (b:=am) (o:=an) (i:=q) ack abp rfl ao rfl (aab t) (lD (vE f g l ah ar ai au) adO abp rfl (fun j v hj=>C.cell (kr.cell (ap j v hj))) (gR 14 [0,3,0,4,1] [[iI 0,iI 0,sE,iI 0,nS]] C (fun aP aT aU U=>(cB h aw1 (fun _ ax=>IH90 ax (hG.mono A) aw (pt U)) ?_))));rintro s _ aV ⟨D,G,I,rfl,J,ay⟩ h;have az:=ca J U;refine gR 7 [4,0,0,0,5] [] az (fun aW aA=>(bsl (e:=35) (cells:=(aE f g l 0 G s I)) (vs:=[(0,.agg (aE f g l 0 G s I))]) aA rfl (aao ack abp anR rfl (by decide) (by decide) rfl) (fun aX aB=>?_)));obtain ⟨V,h⟩:=aaE h;refine apR (R:=(aan D)) (p:=(aam.mk f g l 0 s)) (i:=2) (j:=0) aB rfl rfl ack apw rfl (by decide) rfl rfl (S.mono (fun _ _ h=>aan.mono J.sub h)) (aan.intro av ay) rfl rfl (Nat.le_refl _) V (by decide) (fun W X Y aG aH aI=>?_);have aJ:=p12 aH;exact go 6 (bar (r:=((q + 1:Nat):Int)) rfl rfl (aaK (aaM (((me N A)).len) (by decide) (aab t))) (go 3 (⟨_,Nat.lt_succ_self _,_,D,m,q + 1,(d ++ [(aam.mk f g l 0 s)]),W,X,Y,rfl,fR,(A.trans J.sub),(aJ.sel [1]),aag t,aI,(aaG V),h⟩)))
theorem atx (k0:Nat) : ∀ k,afv (am5 k0 k).f90:=by
 intro k;induction k with
 | zero=>exact (by unfold afv; intro _ _ _ _ _ _ h_; cases h_)
 | succ k ih=>exact atp k0 (am5 k0 k) ih
theorem aus (k:Nat):afv (f90 k):=(atx k k)
theorem asN (k:Nat) (F:apH) (IH63:ae8 F.f63):ae8 (avG k F):=by
 unfold ae8;intro K wi ah aT aU cR h hG aV bg;obtain ⟨r_,hr_,h⟩:=rz h;refine aat Tryz.func63 rfl (n:=69) rfl ?_;unfold avG at h;refine gd 17 ?_;have bh:=bg.row_ (zz wi) 62 11;refine aaC (fun g_ a w=>∃ aW au I,∃ (D:Nat),∃ f O S ai,g_=I.length∧a=fr 69 (updL aW [(0,sl aT ah aU),(3,sl O f S),(4,iI (D:Int))])∧KH.sub K au∧SR K au wi w [] [eW (zz wi) O f S 62 11 ai]∧ah.drop D=I∧Reps (aai au) 11 f ai∧f.length * 184 ≤ mB∧afB k F I D f=some r_) ah.length ?_ ?_
 ·exact ⟨_,K,ah,0,([]:LS),none,0,[],rfl,fR,kr,bh,List.drop_zero,(aa1 (R:=(aai K)) (size:=11)),(by simp),h⟩
 ·rintro _ _ av ⟨aW,au,I,D,f,O,S,ai,rfl,rfl,G,ay,Y,aX,bi,h⟩;rcases I with _ | ⟨⟨q,s,bj,t,bk,u,bm,bn,bo,bp,Z⟩,I⟩
  ·unfold afB at h;refine gd 6 (bcm (r:=false) rfl rfl (congrArg some (aal Y)) (go 15 ?_));obtain ⟨bq,br,cS,bs⟩:=ab4 (i:=0) (bytes:=184) (R:=fun K=>(aai K)) ay rfl (Nat.le_refl _) aX bi (fun hs=>(fun _ _ h=>aai.mono hs h));cases (oi h).trans hr_;exact aau rfl (resT rfl) ⟨bq,O,S,rfl,br,bs⟩
  ·unfold afB at h;refine gd 6 (bcm (r:=true) rfl rfl (congrArg some (aak Y)) (go 11 ?_));obtain ⟨bu,bv,cU,bw,cV,bx,bz⟩:=((ms aV G)).row.at_ (aaj Y);obtain ⟨bB,bD,bE,bF,bG,bH,bI,bJ,az,aA,rfl,bK,bL,bM,bP,bQ,bR,aY⟩:=aai.open bz;refine idxN (b:=bu) (o:=bv) (i:=D) ab2 abx rfl bw rfl (aab Y) (lD (vS q s bj t bk u bB bm bD bE bn bF bG bo bH bI bp bJ az Z aA) aeH abx rfl (fun j v hj=>ay.cell (kr.cell (bx j v hj))) (gR 16 [0,2,0,4,0,6,1] [[iI 0,sE,iI 0,sE,iI 0,iI 0,nS,nS,nS,nS,nS]] ay (fun cW cY cZ c2 aZ=>(cB h aw1 (fun _ bS=>(aus k) bS (hG.mono G) bM (pt aZ)) ?_))));rintro z _ c3 ⟨c4,aj,ak,rfl,l,bT⟩ h;have bU:=ca l aZ;refine gR 5 [6,0] [] bU (fun c5 bV=>(rB [10,12,14] bV (fun a1 bW=>(ag 6 [0,7,1,1,3,8,4,1,6,9,7,1] (aaY bW) (aQ 2 rfl (cB h ase (fun _ bX=>IH63 bX (hG.mono (G.trans l.sub)) (ms bP l.sub) (pt a1)) ?_))))));rintro A _ c6 ⟨c7,al,am,rfl,g,bY⟩ h;have aB:=ca g a1;refine go 2 (wB (fwOf (is:=[0,1]) aB g.sub rfl) (fun bZ=>(ag 1 [9,7] (aaY bZ) (aQ 5 rfl (cB h ase (fun _ b0=>IH63 b0 (hG.mono ((G.trans l.sub).trans g.sub)) (ms bQ (l.sub.trans g.sub)) (pt aB)) ?_)))));rintro B _ c8 ⟨c9,an,ao,rfl,m,b1⟩ h;have aG:=ca m aB;refine go 2 (wB (fwOf (is:=[0,1]) aG (g.sub.trans m.sub) rfl) (fun da=>(aQ 8 rfl (cB h ase (fun _ b2=>IH63 b2 (hG.mono (((G.trans l.sub).trans g.sub).trans m.sub)) (ms bR ((l.sub.trans g.sub).trans m.sub)) (pt aG)) ?_))));rintro C _ db ⟨aH,ap,aq,rfl,x,b3⟩ h;have a2:=ca x aG;refine go 2 (wB (fwOf (is:=[0,1]) a2 ((g.sub.trans m.sub).trans x.sub) rfl) (fun dc=>(aQ 10 rfl (gR 3 [0] [] a2 (fun dd b4=>⟨hE 10,ag 1 [11,8] (hE 10) (aQ 12 rfl (gR 3 [0] [] b4 (fun de b5=>⟨hE 12,ag 1 [13,9] (hE 10) (aQ 14 rfl (gR 3 [0] [] b5 (fun df b6=>⟨hE 14,aD (gx 13 ?_)⟩)))⟩)))⟩)))));have b7:=b6.row_ (zz wi) 84 5;refine aaC (fun g_ a w=>∃ a3 aw U,∃ (V:Nat),∃ d ab ac aI,g_=U.length∧a=fr 69 (updL a3 [(0,sl aT ah aU),(3,sl O f S),(4,iI (D:Int)),(5,pp (zz av) 0),(6,sl ab d ac),(7,iI (V:Int))])∧KH.sub aH aw∧SR K aw wi w [] [.box (zz wi) (zz av) (aS q s 0 t 0 u aj z ak al A am an B ao ap C aq az Z aA) 62,eW (zz wi) O f S 62 11 ai,eW (zz wi) ab d ac 84 5 aI]∧Z.drop V=U∧Reps (aaB aw) 5 d aI∧d.length * 80 ≤ mB∧ahg k F f D q s t u z A B C (afB k F I) U V d=some r_) Z.length ?_ ?_
   ·exact ⟨_,aH,Z,0,([]:LC),none,0,[],rfl,fR,kr,(b7.sel [1,2,0]),List.drop_zero,(aa1 (R:=(aaB aH)) (size:=5)),(by simp),h⟩
   ·rintro _ _ b8 ⟨a3,aw,U,V,d,ab,ac,aI,rfl,rfl,y,ad,ae,a4,b9,h⟩;rcases U with _ | ⟨⟨J,N,cb,cc,ce⟩,U⟩
    ·unfold ahg at h;refine gD 7 [10,1] ad (bcm (r:=false) rfl rfl (congrArg some (aal ae)) (gR 18 [10,0,0,0,11] [] ad (fun dg cf=>(bsl (e:=62) (cells:=(aS q s 0 t 0 u aj z ak al A am an B ao ap C aq ab d ac)) (vs:=[(0,.agg (aS q s 0 t 0 u aj z ak al A am an B ao ap C aq ab d ac))]) cf rfl (aao ab2 abx aik rfl (by decide) (by decide) rfl) (fun dh ch=>?_)))));obtain ⟨aJ,ci,af,cj⟩:=ab4 (i:=3) (bytes:=80) (R:=fun K=>(aaB K)) ch rfl (Nat.le_refl _) a4 b9 (fun hs=>(fun _ _ h=>aaB.mono hs h));obtain ⟨a5,h⟩:=aaE h;refine apR (R:=(aai aJ)) (p:=(aaf.mk q s 0 t 0 u z A B C d)) (i:=2) (j:=0) ci rfl rfl ab2 ak1 rfl (by decide) rfl rfl (aX.mono (fun _ _ h=>aai.mono (((((l.sub.trans g.sub).trans m.sub).trans x.sub).trans y).trans af) h)) (aai.intro bK bL (me bT ((((g.sub.trans m.sub).trans x.sub).trans y).trans af)) (ms bY (((m.sub.trans x.sub).trans y).trans af)) (ms b1 ((x.sub.trans y).trans af)) (ms b3 (y.trans af)) cj) rfl rfl (Nat.le_refl _) a5 (by decide) (fun a6 a7 a8 ck cl cm=>?_);have cn:=p12 cl;exact go 6 (bar (r:=((D + 1:Nat):Int)) rfl rfl (aaK (aaM (((ms aV G)).len) (by decide) (aab Y))) (go 3 (⟨_,Nat.lt_succ_self _,_,aJ,I,D + 1,(f ++ [(aaf.mk q s 0 t 0 u z A B C d)]),a6,a7,a8,rfl,fR,((((((G.trans l.sub).trans g.sub).trans m.sub).trans x.sub).trans y).trans af),(cn.sel [1]),aag Y,cm,(aaG a5),h⟩)))
    ·unfold ahg at h;refine gD 7 [10,1] ad (bcm (r:=true) rfl rfl (congrArg some (aak ae)) (gP 12 [10,1] ad ?_));obtain ⟨co,cq,di,cr,dj,cs,ct⟩:=((mc aY ((((l.sub.trans g.sub).trans m.sub).trans x.sub).trans y))).row.at_ (aaj ae);obtain ⟨cu,cw,cx,cy,rfl,cz,cA,cC⟩:=aaB.open ct;refine idxN (b:=co) (o:=cq) (i:=V) acX acg rfl cr rfl (aab ae) (lD (vC J N cb cu cc cw cx ce cy) ag5 acg rfl (fun j v hj=>ad.cell (kr.cell (cs j v hj))) (gR 14 [0,2,0,3,1] [[iI 0,sE,iI 0,nS,nS]] ad (fun dk dl dm a9=>(cB h aw1 (fun _ cD=>(aus k) cD (hG.mono (((((G.trans l.sub).trans g.sub).trans m.sub).trans x.sub).trans y)) cA (pt a9)) ?_))));rintro W _ dn ⟨dp,aK,aL,rfl,ar,cG⟩ h;have cH:=ca ar a9;refine gR 8 [3,0,4,1] [] cH (fun dq ba=>(cB h ase (fun _ cI=>IH63 cI (hG.mono ((((((G.trans l.sub).trans g.sub).trans m.sub).trans x.sub).trans y).trans ar.sub)) (ms cC ar.sub) (pt ba)) ?_));rintro X _ dr ⟨aM,aN,aP,rfl,ax,cJ⟩ h;have cK:=ca ax ba;refine gR 7 [4,0,0,0,5] [] cK (fun ds cL=>(bsl (e:=84) (cells:=(aC' J N 0 aK W aL aN X aP)) (vs:=[(0,.agg (aC' J N 0 aK W aL aN X aP))]) cL rfl (aao acX acg apc rfl (by decide) (by decide) rfl) (fun dt cM=>?_)));obtain ⟨bb,h⟩:=aaE h;refine apR (R:=(aaB aM)) (p:=(aaz.mk J N 0 W X)) (i:=4) (j:=0) cM rfl rfl acX ao8 rfl (by decide) rfl rfl (a4.mono (fun _ _ h=>aaB.mono (ar.sub.trans ax.sub) h)) (aaB.intro cz (me cG ax.sub) cJ) rfl rfl (Nat.le_refl _) bb (by decide) (fun bd be bf cN cO cP=>?_);have cQ:=amA cO;exact go 6 (bar (r:=((V + 1:Nat):Int)) rfl rfl (aaK (aaM (((mc aY ((((l.sub.trans g.sub).trans m.sub).trans x.sub).trans y))).len) (by decide) (aab ae))) (go 3 (⟨_,Nat.lt_succ_self _,_,aM,U,V + 1,(d ++ [(aaz.mk J N 0 W X)]),bd,be,bf,rfl,fR,((y.trans ar.sub).trans ax.sub),(cQ.sel [1,2,3]),aag ae,cP,(aaG bb),h⟩)))
theorem atT (k0:Nat) : ∀ k,ae8 (alR k0 k).f63:=by
 intro k;induction k with
 | zero=>exact (by unfold ae8; intro _ _ _ _ _ _ h_; cases h_)
 | succ k ih=>exact asN k0 (alR k0 k) ih
theorem ay9 (k:Nat):ae8 (f63 k):=(atT k k)
theorem asL (k:Nat):akj (as4 k):=by
 unfold akj;intro K wi al ba bb h hG am an;obtain ⟨r_,hr_,h⟩:=rz h;obtain ⟨bd⟩:=al;obtain ⟨be,c1,rfl,ao⟩:=aah.open am;refine aat Tryz.func39 rfl (n:=32) rfl ?_;unfold as4 at h;refine gI 9 [0,1,1] [[nS]] an (fun C bf J=>(cB h azT (fun _ ap=>(axj k) ap (hG.mono kr) (aah.intro ao) (pt J)) ?_));rintro ⟨aq⟩ _ D ⟨W,ar,au,av,rfl,X,aw,ax⟩ h;have ay:=ca X J;have az:=ay.lower_ (i:=0) rfl J.size;refine gR 11 [0] [[nS]] az (fun bg bh aA=>(aaC (fun g_ a w=>∃ Y x q s t N d,a=fr 32 (updL Y [(2,pp (zz C) 0),(3,pp (zz D) 0),(4,iI d)])∧KH.sub W x∧SR K x wi w [] [.box (zz wi) (zz C) #[nS] 24,.box (zz wi) (zz D) #[sl s q t] 24,eW (zz wi) s q t 52 6 N]∧Reps (aar x) 6 q N∧q.length * 88 ≤ mB∧ahq k g_ q d=some r_) k ?_ ?_))
 ·exact ⟨_,W,aq,ar,au,av,0,fR,kr,(aA.sel [2,0,1]),aw,ax,h⟩
 ·rintro g_ _ bi ⟨Y,x,q,s,t,N,d,rfl,Z,B,O,ab,h⟩;rcases g_ with _ | j740
  ·unfold ahq at h;cases h
  ·unfold ahq at h;refine gD 10 [0,2] B (bC 11 h (fun _ h=>?_) (fun _ h=>?_))
   ·refine gD 10 [0,2] B ?_;obtain ⟨⟨e,f,g,j,aB,m⟩,u,h⟩:=ob h;obtain ⟨aG,bj,ac,bk,aH,bm⟩:=aiQ (B.entAt (i:=2) rfl) O (aaA u).1;obtain ⟨bn,bo,bp,bq,rfl,br,bs,bu⟩:=aar.open aH;refine idxG (b:=aG) (o:=0) (i:=d) ac4 ab0 rfl ac rfl (aaA u).2.1 (aaA u).2.2 (fd (0 + d.toNat * 6 + 4) au7 rfl (stR (R:=(aar x)) (i:=2) (off:=4) (p:=(aac.mk e f g j aB m)) (p':=(aac.mk e f g j 0 m)) (v:=iI 0) B rfl O (aaA u).1 Tys3 ac rfl rfl rfl rfl (by decide) (fun cs_ h_=>by obtain ⟨bv,bw,bx,bz,rfl,aI,aJ,aK⟩:=aar.open h_; exact aar.intro aI aJ aK) (fun aL aM aN ad=>?_)));have aP:SR K x wi aM [] [.box (zz wi) (zz C) #[nS] 24,.box (zz wi) (zz D) #[.slice s (q.set d.toNat (aac.mk e f g j 0 m)).length t] 24,.row (zz wi) (.slice s (q.set d.toNat (aac.mk e f g j 0 m)).length t) 52 6 (q.set d.toNat (aac.mk e f g j 0 m)).length aL]:=by simpa only [List.length_set,List.eraseIdx_zero,List.eraseIdx_cons_succ,List.tail_cons,List.set_cons_succ,List.set_cons_zero,List.nil_append,List.cons_append] using aN
    refine go 2 (rB [12] aP (fun G S=>(ag 6 [0,0,1,2,2,3,0,4,2,5] (aaY S) ?_)));obtain ⟨z,bB,U,bD,aT,aU⟩:=aiQ (G.entAt (i:=2) rfl) ad (aaA (afm (y:=(aac.mk e f g j 0 m)) u)).1;obtain ⟨bE,bF,ae,af,rfl,bG,bH,aV⟩:=aar.open aT;refine kK 6 (pp z (0 + d.toNat * 6)) rfl (fun w=>adj (b:=z) (o:=0) (i:=d) ac4 ab0 rfl U rfl (aaA (afm (y:=(aac.mk e f g j 0 m)) u)).2.1 (aaA (afm (y:=(aac.mk e f g j 0 m)) u)).2.2) S (kK 7 (pp z (0 + d.toNat * 6 + 5)) rfl (fun w=>ajq (o':=0 + d.toNat * 6 + 5) am9 rfl rfl) S (tT 8 (sl ae m af) [[12,8]] rfl (fq [0,1,2] G) (fun w hF=>afS (v:=sl ae m af) asz rfl (aU _ (hF.entAt (i:=2) rfl) 5 _ rfl)) (aQ 9 rfl (cB h ase (fun _ aW=>(ay9 k) aW (hG.mono G.sub) aV (pt G)) ?_))));rintro A _ bI ⟨V,aX,aY,rfl,I,aZ⟩ h;have ah:=ca I G;refine go 2 (wB (fwOf (is:=[0,1,2]) ah I.sub rfl) (fun ai=>(kK 10 (pp z (0 + d.toNat * 6)) rfl (fun w=>adj (b:=z) (o:=0) (i:=d) ac4 ab0 rfl U rfl (aaA (afm (y:=(aac.mk e f g j 0 m)) u)).2.1 (aaA (afm (y:=(aac.mk e f g j 0 m)) u)).2.2) ai (kK 11 (pp z (0 + d.toNat * 6 + 5)) rfl (fun w=>ajq (o':=0 + d.toNat * 6 + 5) am9 rfl rfl) ai (aQ 12 rfl (stR (R:=(aar V)) (i:=2) (off:=5) (p:=(aac.mk e f g j 0 m)) (p':=(aac.mk e f g j 0 A)) (v:=sl aX A aY) ah rfl (ad.mono (fun _ _ h=>aar.mono I.sub h)) (aaA (afm (y:=(aac.mk e f g j 0 m)) u)).1 awP U rfl rfl rfl rfl (by decide) (fun cs_ h_=>by obtain ⟨bJ,bK,bL,bM,rfl,a1,a2,bP⟩:=aar.open h_; exact aar.intro a1 a2 aZ) (fun aj a3 a4 a5=>?_)))))));have a6:SR K V wi a3 [] [.box (zz wi) (zz C) #[nS] 24,.box (zz wi) (zz D) #[.slice s ((q.set d.toNat (aac.mk e f g j 0 m)).set d.toNat (aac.mk e f g j 0 A)).length t] 24,.row (zz wi) (.slice s ((q.set d.toNat (aac.mk e f g j 0 m)).set d.toNat (aac.mk e f g j 0 A)).length t) 52 6 ((q.set d.toNat (aac.mk e f g j 0 m)).set d.toNat (aac.mk e f g j 0 A)).length aj]:=by simpa only [List.length_set,List.eraseIdx_zero,List.eraseIdx_cons_succ,List.tail_cons,List.set_cons_succ,List.set_cons_zero,List.nil_append,List.cons_append] using a4
    exact go 2 ⟨hE 12,aD (gx 4 (bar (r:=(w64 (d + 1))) rfl rfl rfl (go 3 (⟨_,Nat.lt_succ_self _,_,V,((q.set d.toNat (aac.mk e f g j 0 m)).set d.toNat (aac.mk e f g j 0 A)),s,t,aj,(w64 (d + 1)),fR,(Z.trans I.sub),a6,a5,(aeP (aeP ab)),h⟩))))⟩
   ·refine gI 13 [0,1,1,0] [] B (fun bQ ak=>?_);obtain ⟨a7,a8,bR,a9⟩:=ab4 (i:=2) (bytes:=88) (R:=fun K=>(aar K)) ak rfl (Nat.le_refl _) O ab (fun hs=>(fun _ _ h=>aar.mono hs h));cases (oi h).trans hr_;exact aau rfl (resN (i:=0) (l:=[sl s q t]) ak rfl adQ adM rfl rfl rfl) ⟨a7,[sl s q t],rfl,(a8.sel []),(aah.intro a9)⟩
theorem aug (k:Nat):akj (f39 k):=asL k
theorem ard (k:Nat):ajh (ao0 k):=by
 unfold ajh;intro K wi g bs d e j f s t u h hG i;obtain ⟨r_,hr_,h⟩:=rz h;refine aat Tryz.func114 rfl (n:=32) rfl ?_;unfold ao0 at h;refine gD 6 [0,1] i (bar (r:=(w64 (d + 1))) rfl rfl rfl (gR 13 [0,0,1,1] [] i (fun v i=>(mxb (a:=e) (b:=f) rfl rfl (gR 5 [1,0] [] i (fun x l=>(aav (fun a w=>∃ o m,a=fr 32 (updL o [(0,pp g 0),(28,.bool m)])∧SR K K wi w [.box bs g #[iI d,iI e,.bool j] 104] [.box bs g #[iI (w64 (d + 1)),iI (imax e f),.bool j] 104]∧ah2 k d e j f m=some r_) ?_ ?_)))))))
 ·refine gD 7 [0,1] l (bO 25 h (fun _ h=>?_) (fun _ h=>?_))
  ·exact go 5 (⟨_,true,fR,l,h⟩)
  ·exact go 7 (⟨_,(decide (f > 16)),fR,l,h⟩)
 ·rintro _ y ⟨o,m,rfl,p,h⟩;unfold ah2 at h;refine bC 28 h (fun _ h=>?_) (fun _ h=>?_)
  ·refine gI 7 [2,0] [] p (fun z q=>?_);cases (oi h).trans hr_;exact end0 rfl ⟨K,rfl,q⟩
  ·refine gd 2 ?_;cases (oi h).trans hr_;exact end0 rfl ⟨K,rfl,p⟩
theorem akf (k:Nat):ajh (f114 k):=ard k
theorem ap4 (k:Nat):ai7 (aoE k):=by
 unfold ai7;intro K wi g bs d e f i j l m h hG a;obtain ⟨r_,hr_,h⟩:=rz h;refine aat Tryz.func115 rfl (n:=9) rfl ?_;unfold aoE at h;refine gd 6 (bC 5 h (fun _ h=>?_) (fun _ h=>?_))
 ·refine gI 7 [2,0] [] a (fun o b=>?_);cases (oi h).trans hr_;exact end0 rfl ⟨K,rfl,b⟩
 ·refine gd 2 ?_;cases (oi h).trans hr_;exact end0 rfl ⟨K,rfl,a⟩
theorem aax (k:Nat):ai7 (f115 k):=ap4 k
theorem arT (k:Nat):ahO (aor k):=by
 unfold ahO;intro K wi f i h hG d;obtain ⟨r_,hr_,h⟩:=rz h;refine aat Tryz.func139 rfl (n:=9) rfl ?_;unfold aor at h;refine gd 5 (aav (fun a w=>∃ e b,a=fr 9 (updL e [(2,.bool b)])∧SR K K wi w [] []∧ahK k b=some r_) ?_ ?_)
 ·refine gd 4 (bO 5 h (fun _ h=>?_) (fun _ h=>?_))
  ·exact go 8 (⟨_,(decide (f ≤ 122)),fR,d,h⟩)
  ·exact go 6 (⟨_,false,fR,d,h⟩)
 ·rintro _ j ⟨e,b,rfl,g,h⟩;unfold ahK at h;refine gd 1 ?_;cases (oi h).trans hr_;exact aau rfl (resT rfl) ⟨K,rfl,g⟩
theorem avg (k:Nat):ahO (f139 k):=arT k
theorem aqK (k:Nat):aic (ao3 k):=by
 unfold aic;intro K wi f i h hG d;obtain ⟨r_,hr_,h⟩:=rz h;refine aat Tryz.func140 rfl (n:=9) rfl ?_;unfold ao3 at h;refine gd 5 (aav (fun a w=>∃ e b,a=fr 9 (updL e [(2,.bool b)])∧SR K K wi w [] []∧aiw k b=some r_) ?_ ?_)
 ·refine gd 4 (bO 5 h (fun _ h=>?_) (fun _ h=>?_))
  ·exact go 8 (⟨_,(decide (f ≤ 57)),fR,d,h⟩)
  ·exact go 6 (⟨_,false,fR,d,h⟩)
 ·rintro _ j ⟨e,b,rfl,g,h⟩;unfold aiw at h;refine gd 1 ?_;cases (oi h).trans hr_;exact aau rfl (resT rfl) ⟨K,rfl,g⟩
theorem avv (k:Nat):aic (f140 k):=aqK k
theorem aqH (k:Nat):ajj (apN k):=by
 unfold ajj;intro K wi g h hG a;obtain ⟨r_,hr_,h⟩:=rz h;refine aat Tryz.func167 rfl (n:=2) rfl ?_;unfold apN at h;refine gd 7 (bsl (e:=9) (cells:=#[.string ⟨#[97,102,116,101,114]⟩,.string ⟨#[97,119,97,105,116]⟩,.string ⟨#[98,111,111,108]⟩,.string ⟨#[98,114,101,97,107]⟩,.string ⟨#[98,117,102,102,101,114]⟩,.string ⟨#[99,97,110,99,101,108]⟩,.string ⟨#[99,97,116,99,104]⟩,.string ⟨#[99,104,97,110]⟩,.string ⟨#[99,108,111,115,101]⟩,.string ⟨#[99,111,110,116,105,110,117,101]⟩,.string ⟨#[100,114,111,112]⟩,.string ⟨#[101,97,99,104]⟩,.string ⟨#[101,108,115,101]⟩,.string ⟨#[101,109,105,116]⟩,.string ⟨#[102,97,108,115,101]⟩,.string ⟨#[102,105,110,97,108,108,121]⟩,.string ⟨#[102,108,111,119]⟩,.string ⟨#[102,110]⟩,.string ⟨#[102,114,111,109]⟩,.string ⟨#[104,111,108,100]⟩,.string ⟨#[105,102]⟩,.string ⟨#[105,110,116]⟩,.string ⟨#[108,101,116]⟩,.string ⟨#[108,111,99,107]⟩,.string ⟨#[110,101,119]⟩,.string ⟨#[110,111,119]⟩,.string ⟨#[111,108,100]⟩,.string ⟨#[112,114,111,100,117,99,101]⟩,.string ⟨#[114,101,99,101,105,118,101]⟩,.string ⟨#[114,101,116,117,114,110]⟩,.string ⟨#[115,99,111,112,101]⟩,.string ⟨#[115,101,108,101,99,116]⟩,.string ⟨#[115,101,110,100]⟩,.string ⟨#[115,104,105,101,108,100]⟩,.string ⟨#[115,108,101,101,112]⟩,.string ⟨#[115,112,97,119,110]⟩,.string ⟨#[115,117,112,101,114,118,105,115,101,100]⟩,.string ⟨#[116,97,115,107]⟩,.string ⟨#[116,101,120,116]⟩,.string ⟨#[116,104,114,111,119]⟩,.string ⟨#[116,114,117,101]⟩,.string ⟨#[116,114,121]⟩,.string ⟨#[117,115,101]⟩,.string ⟨#[119,104,105,108,101]⟩,.string ⟨#[119,105,116,104,105,110]⟩,.string ⟨#[121,105,101,108,100]⟩]) (vs:=[(0,.string ⟨#[97,102,116,101,114]⟩),(1,.string ⟨#[97,119,97,105,116]⟩),(2,.string ⟨#[98,111,111,108]⟩),(3,.string ⟨#[98,114,101,97,107]⟩),(4,.string ⟨#[98,117,102,102,101,114]⟩),(5,.string ⟨#[99,97,110,99,101,108]⟩),(6,.string ⟨#[99,97,116,99,104]⟩),(7,.string ⟨#[99,104,97,110]⟩),(8,.string ⟨#[99,108,111,115,101]⟩),(9,.string ⟨#[99,111,110,116,105,110,117,101]⟩),(10,.string ⟨#[100,114,111,112]⟩),(11,.string ⟨#[101,97,99,104]⟩),(12,.string ⟨#[101,108,115,101]⟩),(13,.string ⟨#[101,109,105,116]⟩),(14,.string ⟨#[102,97,108,115,101]⟩),(15,.string ⟨#[102,105,110,97,108,108,121]⟩),(16,.string ⟨#[102,108,111,119]⟩),(17,.string ⟨#[102,110]⟩),(18,.string ⟨#[102,114,111,109]⟩),(19,.string ⟨#[104,111,108,100]⟩),(20,.string ⟨#[105,102]⟩),(21,.string ⟨#[105,110,116]⟩),(22,.string ⟨#[108,101,116]⟩),(23,.string ⟨#[108,111,99,107]⟩),(24,.string ⟨#[110,101,119]⟩),(25,.string ⟨#[110,111,119]⟩),(26,.string ⟨#[111,108,100]⟩),(27,.string ⟨#[112,114,111,100,117,99,101]⟩),(28,.string ⟨#[114,101,99,101,105,118,101]⟩),(29,.string ⟨#[114,101,116,117,114,110]⟩),(30,.string ⟨#[115,99,111,112,101]⟩),(31,.string ⟨#[115,101,108,101,99,116]⟩),(32,.string ⟨#[115,101,110,100]⟩),(33,.string ⟨#[115,104,105,101,108,100]⟩),(34,.string ⟨#[115,108,101,101,112]⟩),(35,.string ⟨#[115,112,97,119,110]⟩),(36,.string ⟨#[115,117,112,101,114,118,105,115,101,100]⟩),(37,.string ⟨#[116,97,115,107]⟩),(38,.string ⟨#[116,101,120,116]⟩),(39,.string ⟨#[116,104,114,111,119]⟩),(40,.string ⟨#[116,114,117,101]⟩),(41,.string ⟨#[116,114,121]⟩),(42,.string ⟨#[117,115,101]⟩),(43,.string ⟨#[119,104,105,108,101]⟩),(44,.string ⟨#[119,105,116,104,105,110]⟩),(45,.string ⟨#[121,105,101,108,100]⟩)]) a rfl (fun w=>by kernel_rfl) (fun j a=>(go 4 ?_)));obtain ⟨b,d,l,f⟩:=frzI (i:=0) (bytes:=16) (xs:=[⟨#[97,102,116,101,114]⟩,⟨#[97,119,97,105,116]⟩,⟨#[98,111,111,108]⟩,⟨#[98,114,101,97,107]⟩,⟨#[98,117,102,102,101,114]⟩,⟨#[99,97,110,99,101,108]⟩,⟨#[99,97,116,99,104]⟩,⟨#[99,104,97,110]⟩,⟨#[99,108,111,115,101]⟩,⟨#[99,111,110,116,105,110,117,101]⟩,⟨#[100,114,111,112]⟩,⟨#[101,97,99,104]⟩,⟨#[101,108,115,101]⟩,⟨#[101,109,105,116]⟩,⟨#[102,97,108,115,101]⟩,⟨#[102,105,110,97,108,108,121]⟩,⟨#[102,108,111,119]⟩,⟨#[102,110]⟩,⟨#[102,114,111,109]⟩,⟨#[104,111,108,100]⟩,⟨#[105,102]⟩,⟨#[105,110,116]⟩,⟨#[108,101,116]⟩,⟨#[108,111,99,107]⟩,⟨#[110,101,119]⟩,⟨#[110,111,119]⟩,⟨#[111,108,100]⟩,⟨#[112,114,111,100,117,99,101]⟩,⟨#[114,101,99,101,105,118,101]⟩,⟨#[114,101,116,117,114,110]⟩,⟨#[115,99,111,112,101]⟩,⟨#[115,101,108,101,99,116]⟩,⟨#[115,101,110,100]⟩,⟨#[115,104,105,101,108,100]⟩,⟨#[115,108,101,101,112]⟩,⟨#[115,112,97,119,110]⟩,⟨#[115,117,112,101,114,118,105,115,101,100]⟩,⟨#[116,97,115,107]⟩,⟨#[116,101,120,116]⟩,⟨#[116,104,114,111,119]⟩,⟨#[116,114,117,101]⟩,⟨#[116,114,121]⟩,⟨#[117,115,101]⟩,⟨#[119,104,105,108,101]⟩,⟨#[119,105,116,104,105,110]⟩,⟨#[121,105,101,108,100]⟩]) (R:=fun K=>RStr) a rfl (Nat.le_refl _) ⟨[.string ⟨#[97,102,116,101,114]⟩],_,rfl,rfl,⟨rfl,(by decide)⟩,⟨[.string ⟨#[97,119,97,105,116]⟩],_,rfl,rfl,⟨rfl,(by decide)⟩,⟨[.string ⟨#[98,111,111,108]⟩],_,rfl,rfl,⟨rfl,(by decide)⟩,⟨[.string ⟨#[98,114,101,97,107]⟩],_,rfl,rfl,⟨rfl,(by decide)⟩,⟨[.string ⟨#[98,117,102,102,101,114]⟩],_,rfl,rfl,⟨rfl,(by decide)⟩,⟨[.string ⟨#[99,97,110,99,101,108]⟩],_,rfl,rfl,⟨rfl,(by decide)⟩,⟨[.string ⟨#[99,97,116,99,104]⟩],_,rfl,rfl,⟨rfl,(by decide)⟩,⟨[.string ⟨#[99,104,97,110]⟩],_,rfl,rfl,⟨rfl,(by decide)⟩,⟨[.string ⟨#[99,108,111,115,101]⟩],_,rfl,rfl,⟨rfl,(by decide)⟩,⟨[.string ⟨#[99,111,110,116,105,110,117,101]⟩],_,rfl,rfl,⟨rfl,(by decide)⟩,⟨[.string ⟨#[100,114,111,112]⟩],_,rfl,rfl,⟨rfl,(by decide)⟩,⟨[.string ⟨#[101,97,99,104]⟩],_,rfl,rfl,⟨rfl,(by decide)⟩,⟨[.string ⟨#[101,108,115,101]⟩],_,rfl,rfl,⟨rfl,(by decide)⟩,⟨[.string ⟨#[101,109,105,116]⟩],_,rfl,rfl,⟨rfl,(by decide)⟩,⟨[.string ⟨#[102,97,108,115,101]⟩],_,rfl,rfl,⟨rfl,(by decide)⟩,⟨[.string ⟨#[102,105,110,97,108,108,121]⟩],_,rfl,rfl,⟨rfl,(by decide)⟩,⟨[.string ⟨#[102,108,111,119]⟩],_,rfl,rfl,⟨rfl,(by decide)⟩,⟨[.string ⟨#[102,110]⟩],_,rfl,rfl,⟨rfl,(by decide)⟩,⟨[.string ⟨#[102,114,111,109]⟩],_,rfl,rfl,⟨rfl,(by decide)⟩,⟨[.string ⟨#[104,111,108,100]⟩],_,rfl,rfl,⟨rfl,(by decide)⟩,⟨[.string ⟨#[105,102]⟩],_,rfl,rfl,⟨rfl,(by decide)⟩,⟨[.string ⟨#[105,110,116]⟩],_,rfl,rfl,⟨rfl,(by decide)⟩,⟨[.string ⟨#[108,101,116]⟩],_,rfl,rfl,⟨rfl,(by decide)⟩,⟨[.string ⟨#[108,111,99,107]⟩],_,rfl,rfl,⟨rfl,(by decide)⟩,⟨[.string ⟨#[110,101,119]⟩],_,rfl,rfl,⟨rfl,(by decide)⟩,⟨[.string ⟨#[110,111,119]⟩],_,rfl,rfl,⟨rfl,(by decide)⟩,⟨[.string ⟨#[111,108,100]⟩],_,rfl,rfl,⟨rfl,(by decide)⟩,⟨[.string ⟨#[112,114,111,100,117,99,101]⟩],_,rfl,rfl,⟨rfl,(by decide)⟩,⟨[.string ⟨#[114,101,99,101,105,118,101]⟩],_,rfl,rfl,⟨rfl,(by decide)⟩,⟨[.string ⟨#[114,101,116,117,114,110]⟩],_,rfl,rfl,⟨rfl,(by decide)⟩,⟨[.string ⟨#[115,99,111,112,101]⟩],_,rfl,rfl,⟨rfl,(by decide)⟩,⟨[.string ⟨#[115,101,108,101,99,116]⟩],_,rfl,rfl,⟨rfl,(by decide)⟩,⟨[.string ⟨#[115,101,110,100]⟩],_,rfl,rfl,⟨rfl,(by decide)⟩,⟨[.string ⟨#[115,104,105,101,108,100]⟩],_,rfl,rfl,⟨rfl,(by decide)⟩,⟨[.string ⟨#[115,108,101,101,112]⟩],_,rfl,rfl,⟨rfl,(by decide)⟩,⟨[.string ⟨#[115,112,97,119,110]⟩],_,rfl,rfl,⟨rfl,(by decide)⟩,⟨[.string ⟨#[115,117,112,101,114,118,105,115,101,100]⟩],_,rfl,rfl,⟨rfl,(by decide)⟩,⟨[.string ⟨#[116,97,115,107]⟩],_,rfl,rfl,⟨rfl,(by decide)⟩,⟨[.string ⟨#[116,101,120,116]⟩],_,rfl,rfl,⟨rfl,(by decide)⟩,⟨[.string ⟨#[116,104,114,111,119]⟩],_,rfl,rfl,⟨rfl,(by decide)⟩,⟨[.string ⟨#[116,114,117,101]⟩],_,rfl,rfl,⟨rfl,(by decide)⟩,⟨[.string ⟨#[116,114,121]⟩],_,rfl,rfl,⟨rfl,(by decide)⟩,⟨[.string ⟨#[117,115,101]⟩],_,rfl,rfl,⟨rfl,(by decide)⟩,⟨[.string ⟨#[119,104,105,108,101]⟩],_,rfl,rfl,⟨rfl,(by decide)⟩,⟨[.string ⟨#[119,105,116,104,105,110]⟩],_,rfl,rfl,⟨rfl,(by decide)⟩,⟨[.string ⟨#[121,105,101,108,100]⟩],_,rfl,rfl,⟨rfl,(by decide)⟩,(aa1 (R:=RStr) (size:=1))⟩⟩⟩⟩⟩⟩⟩⟩⟩⟩⟩⟩⟩⟩⟩⟩⟩⟩⟩⟩⟩⟩⟩⟩⟩⟩⟩⟩⟩⟩⟩⟩⟩⟩⟩⟩⟩⟩⟩⟩⟩⟩⟩⟩⟩⟩ rfl (Nat.le_of_ble_eq_true rfl) (fun hs=>(fun _ _ h=>h));cases (oi h).trans hr_;exact aau rfl (resT rfl) ⟨b,(some ⟨(zz wi),0,none⟩),46,rfl,d,f⟩
theorem awx (k:Nat):ajj (f167 k):=aqH k
theorem asn (k:Nat):aiA (aow k):=by
 unfold aiA;intro K wi m g h hG J p;obtain ⟨r_,hr_,h⟩:=rz h;refine aat Tryz.func141 rfl (n:=18) rfl ?_;unfold aow at h;refine gd 7 (cB h axK (fun _ t=>(awx k) t (hG.mono kr) (pt p)) ?_);rintro g _ N ⟨l,u,x,rfl,y,q⟩ h;have z:=ca y p;refine go 10 (aaC (fun g_ a w=>∃ s d,∃ (e:Nat),g_=d.length∧a=fr 18 (updL s [(0,.string m),(3,sl u g x),(4,iI (e:Int))])∧SR K l wi w [] []∧g.drop e=d∧afH k m d e=some r_) g.length ?_ ?_)
 ·exact ⟨_,g,0,rfl,fR,z,List.drop_zero,h⟩
 ·rintro _ _ O ⟨s,d,e,rfl,rfl,j,f,h⟩;rcases d with _ | ⟨A,d⟩
  ·unfold afH at h;refine gd 6 (bcm (r:=false) rfl rfl (congrArg some (aal f)) (go 14 ?_));cases (oi h).trans hr_;exact aau rfl (resT rfl) ⟨l,rfl,j⟩
  ·unfold afH at h;refine gd 6 (bcm (r:=true) rfl rfl (congrArg some (aak f)) (go 11 ?_));obtain ⟨B,C,S,D,U,G,I⟩:=(q).row.at_ (aaj f);obtain ⟨rfl,V⟩:=I;refine idxN (b:=B) (o:=C) (i:=e) ai8 Tys9 rfl D rfl (aab f) (ld1 (v:=.string A) Tya9 rfl (j.cell (kr.cell (G 0 _ rfl))) (go 4 (bC 17 h (fun _ h=>?_) (fun _ h=>?_))))
   ·refine gd 12 ?_;cases (oi h).trans hr_;exact aau rfl (resT rfl) ⟨l,rfl,j⟩
   ·exact gd 6 (bar (r:=((e + 1:Nat):Int)) rfl rfl (aaK (aaM ((q).len) (by decide) (aab f))) (go 3 (⟨_,Nat.lt_succ_self _,_,d,e + 1,rfl,fR,j,aag f,h⟩)))
theorem awE (k:Nat):aiA (f141 k):=asn k
theorem apE (k:Nat):aiH (arH k):=by
 unfold aiH;intro K wi e Y h hG t C;obtain ⟨r_,hr_,h⟩:=rz h;refine aat Tryz.func117 rfl (n:=39) rfl ?_;unfold arH at h;refine gd 12 (aaC (fun g_ a w=>∃ u f b,∃ (d:Nat),g_=b.length∧a=fr 39 (updL u [(0,.string e),(3,iI (d:Int))])∧KH.sub K f∧SR K f wi w [] []∧e.data.toList.drop d=b∧adr k e b d=some r_) e.data.toList.length ?_ ?_)
 ·exact ⟨_,K,e.data.toList,0,rfl,fR,kr,C,List.drop_zero,h⟩
 ·rintro _ _ Z ⟨u,f,b,d,rfl,rfl,m,g,i,h⟩;rcases b with _ | ⟨ab,b⟩
  ·unfold adr at h;refine gd 6 (bcm (r:=false) rfl rfl (congrArg some (aeB i)) (go 8 (aav (fun a w=>∃ v o q,a=fr 39 (updL v [(2,.bool q)])∧KH.sub f o∧SR K o wi w [] []∧ag3 k q=some r_) ?_ ?_)))
   ·refine gd 5 (bO 29 h (fun _ h=>?_) (fun _ h=>?_))
    ·refine go 8 (bO 34 h (fun _ h=>?_) (fun _ h=>?_))
     ·refine go 3 (cB h axE (fun _ D=>(awE k) D (hG.mono m) t (pt g)) ?_);rintro G _ ac ⟨I,rfl,x⟩ h;have J:=ca x g;exact go 6 (⟨_,I,(!G),fR,x.sub,J,h⟩)
     ·exact go 7 (⟨_,f,false,fR,kr,g,h⟩)
    ·exact go 12 (⟨_,f,false,fR,kr,g,h⟩)
   ·rintro _ ad ⟨v,o,q,rfl,ae,N,h⟩;unfold ag3 at h;refine gd 1 ?_;cases (oi h).trans hr_;exact aau rfl (resT rfl) ⟨o,rfl,N⟩
  ·unfold adr at h;refine gd 6 (bcm (r:=true) rfl rfl (congrArg some (adI i)) (go 7 (aav (fun a w=>∃ y j s,a=fr 39 (updL y [(0,.string e),(3,iI (d:Int)),(25,.bool s)])∧KH.sub f j∧SR K j wi w [] []∧agu k d s (adr k e b)=some r_) ?_ ?_)))
   ·refine gd 3 (ixN Tyt9 rfl rfl i (cB h ayU (fun _ O=>(avg k) O (hG.mono m) (pt g)) ?_));rintro af _ ah ⟨z,rfl,l⟩ h;have p:=ca l g;refine go 2 (bO 15 h (fun _ h=>?_) (fun _ h=>?_))
    ·refine go 6 (bO 18 h (fun _ h=>?_) (fun _ h=>?_))
     ·exact go 10 (⟨_,z,true,fR,l.sub,p,h⟩)
     ·refine go 5 (ixN Tyt9 rfl rfl i (go 1 (cB h axX (fun _ S=>(avv k) S (hG.mono p.sub) (pt p)) ?_)));rintro U _ ai ⟨V,rfl,A⟩ h;have W:=ca A p;exact go 7 (⟨_,V,(!U),fR,(l.sub.trans A.sub),W,h⟩)
    ·exact go 12 (⟨_,z,false,fR,l.sub,p,h⟩)
   ·rintro _ aj ⟨y,j,s,rfl,X,B,h⟩;unfold agu at h;refine bC 25 h (fun _ h=>?_) (fun _ h=>?_)
    ·refine gd 12 ?_;cases (oi h).trans hr_;exact aau rfl (resT rfl) ⟨j,rfl,B⟩
    ·exact gd 6 (bar (r:=((d + 1:Nat):Int)) rfl rfl (aaK (akB t i)) (go 3 (⟨_,Nat.lt_succ_self _,_,j,b,d + 1,rfl,fR,(m.trans X),B,aag i,h⟩)))
theorem adl (k:Nat):aiH (f117 k):=apE k
theorem ar9 (k:Nat):ahY (aoJ k):=by
 unfold ahY;intro K wi b ap aq h hG f;obtain ⟨r_,hr_,h⟩:=rz h;refine aat Tryz.func168 rfl (n:=69) rfl ?_;unfold aoJ at h;refine gI 13 [] [[iI 0,iI 0,iI 0,vN,vN,iI 0]] f (fun ar f=>(aav (fun a w=>∃ t o,a=fr 69 (updL t [(2,pp (zz wi) 0),(4,iI b),(5,.bool o)])∧SR K K wi w [] [.box (zz wi) (zz wi) #[iI 0,iI 0,iI 0,vN,vN,iI 0] 210]∧ag7 k b o=some r_) ?_ ?_))
 ·refine gd 6 (bC 5 h (fun ac h=>?_) (fun _ h=>?_))
  ·exact gd 3 (lX 5 ac.symm (⟨_,(b == 1),fR,f,h⟩))
  ·refine gd 7 (bC 5 h (fun ad h=>?_) (fun _ h=>?_))
   ·exact gd 3 (lX 5 ad.symm (⟨_,(b == 2),fR,f,h⟩))
   ·exact gd 6 (⟨_,(b == 8),fR,f,h⟩)
 ·rintro _ au ⟨t,o,rfl,g,h⟩;unfold ag7 at h;refine bC 5 h (fun _ h=>?_) (fun _ h=>?_)
  ·refine gd 3 (bld (cells:=#[iI 1,iI 1,iI 1,vN,vN,iI 0]) (vs:=[(0,iI 1),(1,iI 1),(2,iI 1)]) rfl (fun w=>by kernel_rfl) (gR 7 [0] [] g (fun av u=>?_)));cases (oi h).trans hr_;exact abC rfl (resN (i:=0) (l:=[iI 1,iI 1,iI 1,vN,vN,iI 0]) u rfl acO acQ rfl rfl rfl) (resT rfl) ⟨K,[iI 1,iI 1,iI 1,vN,vN,iI 0],rfl,(u.sel []),.mk⟩
  ·refine gd 7 (bC 10 h (fun _ h=>?_) (fun _ h=>?_))
   ·refine gd 3 (bld (cells:=#[iI 1,iI 1,iI 1,vN,vN,iI 2]) (vs:=[(0,iI 1),(1,iI 1),(2,iI 1),(5,iI 2)]) rfl (fun w=>by kernel_rfl) (gR 7 [0] [] g (fun aw v=>?_)));cases (oi h).trans hr_;exact abC rfl (resN (i:=0) (l:=[iI 1,iI 1,iI 1,vN,vN,iI 2]) v rfl acO acQ rfl rfl rfl) (resT rfl) ⟨K,[iI 1,iI 1,iI 1,vN,vN,iI 2],rfl,(v.sel []),.mk⟩
   ·refine gd 7 (bC 13 h (fun _ h=>?_) (fun _ h=>?_))
    ·refine gd 3 (bld (cells:=#[iI 0,iI 0,iI 1,vN,vN,iI 0]) (vs:=[(2,iI 1)]) rfl (fun w=>by kernel_rfl) (gR 7 [0] [] g (fun ax x=>?_)));cases (oi h).trans hr_;exact abC rfl (resN (i:=0) (l:=[iI 0,iI 0,iI 1,vN,vN,iI 0]) x rfl acO acQ rfl rfl rfl) (resT rfl) ⟨K,[iI 0,iI 0,iI 1,vN,vN,iI 0],rfl,(x.sel []),.mk⟩
    ·refine gd 1 (aav (fun a w=>∃ y p,a=fr 69 (updL y [(2,pp (zz wi) 0),(4,iI b),(16,.bool p)])∧SR K K wi w [] [.box (zz wi) (zz wi) #[iI 0,iI 0,iI 0,vN,vN,iI 0] 210]∧aiV k b p=some r_) ?_ ?_)
     ·refine gd 6 (bC 16 h (fun ae h=>?_) (fun _ h=>?_))
      ·exact gd 3 (lX 16 ae.symm (⟨_,(b == 3),fR,g,h⟩))
      ·exact gd 6 (⟨_,(b == 4),fR,g,h⟩)
     ·rintro _ ay ⟨y,p,rfl,d,h⟩;unfold aiV at h;refine bC 16 h (fun _ h=>?_) (fun _ h=>?_)
      ·refine gd 3 (bld (cells:=#[iI 0,iI 600,iI 2,vT,vN,iI 0]) (vs:=[(1,iI 600),(2,iI 2),(3,vT)]) rfl (fun w=>by kernel_rfl) (gR 7 [0] [] d (fun az z=>?_)));cases (oi h).trans hr_;exact abC rfl (resN (i:=0) (l:=[iI 0,iI 600,iI 2,vT,vN,iI 0]) z rfl acO acQ rfl rfl rfl) (resT rfl) ⟨K,[iI 0,iI 600,iI 2,vT,vN,iI 0],rfl,(z.sel []),.mk⟩
      ·refine gd 7 (bC 20 h (fun _ h=>?_) (fun _ h=>?_))
       ·refine gd 3 (bld (cells:=#[iI 1,iI 1,iI 2,vN,vN,iI 0]) (vs:=[(0,iI 1),(1,iI 1),(2,iI 2)]) rfl (fun w=>by kernel_rfl) (gR 7 [0] [] d (fun aA A=>?_)));cases (oi h).trans hr_;exact abC rfl (resN (i:=0) (l:=[iI 1,iI 1,iI 2,vN,vN,iI 0]) A rfl acO acQ rfl rfl rfl) (resT rfl) ⟨K,[iI 1,iI 1,iI 2,vN,vN,iI 0],rfl,(A.sel []),.mk⟩
       ·refine gd 7 (bC 23 h (fun _ h=>?_) (fun _ h=>?_))
        ·refine gd 3 (bld (cells:=#[iI 1,iI 1,iI 2,vN,vN,iI 1]) (vs:=[(0,iI 1),(1,iI 1),(2,iI 2),(5,iI 1)]) rfl (fun w=>by kernel_rfl) (gR 7 [0] [] d (fun aB B=>?_)));cases (oi h).trans hr_;exact abC rfl (resN (i:=0) (l:=[iI 1,iI 1,iI 2,vN,vN,iI 1]) B rfl acO acQ rfl rfl rfl) (resT rfl) ⟨K,[iI 1,iI 1,iI 2,vN,vN,iI 1],rfl,(B.sel []),.mk⟩
        ·refine gd 7 (bC 26 h (fun _ h=>?_) (fun _ h=>?_))
         ·refine gd 3 (bld (cells:=#[iI 2,iI 2,iI 0,vN,vN,iI 0]) (vs:=[(0,iI 2),(1,iI 2)]) rfl (fun w=>by kernel_rfl) (gR 7 [0] [] d (fun aG C=>?_)));cases (oi h).trans hr_;exact abC rfl (resN (i:=0) (l:=[iI 2,iI 2,iI 0,vN,vN,iI 0]) C rfl acO acQ rfl rfl rfl) (resT rfl) ⟨K,[iI 2,iI 2,iI 0,vN,vN,iI 0],rfl,(C.sel []),.mk⟩
         ·refine gd 1 (aav (fun a w=>∃ D q,a=fr 69 (updL D [(2,pp (zz wi) 0),(4,iI b),(29,.bool q)])∧SR K K wi w [] [.box (zz wi) (zz wi) #[iI 0,iI 0,iI 0,vN,vN,iI 0] 210]∧aed k b q=some r_) ?_ ?_)
          ·refine gd 6 (bC 29 h (fun af h=>?_) (fun _ h=>?_))
           ·exact gd 3 (lX 29 af.symm (⟨_,(b == 11),fR,d,h⟩))
           ·refine gd 7 (bC 29 h (fun ah h=>?_) (fun _ h=>?_))
            ·exact gd 3 (lX 29 ah.symm (⟨_,(b == 12),fR,d,h⟩))
            ·refine gd 7 (bC 29 h (fun ai h=>?_) (fun _ h=>?_))
             ·exact gd 3 (lX 29 ai.symm (⟨_,(b == 14),fR,d,h⟩))
             ·refine gd 7 (bC 29 h (fun aj h=>?_) (fun _ h=>?_))
              ·exact gd 3 (lX 29 aj.symm (⟨_,(b == 15),fR,d,h⟩))
              ·refine gd 7 (bC 29 h (fun ak h=>?_) (fun _ h=>?_))
               ·exact gd 3 (lX 29 ak.symm (⟨_,(b == 16),fR,d,h⟩))
               ·exact gd 6 (⟨_,(b == 29),fR,d,h⟩)
          ·rintro _ aH ⟨D,q,rfl,j,h⟩;unfold aed at h;refine bC 29 h (fun _ h=>?_) (fun _ h=>?_)
           ·refine gd 3 (bld (cells:=#[iI 1,iI 1,iI 0,vN,vN,iI 0]) (vs:=[(0,iI 1),(1,iI 1)]) rfl (fun w=>by kernel_rfl) (gR 7 [0] [] j (fun aI G=>?_)));cases (oi h).trans hr_;exact abC rfl (resN (i:=0) (l:=[iI 1,iI 1,iI 0,vN,vN,iI 0]) G rfl acO acQ rfl rfl rfl) (resT rfl) ⟨K,[iI 1,iI 1,iI 0,vN,vN,iI 0],rfl,(G.sel []),.mk⟩
           ·refine gd 1 (aav (fun a w=>∃ I r,a=fr 69 (updL I [(2,pp (zz wi) 0),(4,iI b),(37,.bool r)])∧SR K K wi w [] [.box (zz wi) (zz wi) #[iI 0,iI 0,iI 0,vN,vN,iI 0] 210]∧afT k b r=some r_) ?_ ?_)
            ·refine gd 6 (bC 37 h (fun al h=>?_) (fun _ h=>?_))
             ·exact gd 3 (lX 37 al.symm (⟨_,(b == 13),fR,j,h⟩))
             ·refine gd 7 (bC 37 h (fun am h=>?_) (fun _ h=>?_))
              ·exact gd 3 (lX 37 am.symm (⟨_,(b == 18),fR,j,h⟩))
              ·refine gd 7 (bC 37 h (fun an h=>?_) (fun _ h=>?_))
               ·exact gd 3 (lX 37 an.symm (⟨_,(b == 19),fR,j,h⟩))
               ·exact gd 6 (⟨_,(b == 27),fR,j,h⟩)
            ·rintro _ aJ ⟨I,r,rfl,m,h⟩;unfold afT at h;refine bC 37 h (fun _ h=>?_) (fun _ h=>?_)
             ·refine gd 3 (bld (cells:=#[iI 0,iI 0,iI 0,vN,vN,iI 0]) (vs:=[]) rfl (fun w=>by kernel_rfl) (gR 7 [0] [] m (fun aK J=>?_)));cases (oi h).trans hr_;exact abC rfl (resN (i:=0) (l:=[iI 0,iI 0,iI 0,vN,vN,iI 0]) J rfl acO acQ rfl rfl rfl) (resT rfl) ⟨K,[iI 0,iI 0,iI 0,vN,vN,iI 0],rfl,(J.sel []),.mk⟩
             ·refine gd 7 (bC 43 h (fun _ h=>?_) (fun _ h=>?_))
              ·refine gd 3 (bld (cells:=#[iI 0,iI 1,iI 0,vN,vN,iI 0]) (vs:=[(1,iI 1)]) rfl (fun w=>by kernel_rfl) (gR 7 [0] [] m (fun aL N=>?_)));cases (oi h).trans hr_;exact abC rfl (resN (i:=0) (l:=[iI 0,iI 1,iI 0,vN,vN,iI 0]) N rfl acO acQ rfl rfl rfl) (resT rfl) ⟨K,[iI 0,iI 1,iI 0,vN,vN,iI 0],rfl,(N.sel []),.mk⟩
              ·refine gd 7 (bC 46 h (fun _ h=>?_) (fun _ h=>?_))
               ·refine gd 3 (bld (cells:=#[iI 1,iI 1,iI 0,vN,vT,iI 1]) (vs:=[(0,iI 1),(1,iI 1),(4,vT),(5,iI 1)]) rfl (fun w=>by kernel_rfl) (gR 7 [0] [] m (fun aM O=>?_)));cases (oi h).trans hr_;exact abC rfl (resN (i:=0) (l:=[iI 1,iI 1,iI 0,vN,vT,iI 1]) O rfl acO acQ rfl rfl rfl) (resT rfl) ⟨K,[iI 1,iI 1,iI 0,vN,vT,iI 1],rfl,(O.sel []),.mk⟩
               ·refine gd 1 (aav (fun a w=>∃ S s,a=fr 69 (updL S [(2,pp (zz wi) 0),(4,iI b),(49,.bool s)])∧SR K K wi w [] [.box (zz wi) (zz wi) #[iI 0,iI 0,iI 0,vN,vN,iI 0] 210]∧ahS k b s=some r_) ?_ ?_)
                ·refine gd 6 (bC 49 h (fun ao h=>?_) (fun _ h=>?_))
                 ·exact gd 3 (lX 49 ao.symm (⟨_,(b == 21),fR,m,h⟩))
                 ·exact gd 6 (⟨_,(b == 26),fR,m,h⟩)
                ·rintro _ aN ⟨S,s,rfl,e,h⟩;unfold ahS at h;refine bC 49 h (fun _ h=>?_) (fun _ h=>?_)
                 ·refine gd 3 (bld (cells:=#[iI 1,iI 1,iI 0,vN,vT,iI 0]) (vs:=[(0,iI 1),(1,iI 1),(4,vT)]) rfl (fun w=>by kernel_rfl) (gR 7 [0] [] e (fun aP U=>?_)));cases (oi h).trans hr_;exact abC rfl (resN (i:=0) (l:=[iI 1,iI 1,iI 0,vN,vT,iI 0]) U rfl acO acQ rfl rfl rfl) (resT rfl) ⟨K,[iI 1,iI 1,iI 0,vN,vT,iI 0],rfl,(U.sel []),.mk⟩
                 ·refine gd 7 (bC 53 h (fun _ h=>?_) (fun _ h=>?_))
                  ·refine gd 3 (bld (cells:=#[iI 0,iI 1,iI 0,vN,vT,iI 1]) (vs:=[(1,iI 1),(4,vT),(5,iI 1)]) rfl (fun w=>by kernel_rfl) (gR 7 [0] [] e (fun aT V=>?_)));cases (oi h).trans hr_;exact abC rfl (resN (i:=0) (l:=[iI 0,iI 1,iI 0,vN,vT,iI 1]) V rfl acO acQ rfl rfl rfl) (resT rfl) ⟨K,[iI 0,iI 1,iI 0,vN,vT,iI 1],rfl,(V.sel []),.mk⟩
                  ·refine gd 7 (bC 56 h (fun _ h=>?_) (fun _ h=>?_))
                   ·refine gd 3 (bld (cells:=#[iI 0,iI 0,iI 0,vN,vT,iI 0]) (vs:=[(4,vT)]) rfl (fun w=>by kernel_rfl) (gR 7 [0] [] e (fun aU W=>?_)));cases (oi h).trans hr_;exact abC rfl (resN (i:=0) (l:=[iI 0,iI 0,iI 0,vN,vT,iI 0]) W rfl acO acQ rfl rfl rfl) (resT rfl) ⟨K,[iI 0,iI 0,iI 0,vN,vT,iI 0],rfl,(W.sel []),.mk⟩
                   ·refine gd 7 (bC 59 h (fun _ h=>?_) (fun _ h=>?_))
                    ·refine gd 3 (bld (cells:=#[iI 0,iI 0,iI 2,vN,vT,iI 3]) (vs:=[(2,iI 2),(4,vT),(5,iI 3)]) rfl (fun w=>by kernel_rfl) (gR 7 [0] [] e (fun aV X=>?_)));cases (oi h).trans hr_;exact abC rfl (resN (i:=0) (l:=[iI 0,iI 0,iI 2,vN,vT,iI 3]) X rfl acO acQ rfl rfl rfl) (resT rfl) ⟨K,[iI 0,iI 0,iI 2,vN,vT,iI 3],rfl,(X.sel []),.mk⟩
                    ·refine gd 7 (bC 62 h (fun _ h=>?_) (fun _ h=>?_))
                     ·refine gd 3 (bld (cells:=#[iI 1,iI 1,iI 1,vN,vT,iI 0]) (vs:=[(0,iI 1),(1,iI 1),(2,iI 1),(4,vT)]) rfl (fun w=>by kernel_rfl) (gR 7 [0] [] e (fun aW Y=>?_)));cases (oi h).trans hr_;exact abC rfl (resN (i:=0) (l:=[iI 1,iI 1,iI 1,vN,vT,iI 0]) Y rfl acO acQ rfl rfl rfl) (resT rfl) ⟨K,[iI 1,iI 1,iI 1,vN,vT,iI 0],rfl,(Y.sel []),.mk⟩
                     ·refine gd 7 (bC 65 h (fun _ h=>?_) (fun _ h=>?_))
                      ·refine gd 3 (bld (cells:=#[iI 0,iI 600,iI 1,vT,vT,iI 66]) (vs:=[(1,iI 600),(2,iI 1),(3,vT),(4,vT),(5,iI 66)]) rfl (fun w=>by kernel_rfl) (gR 7 [0] [] e (fun aX Z=>?_)));cases (oi h).trans hr_;exact abC rfl (resN (i:=0) (l:=[iI 0,iI 600,iI 1,vT,vT,iI 66]) Z rfl acO acQ rfl rfl rfl) (resT rfl) ⟨K,[iI 0,iI 600,iI 1,vT,vT,iI 66],rfl,(Z.sel []),.mk⟩
                      ·refine gd 6 (bld (cells:=#[iI 0,iI 0,iI 0,vN,vN,iI 0]) (vs:=[]) rfl (fun w=>by kernel_rfl) (gR 5 [0] [] e (fun aY ab=>?_)));cases (oi h).trans hr_;exact abC rfl (resN (i:=0) (l:=[iI 0,iI 0,iI 0,vN,vN,iI 0]) ab rfl acO acQ rfl rfl rfl) (resT rfl) ⟨K,[iI 0,iI 0,iI 0,vN,vN,iI 0],rfl,(ab.sel []),.mk⟩
theorem awg (k:Nat):ahY (f168 k):=ar9 k
theorem ark (k:Nat):aiJ (aqZ k):=by
 unfold aiJ;intro K wi e s h hG o p;obtain ⟨r_,hr_,h⟩:=rz h;refine aat Tryz.func116 rfl (n:=23) rfl ?_;unfold aqZ at h;refine gd 12 (aaC (fun g_ a w=>∃ j b,∃ (d:Nat),g_=b.length∧a=fr 23 (updL j [(0,.string e),(3,iI (d:Int))])∧SR K K wi w [] []∧e.data.toList.drop d=b∧adJ k e b d=some r_) e.data.toList.length ?_ ?_)
 ·exact ⟨_,e.data.toList,0,rfl,fR,p,List.drop_zero,h⟩
 ·rintro _ _ t ⟨j,b,d,rfl,rfl,g,f,h⟩;rcases b with _ | ⟨q,b⟩
  ·unfold adJ at h;refine gd 6 (bcm (r:=false) rfl rfl (congrArg some (aeB f)) (go 17 ?_));cases (oi h).trans hr_;exact aau rfl (resT rfl) ⟨K,rfl,g⟩
  ·unfold adJ at h;refine gd 6 (bcm (r:=true) rfl rfl (congrArg some (adI f)) (go 7 (aav (fun a w=>∃ l i,a=fr 23 (updL l [(0,.string e),(3,iI (d:Int)),(19,.bool i)])∧SR K K wi w [] []∧aiE k d i (adJ k e b)=some r_) ?_ ?_)))
   ·refine gd 3 (ixN Tyt9 rfl rfl f (go 2 (bO 14 h (fun _ h=>?_) (fun _ h=>?_))))
    ·exact go 7 (⟨_,true,fR,g,h⟩)
    ·exact go 5 (ixN Tyt9 rfl rfl f (go 5 (⟨_,(decide ((q.toNat:Int) > 126)),fR,g,h⟩)))
   ·rintro _ u ⟨l,i,rfl,m,h⟩;unfold aiE at h;refine bC 19 h (fun _ h=>?_) (fun _ h=>?_)
    ·refine gd 12 ?_;cases (oi h).trans hr_;exact aau rfl (resT rfl) ⟨K,rfl,m⟩
    ·exact gd 6 (bar (r:=((d + 1:Nat):Int)) rfl rfl (aaK (akB o f)) (go 3 (⟨_,Nat.lt_succ_self _,_,b,d + 1,rfl,fR,m,aag f,h⟩)))
theorem auR (k:Nat):aiJ (f116 k):=ark k
theorem atq (k:Nat) (F:amS) (IH84:afp F.f84):afp (apV k F):=by
 unfold afp;intro K wi g bs A B C a6 dH p s dI dJ dK h hG a7 a8;obtain ⟨r_,hr_,h⟩:=rz h;obtain ⟨t,u,x,G,m⟩:=a6;obtain ⟨I,J,rfl,ao,ap⟩:=aan.open a7;refine aat Tryz.func84 rfl (n:=161) rfl ?_;unfold apV at h;refine gI 14 [2,2] [] a8 (fun a9 aq=>(bC 13 h (fun _ h=>?_) (fun _ h=>?_)))
 ·refine gd 3 ?_;cases (oi h).trans hr_;exact ret0 rfl ⟨K,rfl,(aq.sel [1])⟩
 ·refine gd 7 ?_;have ar:=p10 aq;refine cB h aoP (fun _ ba=>(akf k) ba (hG.mono kr) (pt ar)) ?_;rintro ⟨dL,dM,dN⟩ _ dO ⟨bb,rfl,e⟩ h;have N:=ca e ar;refine go 2 (aav (fun a w=>∃ au O S U V,a=fr 161 (updL au [(0,pp g 0),(2,iI p),(3,.bool s),(5,pp (zz wi) 0)])∧KH.sub bb O∧SR K O wi w [.box bs g #[iI A,iI B,.bool C] 104] [.box bs g #[iI S,iI U,.bool V] 104,.box (zz wi) (zz wi) (aE t u x G I m J) 35]∧ajC k F t u x m p s S U V=some r_) ?_ ?_)
  ·refine gd 4 (bO 19 h (fun _ h=>?_) (fun _ h=>?_))
   ·refine go 4 (cB h aaF (fun _ bd=>(aax k) bd (hG.mono e.sub) (pt N)) ?_);rintro ⟨be,bf,bg⟩ _ dP ⟨bh,rfl,av⟩ h;have bi:=ca av N;exact go 2 (⟨_,bh,be,bf,bg,fR,av.sub,bi,h⟩)
   ·refine gP 7 [3,2] N (cB h aaF (fun _ bj=>(aax k) bj (hG.mono e.sub) (pt N)) ?_);rintro ⟨bk,bm,bn⟩ _ dQ ⟨bo,rfl,aw⟩ h;have bp:=ca aw N;exact go 2 (⟨_,bo,bk,bm,bn,fR,aw.sub,bp,h⟩)
  ·rintro _ dR ⟨au,O,S,U,V,rfl,f,d,h⟩;unfold ajC at h;refine gd 5 (aav (fun a w=>∃ ax ab ac ad ae af,a=fr 161 (updL ax [(0,pp g 0),(2,iI p),(3,.bool s),(5,pp (zz wi) 0),(8,iI af)])∧KH.sub O ab∧SR K ab wi w [.box bs g #[iI A,iI B,.bool C] 104] [.box bs g #[iI ac,iI ad,.bool ae] 104,.box (zz wi) (zz wi) (aE t u x G I m J) 35]∧acD k F m p s ac ad ae af=some r_) ?_ ?_)
   ·refine gD 9 [0,2] d (bC 45 h (fun _ h=>?_) (fun _ h=>?_))
    ·refine gD 7 [1,2] d (bO 53 h (fun _ h=>?_) (fun _ h=>?_))
     ·refine gP 8 [1,2] d (bO 58 h (fun _ h=>?_) (fun _ h=>?_))
      ·refine gP 7 [2,2] d (cB h aaF (fun _ bq=>(aax k) bq (hG.mono d.sub) (pt d)) ?_);rintro ⟨br,bu,bv⟩ _ dS ⟨bw,rfl,ay⟩ h;have bx:=ca ay d;exact go 3 (⟨_,bw,br,bu,bv,0,fR,ay.sub,bx,h⟩)
      ·refine go 4 (cB h aaF (fun _ bz=>(aax k) bz (hG.mono d.sub) (pt d)) ?_);rintro ⟨bB,bD,bE⟩ _ dT ⟨bF,rfl,az⟩ h;have bG:=ca az d;exact go 3 (⟨_,bF,bB,bD,bE,0,fR,az.sub,bG,h⟩)
     ·refine go 9 (cB h aaF (fun _ bH=>(aax k) bH (hG.mono d.sub) (pt d)) ?_);rintro ⟨bI,bJ,bK⟩ _ dU ⟨bL,rfl,aA⟩ h;have bM:=ca aA d;exact go 3 (⟨_,bL,bI,bJ,bK,0,fR,aA.sub,bM,h⟩)
    ·refine gD 9 [0,2] d (bC 64 h (fun _ h=>?_) (fun _ h=>?_))
     ·refine gD 7 [1,2] d (bO 72 h (fun _ h=>?_) (fun _ h=>?_))
      ·refine gP 12 [2,2] d (cB h aaF (fun _ bP=>(aax k) bP (hG.mono d.sub) (pt d)) ?_);rintro ⟨bQ,bR,bS⟩ _ dV ⟨bT,rfl,aB⟩ h;have bU:=ca aB d;exact go 3 (⟨_,bT,bQ,bR,bS,0,fR,aB.sub,bU,h⟩)
      ·refine gP 8 [1,2] d (bO 77 h (fun _ h=>?_) (fun _ h=>?_))
       ·refine gP 7 [2,2] d (cB h aaF (fun _ bV=>(aax k) bV (hG.mono d.sub) (pt d)) ?_);rintro ⟨bW,bX,bY⟩ _ dW ⟨bZ,rfl,aG⟩ h;have b0:=ca aG d;exact go 3 (⟨_,bZ,bW,bX,bY,0,fR,aG.sub,b0,h⟩)
       ·refine go 4 (cB h aaF (fun _ b1=>(aax k) b1 (hG.mono d.sub) (pt d)) ?_);rintro ⟨b2,b3,b4⟩ _ dX ⟨b5,rfl,aH⟩ h;have b6:=ca aH d;exact go 3 (⟨_,b5,b2,b3,b4,0,fR,aH.sub,b6,h⟩)
     ·refine gD 9 [0,2] d (bC 83 h (fun _ h=>?_) (fun _ h=>?_))
      ·refine gD 7 [1,2] d (bO 91 h (fun _ h=>?_) (fun _ h=>?_))
       ·refine gP 5 [2,2] d (cB h axs (fun _ b7=>(auR k) b7 (hG.mono d.sub) ao (pt d)) ?_);rintro dY _ dZ ⟨d0,rfl,ah⟩ h;have aI:=ca ah d;refine go 1 (cB h aaF (fun _ b8=>(aax k) b8 (hG.mono aI.sub) (pt aI)) ?_);rintro ⟨b9,cb,cc⟩ _ d1 ⟨ce,rfl,aJ⟩ h;have cf:=ca aJ aI;exact go 3 (⟨_,ce,b9,cb,cc,0,fR,(ah.sub.trans aJ.sub),cf,h⟩)
       ·refine go 4 (cB h aaF (fun _ ch=>(aax k) ch (hG.mono d.sub) (pt d)) ?_);rintro ⟨ci,cj,ck⟩ _ d2 ⟨cl,rfl,aK⟩ h;have cm:=ca aK d;exact go 3 (⟨_,cl,ci,cj,ck,0,fR,aK.sub,cm,h⟩)
      ·refine gD 9 [0,2] d (bC 97 h (fun _ h=>?_) (fun _ h=>?_))
       ·refine gD 7 [1,2] d (bO 105 h (fun _ h=>?_) (fun _ h=>?_))
        ·refine gP 5 [2,2] d (cB h ae0 (fun _ cn=>(adl k) cn (hG.mono d.sub) ao (pt d)) ?_);rintro d3 _ d4 ⟨d5,rfl,ai⟩ h;have aL:=ca ai d;refine go 1 (cB h aaF (fun _ co=>(aax k) co (hG.mono aL.sub) (pt aL)) ?_);rintro ⟨cq,cr,cs⟩ _ d6 ⟨ct,rfl,aM⟩ h;have cu:=ca aM aL;exact go 3 (⟨_,ct,cq,cr,cs,0,fR,(ai.sub.trans aM.sub),cu,h⟩)
        ·refine go 4 (cB h aaF (fun _ cw=>(aax k) cw (hG.mono d.sub) (pt d)) ?_);rintro ⟨cx,cy,cz⟩ _ d7 ⟨cA,rfl,aN⟩ h;have cC:=ca aN d;exact go 3 (⟨_,cA,cx,cy,cz,0,fR,aN.sub,cC,h⟩)
       ·refine gd 1 (aav (fun a w=>∃ aP aj,a=fr 161 (updL aP [(0,pp g 0),(2,iI p),(3,.bool s),(5,pp (zz wi) 0),(111,.bool aj)])∧SR K O wi w [.box bs g #[iI A,iI B,.bool C] 104] [.box bs g #[iI S,iI U,.bool V] 104,.box (zz wi) (zz wi) (aE t u x G I m J) 35]∧alW k F t u x m p s S U V aj=some r_) ?_ ?_)
        ·refine gD 5 [0,2] d (bO 115 h (fun _ h=>?_) (fun _ h=>?_))
         ·exact go 7 (⟨_,true,fR,d,h⟩)
         ·exact gP 10 [0,2] d (⟨_,(t == 6),fR,d,h⟩)
        ·rintro _ d8 ⟨aP,aj,rfl,l,h⟩;unfold alW at h;refine bC 111 h (fun _ h=>?_) (fun _ h=>?_)
         ·refine gD 12 [1,2] l (bO 124 h (fun _ h=>?_) (fun _ h=>?_))
          ·refine gP 7 [2,2] l (cB h aaF (fun _ cD=>(aax k) cD (hG.mono l.sub) (pt l)) ?_);rintro ⟨cG,cH,cI⟩ _ d9 ⟨cJ,rfl,aT⟩ h;have cK:=ca aT l;exact go 3 (⟨_,cJ,cG,cH,cI,1,fR,aT.sub,cK,h⟩)
          ·refine go 4 (cB h aaF (fun _ cL=>(aax k) cL (hG.mono l.sub) (pt l)) ?_);rintro ⟨cM,cN,cO⟩ _ ea ⟨cP,rfl,aU⟩ h;have cQ:=ca aU l;exact go 3 (⟨_,cP,cM,cN,cO,1,fR,aU.sub,cQ,h⟩)
         ·refine gD 12 [0,2] l (bO 29 h (fun _ h=>?_) (fun _ h=>?_))
          ·refine gP 8 [0,2] l (bO 34 h (fun _ h=>?_) (fun _ h=>?_))
           ·refine gP 8 [1,2] l (bO 39 h (fun _ h=>?_) (fun _ h=>?_))
            ·refine gP 7 [2,2] l (cB h aaF (fun _ cR=>(aax k) cR (hG.mono l.sub) (pt l)) ?_);rintro ⟨cS,cU,cV⟩ _ ec ⟨cW,rfl,aV⟩ h;have cY:=ca aV l;exact go 3 (⟨_,cW,cS,cU,cV,2,fR,aV.sub,cY,h⟩)
            ·refine go 4 (cB h aaF (fun _ cZ=>(aax k) cZ (hG.mono l.sub) (pt l)) ?_);rintro ⟨c3,c4,c5⟩ _ ed ⟨c6,rfl,aW⟩ h;have c7:=ca aW l;exact go 3 (⟨_,c6,c3,c4,c5,2,fR,aW.sub,c7,h⟩)
           ·refine go 9 (cB h aaF (fun _ c8=>(aax k) c8 (hG.mono l.sub) (pt l)) ?_);rintro ⟨c9,da,db⟩ _ ee ⟨dc,rfl,aX⟩ h;have dd:=ca aX l;exact go 3 (⟨_,dc,c9,da,db,2,fR,aX.sub,dd,h⟩)
          ·refine go 14 (cB h aaF (fun _ de=>(aax k) de (hG.mono l.sub) (pt l)) ?_);rintro ⟨df,dg,dh⟩ _ ef ⟨di,rfl,aY⟩ h;have dj:=ca aY l;exact go 3 (⟨_,di,df,dg,dh,2,fR,aY.sub,dj,h⟩)
   ·rintro _ eg ⟨ax,ab,ac,ad,ae,af,rfl,X,ak,h⟩;unfold acD at h;refine gD 8 [4,2] ak (cB h aaF (fun _ dk=>(aax k) dk (hG.mono ak.sub) (pt ak)) ?_);rintro ⟨dl,dm,dn⟩ _ eh ⟨aZ,rfl,Y⟩ h;have dp:=ca Y ak;refine go 8 (aaC (fun g_ a w=>∃ a0 W y,∃ (z:Nat),∃ al am an,g_=y.length∧a=fr 161 (updL a0 [(0,pp g 0),(2,iI p),(3,.bool s),(5,pp (zz wi) 0),(9,iI (z:Int))])∧KH.sub aZ W∧SR K W wi w [.box bs g #[iI A,iI B,.bool C] 104] [.box bs g #[iI al,iI am,.bool an] 104,.box (zz wi) (zz wi) (aE t u x G I m J) 35]∧m.drop z=y∧afD k F p s y z al am an=some r_) m.length ?_ ?_)
    ·exact ⟨_,aZ,m,0,dl,dm,dn,rfl,fR,kr,dp,List.drop_zero,h⟩
    ·rintro _ _ ei ⟨a0,W,y,z,al,am,an,rfl,rfl,Z,q,D,h⟩;rcases y with _ | ⟨⟨dq,dr,ds,dt,du⟩,y⟩
     ·unfold afD at h;refine gD 7 [4,2] q (bcm (r:=false) rfl rfl (congrArg some (aal D)) (go 14 ?_));cases (oi h).trans hr_;exact end0 rfl ⟨W,rfl,(q.sel [0])⟩
     ·unfold afD at h;refine gD 7 [4,2] q (bcm (r:=true) rfl rfl (congrArg some (aak D)) (gP 14 [2,1] q (bC 148 h (fun _ h=>?_) (fun _ h=>?_))))
      ·refine gD 10 [4,2] q ?_;obtain ⟨dv,dw,ej,dx,ek,dy,a4⟩:=((me ap ((((e.sub.trans f).trans X).trans Y.sub).trans Z))).row.at_ (aaj D);obtain ⟨dz,dA,rfl,el,em⟩:=aan.open a4;refine idxN (b:=dv) (o:=dw) (i:=z) ack abp rfl dx rfl (aab D) (lD (vE dq dr ds dt dz du dA) adO abp rfl (fun j v hj=>q.cell (kr.cell (dy j v hj))) (go 1 (bar (r:=(w64 (p + 1))) rfl rfl rfl (go 1 (cB h avf (fun _ dB=>IH84 dB (hG.mono q.sub) a4 (pt q)) ?_)))));rintro ⟨dC,dD,dE⟩ _ en ⟨dF,rfl,a5⟩ h;have dG:=ca a5 q;exact go 5 (bar (r:=((z + 1:Nat):Int)) rfl rfl (aaK (aaM (((me ap ((((e.sub.trans f).trans X).trans Y.sub).trans Z))).len) (by decide) (aab D))) (go 3 (⟨_,Nat.lt_succ_self _,_,dF,y,z + 1,dC,dD,dE,rfl,fR,(Z.trans a5.sub),dG,aag D,h⟩)))
      ·refine gd 5 ?_;cases (oi h).trans hr_;exact end0 rfl ⟨W,rfl,(q.sel [0])⟩
theorem at3 (k0:Nat) : ∀ k,afp (al8 k0 k).f84:=by
 intro k;induction k with
 | zero=>exact (by unfold afp; intro _ _ _ _ _ _ _ _ _ _ _ _ _ _ h_; cases h_)
 | succ k ih=>exact atq k0 (al8 k0 k) ih
theorem auz (k:Nat):afp (f84 k):=(at3 k k)
theorem ast (k:Nat) (F:abz) (IH118:acZ F.f118) (IH142:ac3 F.f142) (IH169:acW F.f169):acZ (aqp k F):=by
 unfold acZ;intro K wi g bs x y z p I J A aB aG aH h hG B N;obtain ⟨r_,hr_,h⟩:=rz h;refine aat Tryz.func118 rfl (n:=27) rfl ?_;unfold aqp at h;refine gd 6 (aaC (fun g_ a w=>∃ C m d,∃ (e:Nat),∃ s t u,g_=d.length∧a=fr 27 (updL C [(0,pp g 0),(1,sl I p J),(2,iI A),(6,iI (e:Int))])∧KH.sub K m∧SR K m wi w [.box bs g #[iI x,iI y,.bool z] 104] [.box bs g #[iI s,iI t,.bool u] 104]∧p.drop e=d∧aeh k F A d e s t u=some r_) p.length ?_ ?_)
 ·exact ⟨_,K,p,0,x,y,z,rfl,fR,kr,N,List.drop_zero,h⟩
 ·rintro _ _ aI ⟨C,m,d,e,s,t,u,rfl,rfl,q,f,l,h⟩;rcases d with _ | ⟨⟨O,S,U,V,W,X,Y,Z,ab,ac,ad⟩,d⟩
  ·unfold aeh at h;refine gd 6 (bcm (r:=false) rfl rfl (congrArg some (aal l)) (go 14 ?_));cases (oi h).trans hr_;exact end0 rfl ⟨m,rfl,f⟩
  ·unfold aeh at h;refine gd 6 (bcm (r:=true) rfl rfl (congrArg some (aak l)) (gP 14 [2,1] f (bC 17 h (fun _ h=>?_) (fun _ h=>?_))))
   ·refine gd 9 ?_;obtain ⟨ae,af,aJ,ah,aK,ai,D⟩:=((ms B q)).row.at_ (aaj l);obtain ⟨aj,ak,al,am,an,ao,ap,aq,ar,au,rfl,aL,aM,aN,aP,aT,aU,aV⟩:=aai.open D;refine idxN (b:=ae) (o:=af) (i:=e) ab2 abx rfl ah rfl (aab l) (lD (vS O S U V W X aj Y ak al Z am an ab ao ap ac aq ar ad au) aeH abx rfl (fun j v hj=>f.cell (kr.cell (ai j v hj))) (go 1 (cB h ayv (fun _ av=>IH142 av (hG.mono q) D (pt f)) ?_)));rintro ⟨aw,ax,ay⟩ _ aW ⟨az,rfl,G⟩ h;have aA:=ca G f;exact go 5 (bar (r:=((e + 1:Nat):Int)) rfl rfl (aaK (aaM (((ms B q)).len) (by decide) (aab l))) (go 3 (⟨_,Nat.lt_succ_self _,_,az,d,e + 1,aw,ax,ay,rfl,fR,(q.trans G.sub),aA,aag l,h⟩)))
   ·refine gd 5 ?_;cases (oi h).trans hr_;exact end0 rfl ⟨m,rfl,f⟩
theorem arO (k:Nat) (F:abz) (IH118:acZ F.f118) (IH142:ac3 F.f142) (IH169:acW F.f169):ac3 (ajI k F):=by
 unfold ac3;intro K wi g bs I J N dO jB z jC jD jE h hG dP dQ;obtain ⟨r_,hr_,h⟩:=rz h;obtain ⟨B,C,S,G,U,s,q,t,u,x,m⟩:=dO;obtain ⟨V,W,X,Y,Z,ab,ac,ad,ae,af,rfl,a3,dR,ci,dS,dT,dU,cj⟩:=aai.open dP;refine aat Tryz.func142 rfl (n:=307) rfl ?_;unfold ajI at h;refine gI 14 [2,2] [] dQ (fun dV ck=>(bC 13 h (fun _ h=>?_) (fun _ h=>?_)))
 ·refine gd 3 ?_;cases (oi h).trans hr_;exact ret0 rfl ⟨K,rfl,(ck.sel [1])⟩
 ·refine gd 7 ?_;have cl:=p10 ck;refine cB h aoP (fun _ dW=>(akf k) dW (hG.mono kr) (pt cl)) ?_;rintro ⟨aP,aT,aU⟩ _ jF ⟨jG,rfl,d⟩ h;have bF:=ca d cl;refine gP 6 [0,2] bF (cB h ayg (fun _ dX=>(awg k) dX (hG.mono d.sub) (pt bF)) ?_);rintro ⟨⟨av,aw,ap,ao,al,ax⟩,jH⟩ _ am ⟨aJ,jI,rfl,e,dY⟩ h;have dZ:=ca e bF;obtain rfl:=acM.open dY;refine gR 8 [0] [[iI 0,iI 0,iI 0,vN,vN,iI 0]] dZ (fun jJ aV an=>(aav (fun a w=>∃ cm bj bG bH bI,a=fr 307 (updL cm [(0,pp g 0),(2,iI z),(4,pp (zz wi) 0),(6,pp (zz am) 0)])∧KH.sub aJ bj∧SR K bj wi w [.box bs g #[iI I,iI J,.bool N] 104] [.box bs g #[iI bG,iI bH,.bool bI] 104,.box (zz wi) (zz wi) (aS B C S G U s V q W X t Y Z u ab ac x ad ae m af) 62,.box (zz wi) (zz am) #[iI av,iI aw,iI ap,.bool ao,.bool al,iI ax] 210]∧adk k F B C G s q t u x m z ap ao al bG bH bI=some r_) ?_ ?_))
  ·refine gd 4 (bO 25 h (fun _ h=>?_) (fun _ h=>?_))
   ·refine gP 14 [6,3,0,1] an (bO 33 h (fun _ h=>?_) (fun _ h=>?_))
    ·refine gP 14 [6,3,1,1] an (bO 41 h (fun _ h=>?_) (fun _ h=>?_))
     ·refine gP 8 [5,3] an (bO 46 h (fun _ h=>?_) (fun _ h=>?_))
      ·refine gP 12 [5,3,5,1] an (bO 53 h (fun _ h=>?_) (fun _ h=>?_))
       ·refine gP 8 [2,3] an (bO 58 h (fun _ h=>?_) (fun _ h=>?_))
        ·refine gP 7 [4,3] an ?_;have cn:=p102 an;refine cB h aaF (fun _ d0=>(aax k) d0 (hG.mono cn.sub) (pt cn)) ?_;rintro ⟨d1,d2,d3⟩ _ jK ⟨d4,rfl,co⟩ h;have d5:=ca co cn;exact go 2 (⟨_,d4,d1,d2,d3,fR,co.sub,(d5.sel [0,2,1]),h⟩)
        ·refine go 4 ?_;have cq:=p102 an;refine cB h aaF (fun _ d6=>(aax k) d6 (hG.mono cq.sub) (pt cq)) ?_;rintro ⟨d7,d8,d9⟩ _ jL ⟨ea,rfl,cr⟩ h;have ec:=ca cr cq;exact go 2 (⟨_,ea,d7,d8,d9,fR,cr.sub,(ec.sel [0,2,1]),h⟩)
       ·refine go 9 ?_;have cs:=p102 an;refine cB h aaF (fun _ ed=>(aax k) ed (hG.mono cs.sub) (pt cs)) ?_;rintro ⟨ee,ef,eg⟩ _ jM ⟨eh,rfl,ct⟩ h;have ei:=ca ct cs;exact go 2 (⟨_,eh,ee,ef,eg,fR,ct.sub,(ei.sel [0,2,1]),h⟩)
      ·refine go 16 ?_;have cu:=p102 an;refine cB h aaF (fun _ ej=>(aax k) ej (hG.mono cu.sub) (pt cu)) ?_;rintro ⟨ek,el,em⟩ _ jN ⟨en,rfl,cw⟩ h;have eo:=ca cw cu;exact go 2 (⟨_,en,ek,el,em,fR,cw.sub,(eo.sel [0,2,1]),h⟩)
     ·refine go 21 ?_;have cx:=p102 an;refine cB h aaF (fun _ ep=>(aax k) ep (hG.mono cx.sub) (pt cx)) ?_;rintro ⟨eq,es,et⟩ _ jO ⟨eu,rfl,cy⟩ h;have ew:=ca cy cx;exact go 2 (⟨_,eu,eq,es,et,fR,cy.sub,(ew.sel [0,2,1]),h⟩)
    ·refine go 29 ?_;have cz:=p102 an;refine cB h aaF (fun _ ex=>(aax k) ex (hG.mono cz.sub) (pt cz)) ?_;rintro ⟨ey,ez,eA⟩ _ jP ⟨eB,rfl,cA⟩ h;have eC:=ca cA cz;exact go 2 (⟨_,eB,ey,ez,eA,fR,cA.sub,(eC.sel [0,2,1]),h⟩)
   ·refine go 37 ?_;have cC:=p102 an;refine cB h aaF (fun _ eD=>(aax k) eD (hG.mono cC.sub) (pt cC)) ?_;rintro ⟨eF,eG,eH⟩ _ jQ ⟨eI,rfl,cD⟩ h;have eJ:=ca cD cC;exact go 2 (⟨_,eI,eF,eG,eH,fR,cD.sub,(eJ.sel [0,2,1]),h⟩)
  ·rintro _ jR ⟨cm,bj,bG,bH,bI,rfl,f,A,h⟩;unfold adk at h;refine aav (fun a w=>∃ cG bk bJ bK bL,a=fr 307 (updL cG [(0,pp g 0),(2,iI z),(4,pp (zz wi) 0),(6,pp (zz am) 0)])∧KH.sub bj bk∧SR K bk wi w [.box bs g #[iI I,iI J,.bool N] 104] [.box bs g #[iI bJ,iI bK,.bool bL] 104,.box (zz wi) (zz wi) (aS B C S G U s V q W X t Y Z u ab ac x ad ae m af) 62,.box (zz wi) (zz am) #[iI av,iI aw,iI ap,.bool ao,.bool al,iI ax] 210]∧acj k F B C G s q t u x m z ao al bJ bK bL=some r_) ?_ ?_
   ·refine gD 6 [2,3] A (bO 68 h (fun _ h=>?_) (fun _ h=>?_))
    ·refine gP 8 [1,2] A (bO 73 h (fun _ h=>?_) (fun cH h=>?_))
     ·refine go 24 (cB h aaF (fun _ eL=>(aax k) eL (hG.mono A.sub) (pt A)) ?_);rintro ⟨eM,eN,eO⟩ _ jS ⟨eP,rfl,cI⟩ h;have eQ:=ca cI A;exact go 2 (⟨_,eP,eM,eN,eO,fR,cI.sub,eQ,h⟩)
     ·refine gP 8 [2,3] A (bO 77 h (fun _ h=>?_) (fun _ h=>?_))
      ·refine gP 5 [1,2] A (cB h ae0 (fun _ eR=>(adl k) eR (hG.mono A.sub) a3 (pt A)) ?_);rintro jT _ jU ⟨jV,rfl,aK⟩ h;have aB:=ca aK A;refine go 4 (bO 83 h (fun _ h=>?_) (fun _ h=>?_))
       ·refine go 14 (cB h aaF (fun _ eS=>(aax k) eS (hG.mono aB.sub) (pt aB)) ?_);rintro ⟨eT,eU,eV⟩ _ jW ⟨eX,rfl,cJ⟩ h;have eY:=ca cJ aB;exact go 2 (⟨_,eX,eT,eU,eV,fR,(aK.sub.trans cJ.sub),eY,h⟩)
       ·refine gP 8 [2,3] aB (bO 87 h (fun _ h=>?_) (fun _ h=>?_))
        ·refine gP 8 [1,2] aB (lO 91 cH (gP 5 [1,2] aB (cB h ae0 (fun _ eZ=>(adl k) eZ (hG.mono aB.sub) a3 (pt aB)) ?_)));rintro jX _ jY ⟨jZ,rfl,bM⟩ h;have cK:=ca bM aB;refine go 5 (cB h aaF (fun _ e0=>(aax k) e0 (hG.mono cK.sub) (pt cK)) ?_);rintro ⟨e1,e2,e3⟩ _ j0 ⟨e4,rfl,cL⟩ h;have e5:=ca cL cK;exact go 2 (⟨_,e4,e1,e2,e3,fR,((aK.sub.trans bM.sub).trans cL.sub),e5,h⟩)
        ·refine go 11 (cB h aaF (fun _ e6=>(aax k) e6 (hG.mono aB.sub) (pt aB)) ?_);rintro ⟨e7,e8,e9⟩ _ j1 ⟨fa,rfl,cM⟩ h;have fb:=ca cM aB;exact go 2 (⟨_,fa,e7,e8,e9,fR,(aK.sub.trans cM.sub),fb,h⟩)
      ·refine gP 15 [2,3] A (bO 87 h (fun _ h=>?_) (fun _ h=>?_))
       ·refine gP 8 [1,2] A (lO 91 cH (gP 5 [1,2] A (cB h ae0 (fun _ fc=>(adl k) fc (hG.mono A.sub) a3 (pt A)) ?_)));rintro j2 _ j3 ⟨j4,rfl,bP⟩ h;have cN:=ca bP A;refine go 5 (cB h aaF (fun _ fe=>(aax k) fe (hG.mono cN.sub) (pt cN)) ?_);rintro ⟨ff,fg,fh⟩ _ j5 ⟨fi,rfl,cO⟩ h;have fj:=ca cO cN;exact go 2 (⟨_,fi,ff,fg,fh,fR,(bP.sub.trans cO.sub),fj,h⟩)
       ·refine go 11 (cB h aaF (fun _ fk=>(aax k) fk (hG.mono A.sub) (pt A)) ?_);rintro ⟨fl,fm,fn⟩ _ j6 ⟨fo,rfl,cP⟩ h;have fp:=ca cP A;exact go 2 (⟨_,fo,fl,fm,fn,fR,cP.sub,fp,h⟩)
    ·refine gP 13 [2,3] A (bO 77 h (fun _ h=>?_) (fun _ h=>?_))
     ·refine gP 5 [1,2] A (cB h ae0 (fun _ fs=>(adl k) fs (hG.mono A.sub) a3 (pt A)) ?_);rintro j7 _ j8 ⟨j9,rfl,ay⟩ h;have aq:=ca ay A;refine go 4 (bO 83 h (fun _ h=>?_) (fun _ h=>?_))
      ·refine go 14 (cB h aaF (fun _ ft=>(aax k) ft (hG.mono aq.sub) (pt aq)) ?_);rintro ⟨fu,fv,fx⟩ _ ka ⟨fy,rfl,cQ⟩ h;have fz:=ca cQ aq;exact go 2 (⟨_,fy,fu,fv,fx,fR,(ay.sub.trans cQ.sub),fz,h⟩)
      ·refine gP 8 [2,3] aq (bO 87 h (fun _ h=>?_) (fun _ h=>?_))
       ·refine gP 8 [1,2] aq (bO 91 h (fun _ h=>?_) (fun _ h=>?_))
        ·refine go 8 (cB h aaF (fun _ fA=>(aax k) fA (hG.mono aq.sub) (pt aq)) ?_);rintro ⟨fB,fC,fD⟩ _ kb ⟨fE,rfl,cR⟩ h;have fF:=ca cR aq;exact go 2 (⟨_,fE,fB,fC,fD,fR,(ay.sub.trans cR.sub),fF,h⟩)
        ·refine gP 5 [1,2] aq (cB h ae0 (fun _ fG=>(adl k) fG (hG.mono aq.sub) a3 (pt aq)) ?_);rintro kc _ kd ⟨ke,rfl,bQ⟩ h;have cS:=ca bQ aq;refine go 5 (cB h aaF (fun _ fH=>(aax k) fH (hG.mono cS.sub) (pt cS)) ?_);rintro ⟨fI,fJ,fK⟩ _ kf ⟨fL,rfl,cU⟩ h;have fM:=ca cU cS;exact go 2 (⟨_,fL,fI,fJ,fK,fR,((ay.sub.trans bQ.sub).trans cU.sub),fM,h⟩)
       ·refine go 11 (cB h aaF (fun _ fN=>(aax k) fN (hG.mono aq.sub) (pt aq)) ?_);rintro ⟨fO,fP,fQ⟩ _ kg ⟨fS,rfl,cV⟩ h;have fT:=ca cV aq;exact go 2 (⟨_,fS,fO,fP,fQ,fR,(ay.sub.trans cV.sub),fT,h⟩)
     ·refine gP 15 [2,3] A (bO 87 h (fun _ h=>?_) (fun _ h=>?_))
      ·refine gP 8 [1,2] A (bO 91 h (fun _ h=>?_) (fun _ h=>?_))
       ·refine go 8 (cB h aaF (fun _ fU=>(aax k) fU (hG.mono A.sub) (pt A)) ?_);rintro ⟨fV,fW,fX⟩ _ kh ⟨fY,rfl,cW⟩ h;have fZ:=ca cW A;exact go 2 (⟨_,fY,fV,fW,fX,fR,cW.sub,fZ,h⟩)
       ·refine gP 5 [1,2] A (cB h ae0 (fun _ f0=>(adl k) f0 (hG.mono A.sub) a3 (pt A)) ?_);rintro ki _ kj ⟨kk,rfl,bR⟩ h;have cY:=ca bR A;refine go 5 (cB h aaF (fun _ f1=>(aax k) f1 (hG.mono cY.sub) (pt cY)) ?_);rintro ⟨f2,f3,f4⟩ _ kl ⟨f6,rfl,cZ⟩ h;have f7:=ca cZ cY;exact go 2 (⟨_,f6,f2,f3,f4,fR,(bR.sub.trans cZ.sub),f7,h⟩)
      ·refine go 11 (cB h aaF (fun _ ga=>(aax k) ga (hG.mono A.sub) (pt A)) ?_);rintro ⟨gb,gc,ge⟩ _ km ⟨gf,rfl,c2⟩ h;have gg:=ca c2 A;exact go 2 (⟨_,gf,gb,gc,ge,fR,c2.sub,gg,h⟩)
   ·rintro _ kn ⟨cG,bk,bJ,bK,bL,rfl,l,az,h⟩;unfold acj at h;refine aav (fun a w=>∃ c4 bm bS bT bU,a=fr 307 (updL c4 [(0,pp g 0),(2,iI z),(4,pp (zz wi) 0),(6,pp (zz am) 0)])∧KH.sub bk bm∧SR K bm wi w [.box bs g #[iI I,iI J,.bool N] 104] [.box bs g #[iI bS,iI bT,.bool bU] 104,.box (zz wi) (zz wi) (aS B C S G U s V q W X t Y Z u ab ac x ad ae m af) 62,.box (zz wi) (zz am) #[iI av,iI aw,iI ap,.bool ao,.bool al,iI ax] 210]∧aeT k F B C s q t u x m z al bS bT bU=some r_) ?_ ?_
    ·refine gD 5 [3,3] az (bO 102 h (fun _ h=>?_) (fun _ h=>?_))
     ·refine gP 5 [3,2] az (cB h ae0 (fun _ gh=>(adl k) gh (hG.mono az.sub) dR (pt az)) ?_);rintro ko _ kp ⟨kq,rfl,aW⟩ h;have aL:=ca aW az;refine go 2 (bO 107 h (fun _ h=>?_) (fun _ h=>?_))
      ·refine go 9 (cB h aaF (fun _ gi=>(aax k) gi (hG.mono aL.sub) (pt aL)) ?_);rintro ⟨gj,gk,gl⟩ _ ks ⟨gm,rfl,c5⟩ h;have gn:=ca c5 aL;exact go 2 (⟨_,gm,gj,gk,gl,fR,(aW.sub.trans c5.sub),gn,h⟩)
      ·refine gP 8 [3,3] aL (bO 111 h (fun _ h=>?_) (fun _ h=>?_))
       ·refine gP 9 [3,2] aL (cB h aaF (fun _ gp=>(aax k) gp (hG.mono aL.sub) (pt aL)) ?_);rintro ⟨gq,gr,gs⟩ _ kt ⟨gt,rfl,c7⟩ h;have gu:=ca c7 aL;exact go 2 (⟨_,gt,gq,gr,gs,fR,(aW.sub.trans c7.sub),gu,h⟩)
       ·refine go 6 (cB h aaF (fun _ gv=>(aax k) gv (hG.mono aL.sub) (pt aL)) ?_);rintro ⟨gw,gy,gz⟩ _ ku ⟨gA,rfl,c8⟩ h;have gB:=ca c8 aL;exact go 2 (⟨_,gA,gw,gy,gz,fR,(aW.sub.trans c8.sub),gB,h⟩)
     ·refine gP 13 [3,3] az (bO 111 h (fun _ h=>?_) (fun _ h=>?_))
      ·refine gP 9 [3,2] az (cB h aaF (fun _ gF=>(aax k) gF (hG.mono az.sub) (pt az)) ?_);rintro ⟨gG,gH,gJ⟩ _ kv ⟨gK,rfl,da⟩ h;have gL:=ca da az;exact go 2 (⟨_,gK,gG,gH,gJ,fR,da.sub,gL,h⟩)
      ·refine go 6 (cB h aaF (fun _ gM=>(aax k) gM (hG.mono az.sub) (pt az)) ?_);rintro ⟨gN,gQ,gT⟩ _ kw ⟨gU,rfl,db⟩ h;have gV:=ca db az;exact go 2 (⟨_,gU,gN,gQ,gT,fR,db.sub,gV,h⟩)
    ·rintro _ kx ⟨c4,bm,bS,bT,bU,rfl,p,a4,h⟩;unfold aeT at h;refine aav (fun a w=>∃ dc bn bV bW bX,a=fr 307 (updL dc [(0,pp g 0),(2,iI z),(4,pp (zz wi) 0)])∧KH.sub bm bn∧SR K bn wi w [.box bs g #[iI I,iI J,.bool N] 104] [.box bs g #[iI bV,iI bW,.bool bX] 104,.box (zz wi) (zz wi) (aS B C S G U s V q W X t Y Z u ab ac x ad ae m af) 62]∧agJ k F B C s q t u x m z bV bW bX=some r_) ?_ ?_
     ·refine gD 5 [4,3] a4 (bO 121 h (fun _ h=>?_) (fun _ h=>?_))
      ·refine go 5 (cB h aaF (fun _ gW=>(aax k) gW (hG.mono a4.sub) (pt a4)) ?_);rintro ⟨gZ,g0,g1⟩ _ ky ⟨g2,rfl,dd⟩ h;have g3:=ca dd a4;exact go 2 (⟨_,g2,gZ,g0,g1,fR,dd.sub,(g3.sel [0,1]),h⟩)
      ·refine gP 9 [7,2] a4 (cB h aaF (fun _ g4=>(aax k) g4 (hG.mono a4.sub) (pt a4)) ?_);rintro ⟨g5,g6,g7⟩ _ kz ⟨g8,rfl,de⟩ h;have g9:=ca de a4;exact go 2 (⟨_,g8,g5,g6,g7,fR,de.sub,(g9.sel [0,1]),h⟩)
     ·rintro _ kB ⟨dc,bn,bV,bW,bX,rfl,y,ah,h⟩;unfold agJ at h;refine aav (fun a w=>∃ df bo bY bZ b0,a=fr 307 (updL df [(0,pp g 0),(2,iI z),(4,pp (zz wi) 0)])∧KH.sub bn bo∧SR K bo wi w [.box bs g #[iI I,iI J,.bool N] 104] [.box bs g #[iI bY,iI bZ,.bool b0] 104,.box (zz wi) (zz wi) (aS B C S G U s V q W X t Y Z u ab ac x ad ae m af) 62]∧aej k F B C s q t u x m z bY bZ b0=some r_) ?_ ?_
      ·refine gD 7 [8,2] ah (bO 133 h (fun _ h=>?_) (fun _ h=>?_))
       ·refine go 20 (cB h aaF (fun _ ha=>(aax k) ha (hG.mono (((((d.sub.trans e.sub).trans f).trans l).trans p).trans y)) (pt ah)) ?_);rintro ⟨hb,hc,hd⟩ _ kD ⟨he,rfl,dg⟩ h;have hf:=ca dg ah;exact go 2 (⟨_,he,hb,hc,hd,fR,dg.sub,hf,h⟩)
       ·refine gP 8 [0,2] ah (bO 137 h (fun _ h=>?_) (fun _ h=>?_))
        ·refine gP 10 [5,2] ah (bO 143 h (fun _ h=>?_) (fun _ h=>?_))
         ·refine go 10 (cB h aaF (fun _ hg=>(aax k) hg (hG.mono (((((d.sub.trans e.sub).trans f).trans l).trans p).trans y)) (pt ah)) ?_);rintro ⟨hh,hi,hk⟩ _ kJ ⟨hl,rfl,dh⟩ h;have hm:=ca dh ah;exact go 2 (⟨_,hl,hh,hi,hk,fR,dh.sub,hm,h⟩)
         ·refine gP 8 [0,2] ah (bO 147 h (fun _ h=>?_) (fun _ h=>?_))
          ·refine gP 5 [5,2] ah (bdv (r:=(s.tmod 2)) rfl rfl (by decide) rfl (go 5 (cB h aaF (fun _ hn=>(aax k) hn (hG.mono (((((d.sub.trans e.sub).trans f).trans l).trans p).trans y)) (pt ah)) ?_)));rintro ⟨ho,hp,hq⟩ _ kO ⟨hr,rfl,di⟩ h;have hs:=ca di ah;exact go 2 (⟨_,hr,ho,hp,hq,fR,di.sub,hs,h⟩)
          ·refine go 7 (cB h aaF (fun _ ht=>(aax k) ht (hG.mono (((((d.sub.trans e.sub).trans f).trans l).trans p).trans y)) (pt ah)) ?_);rintro ⟨hu,hv,hw⟩ _ kP ⟨hx,rfl,dj⟩ h;have hy:=ca dj ah;exact go 2 (⟨_,hx,hu,hv,hw,fR,dj.sub,hy,h⟩)
        ·refine gP 15 [0,2] ah (bO 147 h (fun _ h=>?_) (fun _ h=>?_))
         ·refine gP 5 [5,2] ah (bdv (r:=(s.tmod 2)) rfl rfl (by decide) rfl (go 5 (cB h aaF (fun _ hz=>(aax k) hz (hG.mono (((((d.sub.trans e.sub).trans f).trans l).trans p).trans y)) (pt ah)) ?_)));rintro ⟨hA,hB,hC⟩ _ kQ ⟨hD,rfl,dk⟩ h;have hF:=ca dk ah;exact go 2 (⟨_,hD,hA,hB,hC,fR,dk.sub,hF,h⟩)
         ·refine go 7 (cB h aaF (fun _ hH=>(aax k) hH (hG.mono (((((d.sub.trans e.sub).trans f).trans l).trans p).trans y)) (pt ah)) ?_);rintro ⟨hI,hJ,hK⟩ _ kR ⟨hL,rfl,dl⟩ h;have hM:=ca dl ah;exact go 2 (⟨_,hL,hI,hJ,hK,fR,dl.sub,hM,h⟩)
      ·rintro _ kT ⟨df,bo,bY,bZ,b0,rfl,D,aG,h⟩;unfold aej at h;refine aav (fun a w=>∃ dm be bp bq br,a=fr 307 (updL dm [(0,pp g 0),(2,iI z),(4,pp (zz wi) 0)])∧KH.sub bo be∧SR K be wi w [.box bs g #[iI I,iI J,.bool N] 104] [.box bs g #[iI bp,iI bq,.bool br] 104,.box (zz wi) (zz wi) (aS B C S G U s V q W X t Y Z u ab ac x ad ae m af) 62]∧agT k F B C s q t u x m z bp bq br=some r_) ?_ ?_
       ·refine gD 7 [9,2] aG (bO 160 h (fun _ h=>?_) (fun _ h=>?_))
        ·refine go 9 (cB h aaF (fun _ hN=>(aax k) hN (hG.mono ((((((d.sub.trans e.sub).trans f).trans l).trans p).trans y).trans D)) (pt aG)) ?_);rintro ⟨hO,hP,hQ⟩ _ kU ⟨hR,rfl,dn⟩ h;have hS:=ca dn aG;exact go 2 (⟨_,hR,hO,hP,hQ,fR,dn.sub,hS,h⟩)
        ·refine gP 8 [0,2] aG (bO 164 h (fun _ h=>?_) (fun _ h=>?_))
         ·refine gP 9 [5,2] aG (cB h aaF (fun _ hT=>(aax k) hT (hG.mono ((((((d.sub.trans e.sub).trans f).trans l).trans p).trans y).trans D)) (pt aG)) ?_);rintro ⟨hU,hV,hW⟩ _ kV ⟨hX,rfl,dp⟩ h;have hY:=ca dp aG;exact go 2 (⟨_,hX,hU,hV,hW,fR,dp.sub,hY,h⟩)
         ·refine go 6 (cB h aaF (fun _ hZ=>(aax k) hZ (hG.mono ((((((d.sub.trans e.sub).trans f).trans l).trans p).trans y).trans D)) (pt aG)) ?_);rintro ⟨h0,h1,h2⟩ _ kW ⟨h3,rfl,dq⟩ h;have h4:=ca dq aG;exact go 2 (⟨_,h3,h0,h1,h2,fR,dq.sub,h4,h⟩)
       ·rintro _ kX ⟨dm,be,bp,bq,br,rfl,O,ai,h⟩;unfold agT at h;refine aav (fun a w=>∃ dr bu b1 b2 b3,a=fr 307 (updL dr [(0,pp g 0),(2,iI z),(4,pp (zz wi) 0)])∧KH.sub be bu∧SR K bu wi w [.box bs g #[iI I,iI J,.bool N] 104] [.box bs g #[iI b1,iI b2,.bool b3] 104,.box (zz wi) (zz wi) (aS B C S G U s V q W X t Y Z u ab ac x ad ae m af) 62]∧adK k F B q t u x m z b1 b2 b3=some r_) ?_ ?_
        ·refine gD 13 [0,2] ai (bC 173 h (fun _ h=>?_) (fun _ h=>?_))
         ·refine gD 7 [5,2] ai (bO 179 h (fun _ h=>?_) (fun _ h=>?_))
          ·refine go 4 (cB h aaF (fun _ h5=>(aax k) h5 (hG.mono (((((((d.sub.trans e.sub).trans f).trans l).trans p).trans y).trans D).trans O)) (pt ai)) ?_);rintro ⟨h6,h7,h8⟩ _ kY ⟨h9,rfl,ds⟩ h;have ia:=ca ds ai;exact go 3 (⟨_,h9,h6,h7,h8,fR,ds.sub,ia,h⟩)
          ·refine gP 7 [1,2] ai (cB h aaF (fun _ ib=>(aax k) ib (hG.mono (((((((d.sub.trans e.sub).trans f).trans l).trans p).trans y).trans D).trans O)) (pt ai)) ?_);rintro ⟨ic,id,ie⟩ _ kZ ⟨ig,rfl,dt⟩ h;have ih:=ca dt ai;exact go 3 (⟨_,ig,ic,id,ie,fR,dt.sub,ih,h⟩)
         ·refine gd 7 (bC 185 h (fun _ h=>?_) (fun _ h=>?_))
          ·refine gD 7 [5,2] ai (bO 191 h (fun _ h=>?_) (fun _ h=>?_))
           ·refine gP 5 [5,2] ai (bdv (r:=(s.tmod 2)) rfl rfl (by decide) rfl (gP 11 [1,2] ai (cB h aaF (fun _ ii=>(aax k) ii (hG.mono (((((((d.sub.trans e.sub).trans f).trans l).trans p).trans y).trans D).trans O)) (pt ai)) ?_)));rintro ⟨ij,ik,il⟩ _ k0 ⟨im,rfl,du⟩ h;have io:=ca du ai;exact go 3 (⟨_,im,ij,ik,il,fR,du.sub,io,h⟩)
           ·refine go 9 (cB h aaF (fun _ ip=>(aax k) ip (hG.mono (((((((d.sub.trans e.sub).trans f).trans l).trans p).trans y).trans D).trans O)) (pt ai)) ?_);rintro ⟨iq,ir,it⟩ _ k1 ⟨iu,rfl,dv⟩ h;have iv:=ca dv ai;exact go 3 (⟨_,iu,iq,ir,it,fR,dv.sub,iv,h⟩)
          ·refine gd 7 (bC 202 h (fun _ h=>?_) (fun _ h=>?_))
           ·refine gD 5 [5,2] ai (bdv (r:=(s.tmod 4)) rfl rfl (by decide) rfl (go 1 (cB h aaF (fun _ iw=>(aax k) iw (hG.mono (((((((d.sub.trans e.sub).trans f).trans l).trans p).trans y).trans D).trans O)) (pt ai)) ?_)));rintro ⟨ix,iy,iz⟩ _ k2 ⟨iA,rfl,dw⟩ h;have iB:=ca dw ai;exact go 3 (⟨_,iA,ix,iy,iz,fR,dw.sub,iB,h⟩)
           ·exact gd 4 (⟨_,be,bp,bq,br,fR,kr,ai,h⟩)
        ·rintro _ k3 ⟨dr,bu,b1,b2,b3,rfl,aj,a5,h⟩;unfold adK at h;refine aav (fun a w=>∃ dx a6 bv bw bx,a=fr 307 (updL dx [(0,pp g 0),(2,iI z),(4,pp (zz wi) 0)])∧KH.sub bu a6∧SR K a6 wi w [.box bs g #[iI I,iI J,.bool N] 104] [.box bs g #[iI bv,iI bw,.bool bx] 104,.box (zz wi) (zz wi) (aS B C S G U s V q W X t Y Z u ab ac x ad ae m af) 62]∧aiN k F q t u x m z bv bw bx=some r_) ?_ ?_
         ·refine gD 11 [0,2,10,2] a5 (bO 219 h (fun _ h=>?_) (fun _ h=>?_))
          ·refine gP 9 [10,2] a5 (cB h aaF (fun _ iC=>(aax k) iC (hG.mono ((((((((d.sub.trans e.sub).trans f).trans l).trans p).trans y).trans D).trans O).trans aj)) (pt a5)) ?_);rintro ⟨iD,iE,iF⟩ _ k4 ⟨iG,rfl,dy⟩ h;have iH:=ca dy a5;exact go 2 (⟨_,iG,iD,iE,iF,fR,dy.sub,iH,h⟩)
          ·refine go 5 (cB h aaF (fun _ iJ=>(aax k) iJ (hG.mono ((((((((d.sub.trans e.sub).trans f).trans l).trans p).trans y).trans D).trans O).trans aj)) (pt a5)) ?_);rintro ⟨iK,iL,iM⟩ _ k5 ⟨iN,rfl,dz⟩ h;have iO:=ca dz a5;exact go 2 (⟨_,iN,iK,iL,iM,fR,dz.sub,iO,h⟩)
         ·rintro _ k6 ⟨dx,a6,bv,bw,bx,rfl,ak,iP,h⟩;unfold aiN at h;refine aav (fun a w=>∃ dA b4 b5 b6 b7,a=fr 307 (updL dA [(0,pp g 0),(2,iI z),(4,pp (zz wi) 0)])∧KH.sub a6 b4∧SR K b4 wi w [.box bs g #[iI I,iI J,.bool N] 104] [.box bs g #[iI b5,iI b6,.bool b7] 104,.box (zz wi) (zz wi) (aS B C S G U s V q W X t Y Z u ab ac x ad ae m af) 62]∧aeU k F t u x m z b5 b6 b7=some r_) ?_ ?_
          ·refine gd 6 (aaC (fun g_ a w=>∃ dB bf aX,∃ (aY:Nat),∃ bg bh bi,g_=aX.length∧a=fr 307 (updL dB [(0,pp g 0),(2,iI z),(4,pp (zz wi) 0),(8,iI (aY:Int))])∧KH.sub a6 bf∧SR K bf wi w [.box bs g #[iI I,iI J,.bool N] 104] [.box bs g #[iI bg,iI bh,.bool bi] 104,.box (zz wi) (zz wi) (aS B C S G U s V q W X t Y Z u ab ac x ad ae m af) 62]∧q.drop aY=aX∧abF k F t u x m z aX aY bg bh bi=some r_) q.length ?_ ?_)
           ·exact ⟨_,a6,q,0,bv,bw,bx,rfl,fR,kr,iP,List.drop_zero,h⟩
           ·rintro _ _ k7 ⟨dB,bf,aX,aY,bg,bh,bi,rfl,rfl,a7,aH,a8,h⟩;rcases aX with _ | ⟨⟨iQ,iR,iS,iT,iU⟩,aX⟩
            ·unfold abF at h;exact gD 7 [6,2] aH (bcm (r:=false) rfl rfl (congrArg some (aal a8)) (go 15 (⟨_,bf,bg,bh,bi,fR,a7,aH,h⟩)))
            ·unfold abF at h;refine gD 7 [6,2] aH (bcm (r:=true) rfl rfl (congrArg some (aak a8)) (gP 14 [2,1] aH (bC 237 h (fun _ h=>?_) (fun _ h=>?_))))
             ·refine gD 10 [6,2] aH ?_;obtain ⟨iV,iW,k8,iX,k9,iY,dC⟩:=((me ci ((((((((((d.sub.trans e.sub).trans f).trans l).trans p).trans y).trans D).trans O).trans aj).trans ak).trans a7))).row.at_ (aaj a8);obtain ⟨iZ,i0,rfl,la,lc⟩:=aan.open dC;refine idxN (b:=iV) (o:=iW) (i:=aY) ack abp rfl iX rfl (aab a8) (lD (vE iQ iR iS iT iZ iU i0) adO abp rfl (fun j v hj=>aH.cell (kr.cell (iY j v hj))) (go 1 (bar (r:=(w64 (z + 1))) rfl rfl rfl (cB h avf (fun _ i1=>(auz k) i1 (hG.mono ((((((((((d.sub.trans e.sub).trans f).trans l).trans p).trans y).trans D).trans O).trans aj).trans ak).trans a7)) dC (pt aH)) ?_))));rintro ⟨i2,i3,i4⟩ _ ld ⟨i5,rfl,dD⟩ h;have i6:=ca dD aH;exact go 5 (bar (r:=((aY + 1:Nat):Int)) rfl rfl (aaK (aaM (((me ci ((((((((((d.sub.trans e.sub).trans f).trans l).trans p).trans y).trans D).trans O).trans aj).trans ak).trans a7))).len) (by decide) (aab a8))) (go 3 (⟨_,Nat.lt_succ_self _,_,i5,aX,aY + 1,i2,i3,i4,rfl,fR,(a7.trans dD.sub),i6,aag a8,h⟩)))
             ·exact gd 6 (⟨_,bf,bg,bh,bi,fR,a7,aH,h⟩)
          ·rintro _ lf ⟨dA,b4,b5,b6,b7,rfl,ar,b8,h⟩;unfold aeU at h;refine gD 6 [7,2] b8 (bar (r:=(w64 (z + 1))) rfl rfl rfl (cB h amT (fun _ i7=>IH118 i7 (hG.mono ((((((((((d.sub.trans e.sub).trans f).trans l).trans p).trans y).trans D).trans O).trans aj).trans ak).trans ar)) (ms dS ((((((((((d.sub.trans e.sub).trans f).trans l).trans p).trans y).trans D).trans O).trans aj).trans ak).trans ar)) (pt b8)) ?_));rintro ⟨lg,lh,li⟩ _ lj ⟨lk,rfl,aA⟩ h;have b9:=ca aA b8;refine gP 8 [8,2] b9 (bar (r:=(w64 (z + 1))) rfl rfl rfl (cB h amT (fun _ i8=>IH118 i8 (hG.mono (((((((((((d.sub.trans e.sub).trans f).trans l).trans p).trans y).trans D).trans O).trans aj).trans ak).trans ar).trans aA.sub)) (ms dT (((((((((((d.sub.trans e.sub).trans f).trans l).trans p).trans y).trans D).trans O).trans aj).trans ak).trans ar).trans aA.sub)) (pt b9)) ?_));rintro ⟨ll,lm,ln⟩ _ lo ⟨lp,rfl,aM⟩ h;have cb:=ca aM b9;refine gP 8 [9,2] cb (bar (r:=(w64 (z + 1))) rfl rfl rfl (cB h amT (fun _ i9=>IH118 i9 (hG.mono ((((((((((((d.sub.trans e.sub).trans f).trans l).trans p).trans y).trans D).trans O).trans aj).trans ak).trans ar).trans aA.sub).trans aM.sub)) (ms dU ((((((((((((d.sub.trans e.sub).trans f).trans l).trans p).trans y).trans D).trans O).trans aj).trans ak).trans ar).trans aA.sub).trans aM.sub)) (pt cb)) ?_));rintro ⟨ja,jb,jc⟩ _ lq ⟨dE,rfl,a9⟩ h;have jd:=ca a9 cb;refine go 8 (aaC (fun g_ a w=>∃ dF ba aN,∃ (au:Nat),∃ cc ce cf,g_=aN.length∧a=fr 307 (updL dF [(0,pp g 0),(2,iI z),(4,pp (zz wi) 0),(9,iI (au:Int))])∧KH.sub dE ba∧SR K ba wi w [.box bs g #[iI I,iI J,.bool N] 104] [.box bs g #[iI cc,iI ce,.bool cf] 104,.box (zz wi) (zz wi) (aS B C S G U s V q W X t Y Z u ab ac x ad ae m af) 62]∧m.drop au=aN∧acS k F m z aN au cc ce cf=some r_) m.length ?_ ?_)
           ·exact ⟨_,dE,m,0,ja,jb,jc,rfl,fR,kr,jd,List.drop_zero,h⟩
           ·rintro _ _ lr ⟨dF,ba,aN,au,cc,ce,cf,rfl,rfl,bb,aI,aZ,h⟩;rcases aN with _ | ⟨⟨dG,je,jf,jg,jh⟩,aN⟩
            ·unfold acS at h;refine gD 7 [10,2] aI (bcm (r:=false) rfl rfl (congrArg some (aal aZ)) (go 14 ?_));cases (oi h).trans hr_;exact end0 rfl ⟨ba,rfl,(aI.sel [0])⟩
            ·unfold acS at h;refine gD 7 [10,2] aI (bcm (r:=true) rfl rfl (congrArg some (aak aZ)) (gP 14 [2,1] aI (bC 278 h (fun _ h=>?_) (fun _ h=>?_))))
             ·refine gd 3 (aav (fun a w=>∃ dH bz bB bD bE,a=fr 307 (updL dH [(0,pp g 0),(2,iI z),(4,pp (zz wi) 0),(9,iI (au:Int))])∧KH.sub ba bz∧SR K bz wi w [.box bs g #[iI I,iI J,.bool N] 104] [.box bs g #[iI bB,iI bD,.bool bE] 104,.box (zz wi) (zz wi) (aS B C S G U s V q W X t Y Z u ab ac x ad ae m af) 62]∧ael k F au bB bD bE (acS k F m z aN)=some r_) ?_ ?_)
              ·refine gD 7 [10,2] aI ?_;obtain ⟨dI,ch,ls,dJ,lu,dK,dL⟩:=((mc cj ((((((((((((((d.sub.trans e.sub).trans f).trans l).trans p).trans y).trans D).trans O).trans aj).trans ak).trans ar).trans aA.sub).trans aM.sub).trans a9.sub).trans bb))).row.at_ (aaj aZ);obtain ⟨ji,jj,jk,jl,rfl,lv,lw,lx⟩:=aaB.open dL;refine idxN (b:=dI) (o:=ch) (i:=au) acX acg rfl dJ rfl (aab aZ) (lD (vC dG je jf ji jg jj jk jh jl) ag5 acg rfl (fun j v hj=>aI.cell (kr.cell (dK j v hj))) (go 1 (bar (r:=(w64 (z + 1))) rfl rfl rfl (cB h ay5 (fun _ jm=>IH169 jm (hG.mono ((((((((((((((d.sub.trans e.sub).trans f).trans l).trans p).trans y).trans D).trans O).trans aj).trans ak).trans ar).trans aA.sub).trans aM.sub).trans a9.sub).trans bb)) dL (pt aI)) ?_))));rintro ⟨ly,lz,lB⟩ _ lE ⟨lF,rfl,bd⟩ h;have a0:=ca bd aI;refine gP 7 [10,2] a0 (idxN (b:=dI) (o:=ch) (i:=au) acX acg rfl dJ rfl (aab aZ) (fd (ch + au * 5 + 0) awe rfl (ld1 (v:=iI dG) Tya3 rfl (a0.cell (bd.sub.cell (dK 0 _ rfl))) (go 2 (bO 298 h (fun _ h=>?_) (fun _ h=>?_))))))
               ·refine go 7 (cB h aaF (fun _ jn=>(aax k) jn (hG.mono (((((((((((((((d.sub.trans e.sub).trans f).trans l).trans p).trans y).trans D).trans O).trans aj).trans ak).trans ar).trans aA.sub).trans aM.sub).trans a9.sub).trans bb).trans bd.sub)) (pt a0)) ?_);rintro ⟨jo,jp,jq⟩ _ lG ⟨jr,rfl,dM⟩ h;have js:=ca dM a0;exact go 3 (⟨_,jr,jo,jp,jq,fR,(bd.sub.trans dM.sub),js,h⟩)
               ·refine gP 9 [10,2] a0 (bar (r:=(w64 ((m.length:Int) - 1))) rfl rfl rfl (go 3 (cB h aaF (fun _ jt=>(aax k) jt (hG.mono (((((((((((((((d.sub.trans e.sub).trans f).trans l).trans p).trans y).trans D).trans O).trans aj).trans ak).trans ar).trans aA.sub).trans aM.sub).trans a9.sub).trans bb).trans bd.sub)) (pt a0)) ?_)));rintro ⟨ju,jv,jw⟩ _ lH ⟨jx,rfl,dN⟩ h;have jy:=ca dN a0;exact go 3 (⟨_,jx,ju,jv,jw,fR,(bd.sub.trans dN.sub),jy,h⟩)
              ·rintro _ lI ⟨dH,bz,bB,bD,bE,rfl,jz,jA,h⟩;unfold ael at h;exact gd 2 (bar (r:=((au + 1:Nat):Int)) rfl rfl (aaK (aaM (((mc cj ((((((((((((((d.sub.trans e.sub).trans f).trans l).trans p).trans y).trans D).trans O).trans aj).trans ak).trans ar).trans aA.sub).trans aM.sub).trans a9.sub).trans bb))).len) (by decide) (aab aZ))) (go 3 (⟨_,Nat.lt_succ_self _,_,bz,aN,au + 1,bB,bD,bE,rfl,fR,(bb.trans jz),jA,aag aZ,h⟩)))
             ·refine gd 5 ?_;cases (oi h).trans hr_;exact end0 rfl ⟨ba,rfl,(aI.sel [0])⟩
theorem apO (k:Nat) (F:abz) (IH118:acZ F.f118) (IH142:ac3 F.f142) (IH169:acW F.f169):acW (ajQ k F):=by
 unfold acW;intro K wi g bs y z A aY cC e cD cG cH h hG aZ a0;obtain ⟨r_,hr_,h⟩:=rz h;obtain ⟨t,u,B,f,m⟩:=aY;obtain ⟨I,J,N,O,rfl,a3,ar,a4⟩:=aaB.open aZ;refine aat Tryz.func169 rfl (n:=88) rfl ?_;unfold ajQ at h;refine gI 9 [] [] a0 (fun a5 a6=>?_);have au:=p10 a6;refine cB h aoP (fun _ a7=>(akf k) a7 (hG.mono kr) (pt au)) ?_;rintro ⟨av,aw,ax⟩ _ cI ⟨ay,rfl,d⟩ h;have ac:=ca d au;refine go 7 (aav (fun a w=>∃ az ai,a=fr 88 (updL az [(0,pp g 0),(2,iI e),(4,pp (zz wi) 0),(6,iI ai)])∧SR K ay wi w [.box bs g #[iI y,iI z,.bool A] 104] [.box bs g #[iI av,iI aw,.bool ax] 104,.box (zz wi) (zz wi) (aC' t u B I f J N m O) 84]∧agv k F t u B f m e av aw ax ai=some r_) ?_ ?_)
 ·refine gD 13 [0,2] ac (bC 13 h (fun _ h=>?_) (fun _ h=>?_))
  ·exact gd 6 (⟨_,2,fR,ac,h⟩)
  ·refine gd 7 (bC 15 h (fun _ h=>?_) (fun _ h=>?_))
   ·exact gd 6 (⟨_,0,fR,ac,h⟩)
   ·exact gd 4 (⟨_,1,fR,ac,h⟩)
 ·rintro _ cJ ⟨az,ai,rfl,l,h⟩;unfold agv at h;refine aav (fun a w=>∃ aA ad aj ak al,a=fr 88 (updL aA [(0,pp g 0),(2,iI e),(4,pp (zz wi) 0)])∧KH.sub ay ad∧SR K ad wi w [.box bs g #[iI y,iI z,.bool A] 104] [.box bs g #[iI aj,iI ak,.bool al] 104,.box (zz wi) (zz wi) (aC' t u B I f J N m O) 84]∧afY k F t u f m e aj ak al=some r_) ?_ ?_
  ·refine gD 6 [0,2] l (bO 21 h (fun _ h=>?_) (fun _ h=>?_))
   ·refine gP 8 [0,2] l (bO 26 h (fun _ h=>?_) (fun _ h=>?_))
    ·refine gP 12 [3,2] l (bO 33 h (fun _ h=>?_) (fun _ h=>?_))
     ·refine gP 7 [2,2] l (cB h aaF (fun _ a8=>(aax k) a8 (hG.mono d.sub) (pt l)) ?_);rintro ⟨a9,ba,bb⟩ _ cK ⟨bd,rfl,aB⟩ h;have be:=ca aB l;exact go 2 (⟨_,bd,a9,ba,bb,fR,aB.sub,be,h⟩)
     ·refine go 4 (cB h aaF (fun _ bf=>(aax k) bf (hG.mono d.sub) (pt l)) ?_);rintro ⟨bg,bh,bi⟩ _ cL ⟨bj,rfl,aG⟩ h;have bk:=ca aG l;exact go 2 (⟨_,bj,bg,bh,bi,fR,aG.sub,bk,h⟩)
    ·refine go 11 (cB h aaF (fun _ bm=>(aax k) bm (hG.mono d.sub) (pt l)) ?_);rintro ⟨bn,bo,bp⟩ _ cM ⟨bq,rfl,aH⟩ h;have br:=ca aH l;exact go 2 (⟨_,bq,bn,bo,bp,fR,aH.sub,br,h⟩)
   ·refine go 16 (cB h aaF (fun _ bu=>(aax k) bu (hG.mono d.sub) (pt l)) ?_);rintro ⟨bv,bw,bx⟩ _ cN ⟨bz,rfl,aI⟩ h;have bB:=ca aI l;exact go 2 (⟨_,bz,bv,bw,bx,fR,aI.sub,bB,h⟩)
  ·rintro _ cO ⟨aA,ad,aj,ak,al,rfl,p,q,h⟩;unfold afY at h;refine aav (fun a w=>∃ aJ S ae af ah,a=fr 88 (updL aJ [(0,pp g 0),(2,iI e),(4,pp (zz wi) 0)])∧KH.sub ad S∧SR K S wi w [.box bs g #[iI y,iI z,.bool A] 104] [.box bs g #[iI ae,iI af,.bool ah] 104,.box (zz wi) (zz wi) (aC' t u B I f J N m O) 84]∧aeX k F f m e ae af ah=some r_) ?_ ?_
   ·refine gD 6 [0,2] q (bO 43 h (fun _ h=>?_) (fun _ h=>?_))
    ·refine gP 5 [1,2] q (cB h ae0 (fun _ bD=>(adl k) bD (hG.mono q.sub) a3 (pt q)) ?_);rintro cP _ cQ ⟨cR,rfl,C⟩ h;have x:=ca C q;refine go 2 (bO 48 h (fun _ h=>?_) (fun _ h=>?_))
     ·refine go 9 (cB h aaF (fun _ bE=>(aax k) bE (hG.mono x.sub) (pt x)) ?_);rintro ⟨bF,bG,bH⟩ _ cS ⟨bI,rfl,aK⟩ h;have bJ:=ca aK x;exact go 2 (⟨_,bI,bF,bG,bH,fR,(C.sub.trans aK.sub),bJ,h⟩)
     ·refine gP 8 [0,2] x (bO 52 h (fun _ h=>?_) (fun _ h=>?_))
      ·refine gP 9 [1,2] x (cB h aaF (fun _ bK=>(aax k) bK (hG.mono x.sub) (pt x)) ?_);rintro ⟨bL,bM,bP⟩ _ cU ⟨bQ,rfl,aL⟩ h;have bR:=ca aL x;exact go 2 (⟨_,bQ,bL,bM,bP,fR,(C.sub.trans aL.sub),bR,h⟩)
      ·refine go 6 (cB h aaF (fun _ bS=>(aax k) bS (hG.mono x.sub) (pt x)) ?_);rintro ⟨bT,bU,bV⟩ _ cV ⟨bW,rfl,aM⟩ h;have bX:=ca aM x;exact go 2 (⟨_,bW,bT,bU,bV,fR,(C.sub.trans aM.sub),bX,h⟩)
    ·refine gP 13 [0,2] q (bO 52 h (fun _ h=>?_) (fun _ h=>?_))
     ·refine gP 9 [1,2] q (cB h aaF (fun _ bY=>(aax k) bY (hG.mono q.sub) (pt q)) ?_);rintro ⟨bZ,b0,b1⟩ _ cW ⟨b2,rfl,aN⟩ h;have b3:=ca aN q;exact go 2 (⟨_,b2,bZ,b0,b1,fR,aN.sub,b3,h⟩)
     ·refine go 6 (cB h aaF (fun _ b4=>(aax k) b4 (hG.mono q.sub) (pt q)) ?_);rintro ⟨b5,b6,b7⟩ _ cY ⟨b8,rfl,aP⟩ h;have b9:=ca aP q;exact go 2 (⟨_,b8,b5,b6,b7,fR,aP.sub,b9,h⟩)
   ·rintro _ cZ ⟨aJ,S,ae,af,ah,rfl,W,cb,h⟩;unfold aeX at h;refine aav (fun a w=>∃ aT am an ao ap,a=fr 88 (updL aT [(0,pp g 0),(2,iI e),(4,pp (zz wi) 0)])∧KH.sub S am∧SR K am wi w [.box bs g #[iI y,iI z,.bool A] 104] [.box bs g #[iI an,iI ao,.bool ap] 104,.box (zz wi) (zz wi) (aC' t u B I f J N m O) 84]∧aeK k F m e an ao ap=some r_) ?_ ?_
    ·refine gd 6 (aaC (fun g_ a w=>∃ aU X D,∃ (G:Nat),∃ Y Z ab,g_=D.length∧a=fr 88 (updL aU [(0,pp g 0),(2,iI e),(4,pp (zz wi) 0),(7,iI (G:Int))])∧KH.sub S X∧SR K X wi w [.box bs g #[iI y,iI z,.bool A] 104] [.box bs g #[iI Y,iI Z,.bool ab] 104,.box (zz wi) (zz wi) (aC' t u B I f J N m O) 84]∧f.drop G=D∧acR k F m e D G Y Z ab=some r_) f.length ?_ ?_)
     ·exact ⟨_,S,f,0,ae,af,ah,rfl,fR,kr,cb,List.drop_zero,h⟩
     ·rintro _ _ c3 ⟨aU,X,D,G,Y,Z,ab,rfl,rfl,U,s,V,h⟩;rcases D with _ | ⟨⟨cc,ce,cf,ch,ci⟩,D⟩
      ·unfold acR at h;exact gD 7 [3,2] s (bcm (r:=false) rfl rfl (congrArg some (aal V)) (go 15 (⟨_,X,Y,Z,ab,fR,U,s,h⟩)))
      ·unfold acR at h;refine gD 7 [3,2] s (bcm (r:=true) rfl rfl (congrArg some (aak V)) (gP 14 [2,1] s (bC 70 h (fun _ h=>?_) (fun _ h=>?_))))
       ·refine gD 10 [3,2] s ?_;obtain ⟨cj,ck,c4,cl,c6,cm,aV⟩:=((me ar (((d.sub.trans p).trans W).trans U))).row.at_ (aaj V);obtain ⟨cn,co,rfl,c7,c8⟩:=aan.open aV;refine idxN (b:=cj) (o:=ck) (i:=G) ack abp rfl cl rfl (aab V) (lD (vE cc ce cf ch cn ci co) adO abp rfl (fun j v hj=>s.cell (kr.cell (cm j v hj))) (go 1 (bar (r:=(w64 (e + 1))) rfl rfl rfl (cB h avf (fun _ cq=>(auz k) cq (hG.mono s.sub) aV (pt s)) ?_))));rintro ⟨cr,cs,ct⟩ _ c9 ⟨cu,rfl,aW⟩ h;have cw:=ca aW s;exact go 5 (bar (r:=((G + 1:Nat):Int)) rfl rfl (aaK (aaM (((me ar (((d.sub.trans p).trans W).trans U))).len) (by decide) (aab V))) (go 3 (⟨_,Nat.lt_succ_self _,_,cu,D,G + 1,cr,cs,ct,rfl,fR,(U.trans aW.sub),cw,aag V,h⟩)))
       ·exact gd 6 (⟨_,X,Y,Z,ab,fR,U,s,h⟩)
    ·rintro _ da ⟨aT,am,an,ao,ap,rfl,aX,aq,h⟩;unfold aeK at h;refine gD 5 [4,2] aq (bar (r:=(w64 (e + 1))) rfl rfl rfl (cB h amT (fun _ cx=>IH118 cx (hG.mono (((d.sub.trans p).trans W).trans aX)) (ms a4 (((d.sub.trans p).trans W).trans aX)) (pt aq)) ?_));rintro ⟨db,dc,dd⟩ _ de ⟨cy,rfl,cz⟩ h;have cA:=ca cz aq;refine go 1 ?_;cases (oi h).trans hr_;exact end0 rfl ⟨cy,rfl,(cA.sel [0])⟩
theorem aid (k0:Nat) : ∀ k,acZ (abl k0 k).f118∧ac3 (abl k0 k).f142∧acW (abl k0 k).f169:=by
 intro k;induction k with
 | zero=>exact ⟨(by unfold acZ; intro _ _ _ _ _ _ _ _ _ _ _ _ _ _ h_; cases h_),(by unfold ac3; intro _ _ _ _ _ _ _ _ _ _ _ _ _ h_; cases h_),(by unfold acW; intro _ _ _ _ _ _ _ _ _ _ _ _ _ h_; cases h_)⟩
 | succ k ih=>exact ⟨ast k0 (abl k0 k) ih.1 ih.2.1 ih.2.2,arO k0 (abl k0 k) ih.1 ih.2.1 ih.2.2,apO k0 (abl k0 k) ih.1 ih.2.1 ih.2.2⟩
theorem awm (k:Nat):acZ (f118 k):=(aid k k).1
theorem azF (k:Nat):ac3 (f142 k):=(aid k k).2.1
theorem az8 (k:Nat):acW (f169 k):=(aid k k).2.2
theorem atr (k:Nat):akS (asF k):=by
 unfold akS;intro K wi bz dw dx h hG bB bD;obtain ⟨r_,hr_,h⟩:=rz h;obtain ⟨q⟩:=bz;obtain ⟨A,c1,rfl,a1⟩:=aah.open bB;refine aat Tryz.func85 rfl (n:=126) rfl ?_;unfold asF at h;refine gI 8 [] [[iI 0,iI 0,vN]] bD (fun e f bE=>(bld (cells:=#[iI 0,iI 0,vN]) (vs:=[]) rfl (fun w=>by kernel_rfl) (gR 4 [] [] bE (fun dy ah=>(aav (fun a w=>∃ a2 ai aw ax ay,a=fr 126 (updL a2 [(1,pp (zz wi) 0),(2,pp (zz e) 0),(3,pp (zz f) 0)])∧KH.sub K ai∧SR K ai wi w [] [.box (zz wi) (zz wi) #[sl A q c1] 24,.box (zz wi) (zz e) #[iI 0,iI 0,vN] 104,.box (zz wi) (zz f) #[iI aw,iI ax,.bool ay] 104]∧ama k q aw ax ay=some r_) ?_ ?_)))))
 ·refine gD 7 [0,3] ah (bO 14 h (fun _ h=>?_) (fun _ h=>?_))
  ·refine gP 9 [0,3] ah (cB h aaF (fun _ bF=>(aax k) bF (hG.mono kr) (pt ah)) ?_);rintro ⟨bG,bH,bI⟩ _ dz ⟨bJ,rfl,a3⟩ h;have bK:=ca a3 ah;exact go 2 (⟨_,bJ,bG,bH,bI,fR,a3.sub,(bK.sel [2,1,0]),h⟩)
  ·refine go 5 (cB h aaF (fun _ bL=>(aax k) bL (hG.mono kr) (pt ah)) ?_);rintro ⟨bM,bP,bQ⟩ _ dA ⟨bR,rfl,a4⟩ h;have bS:=ca a4 ah;exact go 2 (⟨_,bR,bM,bP,bQ,fR,a4.sub,(bS.sel [2,1,0]),h⟩)
 ·rintro _ dB ⟨a2,ai,aw,ax,ay,rfl,p,bT,h⟩;unfold ama at h;refine aav (fun a w=>∃ a5 az ar au av,a=fr 126 (updL a5 [(2,pp (zz e) 0),(3,pp (zz f) 0)])∧KH.sub ai az∧SR K az wi w [] [.box (zz wi) (zz e) #[iI 0,iI 0,vN] 104,.box (zz wi) (zz f) #[iI ar,iI au,.bool av] 104]∧aoz k ar au av=some r_) ?_ ?_
  ·refine gd 6 (aaC (fun g_ a w=>∃ a6 aj B,∃ (s:Nat),∃ ak al am,g_=B.length∧a=fr 126 (updL a6 [(1,pp (zz wi) 0),(2,pp (zz e) 0),(3,pp (zz f) 0),(4,iI (s:Int))])∧KH.sub ai aj∧SR K aj wi w [] [.box (zz wi) (zz wi) #[sl A q c1] 24,.box (zz wi) (zz e) #[iI 0,iI 0,vN] 104,.box (zz wi) (zz f) #[iI ak,iI al,.bool am] 104]∧q.drop s=B∧abX k B s ak al am=some r_) q.length ?_ ?_)
   ·exact ⟨_,ai,q,0,aw,ax,ay,rfl,fR,kr,bT,List.drop_zero,h⟩
   ·rintro _ _ z ⟨a6,aj,B,s,ak,al,am,rfl,rfl,g,Y,an,h⟩;rcases B with _ | ⟨⟨C,u,D,G,I,x⟩,B⟩
    ·unfold abX at h;exact gD 7 [0,1] Y (bcm (r:=false) rfl rfl (congrArg some (aal an)) (go 15 (⟨_,aj,ak,al,am,fR,g,(Y.sel [1,2]),h⟩)))
    ·unfold abX at h;refine gD 7 [0,1] Y (bcm (r:=true) rfl rfl (congrArg some (aak an)) (gP 14 [2,3] Y (bC 32 h (fun _ h=>?_) (fun _ h=>?_))))
     ·refine gD 10 [0,1] Y ?_;obtain ⟨bU,bV,dC,bW,dD,bX,bY⟩:=((mf a1 (p.trans g))).row.at_ (aaj an);obtain ⟨J,N,O,S,rfl,bZ,a7,b0⟩:=aar.open bY;refine idxN (b:=bU) (o:=bV) (i:=s) ac4 ab0 rfl bW rfl (aab an) (lD (vF C J u N D G I O x S) aht ab0 rfl (fun j v hj=>Y.cell (kr.cell (bX j v hj))) (gR 7 [0] [[sE,nS,iI 0,vN,iI 0,nS]] Y (fun dE b1 b2=>?_)));have a8:=azS b2;refine cB h aoP (fun _ b3=>(akf k) b3 (hG.mono a8.sub) (pt a8)) ?_;rintro ⟨dF,dG,dH⟩ _ dI ⟨b4,rfl,m⟩ h;have aT:=ca m a8;refine go 2 (aav (fun a w=>∃ a9 ao aA aB aG,a=fr 126 (updL a9 [(1,pp (zz wi) 0),(2,pp (zz e) 0),(3,pp (zz f) 0),(4,iI (s:Int)),(5,pp (zz z) 0)])∧KH.sub b4 ao∧SR K ao wi w [] [.box (zz wi) (zz wi) #[sl A q c1] 24,.box (zz wi) (zz e) #[iI 0,iI 0,vN] 104,.box (zz wi) (zz f) #[iI aA,iI aB,.bool aG] 104,.box (zz wi) (zz z) (aF C J u N D G I O x S) 52]∧afx k s u x aA aB aG (abX k B)=some r_) ?_ ?_)
      ·refine gD 4 [0,2] aT (cB h ae0 (fun _ b5=>(adl k) b5 (hG.mono aT.sub) bZ (pt aT)) ?_);rintro dJ _ dK ⟨dL,rfl,t⟩ h;have d:=ca t aT;refine go 1 (bO 46 h (fun _ h=>?_) (fun _ h=>?_))
       ·refine gP 10 [1,2] d (bO 52 h (fun _ h=>?_) (fun _ h=>?_))
        ·refine gP 8 [2,2] d (bO 57 h (fun _ h=>?_) (fun _ h=>?_))
         ·refine gP 8 [2,2] d (bO 62 h (fun _ h=>?_) (fun _ h=>?_))
          ·refine gP 8 [3,2] d (bO 66 h (fun _ h=>?_) (fun _ h=>?_))
           ·refine gP 14 [4,2] d (cB h aaF (fun _ b6=>(aax k) b6 (hG.mono d.sub) (pt d)) ?_);rintro ⟨b7,b8,b9⟩ _ dM ⟨cb,rfl,ba⟩ h;have cc:=ca ba d;exact go 2 (⟨_,cb,b7,b8,b9,fR,(t.sub.trans ba.sub),(cc.sel [2,3,0,1]),h⟩)
           ·refine gP 10 [2,2] d (bO 72 h (fun _ h=>?_) (fun _ h=>?_))
            ·refine gP 7 [4,2] d (cB h aaF (fun _ ce=>(aax k) ce (hG.mono d.sub) (pt d)) ?_);rintro ⟨cf,ch,ci⟩ _ dN ⟨cj,rfl,bb⟩ h;have ck:=ca bb d;exact go 2 (⟨_,cj,cf,ch,ci,fR,(t.sub.trans bb.sub),(ck.sel [2,3,0,1]),h⟩)
            ·refine go 4 (cB h aaF (fun _ cl=>(aax k) cl (hG.mono d.sub) (pt d)) ?_);rintro ⟨cm,cn,co⟩ _ dO ⟨cq,rfl,bd⟩ h;have cr:=ca bd d;exact go 2 (⟨_,cq,cm,cn,co,fR,(t.sub.trans bd.sub),(cr.sel [2,3,0,1]),h⟩)
          ·refine go 14 (cB h aaF (fun _ cs=>(aax k) cs (hG.mono d.sub) (pt d)) ?_);rintro ⟨ct,cu,cw⟩ _ dP ⟨cx,rfl,be⟩ h;have cy:=ca be d;exact go 2 (⟨_,cx,ct,cu,cw,fR,(t.sub.trans be.sub),(cy.sel [2,3,0,1]),h⟩)
         ·refine go 19 (cB h aaF (fun _ cz=>(aax k) cz (hG.mono d.sub) (pt d)) ?_);rintro ⟨cA,cC,cD⟩ _ dQ ⟨cG,rfl,bf⟩ h;have cH:=ca bf d;exact go 2 (⟨_,cG,cA,cC,cD,fR,(t.sub.trans bf.sub),(cH.sel [2,3,0,1]),h⟩)
        ·refine go 24 (cB h aaF (fun _ cI=>(aax k) cI (hG.mono d.sub) (pt d)) ?_);rintro ⟨cJ,cK,cL⟩ _ dR ⟨cM,rfl,bg⟩ h;have cN:=ca bg d;exact go 2 (⟨_,cM,cJ,cK,cL,fR,(t.sub.trans bg.sub),(cN.sel [2,3,0,1]),h⟩)
       ·refine go 30 (cB h aaF (fun _ cO=>(aax k) cO (hG.mono d.sub) (pt d)) ?_);rintro ⟨cP,cQ,cR⟩ _ dS ⟨cS,rfl,bh⟩ h;have cU:=ca bh d;exact go 2 (⟨_,cS,cP,cQ,cR,fR,(t.sub.trans bh.sub),(cU.sel [2,3,0,1]),h⟩)
      ·rintro _ dT ⟨a9,ao,aA,aB,aG,rfl,U,cV,h⟩;unfold afx at h;refine aav (fun a w=>∃ bi aH aI aJ aK,a=fr 126 (updL bi [(1,pp (zz wi) 0),(2,pp (zz e) 0),(3,pp (zz f) 0),(4,iI (s:Int)),(5,pp (zz z) 0)])∧KH.sub ao aH∧SR K aH wi w [] [.box (zz wi) (zz wi) #[sl A q c1] 24,.box (zz wi) (zz e) #[iI 0,iI 0,vN] 104,.box (zz wi) (zz f) #[iI aI,iI aJ,.bool aK] 104,.box (zz wi) (zz z) (aF C J u N D G I O x S) 52]∧af9 k s x aI aJ aK (abX k B)=some r_) ?_ ?_
       ·refine gd 6 (aaC (fun g_ a w=>∃ bj ap Z,∃ (y:Nat),∃ ab ac ad,g_=Z.length∧a=fr 126 (updL bj [(1,pp (zz wi) 0),(2,pp (zz e) 0),(3,pp (zz f) 0),(4,iI (s:Int)),(5,pp (zz z) 0),(6,iI (y:Int))])∧KH.sub ao ap∧SR K ap wi w [] [.box (zz wi) (zz wi) #[sl A q c1] 24,.box (zz wi) (zz e) #[iI 0,iI 0,vN] 104,.box (zz wi) (zz f) #[iI ab,iI ac,.bool ad] 104,.box (zz wi) (zz z) (aF C J u N D G I O x S) 52]∧u.drop y=Z∧ae2 k s x (abX k B) Z y ab ac ad=some r_) u.length ?_ ?_)
        ·exact ⟨_,ao,u,0,aA,aB,aG,rfl,fR,kr,cV,List.drop_zero,h⟩
        ·rintro _ _ dU ⟨bj,ap,Z,y,ab,ac,ad,rfl,rfl,V,W,ae,h⟩;rcases Z with _ | ⟨⟨cW,bk⟩,Z⟩
         ·unfold ae2 at h;exact gD 7 [1,4] W (bcm (r:=false) rfl rfl (congrArg some (aal ae)) (go 15 (⟨_,ap,ab,ac,ad,fR,V,W,h⟩)))
         ·unfold ae2 at h;refine gD 7 [1,4] W (bcm (r:=true) rfl rfl (congrArg some (aak ae)) (gP 14 [2,3] W (bC 89 h (fun _ h=>?_) (fun _ h=>?_))))
          ·refine gd 3 (aav (fun a w=>∃ bm aL aM aN aP,a=fr 126 (updL bm [(1,pp (zz wi) 0),(2,pp (zz e) 0),(3,pp (zz f) 0),(4,iI (s:Int)),(5,pp (zz z) 0),(6,iI (y:Int))])∧KH.sub ap aL∧SR K aL wi w [] [.box (zz wi) (zz wi) #[sl A q c1] 24,.box (zz wi) (zz e) #[iI 0,iI 0,vN] 104,.box (zz wi) (zz f) #[iI aM,iI aN,.bool aP] 104,.box (zz wi) (zz z) (aF C J u N D G I O x S) 52]∧ajR k y aM aN aP (ae2 k s x (abX k B) Z)=some r_) ?_ ?_)
           ·refine gD 6 [1,4] W ?_;obtain ⟨aU,aq,dV,aV,dW,aW,cY⟩:=((mp a7 ((m.sub.trans U).trans V))).row.at_ (aaj ae);obtain ⟨rfl,cZ⟩:=aaN.open cY;refine idxN (b:=aU) (o:=aq) (i:=y) ajk ajn rfl aV rfl (aab ae) (fd (aq + y * 2 + 0) arE rfl (ld1 (v:=.string cW) Tya9 rfl (W.cell (kr.cell (aW 0 _ rfl))) (cB h ae0 (fun _ c2=>(adl k) c2 (hG.mono W.sub) cZ (pt W)) ?_)));rintro dX _ aX ⟨aY,rfl,X⟩ h;have af:=ca X W;refine go 1 (bO 100 h (fun _ h=>?_) (fun _ h=>?_))
            ·refine gP 7 [1,4] af (idxN (b:=aU) (o:=aq) (i:=y) ajk ajn rfl aV rfl (aab ae) (go 1 (fd (aq + y * 2 + 1) arW rfl (go 1 (ld1 (v:=iI bk) Tya3 rfl (af.cell (X.sub.cell (aW 1 _ rfl))) (go 4 (bO 109 h (fun _ h=>?_) (fun _ h=>?_))))))))
             ·refine gP 7 [1,4] af (idxN (b:=aU) (o:=aq) (i:=y) ajk ajn rfl aV rfl (aab ae) (go 1 (fd (aq + y * 2 + 1) arW rfl (go 1 (ld1 (v:=iI bk) Tya3 rfl (af.cell (X.sub.cell (aW 1 _ rfl))) (go 3 ?_))))));have bn:=as1 af;refine cB h aaF (fun _ c3=>(aax k) c3 (hG.mono (((((p.trans g).trans m.sub).trans U).trans V).trans X.sub)) (pt bn)) ?_;rintro ⟨c4,c5,c6⟩ _ dY ⟨c7,rfl,bo⟩ h;have c8:=ca bo bn;exact go 3 (⟨_,c7,c4,c5,c6,fR,(X.sub.trans bo.sub),(c8.sel [1,2,0,3]),h⟩)
             ·refine go 8 ?_;have bp:=as1 af;refine cB h aaF (fun _ c9=>(aax k) c9 (hG.mono (((((p.trans g).trans m.sub).trans U).trans V).trans X.sub)) (pt bp)) ?_;rintro ⟨da,db,dc⟩ _ dZ ⟨dd,rfl,bq⟩ h;have de:=ca bq bp;exact go 3 (⟨_,dd,da,db,dc,fR,(X.sub.trans bq.sub),(de.sel [1,2,0,3]),h⟩)
            ·refine go 17 ?_;have br:=as1 af;refine cB h aaF (fun _ df=>(aax k) df (hG.mono (((((p.trans g).trans m.sub).trans U).trans V).trans X.sub)) (pt br)) ?_;rintro ⟨dg,dh,di⟩ _ d0 ⟨dj,rfl,bs⟩ h;have dk:=ca bs br;exact go 3 (⟨_,dj,dg,dh,di,fR,(X.sub.trans bs.sub),(dk.sel [1,2,0,3]),h⟩)
           ·rintro _ d1 ⟨bm,aL,aM,aN,aP,rfl,dl,dm,h⟩;unfold ajR at h;exact gd 2 (bar (r:=((y + 1:Nat):Int)) rfl rfl (aaK (aaM (((mp a7 ((m.sub.trans U).trans V))).len) (by decide) (aab ae))) (go 3 (⟨_,Nat.lt_succ_self _,_,aL,Z,y + 1,aM,aN,aP,rfl,fR,(V.trans dl),dm,aag ae,h⟩)))
          ·exact gd 6 (⟨_,ap,ab,ac,ad,fR,V,W,h⟩)
       ·rintro _ dn ⟨bi,aH,aI,aJ,aK,rfl,aZ,bu,h⟩;unfold af9 at h;refine gD 4 [5,4] bu ?_;have bv:=as1 bu;refine cB h amT (fun _ dp=>(awm k) dp (hG.mono ((((p.trans g).trans m.sub).trans U).trans aZ)) (ms b0 ((m.sub.trans U).trans aZ)) (pt bv)) ?_;rintro ⟨dq,dr,ds⟩ _ d2 ⟨dt,rfl,bw⟩ h;have du:=ca bw bv;exact go 5 (bar (r:=((s + 1:Nat):Int)) rfl rfl (aaK (aaM (((mf a1 (p.trans g))).len) (by decide) (aab an))) (go 3 (⟨_,Nat.lt_succ_self _,_,dt,B,s + 1,dq,dr,ds,rfl,fR,((((g.trans m.sub).trans U).trans aZ).trans bw.sub),(du.sel [1,2,0]),aag an,h⟩)))
     ·exact gd 6 (⟨_,aj,ak,al,am,fR,g,(Y.sel [1,2]),h⟩)
  ·rintro _ d3 ⟨a5,az,ar,au,av,rfl,d4,dv,h⟩;unfold aoz at h;refine gI 9 [0,1,3,0] [] dv (fun d5 bx=>?_);cases (oi h).trans hr_;exact aau rfl (resN (i:=0) (l:=[iI ar,iI au,.bool av]) bx rfl ayA ayE rfl rfl rfl) ⟨az,[iI ar,iI au,.bool av],rfl,(bx.sel []),.mk⟩
theorem axO (k:Nat):akS (f85 k):=atr k
theorem atG (k:Nat):akp (atd k):=by
 unfold akp;intro K wi d r s h hG e f;obtain ⟨r_,hr_,h⟩:=rz h;obtain ⟨t⟩:=d;obtain ⟨x,c1,rfl,g⟩:=aah.open e;refine aat Tryz.func59 rfl (n:=7) rfl ?_;unfold atd at h;refine gI 9 [0,0,1] [] f (fun y a=>(cB h azw (fun _ i=>(axO k) i (hG.mono kr) (aah.intro g) (pt a)) ?_));rintro ⟨j,l,b⟩ _ z ⟨m,A,rfl,o,p⟩ h;have q:=ca o a;obtain rfl:=adC.open p;refine fva (v:=.agg #[iI j,iI l,.bool b]) (u:=.bool b) rfl (fun w=>by kernel_rfl) (go 5 ?_);cases (oi h).trans hr_;exact aau rfl (resT rfl) ⟨m,rfl,(q.sel [])⟩
theorem auQ (k:Nat):akp (f59 k):=atG k
theorem ata (k:Nat):alI (asB k):=by
 unfold alI;intro K wi m y z h hG o p;obtain ⟨r_,hr_,h⟩:=rz h;obtain ⟨A⟩:=m;obtain ⟨B,c1,rfl,q⟩:=aah.open o;refine aat Tryz.func37 rfl (n:=12) rfl ?_;unfold asB at h;refine gI 6 [] [] p (fun C b=>(aav (fun a w=>∃ g d e,a=fr 12 (updL g [(2,.bool e)])∧KH.sub K d∧SR K d wi w [] []∧alT k e=some r_) ?_ ?_))
 ·refine gD 6 [0,1] b (bO 7 h (fun _ h=>?_) (fun _ h=>?_))
  ·refine gP 3 [0,0,1] b (cB h ax3 (fun _ r=>(aug k) r (hG.mono kr) (aah.intro q) (pt b)) ?_);rintro ⟨D⟩ _ G ⟨I,J,rfl,f,i⟩ h;have j:=ca f b;obtain ⟨N,O,rfl,S⟩:=aah.open i;refine go 1 (cB h ay3 (fun _ s=>(auQ k) s (hG.mono f.sub) i (pt j)) ?_);rintro t _ U ⟨u,rfl,l⟩ h;have v:=ca l j;exact go 4 (⟨_,u,t,fR,(f.sub.trans l.sub),(v.sel []),h⟩)
  ·exact go 7 (⟨_,K,false,fR,kr,(b.sel []),h⟩)
 ·rintro _ V ⟨g,d,e,rfl,W,x,h⟩;unfold alT at h;refine gd 1 ?_;cases (oi h).trans hr_;exact aau rfl (resT rfl) ⟨d,rfl,x⟩
theorem ay8 (k:Nat):alI (f37 k):=ata k
theorem as7 (k:Nat):ala (aph k):=by
 unfold ala;intro K wi g s t l C h hG m D u;obtain ⟨r_,hr_,h⟩:=rz h;refine aat Tryz.func60 rfl (n:=20) rfl ?_;unfold aph at h;refine gd 12 (aaC (fun g_ a w=>∃ p e,∃ (d:Nat),g_=e.length∧a=fr 20 (updL p [(0,sl s g t),(1,.string l),(5,iI (d:Int))])∧SR K K wi w [] []∧g.drop d=e∧ad0 k l e d=some r_) g.length ?_ ?_)
 ·exact ⟨_,g,0,rfl,fR,u,List.drop_zero,h⟩
 ·rintro _ _ G ⟨p,e,d,rfl,rfl,j,f,h⟩;rcases e with _ | ⟨⟨x,I,J,N,O,S⟩,e⟩
  ·unfold ad0 at h;refine gd 6 (bcm (r:=false) rfl rfl (congrArg some (aal f)) (go 14 ?_));cases (oi h).trans hr_;exact aau rfl (resT rfl) ⟨K,rfl,j⟩
  ·unfold ad0 at h;refine gd 6 (bcm (r:=true) rfl rfl (congrArg some (aak f)) (go 11 ?_));obtain ⟨y,q,U,z,V,A,B⟩:=(m).row.at_ (aaj f);obtain ⟨W,X,Y,Z,rfl,ab,ac,ad⟩:=aar.open B;refine idxN (b:=y) (o:=q) (i:=d) ac4 ab0 rfl z rfl (aab f) (fd (q + d * 6 + 0) arq rfl (ld1 (v:=.string x) Tya9 rfl (j.cell (kr.cell (A 0 _ rfl))) (go 4 (bC 18 h (fun _ h=>?_) (fun _ h=>?_)))))
   ·refine gd 13 ?_;cases (oi h).trans hr_;exact aau rfl (resT rfl) ⟨K,rfl,j⟩
   ·exact gd 6 (bar (r:=((d + 1:Nat):Int)) rfl rfl (aaK (aaM ((m).len) (by decide) (aab f))) (go 3 (⟨_,Nat.lt_succ_self _,_,e,d + 1,rfl,fR,j,aag f,h⟩)))
theorem aqd (k:Nat):ala (f60 k):=as7 k
theorem aqR (k:Nat):aiR (arD k):=by
 unfold aiR;intro K wi g bs br N x y O S z A U V W X B C j p q D d s t G Y Z ah ba bb bd be bf bg bh bi bj bk bm bn h hG ai aj ak al ab am ac ad hbr bo au;obtain ⟨r_,hr_,h⟩:=rz h;refine aat Tryz.func119 rfl (n:=37) rfl ?_;unfold arD at h;refine gd 12 (aaC (fun g_ a w=>∃ an l,∃ (e:Nat),g_=l.length∧a=fr 37 (updL an [(0,pp g 0),(1,.string ah),(5,iI (e:Int))])∧SR K K wi w [.box bs g #[sl x N y,.string O,sl z S A,iI U,.bool V,iI W,sl B X C,sl p j q,sl s d t,iI Y,iI Z] 109,eW br p j q 9 1 D,eW br s d t 3 1 G] [.box bs g #[sl x N y,.string O,sl z S A,iI U,.bool V,iI W,sl B X C,sl p j q,sl s d t,iI Y,iI Z] 109,eW br p j q 9 1 D,eW br s d t 3 1 G]∧d.drop e=l∧ae1 k N O S U V W X j d Y Z ah l e=some r_) d.length ?_ ?_)
 ·exact ⟨_,d,0,rfl,fR,au,List.drop_zero,h⟩
 ·rintro _ _ bp ⟨an,l,e,rfl,rfl,I,m,h⟩;rcases l with _ | ⟨u,l⟩
  ·unfold ae1 at h;refine gD 9 [8,1] I (bcm (r:=false) rfl rfl (congrArg some (aal m)) (go 14 ?_));have e_:=(Option.some.inj h).trans hr_;obtain ⟨av,aw⟩:=Prod.mk.inj e_;obtain ⟨ax,ay,az,aA,aB,aG⟩:=aas.mk.inj av;subst ax;obtain ⟨aH,aI,aJ,aK,aL,aM⟩:=aac.mk.inj ay;subst aH;subst aI;subst aJ;subst aK;subst aL;subst aM;subst az;subst aA;subst aB;subst aG;subst aw;exact aau rfl (resT rfl) ⟨K,x,y,z,A,B,C,p,q,D,s,t,G,rfl,I,ai,aj,ak,al,ab,am,ac,ad⟩
  ·unfold ae1 at h;refine gD 9 [8,1] I (bcm (r:=true) rfl rfl (congrArg some (aak m)) (go 8 (rB [] I (fun f J=>(ag 9 [0,1,2,7,3,1,4,5,6,8,7,1,8] (aaY J) ?_)))));obtain ⟨ae,bq,ao,bu,aN,ap⟩:=aiQ (f.entAt (i:=2) rfl) ac (aaj m);obtain rfl:=aN;refine kK 9 (pp ae (0 + e * 1)) rfl (fun w=>amy (b:=ae) (o:=0) (i:=e) abv Tys3 rfl ao rfl (aab m)) J (tT 10 (iI u) [] rfl (fq [0,1,2] f) (fun w hF=>afS (v:=iI u) Tya3 rfl (ap _ (hF.entAt (i:=2) rfl) 0 _ rfl)) ?_);obtain ⟨aq,af,h⟩:=ob h;obtain ⟨ar,bv,aP,bw,aT,aU⟩:=aiQ (f.entAt (i:=1) rfl) ab (aaA af).1;obtain ⟨rfl,bx⟩:=aT;refine kK 11 (pp ar (0 + u.toNat * 1)) rfl (fun w=>adj (b:=ar) (o:=0) (i:=u) ai8 Tys9 rfl aP rfl (aaA af).2.1 (aaA af).2.2) J (tT 12 (.string aq) [] rfl (fq [0,1,2] f) (fun w hF=>afS (v:=.string aq) Tya9 rfl (aU _ (hF.entAt (i:=1) rfl) 0 _ rfl)) (ag 2 [13,14] (aaY J) (aD (gx 1 (bC 29 h (fun _ h=>?_) (fun _ h=>?_))))))
   ·refine gD 8 [8,1] f (idxN (b:=ae) (o:=0) (i:=e) abv Tys3 rfl ao rfl (aab m) (ld1 (v:=iI u) Tya3 rfl (ap _ (f.entAt (i:=2) rfl) 0 _ rfl) (go 9 ?_)));have e_:=(Option.some.inj h).trans hr_;obtain ⟨aV,aW⟩:=Prod.mk.inj e_;obtain ⟨aX,aY,aZ,a0,a2,a3⟩:=aas.mk.inj aV;subst aX;obtain ⟨a4,a5,a6,a7,a8,a9⟩:=aac.mk.inj aY;subst a4;subst a5;subst a6;subst a7;subst a8;subst a9;subst aZ;subst a0;subst a2;subst a3;subst aW;exact aau rfl (resT rfl) ⟨K,x,y,z,A,B,C,p,q,D,s,t,G,rfl,f,ai,aj,ak,al,ab,am,ac,ad⟩
   ·exact gd 6 (bar (r:=((e + 1:Nat):Int)) rfl rfl (aaK (aaM (ad) (by decide) (aab m))) (go 3 (⟨_,Nat.lt_succ_self _,_,l,e + 1,rfl,fR,f,aag m,h⟩)))
theorem anL (k:Nat):aiR (f119 k):=aqR k
theorem asT (k:Nat):alk (asU k):=by
 unfold alk;intro K wi g bs br v l m x y o p z A B C q r b e f s d i j t D u aI J aJ aK aL aM aN aP aT aU aV aW aX h hG N O S U V W X Y hbr G;obtain ⟨r_,hr_,h⟩:=rz h;refine aat Tryz.func88 rfl (n:=19) rfl ?_;unfold asU at h;refine aav (fun a w=>∃ Z I,a=fr 19 (updL Z [(0,pp g 0),(2,iI J),(14,.bool I)])∧SR K K wi w [.box bs g #[sl l v m,.string x,sl o y p,iI z,.bool A,iI B,sl q C r,sl e b f,sl i d j,iI D,iI u] 109,eW br e b f 9 1 s,eW br i d j 3 1 t] [.box bs g #[sl l v m,.string x,sl o y p,iI z,.bool A,iI B,sl q C r,sl e b f,sl i d j,iI D,iI u] 109,eW br e b f 9 1 s,eW br i d j 3 1 t]∧amG k v x y z A B C b d D u J I=some r_) ?_ ?_
 ·refine gd 4 (bO 8 h (fun _ h=>?_) (fun _ h=>?_))
  ·exact gP 13 [10,1] G (⟨_,(u == 0),fR,G,h⟩)
  ·exact go 8 (⟨_,false,fR,G,h⟩)
 ·rintro _ aY ⟨Z,I,rfl,ab,h⟩;unfold amG at h;refine bC 14 h (fun _ h=>?_) (fun _ h=>?_)
  ·refine gI 8 [10,0] [] ab (fun aZ ac=>?_);have e_:=(Option.some.inj h).trans hr_;obtain ⟨ad,ae,af,ah,ai,aj⟩:=aas.mk.inj e_;subst ad;obtain ⟨ak,al,am,an,ao,ap⟩:=aac.mk.inj ae;subst ak;subst al;subst am;subst an;subst ao;subst ap;subst af;subst ah;subst ai;subst aj;exact end0 rfl ⟨K,l,m,o,p,q,r,e,f,s,i,j,t,rfl,ac,N,O,S,U,V,W,X,Y⟩
  ·refine gd 2 ?_;have e_:=(Option.some.inj h).trans hr_;obtain ⟨aq,ar,au,av,aw,ax⟩:=aas.mk.inj e_;subst aq;obtain ⟨ay,az,aA,aB,aG,aH⟩:=aac.mk.inj ar;subst ay;subst az;subst aA;subst aB;subst aG;subst aH;subst au;subst av;subst aw;subst ax;exact end0 rfl ⟨K,l,m,o,p,q,r,e,f,s,i,j,t,rfl,ab,N,O,S,U,V,W,X,Y⟩
theorem aeD (k:Nat):alk (f88 k):=asT k
theorem atE (k:Nat):ald (asV k):=by
 unfold ald;intro K wi g bs br N O S U V W X Y Z ab ac ad ae d m o af f q r ah ai aj b bP bQ bR bS bT bU bV bW bX bY bZ b0 h hG aJ aK aL aM aN aP aT aU hbr ak s;obtain ⟨r_,hr_,h⟩:=rz h;refine aat Tryz.func86 rfl (n:=42) rfl ?_;unfold asV at h;refine gd 10 (cB h aqu (fun _ aV=>(anL k) aV (hG.mono kr) aJ aK aL aM aN aP aT aU (Nat.le_trans hbr s.size) ak (pt s)) ?_);rintro ⟨⟨b1,⟨b2,b3,b4,b5,b6,b7⟩,b8,b9,cb,cc⟩,ce⟩ _ cf ⟨ch,ci,cj,ck,cl,cm,cn,co,cq,cr,cs,ct,cu,rfl,al,aW,aX,aY,aZ,a0,a2,a3,a4⟩ h;have t:=ca al s;refine go 1 (cB h ahu (fun _ a5=>(aeD k) a5 (hG.mono al.sub) aW aX aY aZ a0 a2 a3 a4 (Nat.le_trans hbr t.size) (pt t)) ?_);rintro ⟨am,⟨an,ao,ap,aq,ar,au⟩,a,l,av,aw⟩ _ cw ⟨u,v,x,y,z,A,B,ax,ay,cx,C,D,a6,rfl,a7,a8,a9,ba,bb,bd,cy,be,cz⟩ h;have az:=ca a7 t;refine gP 13 [7,1] az (rB [] az (fun bf bg=>(ag 10 [0,1,2,7,3,1,4,5,6,8,7,1,8,9] (aaY bg) (aD (gx 7 (bsl (e:=9) (cells:=#[.string b]) (vs:=[(0,.string b)]) bf rfl (aao ai8 Tys9 Tyz9 rfl (by decide) (by decide) rfl) (fun cA bh=>?_)))))));obtain ⟨aA,h⟩:=aaE h;refine apR (R:=RStr) (p:=b) (i:=2) (j:=0) bh rfl rfl ai8 Tyi9 rfl (by decide) rfl rfl bd ⟨rfl,ak⟩ rfl rfl hbr aA (by decide) (fun G I J bi bj bk=>?_);have bm:=p123 bj;refine go 2 (bsl (e:=3) (cells:=#[iI (a.length:Int)]) (vs:=[(0,iI (a.length:Int))]) bm rfl (aao abv Tys3 Tyz3 rfl (by decide) (by decide) rfl) (fun cC bn=>?_));obtain ⟨aB,h⟩:=aaE h;refine apR (R:=(RInt .i64)) (p:=(a.length:Int)) (i:=3) (j:=0) bn rfl rfl abv Tyi3 rfl (by decide) rfl rfl be rfl rfl rfl hbr aB (by decide) (fun aG aH aI bo bp bq=>?_);have bu:=p123 bp;refine gR 15 [7,0,8,0] [] bu (fun cD cG bv=>?_);have e_:=(Option.some.inj h).trans hr_;obtain ⟨bw,bx⟩:=Prod.mk.inj e_;obtain ⟨bz,bB,bD,bE,bF,bG⟩:=aas.mk.inj bw;subst bz;obtain ⟨bH,bI,bJ,bK,bL,bM⟩:=aac.mk.inj bB;subst bH;subst bI;subst bJ;subst bK;subst bL;subst bM;subst bD;subst bE;subst bF;subst bG;subst bx;exact aau rfl (resT rfl) ⟨u,v,x,y,z,A,B,G,I,J,aG,aH,aI,rfl,bv,a8,a9,ba,bb,bk,(aaG aA),bq,(aaG aB)⟩
theorem asj (k:Nat):ald (f86 k):=atE k
theorem aqr (k:Nat) (F:aiu) (IH143:adm F.f143) (IH170:adA F.f170):adm (arZ k F):=by
 unfold adm;intro K wi g bs br aq ar au av aw ax ay az aA aB aG aH aI l D G aJ m I J aK aL aM O bP bQ cR cS cU cV cW cY cZ c2 c3 c4 c5 c6 h hG bR bS bT bU bV bW bX bY hbr a5 bZ;obtain ⟨r_,hr_,h⟩:=rz h;refine aat Tryz.func143 rfl (n:=23) rfl ?_;unfold arZ at h;refine gd 17 ?_;have b0:=bZ.row_ (zz wi) 35 5;refine aaC (fun g_ a w=>∃ a6 d q,∃ (s:Nat),∃ S U V W X Y Z aN aP aT ab ac ad t ae af ah u ai aj ak aU aV f al am aW,g_=q.length∧a=fr 23 (updL a6 [(0,pp g 0),(1,sl bP O bQ),(5,sl al f am),(6,iI (s:Int))])∧KH.sub K d∧SR K d wi w [.box bs g #[sl ar aq au,.string av,sl ax aw ay,iI az,.bool aA,iI aB,sl aH aG aI,sl D l G,sl I m J,iI aL,iI aM] 109,eW br D l G 9 1 aJ,eW br I m J 3 1 aK] [.box bs g #[sl U S V,.string W,sl Y X Z,iI aN,.bool aP,iI aT,sl ac ab ad,sl ae t af,sl ai u aj,iI aU,iI aV] 109,eW br ae t af 9 1 ah,eW br ai u aj 3 1 ak,eW (zz wi) al f am 35 5 aW]∧O.drop s=q∧tF d U V S∧W.size ≤ mB∧tP d Y Z X∧tS d ac ad ab∧Reps RStr 1 t ah∧t.length * 16 ≤ mB∧Reps (RInt .i64) 1 u ak∧u.length * 8 ≤ mB∧Reps (aan d) 5 f aW∧f.length * 64 ≤ mB∧aes k F q s S W X aN aP aT ab t u aU aV f=some r_) O.length ?_ ?_
 ·exact ⟨_,K,O,0,aq,ar,au,av,aw,ax,ay,az,aA,aB,aG,aH,aI,l,D,G,aJ,m,I,J,aK,aL,aM,([]:LE),none,0,[],rfl,fR,kr,(b0.sel [1,2,3,0]),List.drop_zero,bR,bS,bT,bU,bV,bW,bX,bY,(aa1 (R:=(aan K)) (size:=5)),(by simp),h⟩
 ·rintro _ _ c7 ⟨a6,d,q,s,S,U,V,W,X,Y,Z,aN,aP,aT,ab,ac,ad,t,ae,af,ah,u,ai,aj,ak,aU,aV,f,al,am,aW,rfl,rfl,an,N,x,a7,a8,a9,ba,bb,bd,be,bf,bg,b1,h⟩;rcases q with _ | ⟨⟨b2,b3,b4,b5,b6⟩,q⟩
  ·unfold aes at h;refine gd 6 (bcm (r:=false) rfl rfl (congrArg some (aal x)) (go 15 ?_));obtain ⟨b7,b8,aX,b9⟩:=ab4 (i:=3) (bytes:=64) (R:=fun K=>(aan K)) N rfl (Nat.le_refl _) bg b1 (fun hs=>(fun _ _ h=>aan.mono hs h));have e_:=(Option.some.inj h).trans hr_;obtain ⟨cb,cc⟩:=Prod.mk.inj e_;obtain ⟨ce,cf,ch,ci,cj,ck⟩:=aas.mk.inj cb;subst ce;obtain ⟨cl,cm,cn,co,cq,cr⟩:=aac.mk.inj cf;subst cl;subst cm;subst cn;subst co;subst cq;subst cr;subst ch;subst ci;subst cj;subst ck;subst cc;exact aau rfl (resT rfl) ⟨b7,U,V,Y,Z,ac,ad,ae,af,ah,ai,aj,ak,al,am,rfl,b8,(mf a7 aX),a8,(mp a9 aX),(ms ba aX),(bb.mono (fun _ _ h=>h)),bd,(be.mono (fun _ _ h=>h)),bf,b9⟩
  ·unfold aes at h;refine gd 6 (bcm (r:=true) rfl rfl (congrArg some (aak x)) (go 12 ?_));obtain ⟨cs,ct,c8,cu,c9,cw,bh⟩:=((me a5 an)).row.at_ (aaj x);obtain ⟨cx,cy,rfl,da,db⟩:=aan.open bh;refine idxN (b:=cs) (o:=ct) (i:=s) ack abp rfl cu rfl (aab x) (lD (vE b2 b3 b4 b5 cx b6 cy) adO abp rfl (fun j v hj=>N.cell (kr.cell (cw j v hj))) (cB h axw (fun _ cz=>IH170 cz (hG.mono an) a7 a8 a9 ba bb bd be bf (Nat.le_trans hbr N.size) bh (pt N)) ?_));rintro ⟨⟨bi,⟨bj,bk,bm,bn,bo,bp⟩,ao,ap,bq,bu⟩,⟨y,z,A,B,C⟩⟩ _ dc ⟨aY,bv,bw,bx,bz,bB,bD,aZ,a0,bE,a2,a3,bF,dd,rfl,a4,cA,cC,cD,cG,cH,cI,cJ,cK,bG⟩ h;have cL:=ca a4 N;obtain ⟨bH,bI,rfl,de,df⟩:=aan.open bG;refine bsl (e:=35) (cells:=(aE y z A B bH C bI)) (vs:=[(0,.agg (aE y z A B bH C bI))]) cL rfl (aao ack abp anR rfl (by decide) (by decide) rfl) (fun dg cM=>?_);obtain ⟨bJ,h⟩:=aaE h;refine apR (R:=(aan aY)) (p:=(aam.mk y z A B C)) (i:=4) (j:=0) cM rfl rfl ack apw rfl (by decide) rfl rfl (bg.mono (fun _ _ h=>aan.mono a4.sub h)) bG rfl rfl (Nat.le_refl _) bJ (by decide) (fun bK bL bM cN cO cP=>?_);have cQ:=amA cO;exact go 6 (bar (r:=((s + 1:Nat):Int)) rfl rfl (aaK (aaM (((me a5 an)).len) (by decide) (aab x))) (go 3 (⟨_,Nat.lt_succ_self _,_,aY,q,s + 1,bi,bv,bw,bj,bk,bx,bz,bm,bn,bo,bp,bB,bD,ao,aZ,a0,bE,ap,a2,a3,bF,bq,bu,(f ++ [(aam.mk y z A B C)]),bK,bL,bM,rfl,fR,(an.trans a4.sub),cQ,aag x,cA,cC,cD,cG,cH,cI,cJ,cK,cP,(aaG bJ),h⟩)))
theorem aql (k:Nat) (F:aiu) (IH143:adm F.f143) (IH170:adA F.f170):adA (amt k F):=by
 unfold adA;intro K wi g bs br v x y z A B C D G I J N O b m o S d p q U V W a6 c3 c4 c5 c6 c7 c8 c9 da db dc dd de df h hG aI aJ aK aL aM aN aP aT hbr a7 a8;obtain ⟨r_,hr_,h⟩:=rz h;obtain ⟨r,s,t,aU,ai⟩:=a6;obtain ⟨az,aA,rfl,aV,a9⟩:=aan.open a7;refine aat Tryz.func170 rfl (n:=24) rfl ?_;unfold amt at h;refine gI 6 [] [[iI 0,iI 0,sE,iI 0,nS]] a8 (fun aj ba X=>(aav (fun a w=>∃ aW e Y ak al Z ab am an ao ap aq ac ar au f ad ae av j af ah aw ax ay u,a=fr 24 (updL aW [(0,pp g 0),(3,pp (zz wi) 0),(4,pp (zz aj) 0)])∧KH.sub K e∧SR K e wi w [.box bs g #[sl x v y,.string z,sl B A C,iI D,.bool G,iI I,sl N J O,sl m b o,sl p d q,iI V,iI W] 109,eW br m b o 9 1 S,eW br p d q 3 1 U] [.box bs g #[sl ak Y al,.string Z,sl am ab an,iI ao,.bool ap,iI aq,sl ar ac au,sl ad f ae,sl af j ah,iI ax,iI ay] 109,.box (zz wi) (zz wi) (aE r s t u az ai aA) 35,.box (zz wi) (zz aj) zE.toArray 35,eW br ad f ae 9 1 av,eW br af j ah 3 1 aw]∧tF e ak al Y∧Z.size ≤ mB∧tP e am an ab∧tS e ar au ac∧Reps RStr 1 f av∧f.length * 16 ≤ mB∧Reps (RInt .i64) 1 j aw∧j.length * 8 ≤ mB∧ai5 k F r s t ai Y Z ab ao ap aq ac f j ax ay u=some r_) ?_ ?_))
 ·refine gD 7 [0,2] X (bC 7 h (fun _ h=>?_) (fun _ h=>?_))
  ·refine gD 6 [2,2] X ?_;have aX:=amL X;refine cB h aqu (fun _ bb=>(anL k) bb (hG.mono kr) aI aJ aK aL aM aN aP aT (Nat.le_trans hbr X.size) aV (pt aX)) ?_;rintro ⟨⟨dg,⟨dh,di,dj,dk,dl,dm⟩,dn,dp,dq,dr⟩,bd⟩ _ ds ⟨dt,du,dv,dw,dx,dy,dz,dA,dB,dC,dD,dE,dF,rfl,aB,be,bf,bg,bh,bi,bj,bk,bm⟩ h;have bn:=ca aB aX;refine gR 9 [3,4,3,5] [] bn (fun dG aG=>(cB h ahu (fun _ bo=>(aeD k) bo (hG.mono aB.sub) be bf bg bh bi bj bk bm (Nat.le_trans hbr aG.size) (pt aG)) ?_));rintro ⟨bp,⟨bq,bu,bv,bw,bx,bz⟩,bB,bD,bE,bF⟩ _ dH ⟨bG,bH,bI,bJ,bK,bL,bM,bP,bQ,bR,bS,bT,bU,rfl,aY,bV,bW,bX,bY,bZ,b0,b1,b2⟩ h;have b3:=ca aY aG;exact go 2 (⟨_,bG,bp,bH,bI,bq,bu,bJ,bK,bv,bw,bx,bz,bL,bM,bB,bP,bQ,bR,bD,bS,bT,bU,bE,bF,bd,fR,(aB.sub.trans aY.sub),(b3.sel [0,4,3,1,2]),bV,bW,bX,bY,bZ,b0,b1,b2,h⟩)
  ·exact gd 3 (⟨_,K,v,x,y,z,A,B,C,D,G,I,J,N,O,b,m,o,S,d,p,q,U,V,W,aU,fR,kr,(X.sel [2,1,0,3,4]),aI,aJ,aK,aL,aM,aN,aP,aT,h⟩)
 ·rintro _ b4 ⟨aW,e,Y,ak,al,Z,ab,am,an,ao,ap,aq,ac,ar,au,f,ad,ae,av,j,af,ah,aw,ax,ay,u,rfl,aZ,aH,b5,b6,b7,b8,b9,cb,cc,ce,h⟩;unfold ai5 at h;refine gD 5 [4,2] aH ?_;have a0:=acm aH;refine cB h aqY (fun _ cf=>IH143 cf (hG.mono aZ) b5 b6 b7 b8 b9 cb cc ce (Nat.le_trans hbr aH.size) (me a9 aZ) (pt a0)) ?_;rintro ⟨⟨dI,⟨dJ,dK,dL,dM,dN,dO⟩,dP,dQ,dR,dS⟩,a2⟩ _ dT ⟨ch,ci,cj,ck,cl,cm,cn,co,cq,cr,cs,ct,cu,a3,a4,rfl,cw,cx,cy,cz,cA,cC,cD,cG,cH,cI⟩ h;have cJ:=ca cw a0;refine gR 11 [4,3,0,3,5,4] [] cJ (fun dU dV a5=>?_);have e_:=(Option.some.inj h).trans hr_;obtain ⟨cK,cL⟩:=Prod.mk.inj e_;obtain ⟨cM,cN,cO,cP,cQ,cR⟩:=aas.mk.inj cK;subst cM;obtain ⟨cS,cU,cV,cW,cY,cZ⟩:=aac.mk.inj cN;subst cS;subst cU;subst cV;subst cW;subst cY;subst cZ;subst cO;subst cP;subst cQ;subst cR;subst cL;exact aau rfl (resN (i:=4) (l:=(vE r s t u a3 a2 a4)) a5 rfl adO abp rfl rfl rfl) ⟨ch,ci,cj,ck,cl,cm,cn,co,cq,cr,cs,ct,cu,(vE r s t u a3 a2 a4),rfl,(a5.sel [0,1,2]),cx,cy,cz,cA,cC,cD,cG,cH,(aan.intro aV cI)⟩
theorem al2 (k0:Nat) : ∀ k,adm (adS k0 k).f143∧adA (adS k0 k).f170:=by
 intro k;induction k with
 | zero=>exact ⟨(by unfold adm; intro _ _ _ _ _ _ _ _ _ _ _ _ _ _ _ _ _ _ _ _ _ _ _ _ _ _ _ _ _ _ _ _ _ _ _ _ _ _ _ _ _ _ _ h_; cases h_),(by unfold adA; intro _ _ _ _ _ _ _ _ _ _ _ _ _ _ _ _ _ _ _ _ _ _ _ _ _ _ _ _ _ _ _ _ _ _ _ _ _ _ _ _ _ _ h_; cases h_)⟩
 | succ k ih=>exact ⟨aqr k0 (adS k0 k) ih.1 ih.2,aql k0 (adS k0 k) ih.1 ih.2⟩
theorem arQ (k:Nat):adm (f143 k):=(al2 k k).1
theorem azx (k:Nat):adA (f170 k):=(al2 k k).2
theorem ari (k:Nat):ah0 (aoB k):=by
 unfold ah0;intro K wi g bs br q r s t u x y z A B C D G a f j I d l m J N O a5 c2 c4 c5 c7 c8 da db dc dd de df dg dh h hG S ah ai aj ak al am an hbr a6 a7;obtain ⟨r_,hr_,h⟩:=rz h;obtain ⟨ao,ap,aq,ar,au,av,aw,ax,ay,az,aA⟩:=a5;obtain ⟨aB,aG,aH,aI,aJ,aK,aL,aM,aN,aP,rfl,di,a8,dj,dk,dl,dm,dn⟩:=aai.open a6;refine aat Tryz.func144 rfl (n:=47) rfl ?_;unfold aoB at h;refine gI 7 [] [] a7 (fun dp a9=>(rB [] a9 (fun aT ba=>(ag 6 [0,1,2,0,3,2,4,3,5,1] (aaY ba) (aQ 6 rfl (cB h awr (fun _ bb=>(aqd k) bb (hG.mono kr) S a8 (pt aT)) ?_))))));rintro p _ aU ⟨aV,rfl,e⟩ h;have U:=ca e aT;refine go 2 (wB (fwOf (is:=[0,1,2,3]) U e.sub rfl) (fun bd=>(ag 1 [7] (aaY bd) (aD (gx 8 (bC 14 h (fun _ h=>?_) (fun _ h=>?_)))))))
 ·refine gd 4 ?_;have aW:=ayn U;refine cB h ahu (fun _ be=>(aeD k) be (hG.mono e.sub) (mf S e.sub) ah (mp ai e.sub) (ms aj e.sub) (ak.mono (fun _ _ h=>h)) al (am.mono (fun _ _ h=>h)) an (Nat.le_trans hbr U.size) (pt aW)) ?_;rintro ⟨dq,⟨dr,ds,dt,du,dv,dw⟩,dx,dy,dz,dA⟩ _ dB ⟨bf,bg,bh,bi,bj,bk,bm,bn,bo,bp,bq,bu,bv,rfl,bw,bx,bz,bB,bD,bE,bF,bG,bH⟩ h;have bI:=ca bw aW;refine go 9 ?_;have e_:=(Option.some.inj h).trans hr_;obtain ⟨bJ,bK⟩:=Prod.mk.inj e_;obtain ⟨bL,bM,bP,bQ,bR,bS⟩:=aas.mk.inj bJ;subst bL;obtain ⟨bT,bU,bV,bW,bX,bY⟩:=aac.mk.inj bM;subst bT;subst bU;subst bV;subst bW;subst bX;subst bY;subst bP;subst bQ;subst bR;subst bS;subst bK;exact aau rfl (resT rfl) ⟨bf,bg,bh,bi,bj,bk,bm,bn,bo,bp,bq,bu,bv,rfl,(bI.sel [0,1,2]),bx,bz,bB,bD,bE,bF,bG,bH⟩
 ·refine gd 4 (rB [13] U (fun ab V=>(ag 6 [0,1,2,3,0,4,2,5] (aaY V) ?_)));obtain ⟨⟨dC,dD,dE,aX,dF,dG⟩,ac,h⟩:=ob h;obtain ⟨ad,W,dH,bZ,dI,b0,b1⟩:=((mf S e.sub)).row.at_ (aaA ac).1;obtain ⟨dJ,dK,dL,dM,rfl,dN,dO,dP⟩:=aar.open b1;refine kK 6 (pp ad (W + p.toNat * 6)) rfl (fun w=>adj (b:=ad) (o:=W) (i:=p) ac4 ab0 rfl bZ rfl (aaA ac).2.1 (aaA ac).2.2) V (kK 7 (pp ad (W + p.toNat * 6 + 3)) rfl (fun w=>ajq (o':=W + p.toNat * 6 + 3) asd rfl rfl) V (tT 8 (.bool aX) [[13,12,8]] rfl (fq [0,1,2,3] ab) (fun w hF=>afS (v:=.bool aX) Tya4 rfl (hF.cell (kr.cell (b0 3 _ rfl)))) (ag 4 [9,0,10,1,11,12] (aaY V) (aQ 13 rfl ?_))));have aY:=ayn ab;refine cB h ahu (fun _ b2=>(aeD k) b2 (hG.mono e.sub) (mf S e.sub) ah (mp ai e.sub) (ms aj e.sub) (ak.mono (fun _ _ h=>h)) al (am.mono (fun _ _ h=>h)) an (Nat.le_trans hbr ab.size) (pt aY)) ?_;rintro ⟨dQ,⟨dR,dS,dT,dU,dV,dW⟩,dX,dY,dZ,d0⟩ _ d1 ⟨d2,d3,d4,d5,d6,d7,d8,d9,ea,ec,ed,ee,ef,rfl,aZ,a0,b3,b4,b5,b6,b7,b8,b9⟩ h;have cb:=ca aZ aY;refine go 2 ⟨hE 13,aD (gx 2 (rB [14] cb (fun X Y=>(ag 9 [0,1,6,2,4,3,4,5,6,0,7,1,8] (aaY Y) ?_))))⟩;obtain ⟨⟨eg,a2,eh,ei,ej,ek⟩,ae,h⟩:=ob h;obtain ⟨af,Z,el,cc,em,ce,cf⟩:=(a0).row.at_ (aaA ae).1;obtain ⟨a3,a4,en,eo,rfl,ep,eq,es⟩:=aar.open cf;refine kK 9 (pp af (Z + p.toNat * 6)) rfl (fun w=>adj (b:=af) (o:=Z) (i:=p) ac4 ab0 rfl cc rfl (aaA ae).2.1 (aaA ae).2.2) Y (kK 10 (pp af (Z + p.toNat * 6 + 1)) rfl (fun w=>ajq (o':=Z + p.toNat * 6 + 1) arI rfl rfl) Y (tT 11 (sl a3 a2 a4) [[14,13,12,11]] rfl (fq [0,1,2,3] X) (fun w hF=>afS (v:=sl a3 a2 a4) ayo rfl (hF.cell (kr.cell (ce 1 _ rfl)))) (ag 2 [12,13] (aaY Y) (aQ 14 rfl (cB h ahu (fun _ ch=>(aeD k) ch (hG.mono (e.sub.trans aZ.sub)) a0 b3 b4 b5 b6 b7 b8 b9 (Nat.le_trans hbr X.size) (pt X)) ?_)))));rintro ⟨et,⟨eu,ew,ex,ey,ez,eA⟩,eB,eC,eD,eF⟩ _ eG ⟨ci,cj,ck,cl,cm,cn,co,cq,cr,cs,ct,cu,cw,rfl,cx,cy,cz,cA,cC,cD,cG,cH,cI⟩ h;have cJ:=ca cx X;refine go 2 ⟨hE 14,aD (gx 8 ?_)⟩;have e_:=(Option.some.inj h).trans hr_;obtain ⟨cK,cL⟩:=Prod.mk.inj e_;obtain ⟨cM,cN,cO,cP,cQ,cR⟩:=aas.mk.inj cK;subst cM;obtain ⟨cS,cU,cV,cW,cY,cZ⟩:=aac.mk.inj cN;subst cS;subst cU;subst cV;subst cW;subst cY;subst cZ;subst cO;subst cP;subst cQ;subst cR;subst cL;exact aau rfl (resT rfl) ⟨ci,cj,ck,cl,cm,cn,co,cq,cr,cs,ct,cu,cw,rfl,(cJ.sel [0,1,2]),cy,cz,cA,cC,cD,cG,cH,cI⟩
theorem awJ (k:Nat):ah0 (f144 k):=ari k
theorem apI (k:Nat):ajg (an6 k):=by
 unfold ajg;intro K wi b r h hG d;obtain ⟨r_,hr_,h⟩:=rz h;refine aat Tryz.func145 rfl (n:=13) rfl ?_;unfold an6 at h;refine gd 12 (aav (fun a w=>∃ f e,a=fr 13 (updL f [(4,.bool e)])∧SR K K wi w [] []∧adu k e=some r_) ?_ ?_)
 ·refine gd 6 (bC 4 h (fun i h=>?_) (fun _ h=>?_))
  ·exact gd 3 (lX 4 i.symm (⟨_,(b == 1),fR,d,h⟩))
  ·refine gd 7 (bC 4 h (fun j h=>?_) (fun _ h=>?_))
   ·exact gd 3 (lX 4 j.symm (⟨_,(b == 3),fR,d,h⟩))
   ·refine gd 7 (bC 4 h (fun l h=>?_) (fun _ h=>?_))
    ·exact gd 3 (lX 4 l.symm (⟨_,(b == 4),fR,d,h⟩))
    ·refine gd 7 (bC 4 h (fun m h=>?_) (fun _ h=>?_))
     ·exact gd 3 (lX 4 m.symm (⟨_,(b == 5),fR,d,h⟩))
     ·refine gd 7 (bC 4 h (fun o h=>?_) (fun _ h=>?_))
      ·exact gd 3 (lX 4 o.symm (⟨_,(b == 6),fR,d,h⟩))
      ·refine gd 7 (bC 4 h (fun p h=>?_) (fun _ h=>?_))
       ·exact gd 3 (lX 4 p.symm (⟨_,(b == 7),fR,d,h⟩))
       ·refine gd 7 (bC 4 h (fun q h=>?_) (fun _ h=>?_))
        ·exact gd 3 (lX 4 q.symm (⟨_,(b == 8),fR,d,h⟩))
        ·exact gd 6 (⟨_,(b == 9),fR,d,h⟩)
 ·rintro _ s ⟨f,e,rfl,g,h⟩;unfold adu at h;refine bC 4 h (fun _ h=>?_) (fun _ h=>?_)
  ·refine gd 9 ?_;cases (oi h).trans hr_;exact aau rfl (resT rfl) ⟨K,rfl,g⟩
  ·refine gd 10 ?_;cases (oi h).trans hr_;exact aau rfl (resT rfl) ⟨K,rfl,g⟩
theorem awb (k:Nat):ajg (f145 k):=apI k
theorem asY (k:Nat) (F:ae4) (IH87:ac9 F.f87) (IH120:acG F.f120) (IH146:acC F.f146) (IH147:acz F.f147):ac9 (arF k F):=by
 unfold ac9;intro K wi g bs br aI aJ aK aL aM aN aP aT aU aV aW aX aY s V W aZ d X Y a0 ab a3 ac cz cA Z dv dw dx dy dz dA dB dC dD dE dF dG h hG cC cD cG cH cI cJ cK cL hbr bi ad;obtain ⟨r_,hr_,h⟩:=rz h;refine aat Tryz.func87 rfl (n:=58) rfl ?_;unfold arF at h;refine gD 23 [8,1,9,1] ad (bar (r:=(w64 (ab + Z))) rfl rfl rfl (gR 17 [9,0] [] ad (fun dH ad=>?_)));have cM:=ad.row_ (zz wi) 62 11;refine aaC (fun g_ a w=>∃ bj f t,∃ (u:Nat),∃ ae af ah ai aj ak al a4 a5 a6 am an ao x ap aq ar q au av aw ax a7 l ay az a8,g_=t.length∧a=fr 58 (updL bj [(0,pp g 0),(1,sl cz ac cA),(2,iI Z),(7,iI (d.length:Int)),(8,sl ay l az),(9,iI (u:Int))])∧KH.sub K f∧SR K f wi w [.box bs g #[sl aJ aI aK,.string aL,sl aN aM aP,iI aT,.bool aU,iI aV,sl aX aW aY,sl V s W,sl X d Y,iI ab,iI a3] 109,eW br V s W 9 1 aZ,eW br X d Y 3 1 a0] [.box bs g #[sl af ae ah,.string ai,sl ak aj al,iI a4,.bool a5,iI a6,sl an am ao,sl ap x aq,sl au q av,iI ax,iI a7] 109,eW br ap x aq 9 1 ar,eW br au q av 3 1 aw,eW (zz wi) ay l az 62 11 a8]∧ac.drop u=t∧tF f af ah ae∧ai.size ≤ mB∧tP f ak al aj∧tS f an ao am∧Reps RStr 1 x ar∧x.length * 16 ≤ mB∧Reps (RInt .i64) 1 q aw∧q.length * 8 ≤ mB∧Reps (aai f) 11 l a8∧l.length * 184 ≤ mB∧ahk k F d Z t u ae ai aj a4 a5 a6 am x q ax a7 l=some r_) ac.length ?_ ?_
 ·exact ⟨_,K,ac,0,aI,aJ,aK,aL,aM,aN,aP,aT,aU,aV,aW,aX,aY,s,V,W,aZ,d,X,Y,a0,(w64 (ab + Z)),a3,([]:LS),none,0,[],rfl,fR,kr,(cM.sel [1,2,3,0]),List.drop_zero,cC,cD,cG,cH,cI,cJ,cK,cL,(aa1 (R:=(aai K)) (size:=11)),(by simp),h⟩
 ·rintro _ _ dI ⟨bj,f,t,u,ae,af,ah,ai,aj,ak,al,a4,a5,a6,am,an,ao,x,ap,aq,ar,q,au,av,aw,ax,a7,l,ay,az,a8,rfl,rfl,aA,y,z,bk,bm,bn,bo,bp,bq,a9,bu,bv,cN,h⟩;rcases t with _ | ⟨⟨bw,bx,bz,bB,bD,bE,bF,bG,bH,bI,bJ⟩,t⟩
  ·unfold ahk at h;refine gd 6 (bcm (r:=false) rfl rfl (congrArg some (aal z)) (gP 16 [9,1] y (bar (r:=(w64 (ax - Z))) rfl rfl rfl (gR 13 [9,0,8,1] [] y (fun dJ bK=>?_)))));obtain ⟨aB,h⟩:=aaE h;refine slH (m:=(q.take (d.length:Int).toNat).length) abv Tys3 rfl rfl aB.1 (Int.le_trans aB.2 (Int.ofNat_le.2 (arM (i:=2) bK rfl))) (agb aB) (have cO:=bK.cut_ (i:=2) (m:=(d.length:Int).toNat) rfl a9 (by have:=aB.2; omega);(gR 12 [8,0] [] cO (fun dK cP=>?_)));obtain ⟨cQ,cR,ba,cS⟩:=ab4 (i:=3) (bytes:=184) (R:=fun K=>(aai K)) cP rfl (Nat.le_refl _) bv cN (fun hs=>(fun _ _ h=>aai.mono hs h));have e_:=(Option.some.inj h).trans hr_;obtain ⟨cU,cV⟩:=Prod.mk.inj e_;obtain ⟨cW,cY,cZ,c2,c3,c4⟩:=aas.mk.inj cU;subst cW;obtain ⟨c5,c6,c7,c8,c9,da⟩:=aac.mk.inj cY;subst c5;subst c6;subst c7;subst c8;subst c9;subst da;subst cZ;subst c2;subst c3;subst c4;subst cV;exact aau rfl (resT rfl) ⟨cQ,af,ah,ak,al,an,ao,ap,aq,ar,au,av,(aw.take ((d.length:Int).toNat * 1)),ay,az,rfl,cR,(mf bk ba),bm,(mp bn ba),(ms bo ba),(bp.mono (fun _ _ h=>h)),bq,((Reps.take a9 _).mono (fun _ _ h=>h)),(aea bu),cS⟩
  ·unfold ahk at h;refine gd 6 (bcm (r:=true) rfl rfl (congrArg some (aak z)) (go 12 ?_));obtain ⟨db,dc,dL,dd,dM,de,bL⟩:=((ms bi aA)).row.at_ (aaj z);obtain ⟨bM,bP,bQ,bR,bS,bT,bU,bV,bW,bX,rfl,dN,dO,dP,dQ,dR,dS,dT⟩:=aai.open bL;refine idxN (b:=db) (o:=dc) (i:=u) ab2 abx rfl dd rfl (aab z) (lD (vS bw bx bz bB bD bE bM bF bP bQ bG bR bS bH bT bU bI bV bW bJ bX) aeH abx rfl (fun j v hj=>y.cell (kr.cell (de j v hj))) ?_);obtain ⟨⟨⟨bY,⟨bZ,b0,b1,b2,b3,b4⟩,aG,aH,b5,b6⟩,⟨A,B,C,D,G,I,J,N,O,S,U⟩⟩,df,h⟩:=ob h;refine cv ([pp g 0,.agg (aS bw bx bz bB bD bE bM bF bP bQ bG bR bS bH bT bU bI bV bW bJ bX)]) axM (IH120 df (hG.mono aA) bk bm bn bo bp bq a9 bu (Nat.le_trans hbr y.size) bL (pt y)) ?_;rintro _ dU ⟨bb,b7,b8,b9,cb,cc,ce,bd,be,cf,bf,bg,ch,dV,rfl,bh,dg,dh,di,dj,dk,dl,dm,dn,ci⟩;have dp:=ca bh y;obtain ⟨cj,ck,cl,cm,cn,co,cq,cr,cs,ct,rfl,dW,dX,dY,dZ,d0,d1,d2⟩:=aai.open ci;refine bsl (e:=62) (cells:=(aS A B C D G I cj J ck cl N cm cn O co cq S cr cs U ct)) (vs:=[(0,.agg (aS A B C D G I cj J ck cl N cm cn O co cq S cr cs U ct))]) dp rfl (aao ab2 abx aik rfl (by decide) (by decide) rfl) (fun d3 dq=>?_);obtain ⟨cu,h⟩:=aaE h;refine apR (R:=(aai bb)) (p:=(aaf.mk A B C D G I J N O S U)) (i:=4) (j:=0) dq rfl rfl ab2 ak1 rfl (by decide) rfl rfl (bv.mono (fun _ _ h=>aai.mono bh.sub h)) ci rfl rfl (Nat.le_refl _) cu (by decide) (fun cw cx cy dr ds dt=>?_);have du:=amA ds;exact go 6 (bar (r:=((u + 1:Nat):Int)) rfl rfl (aaK (aaM (((ms bi aA)).len) (by decide) (aab z))) (go 3 (⟨_,Nat.lt_succ_self _,_,bb,t,u + 1,bY,b7,b8,bZ,b0,b9,cb,b1,b2,b3,b4,cc,ce,aG,bd,be,cf,aH,bf,bg,ch,b5,b6,(l ++ [(aaf.mk A B C D G I J N O S U)]),cw,cx,cy,rfl,fR,(aA.trans bh.sub),du,aag z,dg,dh,di,dj,dk,dl,dm,dn,dt,(aaG cu),h⟩)))
theorem apY (k:Nat) (F:ae4) (IH87:ac9 F.f87) (IH120:acG F.f120) (IH146:acC F.f146) (IH147:acz F.f147):acG (ame k F):=by
 unfold acG;intro K wi g bs br an ao ap aq ar au av aw ax ay az aA aB f t u aG m x y aH aI aJ gg sK sL sM sN sO sP sQ sR sS sT sU sV sW h hG gh gi gj gk gl gm gn gp hbr gq gr;obtain ⟨r_,hr_,h⟩:=rz h;obtain ⟨G,I,bR,V,ey,J,gs,W,D,C,B⟩:=gg;obtain ⟨gt,gu,ak,al,Y,Z,N,O,S,U,rfl,bS,ez,gv,be,bb,bf,bd⟩:=aai.open gq;refine aat Tryz.func120 rfl (n:=186) rfl ?_;unfold ame at h;refine gI 11 [6,2] [[iI 0,sE,iI 0,sE,iI 0,iI 0,nS,nS,nS,nS,nS]] gr (fun ac gw eA=>?_);have eB:=amL eA;refine cB h aqY (fun _ gy=>(arQ k) gy (hG.mono kr) gh gi gj gk gl gm gn gp (Nat.le_trans hbr eA.size) gv (pt eB)) ?_;rintro ⟨⟨gz,⟨gA,gB,gF,gG,gH,gJ⟩,gK,gL,gM,gN⟩,ab⟩ _ sX ⟨eC,gQ,gT,gU,gV,gW,gZ,g0,g1,g2,g3,g4,g5,aK,aL,rfl,d,eD,eF,eG,eH,eI,eJ,eL,eM,eN⟩ h;have g6:=ca d eB;refine gR 4 [6,4] [] g6 (fun sY b5=>(aav (fun a w=>∃ eO bu bF b6 b7 bG bH b8 b9 bT bU bV bI cb cc a9 bJ bK ce ba bL bM cf bW bX X,a=fr 186 (updL eO [(0,pp g 0),(3,pp (zz wi) 0),(4,pp (zz ac) 0)])∧KH.sub eC bu∧SR K bu wi w [.box bs g #[sl ao an ap,.string aq,sl au ar av,iI aw,.bool ax,iI ay,sl aA az aB,sl t f u,sl x m y,iI aI,iI aJ] 109,eW br t f u 9 1 aG,eW br x m y 3 1 aH] [.box bs g #[sl b6 bF b7,.string bG,sl b8 bH b9,iI bT,.bool bU,iI bV,sl cb bI cc,sl bJ a9 bK,sl bL ba bM,iI bW,iI bX] 109,.box (zz wi) (zz wi) (aS G I bR V X J aK ab aL ak W al Y D Z N C O S B U) 62,.box (zz wi) (zz ac) zS.toArray 62,eW br bJ a9 bK 9 1 ce,eW br bL ba bM 3 1 cf]∧tF bu b6 b7 bF∧bG.size ≤ mB∧tP bu b8 b9 bH∧tS bu cb cc bI∧Reps RStr 1 a9 ce∧a9.length * 16 ≤ mB∧Reps (RInt .i64) 1 ba cf∧ba.length * 8 ≤ mB∧afZ k F G I bR V J W D C B ab bF bG bH bT bU bV bI a9 ba bW bX X=some r_) ?_ ?_))
 ·refine gD 7 [3,5] b5 (bC 14 h (fun _ h=>?_) (fun _ h=>?_))
  ·refine gD 4 [0,4,11] b5 (cB h axf (fun _ g7=>(awJ k) g7 (hG.mono d.sub) eD eF eG eH eI eJ eL eM (Nat.le_trans hbr b5.size) (aai.intro bS ez eN (ms be d.sub) (ms bb d.sub) (ms bf d.sub) (mc bd d.sub)) (pt b5)) ?_);rintro ⟨⟨g8,⟨g9,ha,hb,hc,hd,he⟩,hf,hg,hh,hi⟩,hk⟩ _ sZ ⟨hl,hm,hn,ho,hp,hq,hr,ht,hu,hv,hw,hx,hy,rfl,eP,hz,hA,hB,hC,hD,hF,hH,hI⟩ h;have hJ:=ca eP b5;exact gR 4 [4,4] [] hJ (fun s0 hK=>(⟨_,hl,g8,hm,hn,g9,ha,ho,hp,hb,hc,hd,he,hq,hr,hf,ht,hu,hv,hg,hw,hx,hy,hh,hi,hk,fR,eP.sub,(hK.sel [0,4,3,1,2]),hz,hA,hB,hC,hD,hF,hH,hI,h⟩))
  ·exact gd 3 (⟨_,eC,gz,gQ,gT,gA,gB,gU,gV,gF,gG,gH,gJ,gW,gZ,gK,g0,g1,g2,gL,g3,g4,g5,gM,gN,ey,fR,kr,(b5.sel [0,4,3,1,2]),eD,eF,eG,eH,eI,eJ,eL,eM,h⟩)
 ·rintro _ s1 ⟨eO,bu,bF,b6,b7,bG,bH,b8,b9,bT,bU,bV,bI,cb,cc,a9,bJ,bK,ce,ba,bL,bM,cf,bW,bX,X,rfl,q,ea,eQ,eR,eS,eT,eU,eV,eX,eY,h⟩;unfold afZ at h;refine aav (fun a w=>∃ eZ am aM a0 a2 aN aP a3 a4 aV aW aX aT a5 a6 z af ah a7 A ai aj a8 aY aZ ad,a=fr 186 (updL eZ [(0,pp g 0),(3,pp (zz wi) 0),(4,pp (zz ac) 0)])∧KH.sub bu am∧SR K am wi w [.box bs g #[sl ao an ap,.string aq,sl au ar av,iI aw,.bool ax,iI ay,sl aA az aB,sl t f u,sl x m y,iI aI,iI aJ] 109,eW br t f u 9 1 aG,eW br x m y 3 1 aH] [.box bs g #[sl a0 aM a2,.string aN,sl a3 aP a4,iI aV,.bool aW,iI aX,sl a5 aT a6,sl af z ah,sl ai A aj,iI aY,iI aZ] 109,.box (zz wi) (zz wi) (aS G I ad V X J aK ab aL ak W al Y D Z N C O S B U) 62,.box (zz wi) (zz ac) zS.toArray 62,eW br af z ah 9 1 a7,eW br ai A aj 3 1 a8]∧tF am a0 a2 aM∧aN.size ≤ mB∧tP am a3 a4 aP∧tS am a5 a6 aT∧Reps RStr 1 z a7∧z.length * 16 ≤ mB∧Reps (RInt .i64) 1 A a8∧A.length * 8 ≤ mB∧adP k F G I V J W D C B ab X aM aN aP aV aW aX aT z A aY aZ ad=some r_) ?_ ?_
  ·refine aav (fun a w=>∃ e0 cO ec,a=fr 186 (updL e0 [(0,pp g 0),(3,pp (zz wi) 0),(4,pp (zz ac) 0),(26,.bool ec)])∧KH.sub bu cO∧SR K cO wi w [.box bs g #[sl ao an ap,.string aq,sl au ar av,iI aw,.bool ax,iI ay,sl aA az aB,sl t f u,sl x m y,iI aI,iI aJ] 109,eW br t f u 9 1 aG,eW br x m y 3 1 aH] [.box bs g #[sl b6 bF b7,.string bG,sl b8 bH b9,iI bT,.bool bU,iI bV,sl cb bI cc,sl bJ a9 bK,sl bL ba bM,iI bW,iI bX] 109,.box (zz wi) (zz wi) (aS G I bR V X J aK ab aL ak W al Y D Z N C O S B U) 62,.box (zz wi) (zz ac) zS.toArray 62,eW br bJ a9 bK 9 1 ce,eW br bL ba bM 3 1 cf]∧agV k F G I bR V J W D C B ab bF bG bH bT bU bV bI a9 ba bW bX X ec=some r_) ?_ ?_
   ·refine gD 3 [0,2] ea (cB h ayr (fun _ hL=>(awb k) hL (hG.mono ea.sub) (pt ea)) ?_);rintro s2 _ s3 ⟨e1,rfl,ed⟩ h;have ee:=ca ed ea;refine go 1 (bO 22 h (fun _ h=>?_) (fun _ h=>?_))
    ·exact gP 9 [1,2] ee (⟨_,e1,(!seq I ⟨#[]⟩),fR,ed.sub,ee,h⟩)
    ·exact go 6 (⟨_,e1,false,fR,ed.sub,ee,h⟩)
   ·rintro _ hM ⟨e0,cO,ec,rfl,bE,dC,h⟩;unfold agV at h;refine bC 26 h (fun _ h=>?_) (fun _ h=>?_)
    ·refine gD 5 [1,2] dC ?_;have e2:=acm dC;refine cB h avS (fun _ hN=>(asj k) hN (hG.mono ((d.sub.trans q).trans bE)) (mf eQ bE) eR (mp eS bE) (ms eT bE) (eU.mono (fun _ _ h=>h)) eV (eX.mono (fun _ _ h=>h)) eY (Nat.le_trans hbr dC.size) bS (pt e2)) ?_;rintro ⟨⟨hO,⟨hP,hQ,hR,hS,hT,hU⟩,hV,hW,hX,hY⟩,hZ⟩ _ s4 ⟨h0,h1,h2,h3,h4,h5,h6,h7,h8,h9,ia,ib,ic,rfl,e3,id,ie,ig,ih,ii,ij,ik,il⟩ h;have im:=ca e3 e2;exact gR 4 [2,3] [] im (fun s5 io=>(⟨_,h0,hO,h1,h2,hP,hQ,h3,h4,hR,hS,hT,hU,h5,h6,hV,h7,h8,h9,hW,ia,ib,ic,hX,hY,hZ,fR,(bE.trans e3.sub),(io.sel [0,3,4,1,2]),id,ie,ig,ih,ii,ij,ik,il,h⟩))
    ·exact gd 3 (⟨_,cO,bF,b6,b7,bG,bH,b8,b9,bT,bU,bV,bI,cb,cc,a9,bJ,bK,ce,ba,bL,bM,cf,bW,bX,bR,fR,bE,dC,(mf eQ bE),eR,(mp eS bE),(ms eT bE),(eU.mono (fun _ _ h=>h)),eV,(eX.mono (fun _ _ h=>h)),eY,h⟩)
  ·rintro _ ip ⟨eZ,am,aM,a0,a2,aN,aP,a3,a4,aV,aW,aX,aT,a5,a6,z,af,ah,a7,A,ai,aj,a8,aY,aZ,ad,rfl,s,ch,bh,bi,bj,bk,bm,bn,bo,bp,h⟩;unfold adP at h;refine aav (fun a w=>∃ e4 aU cP ci cQ cR cj cS cU ck cV cW cl cY cZ dD dE dF dG dH dI dJ ef eg eh dK dL dM bY dN dO dP bZ dQ dR dS ei ej,a=fr 186 (updL e4 [(3,pp (zz wi) 0),(4,pp (zz ac) 0)])∧KH.sub am aU∧SR K aU wi w [.box bs g #[sl ao an ap,.string aq,sl au ar av,iI aw,.bool ax,iI ay,sl aA az aB,sl t f u,sl x m y,iI aI,iI aJ] 109,eW br t f u 9 1 aG,eW br x m y 3 1 aH] [.box (zz wi) (zz wi) (aS G I cP V X J aK ab aL cQ ci cR cS cj cU cV ck cW cY cl cZ) 62,.box (zz wi) (zz ac) zS.toArray 62,.box bs g #[sl dE dD dF,.string dG,sl dI dH dJ,iI ef,.bool eg,iI eh,sl dL dK dM,sl dN bY dO,sl dQ bZ dR,iI ei,iI ej] 109,eW br dN bY dO 9 1 dP,eW br dQ bZ dR 3 1 dS]∧tS aU cQ cR ci∧tS aU cS cU cj∧tS aU cV cW ck∧tC aU cY cZ cl∧tF aU dE dF dD∧dG.size ≤ mB∧tP aU dI dJ dH∧tS aU dL dM dK∧Reps RStr 1 bY dP∧bY.length * 16 ≤ mB∧Reps (RInt .i64) 1 bZ dS∧bZ.length * 8 ≤ mB∧ab9 k F G I V J ab X cP ci cj ck cl dD dG dH ef eg eh dK bY bZ ei ej=some r_) ?_ ?_
   ·refine gD 13 [0,2] ch (bC 44 h (fun _ h=>?_) (fun _ h=>?_))
    ·refine gD 6 [1,2] ch ?_;have e5:=acm ch;refine cB h aqu (fun _ iq=>(anL k) iq (hG.mono ((d.sub.trans q).trans s)) bh bi bj bk bm bn bo bp (Nat.le_trans hbr ch.size) bS (pt e5)) ?_;rintro ⟨⟨s6,⟨s7,s8,s9,ta,tb,tc⟩,td,te,tg,th⟩,ir⟩ _ ti ⟨tj,tl,tm,tn,tp,tq,tr,ts,tt,tu,tv,tw,tx,rfl,b0,it,iu,iv,iw,ix,iy,iz,iA⟩ h;have iB:=ca b0 e5;refine gR 9 [2,3,2,4] [] iB (fun ty ek=>(cB h ahu (fun _ iC=>(aeD k) iC (hG.mono (((d.sub.trans q).trans s).trans b0.sub)) it iu iv iw ix iy iz iA (Nat.le_trans hbr ek.size) (pt ek)) ?_));rintro ⟨iD,⟨iE,iF,iG,iH,iJ,iK⟩,iL,iM,iN,iO⟩ _ tz ⟨iP,iQ,iR,iS,iT,iU,iV,iW,iX,iY,iZ,i0,i1,rfl,cm,i2,i3,i4,i5,i6,i7,i8,i9⟩ h;have ja:=ca cm ek;exact go 3 (⟨_,iP,ir,W,ak,al,D,Y,Z,C,N,O,B,S,U,iD,iQ,iR,iE,iF,iS,iT,iG,iH,iJ,iK,iU,iV,iL,iW,iX,iY,iM,iZ,i0,i1,iN,iO,fR,(b0.sub.trans cm.sub),(ja.sel [3,4,0,1,2]),(ms be ((((d.sub.trans q).trans s).trans b0.sub).trans cm.sub)),(ms bb ((((d.sub.trans q).trans s).trans b0.sub).trans cm.sub)),(ms bf ((((d.sub.trans q).trans s).trans b0.sub).trans cm.sub)),(mc bd ((((d.sub.trans q).trans s).trans b0.sub).trans cm.sub)),i2,i3,i4,i5,i6,i7,i8,i9,h⟩)
    ·refine gd 1 (aav (fun a w=>∃ e6 el,a=fr 186 (updL e6 [(0,pp g 0),(3,pp (zz wi) 0),(4,pp (zz ac) 0),(33,iI G),(56,.bool el)])∧SR K am wi w [.box bs g #[sl ao an ap,.string aq,sl au ar av,iI aw,.bool ax,iI ay,sl aA az aB,sl t f u,sl x m y,iI aI,iI aJ] 109,eW br t f u 9 1 aG,eW br x m y 3 1 aH] [.box bs g #[sl a0 aM a2,.string aN,sl a3 aP a4,iI aV,.bool aW,iI aX,sl a5 aT a6,sl af z ah,sl ai A aj,iI aY,iI aZ] 109,.box (zz wi) (zz wi) (aS G I ad V X J aK ab aL ak W al Y D Z N C O S B U) 62,.box (zz wi) (zz ac) zS.toArray 62,eW br af z ah 9 1 a7,eW br ai A aj 3 1 a8]∧afX k F G I V J W D C B ab X aM aN aP aV aW aX aT z A aY aZ ad el=some r_) ?_ ?_)
     ·refine gd 6 (bC 56 h (fun jb h=>?_) (fun _ h=>?_))
      ·exact gd 3 (lX 56 jb.symm (⟨_,(G == 18),fR,ch,h⟩))
      ·exact gd 6 (⟨_,(G == 19),fR,ch,h⟩)
     ·rintro _ bz ⟨e6,el,rfl,ae,h⟩;unfold afX at h;refine bC 56 h (fun _ h=>?_) (fun _ h=>?_)
      ·refine gD 8 [9,1] ae ?_;have e7:=acm ae;refine cB h ahu (fun _ jc=>(aeD k) jc (hG.mono ((d.sub.trans q).trans s)) bh bi bj bk bm bn bo bp (Nat.le_trans hbr ae.size) (pt e7)) ?_;rintro ⟨jd,⟨je,jf,jg,jh,ji,jj⟩,jk,jl,jm,jn⟩ _ tA ⟨jo,jp,jq,jr,js,jt,ju,jv,jw,jx,jy,jz,jA,rfl,cn,jB,jC,jD,jE,jF,jG,jH,jI⟩ h;have jJ:=ca cn e7;exact go 3 (⟨_,jo,ad,W,ak,al,D,Y,Z,C,N,O,B,S,U,jd,jp,jq,je,jf,jr,js,jg,jh,ji,jj,jt,ju,jk,jv,jw,jx,jl,jy,jz,jA,jm,jn,fR,cn.sub,(jJ.sel [3,4,0,1,2]),(ms be (((d.sub.trans q).trans s).trans cn.sub)),(ms bb (((d.sub.trans q).trans s).trans cn.sub)),(ms bf (((d.sub.trans q).trans s).trans cn.sub)),(mc bd (((d.sub.trans q).trans s).trans cn.sub)),jB,jC,jD,jE,jF,jG,jH,jI,h⟩)
      ·refine gd 7 (bC 66 h (fun _ h=>?_) (fun _ h=>?_))
       ·refine gD 7 [5,2] ae (bO 72 h (fun _ h=>?_) (fun _ h=>?_))
        ·refine go 6 ?_;have e8:=acm ae;refine cB h ahu (fun _ jK=>(aeD k) jK (hG.mono ((d.sub.trans q).trans s)) bh bi bj bk bm bn bo bp (Nat.le_trans hbr ae.size) (pt e8)) ?_;rintro ⟨jL,⟨jM,jN,jO,jP,jQ,jR⟩,jS,jT,jU,jV⟩ _ tB ⟨jW,jX,jY,jZ,j0,j1,j2,j3,j4,j5,j6,j7,j8,rfl,co,j9,ka,kb,kc,kd,ke,kf,kg⟩ h;have kh:=ca co e8;exact go 3 (⟨_,jW,ad,W,ak,al,D,Y,Z,C,N,O,B,S,U,jL,jX,jY,jM,jN,jZ,j0,jO,jP,jQ,jR,j1,j2,jS,j3,j4,j5,jT,j6,j7,j8,jU,jV,fR,co.sub,(kh.sel [3,4,0,1,2]),(ms be (((d.sub.trans q).trans s).trans co.sub)),(ms bb (((d.sub.trans q).trans s).trans co.sub)),(ms bf (((d.sub.trans q).trans s).trans co.sub)),(mc bd (((d.sub.trans q).trans s).trans co.sub)),j9,ka,kb,kc,kd,ke,kf,kg,h⟩)
        ·refine gP 11 [9,1] ae ?_;have e9:=acm ae;refine cB h ahu (fun _ ki=>(aeD k) ki (hG.mono ((d.sub.trans q).trans s)) bh bi bj bk bm bn bo bp (Nat.le_trans hbr ae.size) (pt e9)) ?_;rintro ⟨kj,⟨kk,kl,km,kn,ko,kp⟩,kq,ks,kt,ku⟩ _ tD ⟨kv,kw,kx,ky,kz,kB,kD,kJ,kO,kP,kQ,kR,kT,rfl,cq,kU,kV,kW,kX,kY,kZ,k0,k1⟩ h;have k2:=ca cq e9;exact go 3 (⟨_,kv,ad,W,ak,al,D,Y,Z,C,N,O,B,S,U,kj,kw,kx,kk,kl,ky,kz,km,kn,ko,kp,kB,kD,kq,kJ,kO,kP,ks,kQ,kR,kT,kt,ku,fR,cq.sub,(k2.sel [3,4,0,1,2]),(ms be (((d.sub.trans q).trans s).trans cq.sub)),(ms bb (((d.sub.trans q).trans s).trans cq.sub)),(ms bf (((d.sub.trans q).trans s).trans cq.sub)),(mc bd (((d.sub.trans q).trans s).trans cq.sub)),kU,kV,kW,kX,kY,kZ,k0,k1,h⟩)
       ·refine gd 7 (bC 80 h (fun _ h=>?_) (fun _ h=>?_))
        ·refine gD 8 [1,4,1] ae ?_;have fa:=acm ae;refine cB h ahu (fun _ k3=>(aeD k) k3 (hG.mono ((d.sub.trans q).trans s)) bh bi bj bk bm bn bo bp (Nat.le_trans hbr ae.size) (pt fa)) ?_;rintro ⟨k4,⟨k5,k6,k7,k8,k9,la⟩,lc,ld,lf,lg⟩ _ tG ⟨lh,li,lj,lk,ll,lm,ln,lo,lp,lq,lr,ls,lu,rfl,cr,lv,lw,lx,ly,lz,lB,lE,lF⟩ h;have lG:=ca cr fa;exact go 3 (⟨_,lh,ad,W,ak,al,D,Y,Z,C,N,O,B,S,U,k4,li,lj,k5,k6,lk,ll,k7,k8,k9,la,lm,ln,lc,lo,lp,lq,ld,lr,ls,lu,lf,lg,fR,cr.sub,(lG.sel [3,4,0,1,2]),(ms be (((d.sub.trans q).trans s).trans cr.sub)),(ms bb (((d.sub.trans q).trans s).trans cr.sub)),(ms bf (((d.sub.trans q).trans s).trans cr.sub)),(mc bd (((d.sub.trans q).trans s).trans cr.sub)),lv,lw,lx,ly,lz,lB,lE,lF,h⟩)
        ·refine gd 7 (bC 89 h (fun _ h=>?_) (fun _ h=>?_))
         ·refine gd 1 (rB [12] ae (fun fb lH=>(ag 12 [0,1,6,2,2,3,4,5,6,7,1,8,3,9,1,10,11] (aaY lH) (aQ 12 rfl ?_))));have fc:=acm fb;refine cB h ahu (fun _ lI=>(aeD k) lI (hG.mono ((d.sub.trans q).trans s)) bh bi bj bk bm bn bo bp (Nat.le_trans hbr fb.size) (pt fc)) ?_;rintro ⟨lJ,⟨lK,lL,lM,lP,lQ,lR⟩,lT,lU,lV,lW⟩ _ tH ⟨lY,lZ,l0,l2,l3,l4,l5,l6,l7,l8,l9,ma,mb,rfl,cs,md,mg,mh,mi,mj,ml,mm,mn⟩ h;have mo:=ca cs fc;exact go 2 ⟨hE 12,aD (gx 2 (⟨_,lY,ad,W,ak,al,D,Y,Z,C,N,O,B,S,U,lJ,lZ,l0,lK,lL,l2,l3,lM,lP,lQ,lR,l4,l5,lT,l6,l7,l8,lU,l9,ma,mb,lV,lW,fR,cs.sub,(mo.sel [3,4,0,1,2]),(ms be (((d.sub.trans q).trans s).trans cs.sub)),(ms bb (((d.sub.trans q).trans s).trans cs.sub)),(ms bf (((d.sub.trans q).trans s).trans cs.sub)),(mc bd (((d.sub.trans q).trans s).trans cs.sub)),md,mg,mh,mi,mj,ml,mm,mn,h⟩))⟩
         ·refine gd 7 (bC 104 h (fun _ h=>?_) (fun _ h=>?_))
          ·refine gD 7 [1,2,7,2] ae ?_;have fe:=acm ae;refine cB h an3 (fun _ mq=>IH146 mq (hG.mono ((d.sub.trans q).trans s)) bh bi bj bk bm bn bo bp (Nat.le_trans hbr ae.size) bS (ms be ((d.sub.trans q).trans s)) (pt fe)) ?_;rintro ⟨⟨mr,⟨mt,mu,mw,mx,my,mz⟩,mA,mC,mD,mE⟩,mF,mG⟩ _ tI ⟨mH,mI,mJ,mK,mL,mM,mN,mO,mP,mQ,mR,mS,mT,mU,mV,rfl,c2,mW,mX,mY,mZ,m0,m4,m5,m6,m7⟩ h;have m8:=ca c2 fe;exact gR 10 [2,3,7,3] [] m8 (fun tJ tK m9=>(⟨_,mH,mF,mG,mU,mV,D,Y,Z,C,N,O,B,S,U,mr,mI,mJ,mt,mu,mK,mL,mw,mx,my,mz,mM,mN,mA,mO,mP,mQ,mC,mR,mS,mT,mD,mE,fR,c2.sub,(m9.sel [3,4,0,1,2]),m7,(ms bb (((d.sub.trans q).trans s).trans c2.sub)),(ms bf (((d.sub.trans q).trans s).trans c2.sub)),(mc bd (((d.sub.trans q).trans s).trans c2.sub)),mW,mX,mY,mZ,m0,m4,m5,m6,h⟩))
          ·refine gd 7 (bC 117 h (fun _ h=>?_) (fun _ h=>?_))
           ·refine gD 7 [1,2,7,2] ae ?_;have ff:=acm ae;refine cB h an3 (fun _ na=>IH146 na (hG.mono ((d.sub.trans q).trans s)) bh bi bj bk bm bn bo bp (Nat.le_trans hbr ae.size) bS (ms be ((d.sub.trans q).trans s)) (pt ff)) ?_;rintro ⟨⟨nb,⟨nc,nd,ne,nf,ng,nh⟩,ni,nj,nk,nl⟩,nm,nn⟩ _ tM ⟨np,nq,nr,ns,nt,nu,nv,nw,nx,ny,nz,nA,nB,nC,nD,rfl,c4,nF,nG,nH,nI,nJ,nK,nL,nM,nN⟩ h;have nO:=ca c4 ff;exact gR 10 [2,3,7,3] [] nO (fun tN tO nP=>(⟨_,np,nm,nn,nC,nD,D,Y,Z,C,N,O,B,S,U,nb,nq,nr,nc,nd,ns,nt,ne,nf,ng,nh,nu,nv,ni,nw,nx,ny,nj,nz,nA,nB,nk,nl,fR,c4.sub,(nP.sel [3,4,0,1,2]),nN,(ms bb (((d.sub.trans q).trans s).trans c4.sub)),(ms bf (((d.sub.trans q).trans s).trans c4.sub)),(mc bd (((d.sub.trans q).trans s).trans c4.sub)),nF,nG,nH,nI,nJ,nK,nL,nM,h⟩))
           ·refine gd 7 (bC 130 h (fun _ h=>?_) (fun _ h=>?_))
            ·refine gD 5 [7,2] ae ?_;have fg:=acm ae;refine cB h alY (fun _ nQ=>IH87 nQ (hG.mono ((d.sub.trans q).trans s)) bh bi bj bk bm bn bo bp (Nat.le_trans hbr ae.size) (ms be ((d.sub.trans q).trans s)) (pt fg)) ?_;rintro ⟨⟨nT,⟨nV,nW,nX,nY,nZ,n2⟩,n3,n4,n5,n6⟩,n7⟩ _ tQ ⟨n8,n9,oa,oc,od,oe,og,oh,oj,ol,om,oo,op,oq,os,rfl,c5,ot,ov,ow,ox,oy,oz,oA,oB,oC⟩ h;have oD:=ca c5 fg;exact gR 5 [7,3] [] oD (fun tR oE=>(⟨_,n8,ad,n7,oq,os,D,Y,Z,C,N,O,B,S,U,nT,n9,oa,nV,nW,oc,od,nX,nY,nZ,n2,oe,og,n3,oh,oj,ol,n4,om,oo,op,n5,n6,fR,c5.sub,(oE.sel [3,4,0,1,2]),oC,(ms bb (((d.sub.trans q).trans s).trans c5.sub)),(ms bf (((d.sub.trans q).trans s).trans c5.sub)),(mc bd (((d.sub.trans q).trans s).trans c5.sub)),ot,ov,ow,ox,oy,oz,oA,oB,h⟩))
            ·refine gd 7 (bC 137 h (fun _ h=>?_) (fun _ h=>?_))
             ·refine gD 6 [7,2] ae ?_;have fh:=acm ae;refine cB h alY (fun _ oF=>IH87 oF (hG.mono ((d.sub.trans q).trans s)) bh bi bj bk bm bn bo bp (Nat.le_trans hbr ae.size) (ms be ((d.sub.trans q).trans s)) (pt fh)) ?_;rintro ⟨⟨oG,⟨oH,oI,oJ,oK,oL,oM⟩,oN,oO,oP,oQ⟩,dT⟩ _ tU ⟨fi,oR,oS,oT,oU,oV,oW,oX,oY,oZ,o2,o3,o4,em,en,rfl,bP,fj,fk,fl,fm,fn,fo,fp,fs,o5⟩ h;have o6:=ca bP fh;refine gR 4 [7,3] [] o6 (fun tV ct=>(aav (fun a w=>∃ ft bq c7 dU dV c8 da dW dX dY dZ d0 db d1 d2 bB dc dd d3 bD de df d4 d5 d6 dg cu dh di,a=fr 186 (updL ft [(0,pp g 0),(3,pp (zz wi) 0),(4,pp (zz ac) 0)])∧KH.sub fi bq∧SR K bq wi w [.box bs g #[sl ao an ap,.string aq,sl au ar av,iI aw,.bool ax,iI ay,sl aA az aB,sl t f u,sl x m y,iI aI,iI aJ] 109,eW br t f u 9 1 aG,eW br x m y 3 1 aH] [.box bs g #[sl dU c7 dV,.string c8,sl dW da dX,iI dY,.bool dZ,iI d0,sl d1 db d2,sl dc bB dd,sl de bD df,iI d5,iI d6] 109,.box (zz wi) (zz wi) (aS G I dg V X J aK ab aL em dT en dh cu di N C O S B U) 62,.box (zz wi) (zz ac) zS.toArray 62,eW br dc bB dd 9 1 d3,eW br de bD df 3 1 d4]∧tF bq dU dV c7∧c8.size ≤ mB∧tP bq dW dX da∧tS bq d1 d2 db∧Reps RStr 1 bB d3∧bB.length * 16 ≤ mB∧Reps (RInt .i64) 1 bD d4∧bD.length * 8 ≤ mB∧tS bq dh di cu∧ai2 k F G I V J C B ab X dT c7 c8 da dY dZ d0 db bB bD d5 d6 dg cu=some r_) ?_ ?_))
              ·refine gD 4 [5,4] ct (bdv (r:=(J.tmod 2)) rfl rfl (by decide) rfl (go 3 (bC 147 h (fun _ h=>?_) (fun _ h=>?_))))
               ·refine gD 7 [1,4,8,4] ct (cB h an3 (fun _ o7=>IH146 o7 (hG.mono (((d.sub.trans q).trans s).trans bP.sub)) fj fk fl fm fn fo fp fs (Nat.le_trans hbr ct.size) bS (ms bb (((d.sub.trans q).trans s).trans bP.sub)) (pt ct)) ?_);rintro ⟨⟨o8,⟨o9,pa,pb,pc,pd,pe⟩,pf,pg,ph,pi⟩,pj,pk⟩ _ tW ⟨pl,pm,pn,po,pq,pr,ps,pu,pv,pw,px,py,pz,pA,pB,rfl,fu,pC,pD,pE,pF,pG,pH,pI,pJ,pK⟩ h;have pL:=ca fu ct;exact gR 9 [2,3,8,3] [] pL (fun tX tY pM=>(⟨_,pl,o8,pm,pn,o9,pa,po,pq,pb,pc,pd,pe,pr,ps,pf,pu,pv,pw,pg,px,py,pz,ph,pi,pj,pk,pA,pB,fR,fu.sub,(pM.sel [0,3,4,1,2]),pC,pD,pE,pF,pG,pH,pI,pJ,pK,h⟩))
               ·exact gd 3 (⟨_,fi,oG,oR,oS,oH,oI,oT,oU,oJ,oK,oL,oM,oV,oW,oN,oX,oY,oZ,oO,o2,o3,o4,oP,oQ,ad,D,Y,Z,fR,kr,(ct.sel [0,3,4,1,2]),fj,fk,fl,fm,fn,fo,fp,fs,(ms bb (((d.sub.trans q).trans s).trans bP.sub)),h⟩)
              ·rintro _ pN ⟨ft,bq,c7,dU,dV,c8,da,dW,dX,dY,dZ,d0,db,d1,d2,bB,dc,dd,d3,bD,de,df,d4,d5,d6,dg,cu,dh,di,rfl,dj,eo,pO,pP,pQ,pR,pS,pT,pU,pV,pW,h⟩;unfold ai2 at h;refine gD 4 [9,2] eo ?_;have fv:=acm eo;refine cB h alY (fun _ pY=>IH87 pY (hG.mono ((((d.sub.trans q).trans s).trans bP.sub).trans dj)) pO pP pQ pR pS pT pU pV (Nat.le_trans hbr eo.size) (ms bf ((((d.sub.trans q).trans s).trans bP.sub).trans dj)) (pt fv)) ?_;rintro ⟨⟨pZ,⟨p0,p1,p2,p3,p4,p5⟩,p6,p7,p8,p9⟩,qa⟩ _ tZ ⟨qb,qc,qd,qe,qf,qg,qh,qi,qj,qk,ql,qm,qn,qo,qp,rfl,dk,qq,qr,qs,qt,qu,qv,qw,qx,qy⟩ h;have qz:=ca dk fv;exact gR 5 [9,3] [] qz (fun t0 qA=>(⟨_,qb,dg,dT,em,en,cu,dh,di,qa,qo,qp,B,S,U,pZ,qc,qd,p0,p1,qe,qf,p2,p3,p4,p5,qg,qh,p6,qi,qj,qk,p7,ql,qm,qn,p8,p9,fR,((bP.sub.trans dj).trans dk.sub),(qA.sel [3,4,0,1,2]),(ms o5 (dj.trans dk.sub)),(ms pW dk.sub),qy,(mc bd (((((d.sub.trans q).trans s).trans bP.sub).trans dj).trans dk.sub)),qq,qr,qs,qt,qu,qv,qw,qx,h⟩))
             ·refine gd 7 (bC 164 h (fun _ h=>?_) (fun _ h=>?_))
              ·refine gd 13 ?_;have qB:=ae.row_ (zz wi) 84 5;refine aaC (fun g_ a w=>∃ fx bv b1,∃ (b2:Nat),∃ cw dl dm cx cy dn dp dq dr ds cz dt du bw cA cC dv bx cD cG dw dx dy bg dz dA d7,g_=b1.length∧a=fr 186 (updL fx [(0,pp g 0),(3,pp (zz wi) 0),(4,pp (zz ac) 0),(5,sl dz bg dA),(6,iI (b2:Int))])∧KH.sub am bv∧SR K bv wi w [.box bs g #[sl ao an ap,.string aq,sl au ar av,iI aw,.bool ax,iI ay,sl aA az aB,sl t f u,sl x m y,iI aI,iI aJ] 109,eW br t f u 9 1 aG,eW br x m y 3 1 aH] [.box bs g #[sl dl cw dm,.string cx,sl dn cy dp,iI dq,.bool dr,iI ds,sl dt cz du,sl cA bw cC,sl cD bx cG,iI dx,iI dy] 109,.box (zz wi) (zz wi) (aS G I ad V X J aK ab aL ak W al Y D Z N C O S B U) 62,.box (zz wi) (zz ac) zS.toArray 62,eW br cA bw cC 9 1 dv,eW br cD bx cG 3 1 dw,eW (zz wi) dz bg dA 84 5 d7]∧B.drop b2=b1∧tF bv dl dm cw∧cx.size ≤ mB∧tP bv dn dp cy∧tS bv dt du cz∧Reps RStr 1 bw dv∧bw.length * 16 ≤ mB∧Reps (RInt .i64) 1 bx dw∧bx.length * 8 ≤ mB∧Reps (aaB bv) 5 bg d7∧bg.length * 80 ≤ mB∧afR k F G I V J W D C ab X ad b1 b2 cw cx cy dq dr ds cz bw bx dx dy bg=some r_) B.length ?_ ?_
               ·exact ⟨_,am,B,0,aM,a0,a2,aN,aP,a3,a4,aV,aW,aX,aT,a5,a6,z,af,ah,a7,A,ai,aj,a8,aY,aZ,([]:LC),none,0,[],rfl,fR,kr,(qB.sel [1,2,3,4,5,0]),List.drop_zero,bh,bi,bj,bk,bm,bn,bo,bp,(aa1 (R:=(aaB am)) (size:=5)),(by simp),h⟩
               ·rintro _ _ qC ⟨fx,bv,b1,b2,cw,dl,dm,cx,cy,dn,dp,dq,dr,ds,cz,dt,du,bw,cA,cC,dv,bx,cD,cG,dw,dx,dy,bg,dz,dA,d7,rfl,rfl,bQ,b3,cH,fy,fz,fA,fB,fC,fD,fE,fF,fG,qD,h⟩;rcases b1 with _ | ⟨⟨qE,qF,qG,qH,qJ⟩,b1⟩
                ·unfold afR at h;refine gD 7 [10,2] b3 (bcm (r:=false) rfl rfl (congrArg some (aal cH)) (gR 15 [10,1] [] b3 (fun t1 qK=>?_)));obtain ⟨qL,qM,b4,qN⟩:=ab4 (i:=5) (bytes:=80) (R:=fun K=>(aaB K)) qK rfl (Nat.le_refl _) fG qD (fun hs=>(fun _ _ h=>aaB.mono hs h));exact ⟨_,qL,ad,W,ak,al,D,Y,Z,C,N,O,bg,dz,dA,cw,dl,dm,cx,cy,dn,dp,dq,dr,ds,cz,dt,du,bw,cA,cC,dv,bx,cD,cG,dw,dx,dy,fR,(bQ.trans b4),(qM.sel [1,2,0,3,4]),(ms be ((((d.sub.trans q).trans s).trans bQ).trans b4)),(ms bb ((((d.sub.trans q).trans s).trans bQ).trans b4)),(ms bf ((((d.sub.trans q).trans s).trans bQ).trans b4)),qN,(mf fy b4),fz,(mp fA b4),(ms fB b4),(fC.mono (fun _ _ h=>h)),fD,(fE.mono (fun _ _ h=>h)),fF,h⟩
                ·unfold afR at h;refine gD 7 [10,2] b3 (bcm (r:=true) rfl rfl (congrArg some (aak cH)) (gP 13 [10,2] b3 ?_));obtain ⟨qP,qQ,t2,qR,t3,qS,fH⟩:=((mc bd (((d.sub.trans q).trans s).trans bQ))).row.at_ (aaj cH);obtain ⟨qT,qU,qV,qW,rfl,t4,t5,t6⟩:=aaB.open fH;refine idxN (b:=qP) (o:=qQ) (i:=b2) acX acg rfl qR rfl (aab cH) (lD (vC qE qF qG qT qH qU qV qJ qW) ag5 acg rfl (fun j v hj=>b3.cell (kr.cell (qS j v hj))) ?_);have fI:=awG b3;refine cB h ayK (fun _ qX=>IH147 qX (hG.mono (((d.sub.trans q).trans s).trans bQ)) fy fz fA fB fC fD fE fF (Nat.le_trans hbr b3.size) fH (pt fI)) ?_;rintro ⟨⟨fJ,⟨fK,fL,fM,fN,fO,fP⟩,d8,d9,fQ,fS⟩,⟨cI,cJ,cK,cL,cM⟩⟩ _ t7 ⟨ep,fT,fU,fV,fW,fX,fY,eq,es,fZ,et,eu,f0,t8,rfl,ew,qY,qZ,q0,q1,q2,q3,q4,q5,f1⟩ h;have q6:=ca ew fI;obtain ⟨f2,f3,f4,f6,rfl,t9,ua,ub⟩:=aaB.open f1;refine bsl (e:=84) (cells:=(aC' cI cJ cK f2 cL f3 f4 cM f6)) (vs:=[(0,.agg (aC' cI cJ cK f2 cL f3 f4 cM f6))]) q6 rfl (aao acX acg apc rfl (by decide) (by decide) rfl) (fun uc q7=>?_);obtain ⟨f7,h⟩:=aaE h;refine apR (R:=(aaB ep)) (p:=(aaz.mk cI cJ cK cL cM)) (i:=6) (j:=0) q7 rfl rfl acX ao8 rfl (by decide) rfl rfl (fG.mono (fun _ _ h=>aaB.mono ew.sub h)) f1 rfl rfl (Nat.le_refl _) f7 (by decide) (fun ga gb gc q8 q9 ra=>?_);have rb:=akr q9;exact go 6 (bar (r:=((b2 + 1:Nat):Int)) rfl rfl (aaK (aaM (((mc bd (((d.sub.trans q).trans s).trans bQ))).len) (by decide) (aab cH))) (go 3 (⟨_,Nat.lt_succ_self _,_,ep,b1,b2 + 1,fJ,fT,fU,fK,fL,fV,fW,fM,fN,fO,fP,fX,fY,d8,eq,es,fZ,d9,et,eu,f0,fQ,fS,(bg ++ [(aaz.mk cI cJ cK cL cM)]),ga,gb,gc,rfl,fR,(bQ.trans ew.sub),(rb.sel [0,3,4,1,2,5]),aag cH,qY,qZ,q0,q1,q2,q3,q4,q5,ra,(aaG f7),h⟩)))
              ·refine gD 6 [7,2] ae ?_;have ge:=acm ae;refine cB h alY (fun _ rc=>IH87 rc (hG.mono ((d.sub.trans q).trans s)) bh bi bj bk bm bn bo bp (Nat.le_trans hbr ae.size) (ms be ((d.sub.trans q).trans s)) (pt ge)) ?_;rintro ⟨⟨ud,⟨ue,uf,ug,uh,ui,uj⟩,uk,ul,um,un⟩,rd⟩ _ uo ⟨up,uq,ur,us,ut,uu,uv,uw,ux,uy,uz,uA,uG,re,rf,rfl,cN,rg,rh,ri,rj,rk,rl,rm,ro,rp⟩ h;have rq:=ca cN ge;refine gR 8 [7,3,8,4] [] rq (fun uH ex=>(cB h alY (fun _ rr=>IH87 rr (hG.mono (((d.sub.trans q).trans s).trans cN.sub)) rg rh ri rj rk rl rm ro (Nat.le_trans hbr ex.size) (ms bb (((d.sub.trans q).trans s).trans cN.sub)) (pt ex)) ?_));rintro ⟨⟨rs,⟨rt,ru,rv,rw,rx,ry⟩,rC,rD,rF,rG⟩,rH⟩ _ uJ ⟨rI,rJ,rK,rM,rN,rO,rQ,rR,rT,rV,rW,rX,rY,r1,r2,rfl,dB,r3,r4,r5,r6,r7,r8,r9,sa,sb⟩ h;have sc:=ca dB ex;exact gR 5 [8,3] [] sc (fun uK sd=>(⟨_,rI,ad,rd,re,rf,rH,r1,r2,C,N,O,B,S,U,rs,rJ,rK,rt,ru,rM,rN,rv,rw,rx,ry,rO,rQ,rC,rR,rT,rV,rD,rW,rX,rY,rF,rG,fR,(cN.sub.trans dB.sub),(sd.sel [3,4,0,1,2]),(ms rp dB.sub),sb,(ms bf ((((d.sub.trans q).trans s).trans cN.sub).trans dB.sub)),(mc bd ((((d.sub.trans q).trans s).trans cN.sub).trans dB.sub)),r3,r4,r5,r6,r7,r8,r9,sa,h⟩))
   ·rintro _ uL ⟨e4,aU,cP,ci,cQ,cR,cj,cS,cU,ck,cV,cW,cl,cY,cZ,dD,dE,dF,dG,dH,dI,dJ,ef,eg,eh,dK,dL,dM,bY,dN,dO,dP,bZ,dQ,dR,dS,ei,ej,rfl,se,sf,sg,sh,si,sj,sk,sm,sn,so,sp,sq,ss,st,h⟩;unfold ab9 at h;refine gI 7 [0,0,11,1] [] sf (fun uM gf=>?_);have e_:=(Option.some.inj h).trans hr_;obtain ⟨su,sv⟩:=Prod.mk.inj e_;obtain ⟨sw,sx,sy,sz,sA,sB⟩:=aas.mk.inj su;subst sw;obtain ⟨sC,sD,sF,sG,sH,sJ⟩:=aac.mk.inj sx;subst sC;subst sD;subst sF;subst sG;subst sH;subst sJ;subst sy;subst sz;subst sA;subst sB;subst sv;exact aau rfl (resN (i:=1) (l:=(vS G I cP V X J aK ab aL cQ ci cR cS cj cU cV ck cW cY cl cZ)) gf rfl aeH abx rfl rfl rfl) ⟨aU,dE,dF,dI,dJ,dL,dM,dN,dO,dP,dQ,dR,dS,(vS G I cP V X J aK ab aL cQ ci cR cS cj cU cV ck cW cY cl cZ),rfl,(gf.sel [2,3,4]),sk,sm,sn,so,sp,sq,ss,st,(aai.intro bS ez (me eN ((q.trans s).trans se)) sg sh si sj)⟩
theorem ap8 (k:Nat) (F:ae4) (IH87:ac9 F.f87) (IH120:acG F.f120) (IH146:acC F.f146) (IH147:acz F.f147):acC (amg k F):=by
 unfold acC;intro K wi g bs br a5 a6 a7 a8 a9 ba bb bd be bf bg bh bi bj bk bm bn d bo bp bq bu bv o p q r s bw bx bz bB bD bE bF bG bH bI bJ bK t h hG u v x y z A B C hbr D G a;obtain ⟨r_,hr_,h⟩:=rz h;refine aat Tryz.func146 rfl (n:=36) rfl ?_;unfold amg at h;refine gD 20 [8,1] a ?_;obtain ⟨⟨⟨bL,⟨bM,bP,bQ,bR,bS,bT⟩,bU,bV,bW,bX⟩,t⟩,I,h⟩:=ob h;refine cv ([pp g 0,.string o]) avS ((asj k) I (hG.mono kr) u v x y z A B C (Nat.le_trans hbr a.size) D (pt a)) ?_;rintro _ bY ⟨bZ,b0,b1,b2,b3,b4,b5,b6,b7,b8,b9,cb,cc,rfl,e,J,N,O,S,U,V,W,X⟩;have f:=ca e a;refine go 8 ?_;obtain ⟨⟨⟨ce,⟨cf,ch,ci,cj,ck,cl⟩,cm,Y,cn,co⟩,cq⟩,Z,h⟩:=ob h;refine cv ([pp g 0,sl q p r,iI s]) alY (IH87 Z (hG.mono e.sub) J N O S U V W X (Nat.le_trans hbr f.size) (ms G e.sub) (pt f)) ?_;rintro _ cr ⟨ab,ac,ad,ae,af,ah,ai,aj,ak,al,am,an,ao,ap,aq,rfl,ar,au,av,aw,ax,ay,az,l,aA,aB⟩;have j:=ca ar f;refine gP 11 [8,1] j ?_;obtain ⟨b,h⟩:=aaE h;refine slH (m:=(Y.take (d.length:Int).toNat).length) abv Tys3 rfl rfl b.1 (Int.le_trans b.2 (Int.ofNat_le.2 (arM (i:=2) j rfl))) (agb b) (have aG:=j.cut_ (i:=2) (m:=(d.length:Int).toNat) rfl l (by have:=b.2; omega);(gR 14 [8,0] [] aG (fun cs aH=>?_)));have e_:=(Option.some.inj h).trans hr_;obtain ⟨aI,aJ⟩:=Prod.mk.inj e_;obtain ⟨aK,aL,aM,aN,aP,aT⟩:=aas.mk.inj aI;subst aK;obtain ⟨aU,aV,aW,aX,aY,aZ⟩:=aac.mk.inj aL;subst aU;subst aV;subst aW;subst aX;subst aY;subst aZ;subst aM;subst aN;subst aP;subst aT;obtain ⟨a0,a4⟩:=Prod.mk.inj aJ;subst a0;subst a4;exact abC rfl (resT rfl) (resT rfl) ⟨ab,ac,ad,ae,af,ah,ai,aj,ak,al,am,an,(ao.take ((d.length:Int).toNat * 1)),ap,aq,rfl,aH,au,av,aw,ax,ay,az,(Reps.take l _),(aea aA),aB⟩
theorem apM (k:Nat) (F:ae4) (IH87:ac9 F.f87) (IH120:acG F.f120) (IH146:acC F.f146) (IH147:acz F.f147):acz (amo k F):=by
 unfold acz;intro K wi g bs br x y z A B C D G I J N O S b m o U d p q V W X az cx cy cz cA cC cD cG cH cI cJ cK cL cM h hG aA aB aG aH aI aJ aK aL hbr aM aN;obtain ⟨r_,hr_,h⟩:=rz h;obtain ⟨e,f,u,aP,aT⟩:=az;obtain ⟨aU,aV,aW,aX,rfl,v,aY,Y⟩:=aaB.open aM;refine aat Tryz.func147 rfl (n:=31) rfl ?_;unfold amo at h;refine gI 11 [3,2] [[iI 0,sE,iI 0,nS,nS]] aN (fun aZ a0 Z=>?_);have ab:=amL Z;refine cB h aqY (fun _ a2=>(arQ k) a2 (hG.mono kr) aA aB aG aH aI aJ aK aL (Nat.le_trans hbr Z.size) aY (pt ab)) ?_;rintro ⟨⟨cN,⟨cO,cP,cQ,cR,cS,cU⟩,cV,cW,cY,cZ⟩,r⟩ _ c3 ⟨c4,c6,c7,c8,c9,da,db,dc,dd,de,df,dg,dh,s,t,rfl,j,ac,ad,ae,af,ah,ai,aj,ak,al⟩ h;have a3:=ca j ab;refine gR 12 [3,4,0,5] [] a3 (fun di a=>(bC 12 h (fun _ h=>?_) (fun _ h=>?_)))
 ·refine gD 8 [1,5,4,5] a (cB h an3 (fun _ a4=>IH146 a4 (hG.mono j.sub) ac ad ae af ah ai aj ak (Nat.le_trans hbr a.size) v (ms Y j.sub) (pt a)) ?_);rintro ⟨⟨dj,⟨dk,dl,dm,dn,dp,dq⟩,dr,ds,dt,du⟩,am,an⟩ _ dv ⟨a5,a6,a7,a8,a9,ba,bb,bd,be,bf,bg,bh,bi,ao,ap,rfl,aq,bj,bk,bm,bn,bo,bp,bq,bu,bv⟩ h;have bw:=ca aq a;refine gR 17 [2,4,4,4,0,4,5,3] [] bw (fun dw dx dy ar=>?_);have e_:=(Option.some.inj h).trans hr_;obtain ⟨bx,bz⟩:=Prod.mk.inj e_;obtain ⟨bB,bD,bE,bF,bG,bH⟩:=aas.mk.inj bx;subst bB;obtain ⟨bI,bJ,bK,bL,bM,bP⟩:=aac.mk.inj bD;subst bI;subst bJ;subst bK;subst bL;subst bM;subst bP;subst bE;subst bF;subst bG;subst bH;subst bz;exact aau rfl (resN (i:=3) (l:=(vC e f am s r t ao an ap)) ar rfl ag5 acg rfl rfl rfl) ⟨a5,a6,a7,a8,a9,ba,bb,bd,be,bf,bg,bh,bi,(vC e f am s r t ao an ap),rfl,(ar.sel [0,1,2]),bj,bk,bm,bn,bo,bp,bq,bu,(aaB.intro v (me al aq.sub) bv)⟩
 ·refine gD 8 [4,5] a (cB h alY (fun _ bQ=>IH87 bQ (hG.mono j.sub) ac ad ae af ah ai aj ak (Nat.le_trans hbr a.size) (ms Y j.sub) (pt a)) ?_);rintro ⟨⟨dz,⟨dA,dB,dC,dD,dE,dF⟩,dG,dH,dI,dJ⟩,au⟩ _ dK ⟨bR,bS,bT,bU,bV,bW,bX,bY,bZ,b0,b1,b2,b3,av,aw,rfl,ax,b4,b5,b6,b7,b8,b9,cb,cc,ce⟩ h;have cf:=ca ax a;refine gR 11 [4,4,0,4,5,3] [] cf (fun dL dM ay=>?_);have e_:=(Option.some.inj h).trans hr_;obtain ⟨ch,ci⟩:=Prod.mk.inj e_;obtain ⟨cj,ck,cl,cm,cn,co⟩:=aas.mk.inj ch;subst cj;obtain ⟨cq,cr,cs,ct,cu,cw⟩:=aac.mk.inj ck;subst cq;subst cr;subst cs;subst ct;subst cu;subst cw;subst cl;subst cm;subst cn;subst co;subst ci;exact aau rfl (resN (i:=3) (l:=(vC e f u s r t av au aw)) ay rfl ag5 acg rfl rfl rfl) ⟨bR,bS,bT,bU,bV,bW,bX,bY,bZ,b0,b1,b2,b3,(vC e f u s r t av au aw),rfl,(ay.sel [0,1,2]),b4,b5,b6,b7,b8,b9,cb,cc,(aaB.intro v (me al ax.sub) ce)⟩
theorem ahy (k0:Nat) : ∀ k,ac9 (ach k0 k).f87∧acG (ach k0 k).f120∧acC (ach k0 k).f146∧acz (ach k0 k).f147:=by
 intro k;induction k with
 | zero=>exact ⟨(by unfold ac9; intro _ _ _ _ _ _ _ _ _ _ _ _ _ _ _ _ _ _ _ _ _ _ _ _ _ _ _ _ _ _ _ _ _ _ _ _ _ _ _ _ _ _ _ _ h_; cases h_),(by unfold acG; intro _ _ _ _ _ _ _ _ _ _ _ _ _ _ _ _ _ _ _ _ _ _ _ _ _ _ _ _ _ _ _ _ _ _ _ _ _ _ _ _ _ _ h_; cases h_),(by unfold acC; intro _ _ _ _ _ _ _ _ _ _ _ _ _ _ _ _ _ _ _ _ _ _ _ _ _ _ _ _ _ _ _ _ _ _ _ _ _ _ _ _ _ _ _ _ _ _ h_; cases h_),(by unfold acz; intro _ _ _ _ _ _ _ _ _ _ _ _ _ _ _ _ _ _ _ _ _ _ _ _ _ _ _ _ _ _ _ _ _ _ _ _ _ _ _ _ _ _ h_; cases h_)⟩
 | succ k ih=>exact ⟨asY k0 (ach k0 k) ih.1 ih.2.1 ih.2.2.1 ih.2.2.2,apY k0 (ach k0 k) ih.1 ih.2.1 ih.2.2.1 ih.2.2.2,ap8 k0 (ach k0 k) ih.1 ih.2.1 ih.2.2.1 ih.2.2.2,apM k0 (ach k0 k) ih.1 ih.2.1 ih.2.2.1 ih.2.2.2⟩
theorem axz (k:Nat):ac9 (f87 k):=(ahy k k).1
theorem azl (k:Nat):acG (f120 k):=(ahy k k).2.1
theorem aAt (k:Nat):acC (f146 k):=(ahy k k).2.2.1
theorem azM (k:Nat):acz (f147 k):=(ahy k k).2.2.2
theorem at0 (k:Nat):alw (as6 k):=by
 unfold alw;intro K wi bd be bf cm dQ dR dS h hG cn co cq;obtain ⟨r_,hr_,h⟩:=rz h;obtain ⟨m,f,p,q,N,B⟩:=cm;obtain ⟨y,z,O,S,rfl,bg,al,bm⟩:=aar.open co;refine aat Tryz.func61 rfl (n:=47) rfl ?_;unfold as6 at h;refine gI 11 [0,2,6] [[nS,sE,nS,iI 0,vN,iI 0,nS,nS,nS,iI 0,iI 0],[sE,nS,iI 0,vN,iI 0,nS]] cq (fun U V a9 cr=>(bld (cells:=#[sl be bd bf,.string m,sl y f z,iI p,.bool q,iI N,sl O B S,nS,nS,iI 0,iI 0]) (vs:=[(0,sl be bd bf),(1,.agg (aF m y f z p q N O B S))]) rfl (fun w=>by kernel_rfl) (gR 11 [] [] cr (fun dT cs=>?_))));have ct:=cs.row_ (zz wi) 9 1;have cu:=ct.row_ (zz wi) 3 1;refine aaC (fun g_ a w=>∃ bn g C,∃ (A:Nat),∃ W am an X Y ao ap aq ar au Z av aw d D G ax e I J ay az aA,g_=C.length∧a=fr 47 (updL bn [(3,pp (zz wi) 0),(4,pp (zz U) 0),(5,pp (zz V) 0),(6,pp (zz a9) 0),(7,iI (A:Int))])∧KH.sub K g∧SR K g wi w [] [.box (zz wi) (zz wi) (aF m y f z p q N O B S) 52,.box (zz wi) (zz U) #[nS,sE,nS,iI 0,vN,iI 0,nS,nS,nS,iI 0,iI 0] 109,.box (zz wi) (zz V) zF.toArray 52,.box (zz wi) (zz a9) #[sl am W an,.string X,sl ao Y ap,iI aq,.bool ar,iI au,sl av Z aw,sl D d G,sl I e J,iI az,iI aA] 109,eW (zz wi) D d G 9 1 ax,eW (zz wi) I e J 3 1 ay]∧f.drop A=C∧tF g am an W∧X.size ≤ mB∧tP g ao ap Y∧tS g av aw Z∧Reps RStr 1 d ax∧d.length * 16 ≤ mB∧Reps (RInt .i64) 1 e ay∧e.length * 8 ≤ mB∧afE k m f p q B C A W X Y aq ar au Z d e az aA=some r_) f.length ?_ ?_
 ·exact ⟨_,K,f,0,bd,be,bf,m,f,y,z,p,q,N,B,O,S,([]:LB),none,0,[],([]:List Int),none,0,[],0,0,rfl,fR,kr,(cu.sel [5,4,3,2,1,0]),List.drop_zero,cn,bg,al,bm,(aa1 (R:=RStr) (size:=1)),(by simp),(aa1 (R:=(RInt .i64)) (size:=1)),(by simp),h⟩
 ·rintro _ _ bo ⟨bn,g,C,A,W,am,an,X,Y,ao,ap,aq,ar,au,Z,av,aw,d,D,G,ax,e,I,J,ay,az,aA,rfl,rfl,s,t,ab,bp,bq,br,bs,bu,bv,bw,bx,h⟩;rcases C with _ | ⟨⟨cw,dU⟩,C⟩
  ·unfold afE at h;refine gD 7 [1,1] t (bcm (r:=false) rfl rfl (congrArg some (aal ab)) (gP 13 [5,1] t ?_));have bz:=ant t;refine cB h alY (fun _ cx=>(axz k) cx (hG.mono s) bp bq br bs bu bv bw bx (Nat.le_trans (Nat.le_refl _) t.size) (ms bm s) (pt bz)) ?_;rintro ⟨⟨dV,⟨dW,dX,dY,dZ,d0,d1⟩,bB,d2,d3,d4⟩,bD⟩ _ d5 ⟨d6,d7,d8,d9,ea,ec,ed,ee,ef,eg,eh,ei,ej,bE,bF,rfl,ba,cy,cz,cA,cC,cD,cG,cH,cI,bG⟩ h;have cJ:=ca ba bz;refine gR 21 [5,3,7,1,4,3,4,4] [] cJ (fun ek el bh=>(cB h ahu (fun _ cK=>(aeD k) cK (hG.mono (s.trans ba.sub)) cy cz cA cC cD cG cH cI (Nat.le_trans (Nat.le_refl _) bh.size) (pt bh)) ?_));rintro ⟨bH,⟨bI,bJ,bK,bL,bM,bP⟩,bQ,bR,bS,bT⟩ _ em ⟨j,bU,bV,bW,bX,bY,bZ,b0,b1,b2,b3,b4,b5,rfl,aB,b6,b7,b8,b9,cb,cc,ce,cf⟩ h;have cL:=ca aB bh;refine go 2 (aav (fun a w=>∃ ch ac aG aH ad ae aI aJ aK aL aM af aN aP u aT aU bi x aV aW bj aX aY ah ai aZ a2 a3 a4 a5 aj a6 a7,a=fr 47 (updL ch [(4,pp (zz U) 0),(5,pp (zz V) 0)])∧SR K j wi w [] [.box (zz wi) (zz U) #[sl aG ac aH,.string ad,sl aI ae aJ,iI aK,.bool aL,iI aM,sl aN af aP,sl aT u aU,sl aV x aW,iI aX,iI aY] 109,.box (zz wi) (zz V) (aF ah aZ ai a2 a3 a4 a5 a6 aj a7) 52,eW (zz wi) aT u aU 9 1 bi,eW (zz wi) aV x aW 3 1 bj]∧tF j aG aH ac∧ad.size ≤ mB∧tP j aI aJ ae∧tS j aN aP af∧Reps RStr 1 u bi∧u.length * 16 ≤ mB∧Reps (RInt .i64) 1 x bj∧x.length * 8 ≤ mB∧ah.size ≤ mB∧tP j aZ a2 ai∧tS j a6 a7 aj∧aoR k ac ad ae aK aL aM af u x aX aY ah ai a3 a4 a5 aj=some r_) ?_ ?_)
   ·refine rB [4,5] cL (fun bb cM=>(ag 3 [0,1,2,0,0,11] (aaY cM) (abt (rs:=[3,4]) (by kernel_rfl) (by decide) (allC ?_ (allC ?_ allN)))))
    ·exact opQ (i:=3) rfl (gP 3 [0,3,6] bb (wB (fq [0,1,2,3,4,5] bb) (fun en=>(aQ 4 rfl (gR 3 [4] [] bb (fun eo cN=>⟨hE 4,aQ 5 rfl (gR 3 [5] [] cN (fun ep cO=>⟨hE 5,aD (gx 1 (⟨_,bH,bU,bV,bI,bJ,bW,bX,bK,bL,bM,bP,bY,bZ,bQ,b0,b1,b2,bR,b3,b4,b5,bS,bT,m,f,y,z,p,q,(bB.length:Int),bD,bE,bF,fR,(cO.sel [4,5,1,2]),b6,b7,b8,b9,cb,cc,ce,cf,bg,(mp al ((s.trans ba.sub).trans aB.sub)),(ms bG aB.sub),h⟩))⟩))⟩))))))
    ·exact opQ (i:=4) rfl (gR 3 [4] [] bb (fun eq ci=>⟨hE 4,aQ 3 rfl (gP 3 [0,3,6] ci ⟨hE 4,aQ 5 rfl (gR 3 [5] [] ci (fun es cP=>⟨hE 5,aD (gx 1 (⟨_,bH,bU,bV,bI,bJ,bW,bX,bK,bL,bM,bP,bY,bZ,bQ,b0,b1,b2,bR,b3,b4,b5,bS,bT,m,f,y,z,p,q,(bB.length:Int),bD,bE,bF,fR,(cP.sel [4,5,1,2]),b6,b7,b8,b9,cb,cc,ce,cf,bg,(mp al ((s.trans ba.sub).trans aB.sub)),(ms bG aB.sub),h⟩))⟩))⟩)⟩))
   ·rintro _ et ⟨ch,ac,aG,aH,ad,ae,aI,aJ,aK,aL,aM,af,aN,aP,u,aT,aU,bi,x,aV,aW,bj,aX,aY,ah,ai,aZ,a2,a3,a4,a5,aj,a6,a7,rfl,bk,cQ,cR,cS,cU,cV,cW,cY,cZ,c3,c4,c6,h⟩;unfold aoR at h;refine gd 1 ?_;obtain ⟨eu,c7,a8,c8⟩:=ab4 (i:=2) (bytes:=16) (R:=fun K=>RStr) bk rfl (Nat.le_refl _) cV cW (fun hs=>(fun _ _ h=>h));obtain ⟨c9,da,ak,db⟩:=ab4 (i:=2) (bytes:=8) (R:=fun K=>(RInt .i64)) c7 rfl (Nat.le_refl _) (cY.mono (fun _ _ h=>h)) cZ (fun hs=>(fun _ _ h=>h));cases (oi h).trans hr_;exact abC rfl (resN (i:=0) (l:=[sl aG ac aH,.string ad,sl aI ae aJ,iI aK,.bool aL,iI aM,sl aN af aP,sl aT u aU,sl aV x aW,iI aX,iI aY]) bk rfl axd axC rfl rfl rfl) (resN (i:=1) (l:=(vF ah aZ ai a2 a3 a4 a5 a6 aj a7)) bk rfl aht ab0 rfl rfl rfl) ⟨c9,[sl aG ac aH,.string ad,sl aI ae aJ,iI aK,.bool aL,iI aM,sl aN af aP,sl aT u aU,sl aV x aW,iI aX,iI aY],(vF ah aZ ai a2 a3 a4 a5 a6 aj a7),rfl,(da.sel []),(acE.intro (mf cQ (a8.trans ak)) cR (mp cS (a8.trans ak)) (ms cU (a8.trans ak)) (c8.mono ak (fun _ _ h=>h)) db),(aar.intro c3 (mp c4 (a8.trans ak)) (ms c6 (a8.trans ak)))⟩
  ·unfold afE at h;refine gD 7 [1,1] t (bcm (r:=true) rfl rfl (congrArg some (aak ab)) (gP 12 [1,1] t ?_));obtain ⟨dc,cj,ew,dd,ex,de,df⟩:=((mp al s)).row.at_ (aaj ab);obtain ⟨rfl,dg⟩:=aaN.open df;refine idxN (b:=dc) (o:=cj) (i:=A) ajk ajn rfl dd rfl (aab ab) (fd (cj + A * 2 + 0) arE rfl (ld1 (v:=.string cw) Tya9 rfl (t.cell (kr.cell (de 0 _ rfl))) ?_));have ck:=ant t;refine cB h avS (fun _ dh=>(asj k) dh (hG.mono s) bp bq br bs bu bv bw bx (Nat.le_trans (Nat.le_refl _) t.size) dg (pt ck)) ?_;rintro ⟨⟨di,⟨dj,dk,dl,dm,dn,dp⟩,dq,dr,ds,dt⟩,ey⟩ _ ez ⟨du,dv,dw,dx,dy,dz,dA,dB,dC,dD,dE,dF,dG,rfl,cl,dH,dI,dJ,dK,dL,dM,dN,dO⟩ h;have dP:=ca cl ck;exact go 5 (bar (r:=((A + 1:Nat):Int)) rfl rfl (aaK (aaM (((mp al s)).len) (by decide) (aab ab))) (go 3 (⟨_,Nat.lt_succ_self _,_,du,C,A + 1,di,dv,dw,dj,dk,dx,dy,dl,dm,dn,dp,dz,dA,dq,dB,dC,dD,dr,dE,dF,dG,ds,dt,rfl,fR,(s.trans cl.sub),(dP.sel [3,4,5,0,1,2]),aag ab,dH,dI,dJ,dK,dL,dM,dN,dO,h⟩)))
theorem aml (k:Nat):alw (f61 k):=at0 k
theorem at6 (k:Nat):aly (atA k):=by
 unfold aly;intro K wi dC en eo ep h hG dD dE;obtain ⟨r_,hr_,h⟩:=rz h;obtain ⟨s⟩:=dC;obtain ⟨bm,c1,rfl,t⟩:=aah.open dD;refine aat Tryz.func38 rfl (n:=91) rfl ?_;unfold atA at h;refine gI 11 [0,1,1] [[nS]] dE (fun ar eq cH=>(cB h ay3 (fun _ dF=>(auQ k) dF (hG.mono kr) (aah.intro t) (pt cH)) ?_));rintro es _ et ⟨bU,rfl,d⟩ h;have cI:=ca d cH;refine go 3 (bC 13 h (fun _ h=>?_) (fun _ h=>?_))
 ·refine gd 3 (bld (cells:=#[nS]) (vs:=[]) rfl (fun w=>by kernel_rfl) (gR 6 [0] [] cI (fun eu cJ=>?_)));cases (oi h).trans hr_;exact abC rfl (resN (i:=0) (l:=[nS]) cJ rfl adQ adM rfl rfl rfl) (resT rfl) ⟨bU,[nS],rfl,(cJ.sel []),(aah.intro (RSl.nil _ _ _ _ _ _))⟩
 ·refine gd 10 (aaC (fun g_ a w=>∃ cK bV aB,∃ (D:Nat),g_=aB.length∧a=fr 91 (updL cK [(1,pp (zz wi) 0),(2,pp (zz ar) 0),(4,iI (D:Int))])∧KH.sub bU bV∧SR K bV wi w [] [.box (zz wi) (zz wi) #[sl bm s c1] 24,.box (zz wi) (zz ar) #[nS] 24]∧s.drop D=aB∧af6 k s aB D=some r_) s.length ?_ ?_)
  ·exact ⟨_,bU,s,0,rfl,fR,kr,(cI.sel [1,0]),List.drop_zero,h⟩
  ·rintro _ _ ew ⟨cK,bV,aB,D,rfl,rfl,f,aT,aU,h⟩;rcases aB with _ | ⟨⟨cL,ex,ey,ez,eA,eB⟩,aB⟩
   ·unfold af6 at h;refine gD 7 [0,1] aT (bcm (r:=false) rfl rfl (congrArg some (aal aU)) (gP 12 [0,1] aT (cB h awr (fun _ dG=>(aqd k) dG (hG.mono (d.sub.trans f)) (mf t (d.sub.trans f)) (by decide) (pt aT)) ?_)));rintro bn _ ba ⟨aV,rfl,q⟩ h;have aw:=ca q aT;refine go 12 (bC 37 h (fun _ h=>?_) (fun _ h=>?_))
    ·refine gd 3 (bld (cells:=#[nS]) (vs:=[]) rfl (fun w=>by kernel_rfl) (gR 7 [1] [] aw (fun eC cM=>?_)));cases (oi h).trans hr_;exact abC rfl (resN (i:=1) (l:=[nS]) cM rfl adQ adM rfl rfl rfl) (resT rfl) ⟨aV,[nS],rfl,(cM.sel []),(aah.intro (RSl.nil _ _ _ _ _ _))⟩
    ·refine gD 6 [0,1] aw ?_;obtain ⟨⟨eD,dH,eF,dI,eG,eH⟩,bb,h⟩:=ob h;obtain ⟨cN,bo,eI,cO,eJ,cP,dJ⟩:=((mf t ((d.sub.trans f).trans q.sub))).row.at_ (aaA bb).1;obtain ⟨dK,dL,eL,eM,rfl,eN,eO,eP⟩:=aar.open dJ;refine idxG (b:=cN) (o:=bo) (i:=bn) ac4 ab0 rfl cO rfl (aaA bb).2.1 (aaA bb).2.2 (fd (bo + bn.toNat * 6 + 3) asd rfl (ld1 (v:=.bool dI) Tya4 rfl (aw.cell (kr.cell (cP 3 _ rfl))) (go 3 (bC 41 h (fun _ h=>?_) (fun _ h=>?_)))))
     ·refine gd 3 (bld (cells:=#[nS]) (vs:=[]) rfl (fun w=>by kernel_rfl) (gR 7 [1] [] aw (fun eQ cQ=>?_)));cases (oi h).trans hr_;exact abC rfl (resN (i:=1) (l:=[nS]) cQ rfl adQ adM rfl rfl rfl) (resT rfl) ⟨aV,[nS],rfl,(cQ.sel []),(aah.intro (RSl.nil _ _ _ _ _ _))⟩
     ·refine gD 6 [0,1] aw (idxG (b:=cN) (o:=bo) (i:=bn) ac4 ab0 rfl cO rfl (aaA bb).2.1 (aaA bb).2.2 (fd (bo + bn.toNat * 6 + 1) arI rfl (ld1 (v:=sl dK dH dL) ayo rfl (aw.cell (kr.cell (cP 1 _ rfl))) (go 5 (bC 49 h (fun _ h=>?_) (fun _ h=>?_))))))
      ·refine gd 3 (bld (cells:=#[nS]) (vs:=[]) rfl (fun w=>by kernel_rfl) (gR 7 [1] [] aw (fun eR cR=>?_)));cases (oi h).trans hr_;exact abC rfl (resN (i:=1) (l:=[nS]) cR rfl adQ adM rfl rfl rfl) (resT rfl) ⟨aV,[nS],rfl,(cR.sel []),(aah.intro (RSl.nil _ _ _ _ _ _))⟩
      ·refine gI 16 [] [[nS]] aw (fun eS dM=>?_);have dN:=dM.row_ (zz wi) 52 6;refine aaC (fun g_ a w=>∃ cS bd ax,∃ (G:Nat),∃ m ay az bp,g_=ax.length∧a=fr 91 (updL cS [(1,pp (zz wi) 0),(2,pp (zz ar) 0),(6,pp (zz ba) 0),(7,iI (G:Int))])∧KH.sub aV bd∧SR K bd wi w [] [.box (zz wi) (zz wi) #[sl bm s c1] 24,.box (zz wi) (zz ar) #[nS] 24,.box (zz wi) (zz ba) #[sl ay m az] 24,eW (zz wi) ay m az 52 6 bp]∧s.drop G=ax∧Reps (aar bd) 6 m bp∧m.length * 88 ≤ mB∧afC k s ax G m=some r_) s.length ?_ ?_
       ·exact ⟨_,aV,s,0,([]:LF),none,0,[],rfl,fR,kr,(dN.sel [2,3,1,0]),List.drop_zero,(aa1 (R:=(aar aV)) (size:=6)),(by simp),h⟩
       ·rintro _ _ bq ⟨cS,bd,ax,G,m,ay,az,bp,rfl,rfl,u,br,aW,cU,dO,h⟩;rcases ax with _ | ⟨⟨cV,cW,cY,cZ,c2,c3⟩,ax⟩
        ·unfold afC at h;refine gD 7 [0,1] br (bcm (r:=false) rfl rfl (congrArg some (aal aW)) (gR 16 [0,2,1,1] [] br (fun eT c4=>?_)));obtain ⟨dP,dQ,eU,dR⟩:=ab4 (i:=3) (bytes:=88) (R:=fun K=>(aar K)) c4 rfl (Nat.le_refl _) cU dO (fun hs=>(fun _ _ h=>aar.mono hs h));cases (oi h).trans hr_;exact abC rfl (resN (i:=1) (l:=[sl ay m az]) c4 rfl adQ adM rfl rfl rfl) (resT rfl) ⟨dP,[sl ay m az],rfl,(dQ.sel []),(aah.intro dR)⟩
        ·unfold afC at h;refine gD 7 [0,1] br (bcm (r:=true) rfl rfl (congrArg some (aak aW)) (go 7 (aav (fun a w=>∃ c5 g bs bu bv bw bx bz bB bD bW bX bY bE bF bG bH bI bJ bK bL bM bZ aX bP x y aY aZ I J N z a1 a2,a=fr 91 (updL c5 [(1,pp (zz wi) 0),(2,pp (zz ar) 0),(6,pp (zz ba) 0),(7,iI (G:Int)),(8,pp bs 0),(9,pp bP 0)])∧KH.sub bd g∧SR K g wi w [] [.box (zz wi) (zz wi) #[sl bm s c1] 24,.box (zz wi) (zz ar) #[nS] 24,.box (zz wi) (zz ba) #[sl ay m az] 24,.box (zz wi) bs #[sl bv bu bw,.string bx,sl bB bz bD,iI bW,.bool bX,iI bY,sl bF bE bG,sl bI bH bJ,sl bL bK bM,iI bZ,iI aX] 109,.box (zz wi) bP (aF x aY y aZ I J N a1 z a2) 52,eW (zz wi) ay m az 52 6 bp]∧tF g bv bw bu∧bx.size ≤ mB∧tP g bB bD bz∧tS g bF bG bE∧RSl BA RStr 1 16 g bI bJ bH∧RSl Int (RInt .i64) 1 8 g bL bM bK∧x.size ≤ mB∧tP g aY aZ y∧tS g a1 a2 z∧aoA k m G aX x y I J N z (afC k s ax)=some r_) ?_ ?_)))
         ·refine rB [13,14] br (fun be c6=>(ag 5 [0,0,1,1,2,0,3,1,4] (aaY c6) ?_));obtain ⟨c7,c8,eV,dS,eX,dT,a3⟩:=((mf t (((d.sub.trans f).trans q.sub).trans u))).row.at_ (aaj aW);obtain ⟨c9,da,db,dc,rfl,eY,eZ,e0⟩:=aar.open a3;refine kK 5 (pp c7 (c8 + G * 6)) rfl (fun w=>amy (b:=c7) (o:=c8) (i:=G) ac4 ab0 rfl dS rfl (aab aW)) c6 (tT 6 (.agg (aF cV c9 cW da cY cZ c2 db c3 dc)) [[13,6],[14,6]] rfl (fq [0,1,2,3] be) (fun w hF=>alq (cs:=(vF cV c9 cW da cY cZ c2 db c3 dc)) aht ab0 rfl rfl (fun j v hj=>hF.cell (kr.cell (dT j v hj)))) (abt (rs:=[7,11,12]) (by kernel_rfl) (by decide) (allC ?_ (allC ?_ (allC ?_ allN)))))
          ·refine opQ (i:=7) rfl (cB h ap6 (fun _ dU=>(aml k) dU (hG.mono (((d.sub.trans f).trans q.sub).trans u)) (mf t (((d.sub.trans f).trans q.sub).trans u)) a3 (pt be)) ?_);rintro ⟨⟨O,⟨S,U,V,W,X,Y⟩,Z,ab,ac,ad⟩,⟨ae,af,ah,ai,aj,ak⟩⟩ _ dd ⟨de,e1,e2,rfl,aA,dV,dW⟩ h;have b0:=ca aA be;obtain ⟨df,dg,dh,di,a4,a5,al,am,an,ao,rfl,dj,dk,dl,a6,ap,aq⟩:=acE.open dV;obtain ⟨dm,dn,a7,a8,rfl,dp,dq,a9⟩:=aar.open dW;refine go 2 (wB (fwOf (is:=[0,1,2,3]) b0 aA.sub rfl) (fun dX=>(ag 3 [8,9,10] (aaY dX) (abt (rs:=[11,12]) (by kernel_rfl) (by decide) (allC ?_ (allC ?_ allN))))))
           ·exact opQ (i:=11) rfl (gR 3 [] [[nS,sE,nS,iI 0,vN,iI 0,nS,nS,nS,iI 0,iI 0]] b0 (fun b1 bf=>(wB (fwOf (is:=[1,2,3,4]) bf aA.sub rfl) (fun bg=>(aQ 12 rfl (gR 3 [] [[sE,nS,iI 0,vN,iI 0,nS]] bf (fun b2 A=>(wB (fwOf (is:=[2,3,4,5]) A aA.sub rfl) (fun aG=>(aQ 13 rfl (gR 3 [1] [] A (fun bh B=>⟨hE 13,aQ 14 rfl (gR 3 [0] [] B (fun bi C=>⟨hE 14,aD (gx 1 (⟨_,de,(zz dd),O,df,dg,S,U,dh,di,V,W,X,Y,a4,a5,Z,al,am,ab,an,ao,ac,ad,(zz b1),ae,af,dm,dn,ah,ai,aj,ak,a7,a8,fR,aA.sub,(C.sel [2,3,4,1,0,5]),dj,dk,dl,a6,ap,aq,dp,dq,a9,h⟩))⟩))⟩))))))))))))
           ·exact opQ (i:=12) rfl (gR 3 [] [[sE,nS,iI 0,vN,iI 0,nS]] b0 (fun b1 bf=>(wB (fwOf (is:=[1,2,3,4]) bf aA.sub rfl) (fun bg=>(aQ 11 rfl (gR 3 [] [[nS,sE,nS,iI 0,vN,iI 0,nS,nS,nS,iI 0,iI 0]] bf (fun b2 A=>(wB (fwOf (is:=[2,3,4,5]) A aA.sub rfl) (fun aG=>(aQ 13 rfl (gR 3 [0] [] A (fun bh B=>⟨hE 13,aQ 14 rfl (gR 3 [1] [] B (fun bi C=>⟨hE 14,aD (gx 1 (⟨_,de,(zz b1),O,df,dg,S,U,dh,di,V,W,X,Y,a4,a5,Z,al,am,ab,an,ao,ac,ad,(zz dd),ae,af,dm,dn,ah,ai,aj,ak,a7,a8,fR,aA.sub,(C.sel [2,3,4,0,1,5]),dj,dk,dl,a6,ap,aq,dp,dq,a9,h⟩))⟩))⟩))))))))))))
          ·refine opQ (i:=11) rfl (gR 3 [] [[nS,sE,nS,iI 0,vN,iI 0,nS,nS,nS,iI 0,iI 0]] be (fun b3 au=>(wB (fq [1,2,3,4] au) (fun dY=>(abt (rs:=[7,12]) (by kernel_rfl) (by decide) (allC ?_ (allC ?_ allN)))))))
           ·refine opQ (i:=7) rfl (cB h ap6 (fun _ b4=>(aml k) b4 (hG.mono (((d.sub.trans f).trans q.sub).trans u)) (mf t (((d.sub.trans f).trans q.sub).trans u)) a3 (pt au)) ?_);rintro ⟨⟨O,⟨S,U,V,W,X,Y⟩,Z,ab,ac,ad⟩,⟨ae,af,ah,ai,aj,ak⟩⟩ _ b5 ⟨b6,dZ,d0,rfl,av,b7,b8⟩ h;have bj:=ca av au;obtain ⟨b9,cb,a4,a5,al,am,an,ao,aH,aI,rfl,cc,ce,a6,ap,aq,aJ⟩:=acE.open b7;obtain ⟨a7,a8,aK,aL,rfl,cf,a9,aM⟩:=aar.open b8;exact go 2 (wB (fwOf (is:=[1,2,3,4]) bj av.sub rfl) (fun bg=>(ag 3 [8,9,10] (aaY bg) (aQ 12 rfl (gR 3 [] [[sE,nS,iI 0,vN,iI 0,nS]] bj (fun b2 A=>(wB (fwOf (is:=[2,3,4,5]) A av.sub rfl) (fun aG=>(aQ 13 rfl (gR 3 [1] [] A (fun bh B=>⟨hE 13,aQ 14 rfl (gR 3 [0] [] B (fun bi C=>⟨hE 14,aD (gx 1 (⟨_,b6,(zz bq.drew),O,b9,cb,S,U,a4,a5,V,W,X,Y,al,am,Z,an,ao,ab,aH,aI,ac,ad,(zz b5),ae,af,a7,a8,ah,ai,aj,ak,aK,aL,fR,av.sub,(C.sel [2,3,4,1,0,5]),cc,ce,a6,ap,aq,aJ,cf,a9,aM,h⟩))⟩))⟩)))))))))))
           ·refine opQ (i:=12) rfl (gR 3 [] [[sE,nS,iI 0,vN,iI 0,nS]] au (fun d1 aN=>(wB (fq [2,3,4,5] aN) (fun d2=>(aQ 7 rfl (cB h ap6 (fun _ ch=>(aml k) ch (hG.mono (((d.sub.trans f).trans q.sub).trans u)) (mf t (((d.sub.trans f).trans q.sub).trans u)) a3 (pt aN)) ?_))))));rintro ⟨⟨O,⟨S,U,V,W,X,Y⟩,Z,ab,ac,ad⟩,⟨ae,af,ah,ai,aj,ak⟩⟩ _ d3 ⟨ci,d4,d5,rfl,aP,cj,ck⟩ h;have bk:=ca aP aN;obtain ⟨cl,cm,al,am,an,ao,aH,aI,cn,co,rfl,cq,cr,ap,aq,aJ,ct⟩:=acE.open cj;obtain ⟨aK,aL,cu,cw,rfl,cx,aM,cy⟩:=aar.open ck;exact go 2 (wB (fwOf (is:=[2,3,4,5]) bk aP.sub rfl) (fun aG=>(ag 3 [8,9,10] (aaY aG) (aQ 13 rfl (gR 3 [1] [] bk (fun bh B=>⟨hE 13,aQ 14 rfl (gR 3 [0] [] B (fun bi C=>⟨hE 14,aD (gx 1 (⟨_,ci,(zz bq.drew),O,cl,cm,S,U,al,am,V,W,X,Y,an,ao,Z,aH,aI,ab,cn,co,ac,ad,(zz b3),ae,af,aK,aL,ah,ai,aj,ak,cu,cw,fR,aP.sub,(C.sel [2,3,4,1,0,5]),cq,cr,ap,aq,aJ,ct,cx,aM,cy,h⟩))⟩))⟩))))))
          ·refine opQ (i:=12) rfl (gR 3 [] [[sE,nS,iI 0,vN,iI 0,nS]] be (fun b3 au=>(wB (fq [1,2,3,4] au) (fun dY=>(abt (rs:=[7,11]) (by kernel_rfl) (by decide) (allC ?_ (allC ?_ allN)))))))
           ·refine opQ (i:=7) rfl (cB h ap6 (fun _ b4=>(aml k) b4 (hG.mono (((d.sub.trans f).trans q.sub).trans u)) (mf t (((d.sub.trans f).trans q.sub).trans u)) a3 (pt au)) ?_);rintro ⟨⟨O,⟨S,U,V,W,X,Y⟩,Z,ab,ac,ad⟩,⟨ae,af,ah,ai,aj,ak⟩⟩ _ b5 ⟨b6,dZ,d0,rfl,av,b7,b8⟩ h;have bj:=ca av au;obtain ⟨b9,cb,a4,a5,al,am,an,ao,aH,aI,rfl,cc,ce,a6,ap,aq,aJ⟩:=acE.open b7;obtain ⟨a7,a8,aK,aL,rfl,cf,a9,aM⟩:=aar.open b8;exact go 2 (wB (fwOf (is:=[1,2,3,4]) bj av.sub rfl) (fun bg=>(ag 3 [8,9,10] (aaY bg) (aQ 11 rfl (gR 3 [] [[nS,sE,nS,iI 0,vN,iI 0,nS,nS,nS,iI 0,iI 0]] bj (fun b2 A=>(wB (fwOf (is:=[2,3,4,5]) A av.sub rfl) (fun aG=>(aQ 13 rfl (gR 3 [0] [] A (fun bh B=>⟨hE 13,aQ 14 rfl (gR 3 [1] [] B (fun bi C=>⟨hE 14,aD (gx 1 (⟨_,b6,(zz b5),O,b9,cb,S,U,a4,a5,V,W,X,Y,al,am,Z,an,ao,ab,aH,aI,ac,ad,(zz bq.drew),ae,af,a7,a8,ah,ai,aj,ak,aK,aL,fR,av.sub,(C.sel [2,3,4,0,1,5]),cc,ce,a6,ap,aq,aJ,cf,a9,aM,h⟩))⟩))⟩)))))))))))
           ·refine opQ (i:=11) rfl (gR 3 [] [[nS,sE,nS,iI 0,vN,iI 0,nS,nS,nS,iI 0,iI 0]] au (fun d1 aN=>(wB (fq [2,3,4,5] aN) (fun d2=>(aQ 7 rfl (cB h ap6 (fun _ ch=>(aml k) ch (hG.mono (((d.sub.trans f).trans q.sub).trans u)) (mf t (((d.sub.trans f).trans q.sub).trans u)) a3 (pt aN)) ?_))))));rintro ⟨⟨O,⟨S,U,V,W,X,Y⟩,Z,ab,ac,ad⟩,⟨ae,af,ah,ai,aj,ak⟩⟩ _ d3 ⟨ci,d4,d5,rfl,aP,cj,ck⟩ h;have bk:=ca aP aN;obtain ⟨cl,cm,al,am,an,ao,aH,aI,cn,co,rfl,cq,cr,ap,aq,aJ,ct⟩:=acE.open cj;obtain ⟨aK,aL,cu,cw,rfl,cx,aM,cy⟩:=aar.open ck;exact go 2 (wB (fwOf (is:=[2,3,4,5]) bk aP.sub rfl) (fun aG=>(ag 3 [8,9,10] (aaY aG) (aQ 13 rfl (gR 3 [0] [] bk (fun bh B=>⟨hE 13,aQ 14 rfl (gR 3 [1] [] B (fun bi C=>⟨hE 14,aD (gx 1 (⟨_,ci,(zz b3),O,cl,cm,S,U,al,am,V,W,X,Y,an,ao,Z,aH,aI,ab,cn,co,ac,ad,(zz bq.drew),ae,af,aK,aL,ah,ai,aj,ak,cu,cw,fR,aP.sub,(C.sel [2,3,4,0,1,5]),cq,cr,ap,aq,aJ,ct,cx,aM,cy,h⟩))⟩))⟩))))))
         ·rintro _ e3 ⟨c5,g,bs,bu,bv,bw,bx,bz,bB,bD,bW,bX,bY,bE,bF,bG,bH,bI,bJ,bK,bL,bM,bZ,aX,bP,x,y,aY,aZ,I,J,N,z,a1,a2,rfl,dr,bQ,e4,e5,e6,e7,e8,e9,d6,d7,d8,h⟩;unfold aoA at h;refine gD 8 [10,4] bQ (bC 79 h (fun _ h=>?_) (fun _ h=>?_))
          ·refine gd 1 (aav (fun a w=>∃ ds cz,a=fr 91 (updL ds [(2,pp (zz ar) 0),(3,iI cz)])∧SR K g wi w [] [.box (zz wi) (zz ar) #[nS] 24]∧aol k cz=some r_) ?_ ?_)
           ·refine rB [3] bQ (fun bR dt=>(kK 0 (.agg #[nS]) rfl (fun w=>agh (cells:=#[nS]) (vs:=[]) rfl (fun w=>by kernel_rfl)) dt (ag 1 [1,10] (aaY dt) (abt (rs:=[2,3]) (by kernel_rfl) (by decide) (allC ?_ (allC ?_ allN))))))
            ·exact opQ (i:=2) rfl (gP 3 [4] bR (wB (fq [0,1,2,3,4,5] bR) (fun fa=>(aQ 3 rfl (gR 3 [1] [] bR (fun fb d9=>⟨hE 3,ag 1 [4] (hE 3) (aD (gx 1 (⟨_,aX,fR,(d9.sel [1]),h⟩)))⟩))))))
            ·exact opQ (i:=3) rfl (gR 3 [1] [] bR (fun fc du=>⟨hE 3,aQ 2 rfl (gP 3 [4] du ⟨hE 3,ag 1 [4] (hE 3) (aD (gx 1 (⟨_,aX,fR,(du.sel [1]),h⟩)))⟩)⟩))
           ·rintro _ fe ⟨ds,cz,rfl,dv,h⟩;unfold aol at h;refine gd 7 ?_;cases (oi h).trans hr_;exact abC rfl (resN (i:=0) (l:=[nS]) dv rfl adQ adM rfl rfl rfl) (resT rfl) ⟨g,[nS],rfl,(dv.sel []),(aah.intro (RSl.nil _ _ _ _ _ _))⟩
          ·refine gD 13 [0,3,0,4,6] bQ (bsl (e:=52) (cells:=(aF x aY y aZ I J N a1 z a2)) (vs:=[(0,.agg (aF x aY y aZ I J N a1 z a2))]) bQ rfl (aao ac4 ab0 awM rfl (by decide) (by decide) rfl) (fun ff ea=>?_));obtain ⟨dw,h⟩:=aaE h;refine apR (R:=(aar g)) (p:=(aac.mk x y I J N z)) (i:=6) (j:=0) ea rfl rfl ac4 awj rfl (by decide) rfl rfl (cU.mono (fun _ _ h=>aar.mono dr h)) (aar.intro d6 d7 d8) rfl rfl (Nat.le_refl _) dw (by decide) (fun dx dy dz ec ed ee=>?_);have ef:=akr ed;exact gR 7 [0,2] [] ef (fun fg eg=>(bar (r:=((G + 1:Nat):Int)) rfl rfl (aaK (aaM (((mf t (((d.sub.trans f).trans q.sub).trans u))).len) (by decide) (aab aW))) (go 3 (⟨_,Nat.lt_succ_self _,_,g,ax,G + 1,(m ++ [(aac.mk x y I J N z)]),dx,dy,dz,rfl,fR,(u.trans dr),(eg.sel [0,1,2,5]),aag aW,ee,(aaG dw),h⟩))))
   ·unfold af6 at h;refine gD 7 [0,1] aT (bcm (r:=true) rfl rfl (congrArg some (aak aU)) (go 8 (rB [] aT (fun cA bS=>(ag 5 [0,0,1,1,2,0,3,1,4] (aaY bS) ?_)))));obtain ⟨cC,bT,fh,eh,fi,ei,ej⟩:=((mf t (d.sub.trans f))).row.at_ (aaj aU);obtain ⟨fj,fk,fl,fm,rfl,ek,fn,fo⟩:=aar.open ej;refine kK 5 (pp cC (bT + D * 6)) rfl (fun w=>amy (b:=cC) (o:=bT) (i:=D) ac4 ab0 rfl eh rfl (aab aU)) bS (kK 6 (pp cC (bT + D * 6 + 0)) rfl (fun w=>ajq (o':=bT + D * 6 + 0) arq rfl rfl) bS (tT 7 (.string cL) [] rfl (fq [0,1] cA) (fun w hF=>afS (v:=.string cL) Tya9 rfl (hF.cell (kr.cell (ei 0 _ rfl)))) (ag 1 [9] (aaY bS) (aQ 8 rfl (cB h awr (fun _ el=>(aqd k) el (hG.mono (d.sub.trans f)) (mf t (d.sub.trans f)) ek (pt cA)) ?_)))));rintro fp _ fs ⟨dA,rfl,cD⟩ h;have cG:=ca cD cA;refine go 2 (wB (fwOf (is:=[0,1]) cG cD.sub rfl) (fun em=>(ag 1 [10] (aaY em) (aD (gx 1 (bC 32 h (fun _ h=>?_) (fun _ h=>?_)))))))
    ·refine gd 3 (bld (cells:=#[nS]) (vs:=[]) rfl (fun w=>by kernel_rfl) (gR 10 [1] [] cG (fun ft dB=>?_)));cases (oi h).trans hr_;exact abC rfl (resN (i:=1) (l:=[nS]) dB rfl adQ adM rfl rfl rfl) (resT rfl) ⟨dA,[nS],rfl,(dB.sel []),(aah.intro (RSl.nil _ _ _ _ _ _))⟩
    ·exact gd 6 (bar (r:=((D + 1:Nat):Int)) rfl rfl (aaK (aaM (((mf t (d.sub.trans f))).len) (by decide) (aab aU))) (go 3 (⟨_,Nat.lt_succ_self _,_,dA,aB,D + 1,rfl,fR,(f.trans cD.sub),cG,aag aU,h⟩)))
theorem axi (k:Nat):aly (f38 k):=at6 k
theorem atc (k:Nat):akA (aty k):=by
 unfold akA;intro K wi s I J N h hG t u;obtain ⟨r_,hr_,h⟩:=rz h;obtain ⟨O⟩:=s;obtain ⟨S,c1,rfl,d⟩:=aah.open t;refine aat Tryz.func16 rfl (n:=13) rfl ?_;unfold aty at h;refine gI 11 [0,1,1] [[nS]] u (fun U V e=>(cB h azt (fun _ v=>(ay8 k) v (hG.mono kr) (aah.intro d) (pt e)) ?_));rintro W _ X ⟨x,rfl,a⟩ h;have b:=ca a e;refine go 3 (bC 6 h (fun _ h=>?_) (fun _ h=>?_))
 ·refine gd 3 (bld (cells:=#[nS]) (vs:=[]) rfl (fun w=>by kernel_rfl) (gR 6 [0] [] b (fun Y f=>?_)));cases (oi h).trans hr_;exact abC rfl (resN (i:=0) (l:=[nS]) f rfl adQ adM rfl rfl rfl) (resT rfl) ⟨x,[nS],rfl,(f.sel []),(aah.intro (RSl.nil _ _ _ _ _ _))⟩
 ·refine gD 6 [0,1,1] b (cB h ax3 (fun _ y=>(aug k) y (hG.mono a.sub) (aah.intro (mf d a.sub)) (pt b)) ?_);rintro ⟨Z⟩ _ ab ⟨ac,ad,rfl,g,j⟩ h;have m:=ca g b;obtain ⟨ae,af,rfl,ah⟩:=aah.open j;refine cB h azY (fun _ z=>(axi k) z (hG.mono m.sub) j (pt m)) ?_;rintro ⟨⟨o⟩,ai⟩ _ aj ⟨A,ak,rfl,B,C⟩ h;have D:=ca B m;obtain ⟨p,q,rfl,G⟩:=aah.open C;refine gR 7 [0] [] D (fun al r=>?_);cases (oi h).trans hr_;exact abC rfl (resN (i:=0) (l:=[sl p o q]) r rfl adQ adM rfl rfl rfl) (resT rfl) ⟨A,[sl p o q],rfl,(r.sel []),(aah.intro G)⟩
theorem axu (k:Nat):akA (f16 k):=atc k
theorem asX (k:Nat) (F:aqe) (IH45:afs F.f45):afs (aqC k F):=by
 unfold afs;intro K wi p D G s ac h hG u x;obtain ⟨r_,hr_,h⟩:=rz h;refine aat Tryz.func45 rfl (n:=31) rfl ?_;unfold aqC at h;refine gd 12 (bC 8 h (fun _ h=>?_) (fun _ h=>?_))
 ·refine gd 8 ?_;cases (oi h).trans hr_;exact aau rfl (resT rfl) ⟨K,rfl,x⟩
 ·refine gd 8 (aav (fun a w=>∃ y q t,a=fr 31 (updL y [(5,iI t)])∧KH.sub K q∧SR K q wi w [] []∧aoN k F t=some r_) ?_ ?_)
  ·refine gd 6 (aaC (fun g_ a w=>∃ z l f,∃ (d:Nat),∃ e,g_=f.length∧a=fr 31 (updL z [(0,sl D p G),(1,iI s),(5,iI e),(6,iI (d:Int))])∧KH.sub K l∧SR K l wi w [] []∧p.drop d=f∧ahU k F s f d e=some r_) p.length ?_ ?_)
   ·exact ⟨_,K,p,0,0,rfl,fR,kr,x,List.drop_zero,h⟩
   ·rintro _ _ ad ⟨z,l,f,d,e,rfl,rfl,g,m,j,h⟩;rcases f with _ | ⟨⟨ae,af,ah,ai,I⟩,f⟩
    ·unfold ahU at h;exact gd 6 (bcm (r:=false) rfl rfl (congrArg some (aal j)) (go 12 (⟨_,l,e,fR,g,m,h⟩)))
    ·unfold ahU at h;refine gd 6 (bcm (r:=true) rfl rfl (congrArg some (aak j)) (go 8 (bC 16 h (fun _ h=>?_) (fun _ h=>?_))))
     ·refine gd 7 (bar (r:=(w64 (e + 1))) rfl rfl rfl (go 2 ?_));obtain ⟨J,A,aj,N,ak,O,S⟩:=((me u g)).row.at_ (aaj j);obtain ⟨U,V,rfl,al,W⟩:=aan.open S;refine idxN (b:=J) (o:=A) (i:=d) ack abp rfl N rfl (aab j) (fd (A + d * 5 + 4) awS rfl (ld1 (v:=sl U I V) axp rfl (m.cell (kr.cell (O 4 _ rfl))) (go 1 (bar (r:=(w64 (s + 1))) rfl rfl rfl (cB h avr (fun _ X=>IH45 X (hG.mono g) W (pt m)) ?_)))));rintro B _ am ⟨Y,rfl,C⟩ h;have Z:=ca C m;exact bar (r:=(w64 ((w64 (e + 1)) + B))) rfl rfl rfl (go 6 (bar (r:=((d + 1:Nat):Int)) rfl rfl (aaK (aaM (((me u g)).len) (by decide) (aab j))) (go 3 (⟨_,Nat.lt_succ_self _,_,Y,f,d + 1,(w64 ((w64 (e + 1)) + B)),rfl,fR,(g.trans C.sub),Z,aag j,h⟩))))
     ·exact gd 6 (⟨_,l,e,fR,g,m,h⟩)
  ·rintro _ an ⟨y,q,t,rfl,ao,ab,h⟩;unfold aoN at h;refine gd 7 ?_;cases (oi h).trans hr_;exact aau rfl (resT rfl) ⟨q,rfl,ab⟩
theorem atm (k0:Nat) : ∀ k,afs (anT k0 k).f45:=by
 intro k;induction k with
 | zero=>exact (by unfold afs; intro _ _ _ _ _ _ _ h_; cases h_)
 | succ k ih=>exact asX k0 (anT k0 k) ih
theorem auj (k:Nat):afs (f45 k):=(atm k k)
theorem aua (k:Nat) (F:anr) (IH24:afg F.f24):afg (ass k F):=by
 unfold afg;intro K wi I af ah d bR h hG aq ar;obtain ⟨r_,hr_,h⟩:=rz h;refine aat Tryz.func24 rfl (n:=85) rfl ?_;unfold ass at h;refine gd 12 (bC 10 h (fun _ h=>?_) (fun _ h=>?_))
 ·refine gd 8 ?_;cases (oi h).trans hr_;exact aau rfl (resT rfl) ⟨K,rfl,ar⟩
 ·refine gd 8 (aav (fun a w=>∃ au Z ai,a=fr 85 (updL au [(5,iI ai)])∧KH.sub K Z∧SR K Z wi w [] []∧aom k F ai=some r_) ?_ ?_)
  ·refine gd 6 (aaC (fun g_ a w=>∃ av J x,∃ (q:Nat),∃ f,g_=x.length∧a=fr 85 (updL av [(0,sl af I ah),(1,iI d),(5,iI f),(6,iI (q:Int))])∧KH.sub K J∧SR K J wi w [] []∧I.drop q=x∧af1 k F d x q f=some r_) I.length ?_ ?_)
   ·exact ⟨_,K,I,0,0,rfl,fR,kr,ar,List.drop_zero,h⟩
   ·rintro _ _ aw ⟨av,J,x,q,f,rfl,rfl,s,ab,N,h⟩;rcases x with _ | ⟨⟨ax,ay,az,aA,aB,aG,aH,aI,aJ,aK,U⟩,x⟩
    ·unfold af1 at h;exact gd 6 (bcm (r:=false) rfl rfl (congrArg some (aal N)) (go 12 (⟨_,J,f,fR,s,ab,h⟩)))
    ·unfold af1 at h;refine gd 6 (bcm (r:=true) rfl rfl (congrArg some (aak N)) (go 8 (bC 18 h (fun _ h=>?_) (fun _ h=>?_))))
     ·refine gd 3 (aav (fun a w=>∃ aL ac ad,a=fr 85 (updL aL [(0,sl af I ah),(1,iI d),(5,iI ad),(6,iI (q:Int))])∧KH.sub J ac∧SR K ac wi w [] []∧aok k F q ad (af1 k F d x)=some r_) ?_ ?_)
      ·refine gd 5 ?_;obtain ⟨bj,bk,bS,bm,bT,bn,bo⟩:=((ms aq s)).row.at_ (aaj N);obtain ⟨aM,aN,aP,aT,aU,aV,aW,aX,aY,aZ,rfl,bU,bV,bp,bq,br,bs,a2⟩:=aai.open bo;refine idxN (b:=bj) (o:=bk) (i:=q) ab2 abx rfl bm rfl (aab N) (lD (vS ax ay az aA aB aG aM aH aN aP aI aT aU aJ aV aW aK aX aY U aZ) aeH abx rfl (fun j v hj=>ab.cell (kr.cell (bn j v hj))) (gR 5 [0] [[iI 0,sE,iI 0,sE,iI 0,iI 0,nS,nS,nS,nS,nS]] ab (fun bW bX bu=>(rB [] bu (fun a3 u=>(ag 1 [0] (aaY u) (kA 1 (w64 (f + 1)) rfl u (ag 3 [2,6,3,1,4] (aaY u) (kA 5 (w64 (d + 1)) rfl u (ag 3 [8,7,9,1,10] (aaY u) (kA 11 (w64 (d + 1)) rfl u (ag 3 [14,8,15,1,16] (aaY u) (kA 17 (w64 (d + 1)) rfl u (ag 3 [20,9,21,1,22] (aaY u) (kA 23 (w64 (d + 1)) rfl u (aQ 6 rfl (cB h avr (fun _ bv=>(auj k) bv (hG.mono s) bp (pt a3)) ?_)))))))))))))))));rintro y _ bY ⟨bZ,rfl,e⟩ h;have aj:=ca e a3;refine go 2 (wB (fwOf (is:=[0]) aj e.sub rfl) (fun bw=>(kA 7 (w64 ((w64 (f + 1)) + y)) rfl bw (aQ 12 rfl (cB h aqt (fun _ bx=>IH24 bx (hG.mono (s.trans e.sub)) (ms bq e.sub) (pt aj)) ?_)))));rintro B _ b0 ⟨b1,rfl,g⟩ h;have ak:=ca g aj;refine go 2 (wB (fwOf (is:=[0]) ak (e.sub.trans g.sub) rfl) (fun bz=>(kA 13 (w64 ((w64 ((w64 (f + 1)) + y)) + B)) rfl bz (aQ 18 rfl (cB h aqt (fun _ bB=>IH24 bB (hG.mono ((s.trans e.sub).trans g.sub)) (ms br (e.sub.trans g.sub)) (pt ak)) ?_)))));rintro V _ b2 ⟨b3,rfl,t⟩ h;have al:=ca t ak;refine go 2 (wB (fwOf (is:=[0]) al ((e.sub.trans g.sub).trans t.sub) rfl) (fun bD=>(kA 19 (w64 ((w64 ((w64 ((w64 (f + 1)) + y)) + B)) + V)) rfl bD (aQ 24 rfl (cB h aqt (fun _ bE=>IH24 bE (hG.mono (((s.trans e.sub).trans g.sub).trans t.sub)) (ms bs ((e.sub.trans g.sub).trans t.sub)) (pt al)) ?_)))));rintro am _ b4 ⟨a4,rfl,z⟩ h;have a5:=ca z al;refine go 2 (wB (fwOf (is:=[0]) a5 (((e.sub.trans g.sub).trans t.sub).trans z.sub) rfl) (fun a6=>(kA 25 (w64 ((w64 ((w64 ((w64 ((w64 (f + 1)) + y)) + B)) + V)) + am)) rfl a6 (ag 1 [26] (aaY a6) (aD (gx 7 (aaC (fun g_ a w=>∃ a7 W C,∃ (l:Nat),∃ m,g_=C.length∧a=fr 85 (updL a7 [(0,sl af I ah),(1,iI d),(5,iI m),(6,iI (q:Int)),(7,pp (zz aw) 0),(8,iI (l:Int))])∧KH.sub a4 W∧SR K W wi w [] [.box (zz wi) (zz aw) (aS ax ay az aA aB aG aM aH aN aP aI aT aU aJ aV aW aK aX aY U aZ) 62]∧U.drop l=C∧ahQ k F d q (af1 k F d x) C l m=some r_) U.length ?_ ?_)))))))
       ·exact ⟨_,a4,U,0,(w64 ((w64 ((w64 ((w64 ((w64 (f + 1)) + y)) + B)) + V)) + am)),rfl,fR,kr,a5,List.drop_zero,h⟩
       ·rintro _ _ b5 ⟨a7,W,C,l,m,rfl,rfl,D,X,G,h⟩;rcases C with _ | ⟨⟨b6,b7,b8,a8,a9⟩,C⟩
        ·unfold ahQ at h;exact gD 7 [10,1] X (bcm (r:=false) rfl rfl (congrArg some (aal G)) (go 13 (⟨_,W,m,fR,((((e.sub.trans g.sub).trans t.sub).trans z.sub).trans D),(X.sel []),h⟩)))
        ·unfold ahQ at h;refine gD 7 [10,1] X (bcm (r:=true) rfl rfl (congrArg some (aak G)) (go 8 (bC 59 h (fun _ h=>?_) (fun _ h=>?_))))
         ·refine gd 5 (rB [] X (fun ae p=>(ag 1 [0] (aaY p) (kA 1 (w64 (m + 1)) rfl p (ag 3 [2,10,3,1,4] (aaY p) ?_)))));obtain ⟨O,A,b9,ba,cb,bb,bF⟩:=((mc a2 ((((e.sub.trans g.sub).trans t.sub).trans z.sub).trans D))).row.at_ (aaj G);obtain ⟨bd,be,bf,bg,rfl,cc,bG,bH⟩:=aaB.open bF;refine kK 5 (pp O (A + l * 5)) rfl (fun w=>amy (b:=O) (o:=A) (i:=l) acX acg rfl ba rfl (aab G)) p (kK 6 (pp O (A + l * 5 + 3)) rfl (fun w=>ajq (o':=A + l * 5 + 3) au6 rfl rfl) p (tT 7 (sl bd a8 be) [] rfl (fq [0] ae) (fun w hF=>afS (v:=sl bd a8 be) axp rfl (hF.cell (kr.cell (bb 3 _ rfl)))) (ag 1 [8] (aaY p) (kA 9 (w64 (d + 1)) rfl p (ag 3 [12,10,13,1,14] (aaY p) (kK 15 (pp O (A + l * 5)) rfl (fun w=>amy (b:=O) (o:=A) (i:=l) acX acg rfl ba rfl (aab G)) p (kK 16 (pp O (A + l * 5 + 4)) rfl (fun w=>ajq (o':=A + l * 5 + 4) avM rfl rfl) p (tT 17 (sl bf a9 bg) [] rfl (fq [0] ae) (fun w hF=>afS (v:=sl bf a9 bg) asz rfl (hF.cell (kr.cell (bb 4 _ rfl)))) (ag 1 [18] (aaY p) (kA 19 (w64 (d + 1)) rfl p (aQ 10 rfl (cB h avr (fun _ bI=>(auj k) bI (hG.mono (((((s.trans e.sub).trans g.sub).trans t.sub).trans z.sub).trans D)) bG (pt ae)) ?_))))))))))));rintro Y _ ce ⟨cf,rfl,S⟩ h;have an:=ca S ae;refine go 2 (wB (fwOf (is:=[0]) an S.sub rfl) (fun bJ=>(kA 11 (w64 ((w64 (m + 1)) + Y)) rfl bJ (aQ 20 rfl (cB h aqt (fun _ bK=>IH24 bK (hG.mono ((((((s.trans e.sub).trans g.sub).trans t.sub).trans z.sub).trans D).trans S.sub)) (ms bH S.sub) (pt an)) ?_)))));rintro ao _ ch ⟨bL,rfl,ap⟩ h;have bh:=ca ap an;exact go 2 (wB (fwOf (is:=[0]) bh (S.sub.trans ap.sub) rfl) (fun bi=>(kA 21 (w64 ((w64 ((w64 (m + 1)) + Y)) + ao)) rfl bi (ag 1 [22] (aaY bi) (aD (gx 4 (bar (r:=((l + 1:Nat):Int)) rfl rfl (aaK (aaM (((mc a2 ((((e.sub.trans g.sub).trans t.sub).trans z.sub).trans D))).len) (by decide) (aab G))) (go 3 (⟨_,Nat.lt_succ_self _,_,bL,C,l + 1,(w64 ((w64 ((w64 (m + 1)) + Y)) + ao)),rfl,fR,((D.trans S.sub).trans ap.sub),bh,aag G,h⟩)))))))))
         ·exact gd 7 (⟨_,W,m,fR,((((e.sub.trans g.sub).trans t.sub).trans z.sub).trans D),(X.sel []),h⟩)
      ·rintro _ ci ⟨aL,ac,ad,rfl,bM,bP,h⟩;unfold aok at h;exact gd 2 (bar (r:=((q + 1:Nat):Int)) rfl rfl (aaK (aaM (((ms aq s)).len) (by decide) (aab N))) (go 3 (⟨_,Nat.lt_succ_self _,_,ac,x,q + 1,ad,rfl,fR,(s.trans bM),bP,aag N,h⟩)))
     ·exact gd 6 (⟨_,J,f,fR,s,ab,h⟩)
  ·rintro _ cj ⟨au,Z,ai,rfl,ck,bQ,h⟩;unfold aom at h;refine gd 7 ?_;cases (oi h).trans hr_;exact aau rfl (resT rfl) ⟨Z,rfl,bQ⟩
theorem atX (k0:Nat) : ∀ k,afg (amm k0 k).f24:=by
 intro k;induction k with
 | zero=>exact (by unfold afg; intro _ _ _ _ _ _ _ h_; cases h_)
 | succ k ih=>exact aua k0 (amm k0 k) ih
theorem ayu (k:Nat):afg (f24 k):=(atX k k)
theorem aw0 (k:Nat):anA (f8_b k):=by
 unfold anA;intro K wi B ad ae h hG C D;obtain ⟨r_,hr_,h⟩:=rz h;obtain ⟨p⟩:=B;obtain ⟨G,c1,rfl,t⟩:=aah.open C;refine aat Tryz.func8 rfl (n:=28) rfl ?_;unfold f8_b at h;refine gI 11 [] [] D (fun af I=>(aav (fun a w=>∃ u q s,a=fr 28 (updL u [(3,iI s)])∧KH.sub K q∧SR K q wi w [] []∧asK k s=some r_) ?_ ?_))
 ·refine gd 6 (aaC (fun g_ a w=>∃ x m g,∃ (d:Nat),∃ e,g_=g.length∧a=fr 28 (updL x [(1,pp (zz wi) 0),(3,iI e),(4,iI (d:Int))])∧KH.sub K m∧SR K m wi w [] [.box (zz wi) (zz wi) #[sl G p c1] 24]∧p.drop d=g∧ann k g d e=some r_) p.length ?_ ?_)
  ·exact ⟨_,K,p,0,0,rfl,fR,kr,I,List.drop_zero,h⟩
  ·rintro _ _ ah ⟨x,m,g,d,e,rfl,rfl,j,f,l,h⟩;rcases g with _ | ⟨⟨ai,aj,ak,al,am,J⟩,g⟩
   ·unfold ann at h;exact gD 7 [0,1] f (bcm (r:=false) rfl rfl (congrArg some (aal l)) (go 12 (⟨_,m,e,fR,j,(f.sel []),h⟩)))
   ·unfold ann at h;refine gD 7 [0,1] f (bcm (r:=true) rfl rfl (congrArg some (aak l)) (go 8 (bC 13 h (fun _ h=>?_) (fun _ h=>?_))))
    ·refine gd 7 (bar (r:=(w64 (e + 1))) rfl rfl rfl (gP 3 [0,1] f ?_));obtain ⟨N,y,an,O,ao,S,U⟩:=((mf t j)).row.at_ (aaj l);obtain ⟨ap,aq,V,W,rfl,ar,au,X⟩:=aar.open U;refine idxN (b:=N) (o:=y) (i:=d) ac4 ab0 rfl O rfl (aab l) (fd (y + d * 6 + 5) am9 rfl (ld1 (v:=sl V J W) asz rfl (f.cell (kr.cell (S 5 _ rfl))) (cB h aqt (fun _ Y=>(ayu k) Y (hG.mono j) X (pt f)) ?_)));rintro z _ av ⟨Z,rfl,A⟩ h;have ab:=ca A f;exact bar (r:=(w64 ((w64 (e + 1)) + z))) rfl rfl rfl (go 6 (bar (r:=((d + 1:Nat):Int)) rfl rfl (aaK (aaM (((mf t j)).len) (by decide) (aab l))) (go 3 (⟨_,Nat.lt_succ_self _,_,Z,g,d + 1,(w64 ((w64 (e + 1)) + z)),rfl,fR,(j.trans A.sub),ab,aag l,h⟩))))
    ·exact gd 6 (⟨_,m,e,fR,j,(f.sel []),h⟩)
 ·rintro _ aw ⟨u,q,s,rfl,ax,ac,h⟩;unfold asK at h;refine gd 8 ?_;cases (oi h).trans hr_;exact aau rfl (resT rfl) ⟨q,rfl,ac⟩
theorem azu (k:Nat):anA (f8 k):=aw0 k
theorem ath (k:Nat):akE (awn k):=by
 unfold akE;intro K wi f i h hG d;obtain ⟨r_,hr_,h⟩:=rz h;refine aat Tryz.func30 rfl (n:=9) rfl ?_;unfold awn at h;refine gd 5 (aav (fun a w=>∃ e b,a=fr 9 (updL e [(2,.bool b)])∧SR K K wi w [] []∧ao2 k b=some r_) ?_ ?_)
 ·refine gd 4 (bO 5 h (fun _ h=>?_) (fun _ h=>?_))
  ·exact go 6 (⟨_,true,fR,d,h⟩)
  ·exact go 8 (⟨_,(decide (f > 6)),fR,d,h⟩)
 ·rintro _ j ⟨e,b,rfl,g,h⟩;unfold ao2 at h;refine gd 1 ?_;cases (oi h).trans hr_;exact aau rfl (resT rfl) ⟨K,rfl,g⟩
theorem axL (k:Nat):akE (f30 k):=ath k
theorem alH (k:Nat):aee (agI k):=by
 unfold aee;intro K wi g x y N h hG p z;obtain ⟨r_,hr_,h⟩:=rz h;refine aat Tryz.func52 rfl (n:=19) rfl ?_;unfold agI at h;refine gd 14 (aaC (fun g_ a w=>∃ q j d,∃ (e:Nat),g_=d.length∧a=fr 19 (updL q [(0,sl x g y),(1,.func (.func 30) #[] #[]),(7,iI (g.length:Int)),(8,iI (e:Int))])∧KH.sub K j∧SR K j wi w [] []∧g.drop e=d∧adi k d e=some r_) g.length ?_ ?_)
 ·exact ⟨_,K,g,0,rfl,fR,kr,z,List.drop_zero,h⟩
 ·rintro _ _ O ⟨q,j,d,e,rfl,rfl,l,m,f,h⟩;rcases d with _ | ⟨A,d⟩
  ·unfold adi at h;refine gd 2 (bcm (r:=false) rfl rfl (congrArg some (aal f)) (go 15 ?_));cases (oi h).trans hr_;exact aau rfl (resT rfl) ⟨j,rfl,m⟩
  ·unfold adi at h;refine gd 2 (bcm (r:=true) rfl rfl (congrArg some (aak f)) (go 19 ?_));obtain ⟨B,C,S,D,U,G,I⟩:=((p.mono l (fun _ _ h=>h))).row.at_ (aaj f);obtain rfl:=I;refine idxN (b:=B) (o:=C) (i:=e) abv Tys3 rfl D rfl (aab f) (ld1 (v:=iI A) Tya3 rfl (m.cell (kr.cell (G 0 _ rfl))) (cB h azE (fun _ J=>(axL k) J (hG.mono l) (pt m)) ?_));rintro V _ W ⟨s,rfl,t⟩ h;have u:=ca t m;refine go 2 (bC 16 h (fun _ h=>?_) (fun _ h=>?_))
   ·refine gd 13 ?_;cases (oi h).trans hr_;exact aau rfl (resT rfl) ⟨s,rfl,u⟩
   ·exact gd 5 (bar (r:=((e + 1:Nat):Int)) rfl rfl (aaK (aaM (((p.mono l (fun _ _ h=>h))).len) (by decide) (aab f))) (go 3 (⟨_,Nat.lt_succ_self _,_,s,d,e + 1,rfl,fR,(l.trans t.sub),u,aag f,h⟩)))
theorem anj (k:Nat):aee (ao5 k):=alH k
theorem alu (k:Nat):aeo (agN k):=by
 unfold aeo;intro K wi j l m b h hG d a;obtain ⟨r_,hr_,h⟩:=rz h;refine aat Tryz.func29 rfl (n:=9) rfl ?_;unfold agN at h;refine gd 9 (cB h aAe (fun _ e=>(anj k) e (hG.mono kr) d (pt a)) ?_);rintro b _ o ⟨f,rfl,g⟩ h;have i:=ca g a;refine go 5 ?_;cases (oi h).trans hr_;exact aau rfl (resT rfl) ⟨f,rfl,i⟩
theorem anI (k:Nat):aeo (aoq k):=alu k
theorem asH (k:Nat):aki (avV k):=by
 unfold aki;intro K wi d q a r h hG e f;obtain ⟨r_,hr_,h⟩:=rz h;obtain ⟨s,t,u,v,x⟩:=d;obtain ⟨y,z,rfl,g,i⟩:=aan.open e;refine aat Tryz.func31 rfl (n:=10) rfl ?_;unfold avV at h;refine gI 9 [] [] f (fun A j=>(bld (cells:=#[iI 0,iI 0,.bool a]) (vs:=[(2,.bool a)]) rfl (fun w=>by kernel_rfl) (gR 7 [0,0,1,5] [[iI 0,iI 0,vN]] j (fun B C b=>(cB h axT (fun _ l=>(axH k) l (hG.mono kr) (aan.intro g i) (pt b)) ?_)))));rintro ⟨⟨D,G,I⟩,J⟩ _ N ⟨m,rfl,o⟩ h;have p:=ca o b;refine go 4 ?_;cases (oi h).trans hr_;exact aau rfl (resT rfl) ⟨m,rfl,(p.sel [])⟩
theorem axl (k:Nat):aki (f31 k):=asH k
theorem asy (k:Nat) (F:afI) (IH32:acN F.f32) (IH1005440:abg F.f1005440) (IH1005532:aa9 F.f1005532) (IH1008147:abe F.f1008147) (IH1008221:aa3 F.f1008221) (IH1011347:aa7 F.f1011347):acN (awK k F):=by
 unfold acN;intro K wi m A B C h hG o p;obtain ⟨r_,hr_,h⟩:=rz h;obtain ⟨D,G,I,J,N⟩:=m;obtain ⟨O,S,rfl,U,f⟩:=aan.open o;refine aat Tryz.func32 rfl (n:=25) rfl ?_;unfold awK at h;refine gI 7 [] [] p (fun g V b=>(aav (fun a w=>∃ i d e,a=fr 25 (updL i [(4,.bool e)])∧KH.sub K d∧SR K d wi w [] []∧ajz k F e=some r_) ?_ ?_))
 ·refine gD 5 [0,2] b (bO 8 h (fun _ h=>?_) (fun _ h=>?_))
  ·refine gP 16 [4,2] b (mkf (us:=[]) (vs:=[pp (zz g) 0]) rfl rfl (go 1 (cB h axA (fun _ q=>IH1005440 q (hG.mono kr) f (pt b)) ?_)));rintro r _ W ⟨s,rfl,j⟩ h;have t:=ca j b;exact go 4 (⟨_,s,r,fR,j.sub,(t.sel []),h⟩)
  ·refine gP 8 [3,2] b (bO 12 h (fun _ h=>?_) (fun _ h=>?_))
   ·refine gP 12 [3,2,1] b (bO 19 h (fun _ h=>?_) (fun _ h=>?_))
    ·refine gP 5 [4,2] b (mkf (us:=[]) (vs:=[pp (zz g) 0]) rfl rfl (go 1 (cB h axA (fun _ u=>IH1005440 u (hG.mono kr) f (pt b)) ?_)));rintro v _ X ⟨x,rfl,l⟩ h;have y:=ca l b;exact go 4 (⟨_,x,v,fR,l.sub,(y.sel []),h⟩)
    ·exact go 8 (⟨_,K,false,fR,kr,(b.sel []),h⟩)
   ·exact go 16 (⟨_,K,false,fR,kr,(b.sel []),h⟩)
 ·rintro _ Y ⟨i,d,e,rfl,Z,z,h⟩;unfold ajz at h;refine gd 1 ?_;cases (oi h).trans hr_;exact aau rfl (resT rfl) ⟨d,rfl,z⟩
theorem akC (k:Nat) (F:afI) (IH32:acN F.f32) (IH1005440:abg F.f1005440) (IH1005532:aa9 F.f1005532) (IH1008147:abe F.f1008147) (IH1008221:aa3 F.f1008221) (IH1011347:aa7 F.f1011347):abg (agE k F):=by
 unfold abg;intro K wi j l m g bs s o h hG b a;obtain ⟨r_,hr_,h⟩:=rz h;refine aat Tryz.func54 rfl (n:=9) rfl ?_;unfold agE at h;refine gI 9 [] [] a (fun p a=>(mkf (us:=[]) (vs:=[pp (zz wi) 0]) rfl rfl (cB h azz (fun _ d=>IH1008147 d (hG.mono kr) b (pt a)) ?_)));rintro q _ r ⟨e,rfl,f⟩ h;have i:=ca f a;refine go 5 ?_;cases (oi h).trans hr_;exact aau rfl (resT rfl) ⟨e,rfl,(i.sel [1])⟩
theorem alj (k:Nat) (F:afI) (IH32:acN F.f32) (IH1005440:abg F.f1005440) (IH1005532:aa9 F.f1005532) (IH1008147:abe F.f1008147) (IH1008221:aa3 F.f1008221) (IH1011347:aa7 F.f1011347):aa9 (agO k F):=by
 unfold aa9;intro K wi b p g bs s q h hG d e;obtain ⟨r_,hr_,h⟩:=rz h;obtain ⟨r,t,u,v,x⟩:=b;obtain ⟨y,z,rfl,f,i⟩:=aan.open d;refine aat Tryz.func55 rfl (n:=7) rfl ?_;unfold agO at h;refine gI 10 [0,0,5,2] [] e (fun A a=>(cB h ayi (fun _ j=>IH32 j (hG.mono kr) (aan.intro f i) (pt a)) ?_));rintro B _ C ⟨l,rfl,m⟩ h;have o:=ca m a;refine go 4 ?_;cases (oi h).trans hr_;exact aau rfl (resT rfl) ⟨l,rfl,(o.sel [1])⟩
theorem akG (k:Nat) (F:afI) (IH32:acN F.f32) (IH1005440:abg F.f1005440) (IH1005532:aa9 F.f1005532) (IH1008147:abe F.f1008147) (IH1008221:aa3 F.f1008221) (IH1011347:aa7 F.f1011347):abe (agM k F):=by
 unfold abe;intro K wi l m o g bs gA bsA sA b h hG d a;obtain ⟨r_,hr_,h⟩:=rz h;refine aat Tryz.func81 rfl (n:=9) rfl ?_;unfold agM at h;refine gd 9 (cB h axR (fun _ e=>IH1011347 e (hG.mono kr) d (pt a)) ?_);rintro b _ p ⟨f,rfl,i⟩ h;have j:=ca i a;refine go 5 ?_;cases (oi h).trans hr_;exact aau rfl (resT rfl) ⟨f,rfl,j⟩
theorem ak0 (k:Nat) (F:afI) (IH32:acN F.f32) (IH1005440:abg F.f1005440) (IH1005532:aa9 F.f1005532) (IH1008147:abe F.f1008147) (IH1008221:aa3 F.f1008221) (IH1011347:aa7 F.f1011347):aa3 (agD k F):=by
 unfold aa3;intro K wi m z g bs gA bsA sA A h hG o p;obtain ⟨r_,hr_,h⟩:=rz h;obtain ⟨a,b,d,e,f⟩:=m;obtain ⟨i,j,rfl,q,r⟩:=aan.open o;refine aat Tryz.func82 rfl (n:=8) rfl ?_;unfold agD at h;refine gI 10 [2,0,0,5] [] p (fun s t=>?_);have l:=p201 t;obtain ⟨B,u,h⟩:=ob h;refine clV (caps:=#[pp gA 0]) (vs:=[.agg (aE a b d e i f j),pp gA 0]) rfl aAq rfl (IH1005532 u (hG.mono kr) (aan.intro q r) (pt l)) ?_;rintro _ C ⟨v,rfl,x⟩;have y:=ca x l;refine go 5 ?_;cases (oi h).trans hr_;exact aau rfl (resT rfl) ⟨v,rfl,(y.sel [2,0])⟩
theorem alF (k:Nat) (F:afI) (IH32:acN F.f32) (IH1005440:abg F.f1005440) (IH1005532:aa9 F.f1005532) (IH1008147:abe F.f1008147) (IH1008221:aa3 F.f1008221) (IH1011347:aa7 F.f1011347):aa7 (agX k F):=by
 unfold aa7;intro K wi l O S g bs gA bsA sA ac h hG s U;obtain ⟨r_,hr_,h⟩:=rz h;refine aat Tryz.func113 rfl (n:=19) rfl ?_;unfold agX at h;refine gd 14 (aaC (fun g_ a w=>∃ t m d,∃ (e:Nat),g_=d.length∧a=fr 19 (updL t [(0,sl O l S),(1,.func (.func 82) #[] #[pp g 0]),(7,iI (l.length:Int)),(8,iI (e:Int))])∧KH.sub K m∧SR K m wi w [.box bs g #[.func (.func 55) #[] #[pp gA 0]] 74,.box bsA gA #[iI sA] 3] [.box bsA gA #[iI sA] 3,.box bs g #[.func (.func 55) #[] #[pp gA 0]] 74]∧l.drop e=d∧adB k F sA d e=some r_) l.length ?_ ?_)
 ·exact ⟨_,K,l,0,rfl,fR,kr,(U.sel [1,0]),List.drop_zero,h⟩
 ·rintro _ _ V ⟨t,m,d,e,rfl,rfl,p,q,f,h⟩;rcases d with _ | ⟨⟨u,x,y,z,A⟩,d⟩
  ·unfold adB at h;refine gd 2 (bcm (r:=false) rfl rfl (congrArg some (aal f)) (go 15 ?_));cases (oi h).trans hr_;exact aau rfl (resT rfl) ⟨m,rfl,(q.sel [1,0])⟩
  ·unfold adB at h;refine gd 2 (bcm (r:=true) rfl rfl (congrArg some (aak f)) (go 19 ?_));obtain ⟨W,X,ad,Y,ae,Z,B⟩:=((me s p)).row.at_ (aaj f);obtain ⟨C,D,rfl,af,ah⟩:=aan.open B;refine idxN (b:=W) (o:=X) (i:=e) ack abp rfl Y rfl (aab f) (lD (vE u x y z C A D) adO abp rfl (fun j v hj=>q.cell (kr.cell (Z j v hj))) ?_);have G:=p10 q;obtain ⟨ai,ab,h⟩:=ob h;refine clV (caps:=#[pp g 0]) (vs:=[.agg (aE u x y z C A D),pp g 0]) rfl aAo rfl (IH1008221 ab (hG.mono p) B (pt G)) ?_;rintro _ aj ⟨I,rfl,J⟩;have N:=ca J G;refine go 2 (bC 16 h (fun _ h=>?_) (fun _ h=>?_))
   ·refine gd 13 ?_;cases (oi h).trans hr_;exact aau rfl (resT rfl) ⟨I,rfl,N⟩
   ·exact gd 5 (bar (r:=((e + 1:Nat):Int)) rfl rfl (aaK (aaM (((me s p)).len) (by decide) (aab f))) (go 3 (⟨_,Nat.lt_succ_self _,_,I,d,e + 1,rfl,fR,(p.trans J.sub),(N.sel [1,0]),aag f,h⟩)))
theorem afr (k0:Nat) : ∀ k,acN (ac7 k0 k).f32∧abg (ac7 k0 k).f1005440∧aa9 (ac7 k0 k).f1005532∧abe (ac7 k0 k).f1008147∧aa3 (ac7 k0 k).f1008221∧aa7 (ac7 k0 k).f1011347:=by
 intro k;induction k with
 | zero=>exact ⟨(by unfold acN; intro _ _ _ _ _ _ h_; cases h_),(by unfold abg; intro _ _ _ _ _ _ _ _ _ h_; cases h_),(by unfold aa9; intro _ _ _ _ _ _ _ _ h_; cases h_),(by unfold abe; intro _ _ _ _ _ _ _ _ _ _ _ h_; cases h_),(by unfold aa3; intro _ _ _ _ _ _ _ _ _ _ h_; cases h_),(by unfold aa7; intro _ _ _ _ _ _ _ _ _ _ _ h_; cases h_)⟩
 | succ k ih=>exact ⟨asy k0 (ac7 k0 k) ih.1 ih.2.1 ih.2.2.1 ih.2.2.2.1 ih.2.2.2.2.1 ih.2.2.2.2.2,akC k0 (ac7 k0 k) ih.1 ih.2.1 ih.2.2.1 ih.2.2.2.1 ih.2.2.2.2.1 ih.2.2.2.2.2,alj k0 (ac7 k0 k) ih.1 ih.2.1 ih.2.2.1 ih.2.2.2.1 ih.2.2.2.2.1 ih.2.2.2.2.2,akG k0 (ac7 k0 k) ih.1 ih.2.1 ih.2.2.1 ih.2.2.2.1 ih.2.2.2.2.1 ih.2.2.2.2.2,ak0 k0 (ac7 k0 k) ih.1 ih.2.1 ih.2.2.1 ih.2.2.2.1 ih.2.2.2.2.1 ih.2.2.2.2.2,alF k0 (ac7 k0 k) ih.1 ih.2.1 ih.2.2.1 ih.2.2.2.1 ih.2.2.2.2.1 ih.2.2.2.2.2⟩
theorem axQ (k:Nat):acN (f32 k):=(afr k k).1
theorem awD (k:Nat):abg (f1005440 k):=(afr k k).2.1
theorem awC (k:Nat):aa9 (f1005532 k):=(afr k k).2.2.1
theorem aws (k:Nat):abe (f1008147 k):=(afr k k).2.2.2.1
theorem avW (k:Nat):aa3 (f1008221 k):=(afr k k).2.2.2.2.1
theorem auX (k:Nat):aa7 (f1011347 k):=(afr k k).2.2.2.2.2
theorem atI (k:Nat):aj5 (awk k):=by
 unfold aj5;intro K wi G ae q I J af ah h hG N r O;obtain ⟨r_,hr_,h⟩:=rz h;obtain ⟨s,t,u,v,x⟩:=G;obtain ⟨S,U,rfl,i,j⟩:=aan.open N;refine aat Tryz.func13 rfl (n:=29) rfl ?_;unfold awk at h;refine gI 10 [] [] O (fun ai y=>(cB h azP (fun _ V=>(anI k) V (hG.mono kr) r (pt y)) ?_));rintro W _ aj ⟨X,rfl,b⟩ h;have l:=ca b y;refine go 4 (aav (fun a w=>∃ z e m,a=fr 29 (updL z [(1,sl I q J),(2,pp (zz wi) 0),(22,.bool m)])∧KH.sub X e∧SR K e wi w [] [.box (zz wi) (zz wi) (aE s t u v S x U) 35]∧amF k s t u v x q m=some r_) ?_ ?_)
 ·refine gD 2 [0,0,5] l (cB h aAb (fun _ Y=>(axl k) Y (hG.mono b.sub) (aan.intro i (me j b.sub)) (pt l)) ?_);rintro ak _ al ⟨Z,rfl,d⟩ h;have f:=ca d l;refine go 2 (bO 13 h (fun _ h=>?_) (fun _ h=>?_))
  ·exact go 11 (⟨_,Z,true,fR,d.sub,f,h⟩)
  ·refine gP 7 [0,0,5] f (cB h ayi (fun _ ab=>(axQ k) ab (hG.mono (b.sub.trans d.sub)) (aan.intro i (me j (b.sub.trans d.sub))) (pt f)) ?_);rintro am _ an ⟨A,rfl,o⟩ h;have B:=ca o f;refine go 4 (bO 20 h (fun _ h=>?_) (fun _ h=>?_))
   ·exact go 4 (⟨_,A,true,fR,(d.sub.trans o.sub),B,h⟩)
   ·exact go 5 (⟨_,A,W,fR,(d.sub.trans o.sub),B,h⟩)
 ·rintro _ ao ⟨z,e,m,rfl,p,g,h⟩;unfold amF at h;refine bC 22 h (fun _ h=>?_) (fun _ h=>?_)
  ·refine gd 9 ?_;cases (oi h).trans hr_;exact abC rfl (resT rfl) (resT rfl) ⟨e,rfl,(g.sel [])⟩
  ·refine gD 7 [0,0,5] g (cB h anC (fun _ ac=>(amu k) ac (hG.mono (b.sub.trans p)) (aan.intro i (me j (b.sub.trans p))) (r.mono (b.sub.trans p) (fun _ _ h=>h)) (pt g)) ?_);rintro ap _ aq ⟨C,rfl,ad⟩ h;have D:=ca ad g;refine go 10 (bC 27 h (fun _ h=>?_) (fun _ h=>?_))
   ·refine gd 9 ?_;cases (oi h).trans hr_;exact abC rfl (resT rfl) (resT rfl) ⟨C,rfl,(D.sel [])⟩
   ·refine gd 11 ?_;cases (oi h).trans hr_;exact abC rfl (resT rfl) (resT rfl) ⟨C,rfl,(D.sel [])⟩
theorem ay0 (k:Nat):aj5 (f13 k):=atI k
theorem atN (k:Nat):alz (au1 k):=by
 unfold alz;intro K wi a b d I h hG q m;obtain ⟨r_,hr_,h⟩:=rz h;refine aat Tryz.func25 rfl (n:=14) rfl ?_;unfold au1 at h;refine gI 7 [] [[nS]] m (fun f m=>(bld (cells:=#[iI 2,iI 1,sE,iI 0,nS]) (vs:=[(0,iI 2),(1,iI 1)]) rfl (fun w=>by kernel_rfl) (bsl (e:=35) (cells:=#[iI 2,iI 1,sE,iI 0,nS]) (vs:=[(0,.agg #[iI 2,iI 1,sE,iI 0,nS])]) m rfl (aao ack abp anR rfl (by decide) (by decide) rfl) (fun J r=>(go 1 (bld (cells:=#[iI 21,sE,iI 0,sE,iI 0,iI 0,.slice (some ⟨(zz f),0,none⟩) 1 1,sl b a d,nS,nS,nS]) (vs:=[(0,iI 21),(6,.slice (some ⟨(zz f),0,none⟩) 1 1),(7,sl b a d)]) rfl (fun w=>by kernel_rfl) (gR 6 [0] [[iI 0,sE,iI 0,sE,iI 0,iI 0,nS,nS,nS,nS,nS]] r (fun N g o=>(bld (cells:=#[.string ⟨#[109,97,105,110]⟩,nS,iI 0,vN,iI 0,nS]) (vs:=[(0,.string ⟨#[109,97,105,110]⟩)]) rfl (fun w=>by kernel_rfl) (gP 1 [0,0,11] o (bsl (e:=62) (cells:=#[iI 21,sE,iI 0,sE,iI 0,iI 0,.slice (some ⟨(zz f),0,none⟩) 1 1,sl b a d,nS,nS,nS]) (vs:=[(0,.agg #[iI 21,sE,iI 0,sE,iI 0,iI 0,.slice (some ⟨(zz f),0,none⟩) 1 1,sl b a d,nS,nS,nS])]) o rfl (aao ab2 abx aik rfl (by decide) (by decide) rfl) (fun j s=>(bld (cells:=#[.string ⟨#[102]⟩,nS,iI 1,vN,iI 0,.slice (some ⟨(zz g),0,none⟩) 1 1]) (vs:=[(0,.string ⟨#[102]⟩),(2,iI 1),(5,.slice (some ⟨(zz g),0,none⟩) 1 1)]) rfl (fun w=>by kernel_rfl) (bsl (e:=52) (cells:=#[.string ⟨#[109,97,105,110]⟩,nS,iI 0,vN,iI 0,nS,.string ⟨#[102]⟩,nS,iI 1,vN,iI 0,.slice (some ⟨(zz g),0,none⟩) 1 1]) (vs:=[(0,.agg #[.string ⟨#[109,97,105,110]⟩,nS,iI 0,vN,iI 0,nS]),(1,.agg #[.string ⟨#[102]⟩,nS,iI 1,vN,iI 0,.slice (some ⟨(zz g),0,none⟩) 1 1])]) s rfl (fun w=>by kernel_rfl) (fun O t=>(bld (cells:=#[.slice (some ⟨(zz j),0,none⟩) 2 2]) (vs:=[(0,.slice (some ⟨(zz j),0,none⟩) 2 2)]) rfl (fun w=>by kernel_rfl) (gR 4 [4] [] t (fun S p=>?_))))))))))))))))));obtain ⟨u,v,x,y⟩:=frzI (i:=3) (bytes:=64) (xs:=[(aam.mk 2 1 ⟨#[]⟩ 0 [])]) (R:=fun K=>(aan K)) p rfl (Nat.le_refl _) ⟨[iI 2,iI 1,sE,iI 0,nS],_,rfl,rfl,(aan.intro (by decide) (RSl.nil _ _ _ _ _ _)),(aa1 (R:=(aan K)) (size:=5))⟩ rfl (Nat.le_of_ble_eq_true rfl) (fun hs=>(fun _ _ h=>aan.mono hs h));obtain ⟨z,A,U,B⟩:=frzI (i:=1) (bytes:=184) (xs:=[(aaf.mk 21 ⟨#[]⟩ 0 ⟨#[]⟩ 0 0 [(aam.mk 2 1 ⟨#[]⟩ 0 [])] a [] [] [])]) (R:=fun K=>(aai K)) v rfl (Nat.le_refl _) ⟨[iI 21,sE,iI 0,sE,iI 0,iI 0,.slice (some ⟨(zz f),0,none⟩) [(aam.mk 2 1 ⟨#[]⟩ 0 [])].length 1,sl b a d,nS,nS,nS],_,rfl,rfl,(aai.intro (by decide) (by decide) y (ms q x) (RSl.nil _ _ _ _ _ _) (RSl.nil _ _ _ _ _ _) (RSl.nil _ _ _ _ _ _)),(aa1 (R:=(aai u)) (size:=11))⟩ rfl (Nat.le_of_ble_eq_true rfl) (fun hs=>(fun _ _ h=>aai.mono hs h));obtain ⟨C,D,V,G⟩:=frzI (i:=0) (bytes:=88) (xs:=[(aac.mk ⟨#[109,97,105,110]⟩ [] 0 false 0 []),(aac.mk ⟨#[102]⟩ [] 1 false 0 [(aaf.mk 21 ⟨#[]⟩ 0 ⟨#[]⟩ 0 0 [(aam.mk 2 1 ⟨#[]⟩ 0 [])] a [] [] [])])]) (R:=fun K=>(aar K)) A rfl (Nat.le_refl _) ⟨[.string ⟨#[109,97,105,110]⟩,nS,iI 0,vN,iI 0,nS],_,rfl,rfl,(aar.intro (by decide) (RSl.nil _ _ _ _ _ _) (RSl.nil _ _ _ _ _ _)),⟨[.string ⟨#[102]⟩,nS,iI 1,vN,iI 0,.slice (some ⟨(zz g),0,none⟩) [(aaf.mk 21 ⟨#[]⟩ 0 ⟨#[]⟩ 0 0 [(aam.mk 2 1 ⟨#[]⟩ 0 [])] a [] [] [])].length 1],_,rfl,rfl,(aar.intro (by decide) (RSl.nil _ _ _ _ _ _) B),(aa1 (R:=(aar z)) (size:=6))⟩⟩ rfl (Nat.le_of_ble_eq_true rfl) (fun hs=>(fun _ _ h=>aar.mono hs h));cases (oi h).trans hr_;exact aau rfl (resN (i:=4) (l:=[.slice (some ⟨(zz j),0,none⟩) 2 2]) p rfl adQ adM rfl rfl rfl) ⟨C,[.slice (some ⟨(zz j),0,none⟩) [(aac.mk ⟨#[109,97,105,110]⟩ [] 0 false 0 []),(aac.mk ⟨#[102]⟩ [] 1 false 0 [(aaf.mk 21 ⟨#[]⟩ 0 ⟨#[]⟩ 0 0 [(aam.mk 2 1 ⟨#[]⟩ 0 [])] a [] [] [])])].length 2],rfl,(D.sel []),(aah.intro G)⟩
theorem aun (k:Nat):alz (f25 k):=atN k
theorem awy (k:Nat):anP (f9_b k):=by
 unfold anP;intro K wi aj h hG m;obtain ⟨r_,hr_,h⟩:=rz h;refine aat Tryz.func9 rfl (n:=48) rfl ?_;unfold f9_b at h;refine gd 7 (cB h aw9 (fun _ A=>(aun k) A (hG.mono kr) (RSl.nil _ _ _ _ _ _) (pt m)) ?_);rintro ⟨ak⟩ _ al ⟨am,an,rfl,b,o⟩ h;have p:=ca b m;obtain ⟨ao,ap,rfl,aq⟩:=aah.open o;refine cB h aw3 (fun _ B=>(ar0 k) B (hG.mono b.sub) o (pt p)) ?_;rintro ⟨⟨ar⟩,au⟩ _ av ⟨C,aw,rfl,f,D⟩ h;have G:=ca f p;obtain ⟨ax,ay,rfl,az⟩:=aah.open D;refine gR 10 [0] [[nS]] G (fun aA aB I=>(bld (cells:=#[iI 18,sE,iI 0,sE,iI 0,iI 0,nS,nS,nS,nS,nS]) (vs:=[(0,iI 18)]) rfl (fun w=>by kernel_rfl) (bsl (e:=62) (cells:=#[iI 18,sE,iI 0,sE,iI 0,iI 0,nS,nS,nS,nS,nS]) (vs:=[(0,.agg #[iI 18,sE,iI 0,sE,iI 0,iI 0,nS,nS,nS,nS,nS])]) I rfl (aao ab2 abx aik rfl (by decide) (by decide) rfl) (fun aG J=>?_))));obtain ⟨aH,q,g,N⟩:=frzI (i:=0) (bytes:=184) (xs:=[(aaf.mk 18 ⟨#[]⟩ 0 ⟨#[]⟩ 0 0 [] [] [] [] [])]) (R:=fun K=>(aai K)) J rfl (Nat.le_refl _) ⟨[iI 18,sE,iI 0,sE,iI 0,iI 0,nS,nS,nS,nS,nS],_,rfl,rfl,(aai.intro (by decide) (by decide) (RSl.nil _ _ _ _ _ _) (RSl.nil _ _ _ _ _ _) (RSl.nil _ _ _ _ _ _) (RSl.nil _ _ _ _ _ _) (RSl.nil _ _ _ _ _ _)),(aa1 (R:=(aai C)) (size:=11))⟩ rfl (Nat.le_of_ble_eq_true rfl) (fun hs=>(fun _ _ h=>aai.mono hs h));refine cB h aw9 (fun _ O=>(aun k) O (hG.mono q.sub) N (pt q)) ?_;rintro ⟨aI⟩ _ aJ ⟨aK,aL,rfl,j,r⟩ h;have s:=ca j q;obtain ⟨aM,aN,rfl,aP⟩:=aah.open r;refine cB h aw3 (fun _ S=>(ar0 k) S (hG.mono s.sub) r (pt s)) ?_;rintro ⟨⟨aT⟩,aU⟩ _ aV ⟨U,aW,rfl,t,V⟩ h;have W:=ca t s;obtain ⟨aX,aY,rfl,aZ⟩:=aah.open V;refine gR 10 [0] [[nS]] W (fun a0 u X=>(bld (cells:=#[iI 1,iI 0,sE,iI 0,nS]) (vs:=[(0,iI 1)]) rfl (fun w=>by kernel_rfl) (bld (cells:=#[iI 4,iI 0,.string ⟨#[120]⟩,iI 1,nS]) (vs:=[(0,iI 4),(2,.string ⟨#[120]⟩),(3,iI 1)]) rfl (fun w=>by kernel_rfl) (bsl (e:=35) (cells:=#[iI 1,iI 0,sE,iI 0,nS,iI 4,iI 0,.string ⟨#[120]⟩,iI 1,nS]) (vs:=[(0,.agg #[iI 1,iI 0,sE,iI 0,nS]),(1,.agg #[iI 4,iI 0,.string ⟨#[120]⟩,iI 1,nS])]) X rfl (fun w=>by kernel_rfl) (fun a1 Y=>(bld (cells:=#[iI 11,iI 0,sE,iI 0,.slice (some ⟨(zz u),0,none⟩) 2 2]) (vs:=[(0,iI 11),(4,.slice (some ⟨(zz u),0,none⟩) 2 2)]) rfl (fun w=>by kernel_rfl) (bsl (e:=3) (cells:=#[iI 3,iI 1]) (vs:=[(0,iI 3),(1,iI 1)]) Y rfl (fun w=>by kernel_rfl) (fun a2 Z=>?_))))))));obtain ⟨a3,ab,ac,ad⟩:=frzI (i:=1) (bytes:=64) (xs:=[(aam.mk 1 0 ⟨#[]⟩ 0 []),(aam.mk 4 0 ⟨#[120]⟩ 1 [])]) (R:=fun K=>(aan K)) Z rfl (Nat.le_refl _) ⟨[iI 1,iI 0,sE,iI 0,nS],_,rfl,rfl,(aan.intro (by decide) (RSl.nil _ _ _ _ _ _)),⟨[iI 4,iI 0,.string ⟨#[120]⟩,iI 1,nS],_,rfl,rfl,(aan.intro (by decide) (RSl.nil _ _ _ _ _ _)),(aa1 (R:=(aan U)) (size:=5))⟩⟩ rfl (Nat.le_of_ble_eq_true rfl) (fun hs=>(fun _ _ h=>aan.mono hs h));obtain ⟨a4,v,x,ae⟩:=frzI (i:=0) (bytes:=8) (xs:=[3,1]) (R:=fun K=>(RInt .i64)) ab rfl (Nat.le_refl _) ⟨[iI 3],_,rfl,rfl,rfl,⟨[iI 1],_,rfl,rfl,rfl,(aa1 (R:=(RInt .i64)) (size:=1))⟩⟩ rfl (Nat.le_of_ble_eq_true rfl) (fun hs=>(fun _ _ h=>h));refine cB h aAk (fun _ af=>(ay0 k) af (hG.mono ((((((b.sub.trans f.sub).trans g).trans j.sub).trans t.sub).trans ac).trans x)) (aan.intro (by decide) (me ad x)) ae (pt v)) ?_;rintro ⟨a5,a6⟩ _ a7 ⟨y,rfl,ah⟩ h;have d:=ca ah v;refine go 7 (aav (fun a w=>∃ z l,a=fr 48 (updL z [(0,.bool l)])∧SR K y wi w [] []∧anv k l=some r_) ?_ ?_)
 ·refine gd 4 (bO 30 h (fun _ h=>?_) (fun _ h=>?_))
  ·refine go 6 (bO 34 h (fun _ h=>?_) (fun _ h=>?_))
   ·refine go 6 (bO 38 h (fun _ h=>?_) (fun _ h=>?_))
    ·refine go 6 (bO 42 h (fun _ h=>?_) (fun _ h=>?_))
     ·exact go 8 (⟨_,true,fR,(d.sel []),h⟩)
     ·exact go 8 (⟨_,false,fR,(d.sel []),h⟩)
    ·exact go 12 (⟨_,false,fR,(d.sel []),h⟩)
   ·exact go 16 (⟨_,false,fR,(d.sel []),h⟩)
  ·exact go 20 (⟨_,false,fR,(d.sel []),h⟩)
 ·rintro _ a8 ⟨z,l,rfl,ai,h⟩;unfold anv at h;refine gd 1 ?_;cases (oi h).trans hr_;exact aau rfl (resT rfl) ⟨y,rfl,ai⟩
theorem are (k:Nat):anP (f9 k):=awy k
theorem avA (k:Nat):anK (f5_b k):=by
 unfold anK;intro K wi z ar au h hG A B;obtain ⟨r_,hr_,h⟩:=rz h;obtain ⟨av⟩:=z;obtain ⟨aw,c1,rfl,m⟩:=aah.open A;refine aat Tryz.func5 rfl (n:=42) rfl ?_;unfold f5_b at h;refine gI 10 [0,0,1] [] B (fun ax q=>(cB h Tyb8 (fun _ C=>(azu k) C (hG.mono kr) (aah.intro m) (pt q)) ?_));rintro ay _ az ⟨aA,rfl,b⟩ h;have f:=ca b q;refine go 3 (bC 9 h (fun _ h=>?_) (fun _ h=>?_))
 ·refine gd 3 (cB h Tyb9 (fun _ D=>(are k) D (hG.mono b.sub) (pt f)) ?_);rintro aB _ aG ⟨G,rfl,I⟩ h;have J:=ca I f;refine go 5 ?_;cases (oi h).trans hr_;exact aau rfl (resT rfl) ⟨G,rfl,(J.sel [])⟩
 ·refine gD 6 [0,0,1] f (cB h aw3 (fun _ N=>(ar0 k) N (hG.mono b.sub) (aah.intro (mf m b.sub)) (pt f)) ?_);rintro ⟨⟨aH⟩,aI⟩ _ aJ ⟨aK,aL,rfl,e,O⟩ h;have S:=ca e f;obtain ⟨aM,aN,rfl,aP⟩:=aah.open O;refine gR 11 [0,0,1,1] [[nS]] S (fun aT aU r=>(cB h azq (fun _ U=>(axu k) U (hG.mono (b.sub.trans e.sub)) (aah.intro (mf m (b.sub.trans e.sub))) (pt r)) ?_));rintro ⟨⟨aV⟩,aW⟩ _ aX ⟨i,aY,rfl,g,V⟩ h;have W:=ca g r;obtain ⟨aZ,a1,rfl,a2⟩:=aah.open V;refine gR 15 [0] [[nS]] W (fun a3 a4 d=>(bC 22 h (fun _ h=>?_) (fun _ h=>?_)))
  ·refine gd 1 (aav (fun a w=>∃ s j o,a=fr 42 (updL s [(2,.bool o)])∧KH.sub i j∧SR K j wi w [] []∧aqM k o=some r_) ?_ ?_)
   ·refine gd 5 (bO 26 h (fun _ h=>?_) (fun _ h=>?_))
    ·refine go 1 (cB h Tyb9 (fun _ X=>(are k) X (hG.mono d.sub) (pt d)) ?_);rintro Y _ a5 ⟨Z,rfl,t⟩ h;have ab:=ca t d;exact go 4 (⟨_,Z,Y,fR,t.sub,(ab.sel []),h⟩)
    ·exact go 5 (⟨_,i,false,fR,kr,(d.sel []),h⟩)
   ·rintro _ a6 ⟨s,j,o,rfl,a7,ac,h⟩;unfold aqM at h;refine gd 2 ?_;cases (oi h).trans hr_;exact aau rfl (resT rfl) ⟨j,rfl,ac⟩
  ·refine gd 3 (aav (fun a w=>∃ u l p,a=fr 42 (updL u [(2,.bool p)])∧KH.sub i l∧SR K l wi w [] []∧alQ k p=some r_) ?_ ?_)
   ·refine gd 4 (bO 31 h (fun _ h=>?_) (fun _ h=>?_))
    ·refine go 9 (cB h Tyb9 (fun _ ad=>(are k) ad (hG.mono d.sub) (pt d)) ?_);rintro ae _ a8 ⟨af,rfl,v⟩ h;have ah:=ca v d;exact go 4 (⟨_,af,ae,fR,v.sub,(ah.sel []),h⟩)
    ·refine go 6 (bO 35 h (fun _ h=>?_) (fun _ h=>?_))
     ·refine go 5 (cB h Tyb9 (fun _ ai=>(are k) ai (hG.mono d.sub) (pt d)) ?_);rintro aj _ a9 ⟨ak,rfl,x⟩ h;have al:=ca x d;exact go 4 (⟨_,ak,aj,fR,x.sub,(al.sel []),h⟩)
     ·refine go 6 (bO 39 h (fun _ h=>?_) (fun _ h=>?_))
      ·refine go 1 (cB h Tyb9 (fun _ am=>(are k) am (hG.mono d.sub) (pt d)) ?_);rintro an _ ba ⟨ao,rfl,y⟩ h;have ap:=ca y d;exact go 4 (⟨_,ao,an,fR,y.sub,(ap.sel []),h⟩)
      ·exact go 5 (⟨_,i,false,fR,kr,(d.sel []),h⟩)
   ·rintro _ bb ⟨u,l,p,rfl,bd,aq,h⟩;unfold alQ at h;refine gd 1 ?_;cases (oi h).trans hr_;exact aau rfl (resT rfl) ⟨l,rfl,aq⟩
theorem azH (k:Nat):anK (f5 k):=avA k
end Go.Proofs.YtphdlngnegjgcaaGreatDoor
set_option maxRecDepth 512
set_option maxHeartbeats 200000
namespace Go.Proofs.YtphdlngnegjgcaaGreatDoor
open Go
mutual
def szE:aam→Nat | .mk _ _ _ _ l=>szEs l + 1
def szEs:List aam→Nat | []=>0 | e :: l=>szE e + szEs l
end
mutual
def szS:aaf→Nat | .mk _ _ _ _ _ _ a b c d e=>szEs a + szSs b + szSs c + szSs d + szCs e + 1
def szSs:List aaf→Nat | []=>0 | s :: l=>szS s + szSs l
def szC:aaz→Nat | .mk _ _ _ a b=>szEs a + szSs b + 1
def szCs:List aaz→Nat | []=>0 | c :: l=>szC c + szCs l
end
def szF:aac→Nat | .mk _ ps _ _ _ b=>ps.length + szSs b + 1
def szFs:List aac→Nat | []=>0 | f :: l=>szF f + szFs l
def szP:aaa→Nat | .mk fs=>szFs fs + 1
theorem an5 : ∀ l:List aam,l.length≤szEs l
 | []=>by simp
 | .mk _ _ _ _ a :: l=>by have:=an5 l; simp only [List.length_cons,szEs,szE]; omega
theorem aod : ∀ l:List aaz,l.length≤szCs l
 | []=>by simp
 | .mk _ _ _ _ _ :: l=>by have:=aod l; simp only [List.length_cons,szCs,szC]; omega
theorem aoY : ∀ l:List aac,l.length≤szFs l
 | []=>by simp
 | .mk _ _ _ _ _ _ :: l=>by have:=aoY l; simp only [List.length_cons,szFs,szF]; omega
def afP (c:Int):Bool:=decide (c ≥ 97) && decide (c≤122)
def aio (c:Int):Bool:=decide (c ≥ 48) && decide (c≤57)
def runL:List UInt8→Nat→Bool
 | [],_=>true
 | e :: r,i=>(afP e.toNat || (!((i:Int) == 0) && aio e.toNat)) && runL r (i + 1)
def isN (s:ByteArray):Bool:=runL s.data.toList 0 && !seq s ⟨#[]⟩ && decide ((s.size:Int)≤12) && !acL.any (seq s)
theorem av8 (k:Nat) (c:Int):f139 k c=some (afP c):=by
 unfold f139 aor ahK afP;cases decide (c ≥ 97) <;> rfl
theorem avO (k:Nat) (c:Int):f140 k c=some (aio c):=by
 unfold f140 ao3 aiw aio;cases decide (c ≥ 48) <;> rfl
theorem av9 (k:Nat) (c:Int):f135 k c=some (afP c):=by
 unfold f135 aoH ah7 afP;cases decide (c ≥ 97) <;> rfl
theorem auS (k:Nat) (c:Int):f136 k c=some (aio c):=by
 unfold f136 ao4 ajd aio;cases decide (c ≥ 48) <;> rfl
theorem ajE (k:Nat) (a:ByteArray) : ∀ (l:List UInt8) (i:Nat),adx k a l i=some (runL l i && !seq a ⟨#[]⟩)
 | [],i=>by simp [adx,runL]
 | e :: l,i=>by
  unfold adx runL;rw [av9];simp only [Option.bind_some,agw,auS,ajE k a l];cases afP e.toNat <;> cases ((i:Int) == 0) <;> cases aio e.toNat <;> simp
theorem ajA (k:Nat) (a:ByteArray) : ∀ (l:List ByteArray) (i:Nat),∃ r,afJ k a l i=some r∧decide (r ≥ 0)=l.any (seq a)
 | [],i=>⟨-1,rfl,rfl⟩
 | e :: l,i=>by
  unfold afJ;cases h:seq a e
  ·obtain ⟨r,h1,h2⟩:=ajA k a l (i + 1);exact ⟨r,h1,by simp [h,h2]⟩
  ·exact ⟨(i:Int),rfl,by simp [h]⟩
theorem al7 (k:Nat) (s:ByteArray):f79 k s=some (isN s):=by
 unfold f79 att f111 aoV isN;rw [ajE];simp only [Option.bind_some,ajH];obtain ⟨r,h1,h2⟩:=ajA k s acL 0;have h92:f112 k s=some (acL.any (seq s)):=by
  unfold f112 aoQ f138 f137 aoK f165 aoy;simp [h1,h2]
 rw [h92];simp only [Option.bind_some];cases runL s.data.toList 0 <;> cases seq s ⟨#[]⟩ <;> cases decide ((s.size:Int)≤12) <;> rfl
theorem ahI (a b:ByteArray):seq a b=seq b a:=by
 unfold seq;rw [Bool.eq_iff_iff,beq_iff_eq,beq_iff_eq];exact eq_comm
theorem ajX (k:Nat) (a:ByteArray) : ∀ (l:List ByteArray) (i:Nat),afH k a l i=some (l.any (seq a))
 | [],i=>rfl
 | e :: l,i=>by
  unfold afH;rw [ahI e a];cases h:seq a e
  ·simp [h,ajX k a l]
  ·simp [h]
theorem asD (k:Nat):f167 k=some acL:=rfl
theorem au9 (k:Nat) (a:ByteArray):f141 k a=some (acL.any (seq a)):=by
 unfold f141 aow;rw [asD];exact ajX k a acL 0
theorem as9 (a:ByteArray):decide ((a.size:Int) ≥ 1)=!seq a ⟨#[]⟩:=by
 unfold seq;rw [ByteArray.toList_eq,ByteArray.toList_eq];obtain ⟨⟨l⟩⟩:=a;cases l with
 | nil=>rfl
 | cons x l =>
  have h2:((⟨⟨x :: l⟩⟩:ByteArray).size:Int) ≥ 1:=by
   show ((l.length + 1:Nat):Int) ≥ 1;omega
  rw [decide_eq_true h2];rfl
theorem aj3 (k:Nat) (a:ByteArray) : ∀ (l:List UInt8) (i:Nat),adr k a l i=some (runL l i && !seq a ⟨#[]⟩ && decide ((a.size:Int)≤12) && !acL.any (seq a))
 | [],i=>by
  unfold adr runL;rw [au9,as9];simp only [Option.bind_some,ag3];cases seq a ⟨#[]⟩ <;> cases decide ((a.size:Int)≤12) <;> rfl
 | e :: l,i=>by
  unfold adr runL;rw [av8];simp only [Option.bind_some,agu,avO,aj3 k a l];cases afP e.toNat <;> cases ((i:Int) == 0) <;> cases aio e.toNat <;> simp
theorem ajf (k:Nat) (s:ByteArray):f117 k s=some (isN s):=aj3 k s _ 0
def amN:List UInt8→Bool
 | []=>true
 | e :: l=>!decide ((e.toNat:Int) < 32) && !decide ((e.toNat:Int) > 126) && amN l
def isT (s:ByteArray):Bool:=amN s.data.toList && decide ((s.size:Int)≤60)
theorem am0 (k:Nat) (a:ByteArray) : ∀ (l:List UInt8) (i:Nat),ad7 k a l i=some (amN l && decide ((a.size:Int)≤60))
 | [],i=>by simp [ad7,amN]
 | e :: l,i=>by
  unfold ad7 amN;simp only [ah8,am0 k a l];cases decide ((e.toNat:Int) < 32) <;> cases decide ((e.toNat:Int) > 126) <;> simp
theorem ajO (k:Nat) (a:ByteArray) : ∀ (l:List UInt8) (i:Nat),adJ k a l i=some (amN l && decide ((a.size:Int)≤60))
 | [],i=>by simp [adJ,amN]
 | e :: l,i=>by
  unfold adJ amN;simp only [aiE,ajO k a l];cases decide ((e.toNat:Int) < 32) <;> cases decide ((e.toNat:Int) > 126) <;> simp
theorem ax9 (k:Nat) (s:ByteArray):f78 k s=some (isT s):=am0 k s _ 0
theorem avP (k:Nat) (s:ByteArray):f116 k s=some (isT s):=ajO k s _ 0
theorem abk {x:Int} {n:Nat} (h:x=(n:Int)) (h2:n≤4611686018427387904):w64 x=(n:Int):=by
 subst h; unfold w64 IntKind.wrap; simp [IntKind.bits,IntKind.signed]; omega
def ahv (op num:Int) (txt:ByteArray) (len:Nat):Bool :=
 cond (op == 1) (decide (num ≥ 0) && decide (num≤1000000000000) && seq txt ⟨#[]⟩ && (len:Int) == 0)
 (cond (op == 2) (decide (num ≥ 0) && decide (num≤1) && seq txt ⟨#[]⟩ && (len:Int) == 0)
 (cond (op == 3) (num == 0 && isT txt && (len:Int) == 0)
 (cond (op == 4) (num == 0 && isN txt && (len:Int) == 0)
 (cond (op == 5 || op == 6) (num == 0 && seq txt ⟨#[]⟩ && (len:Int) == 1)
  (decide (op ≥ 7) && decide (op≤19) && num == 0 && seq txt ⟨#[]⟩ && (len:Int) == 2)))))
mutual
def gE (z:Bool):aam→Nat→Bool
 | .mk op num txt slot l,a=>decide (a≤16) && (z || slot == 0) && ahv op num txt l.length && gEs z l (a + 1)
def gEs (z:Bool):List aam→Nat→Bool
 | [],_=>true
 | e :: l,a=>gE z e a && gEs z l a
end
def NRes (r:Option (aae × Bool)) (g:Bool) (n sz:Nat) (z:Bool):Prop :=
 ∃ c,r=some (c,g && decide (n + sz≤600))∧((g && decide (n + sz≤600))=true→∃ d,c=.mk ((n + sz:Nat):Int) d z)
theorem ajG (k:Nat) (x a b:Int):f77 k x a b=some (decide (x ≥ a) && decide (x≤b)):=by
 unfold f77 as0 amB; cases decide (x ≥ a) <;> rfl
theorem aoj (k:Nat) (n:Nat) (d:Int) (z:Bool) (a:Nat) (h:n≤600) :
  f76 k (.mk n d z) a=some (.mk ((n + 1:Nat):Int) (imax d a) z,decide (n + 1≤600) && decide (a≤16)):=by
 unfold f76 asS amf;simp only;rw [abk (n:=n + 1) (by omega) (by omega)];have e1:decide (((n + 1:Nat):Int)≤600)=decide (n + 1≤600):=by rw [decide_eq_decide]; omega
 have e2:decide ((a:Int)≤16)=decide (a≤16):=by rw [decide_eq_decide]; omega
 rw [e1,e2];cases decide (n + 1≤600) <;> rfl
theorem asr (k:Nat) (F:agP) (op num:Int) (txt:ByteArray) (l:List aam) (a n d:Int) (q:Bool) :
  ahc k F op num txt l a n d q false=cond (ahv op num txt l.length) (ac6 k F l a n d q (l.length:Int) true) (some (.mk n d q,false)):=by
 unfold ahc amw al1 aj0 ac6 aiU ahv;simp only [ajG,ax9,al7,Option.bind_some,Bool.cond_eq_ite];grind
theorem aeg : ∀ e:aam,1≤szE e
 | .mk _ _ _ _ _=>by simp only [szE]; omega
theorem NRes.no {r:Option (aae × Bool)} {g:Bool} {n sz:Nat} {z:Bool} {c:aae} (h:r=some (c,false)) (hg:(g && decide (n + sz≤600))=false):NRes r g n sz z :=
 ⟨c,by rw [h,hg],by rw [hg]; intro h; cases h⟩
theorem NRes.yes {r:Option (aae × Bool)} {g:Bool} {n sz:Nat} {z:Bool} {d:Int} (h:r=some (.mk ((n + sz:Nat):Int) d z,true)) (hg:(g && decide (n + sz≤600))=true):NRes r g n sz z :=
 ⟨_,by rw [h,hg],fun _=>⟨d,rfl⟩⟩
theorem nE (k:Nat) (z:Bool) : ∀ m,
  (∀ e,2 * szE e≤m→∀ (n:Nat) (d:Int) (a:Nat),n≤600→a≤17→NRes ((afW k m).f53 (.mk n d z) e a) (gE z e a) n (szE e) z) ∧
  (∀ l,2 * szEs l + 1≤m→∀ (n:Nat) (d:Int) (a:Nat),n≤600→a≤17→NRes ((afW k m).f80 (.mk n d z) l a) (gEs z l a) n (szEs l) z)
 | 0=>⟨fun e he=>by have:=aeg e; omega,fun l hl=>by omega⟩
 | m + 1=>by
  obtain ⟨ihe,ihl⟩:=nE k z m;constructor
  ·intro e he n d a hn ha;obtain ⟨op,num,txt,slot,l⟩:=e;simp only [szE] at he;show NRes (arP k (afW k m) (.mk n d z) (.mk op num txt slot l) a) _ _ _ _;unfold arP;simp only [szE];rw [aoj k n d z a hn];simp only [Option.bind_some];have hj : ∀ q:Bool,ahc k (afW k m) op num txt l a ((n + 1:Nat):Int) (imax d a) z q=cond q (some (.mk ((n + 1:Nat):Int) (imax d a) z,false)) (cond (ahv op num txt l.length) (ac6 k (afW k m) l a ((n + 1:Nat):Int) (imax d a) z (l.length:Int) true) (some (.mk ((n + 1:Nat):Int) (imax d a) z,false))):=by
    intro q; cases q
    ·exact asr _ _ _ _ _ _ _ _ _ _
    ·rfl
   simp only [hj];by_cases h1:n + 1≤600∧a≤16
   ·obtain ⟨h1,h2⟩:=h1;simp only [h1,h2,decide_true,Bool.and_self,Bool.not_true,cond_false];by_cases h3:(z || slot == 0)=true
    ·have h3' : (cond (slot != 0) (!z) false)=false:=by cases z <;> simp_all
     have h4 : ∀ (x y:Option (aae × Bool)),cond (slot != 0) (cond (!z) x y) y=y:=by
      intro x y; cases z <;> simp_all
     rw [h4];by_cases h5:ahv op num txt l.length=true
     ·simp only [h5,cond_true];unfold ac6;simp only [beq_self_eq_true,cond_true];rw [abk (n:=a + 1) (by omega) (by omega)];obtain ⟨c,hc,hd⟩:=ihl l (by omega) (n + 1) (imax d a) (a + 1) h1 (by omega);rw [hc];refine ⟨c,?_,?_⟩
      ·obtain ⟨c0,c1,c2⟩:=c;have:n + 1 + szEs l=n + (szEs l + 1):=by omega
       simp [aiU,gE,h2,h3,h5,this]
      ·intro hg;have e1:n + (szEs l + 1)=n + 1 + szEs l:=by omega
       rw [e1];refine hd ?_;rw [e1] at hg;simp [gE,h2,h3,h5] at hg;simp [hg]
     ·have h5' : ahv op num txt l.length=false:=by simpa using h5
      simp only [h5',cond_false];exact .no rfl (by simp [gE,h5'])
    ·have h3' : (z || slot == 0)=false:=by simpa using h3
     have h4 : ∀ (x y:Option (aae × Bool)),cond (slot != 0) (cond (!z) x y) y=x:=by
      intro x y;simp only [Bool.or_eq_false_iff,beq_eq_false_iff_ne] at h3';have e:(slot != 0)=true:=bne_iff_ne.mpr h3'.2;rw [e,h3'.1]; rfl
     rw [h4];exact .no rfl (by simp [gE,h3'])
   ·have h1' : (decide (n + 1≤600) && decide (a≤16))=false:=by
     simp only [Bool.and_eq_false_iff,decide_eq_false_iff_not]; omega
    simp only [h1',Bool.not_false,cond_true];refine .no rfl ?_;simp only [gE,Bool.and_eq_false_iff,decide_eq_false_iff_not];omega
  ·intro l hl n d a hn ha;show NRes (ahi k (afW k m) a l 0 n d z) _ _ _ _;have loop : ∀ (l:List aam) (i:Nat) (n:Nat) (d:Int),2 * szEs l≤m→n≤600→NRes (ahi k (afW k m) a l i n d z) (gEs z l a) n (szEs l) z:=by
    intro l;induction l with
    | nil=>intro i n d _ hn; exact .yes rfl (by simp [gEs,szEs,hn])
    | cons e l ih =>
     intro i n d hm hn;obtain ⟨e0,e1,e2,e3,e4⟩:=e;unfold ahi;simp only [szEs] at hm;obtain ⟨c,hc,hd⟩:=ihe (.mk e0 e1 e2 e3 e4) (by omega) n d a hn ha;rw [hc];by_cases hg:(gE z (.mk e0 e1 e2 e3 e4) a && decide (n + szE (.mk e0 e1 e2 e3 e4)≤600))=true
     ·obtain ⟨d',rfl⟩:=hd hg;have hg':=hg;simp only [Bool.and_eq_true,decide_eq_true_eq] at hg';simp only [hg,Option.bind_some,Bool.not_true,cond_false];obtain ⟨c2,hc2,hd2⟩:=ih (i + 1) _ d' (by omega) hg'.2;have e1:n + (szE (aam.mk e0 e1 e2 e3 e4) + szEs l)=n + szE (aam.mk e0 e1 e2 e3 e4) + szEs l:=by omega
      refine ⟨c2,?_,?_⟩
      ·rw [hc2]; simp only [gEs,szEs,hg'.1,Bool.true_and,e1]
      ·simp only [gEs,szEs,hg'.1,Bool.true_and,e1]; exact hd2
     ·have hg' : (gE z (.mk e0 e1 e2 e3 e4) a && decide (n + szE (.mk e0 e1 e2 e3 e4)≤600))=false:=by simpa using hg
      obtain ⟨c0,c1,c2⟩:=c;simp only [hg',Option.bind_some,Bool.not_false,cond_true];refine .no rfl ?_;simp only [Bool.and_eq_false_iff,decide_eq_false_iff_not,gEs,szEs] at hg' ⊢;rcases hg' with h | h
      ·exact .inl (.inl h)
      ·exact .inr (decide_eq_false (fun h'=>h (by omega)))
   exact loop l 0 n d (by omega) hn
theorem adz (k:Nat) (n d:Int) (q b:Bool):f115 k (.mk n d q) b=some (.mk n d (q || !b)):=by
 unfold f115 aoE; cases b <;> cases q <;> rfl
theorem akW (k:Nat) (n:Nat) (d:Int) (q:Bool) (a:Nat) (h:n≤600) :
  f114 k (.mk n d q) a=some (.mk ((n + 1:Nat):Int) (imax d a) (q || !(decide (n + 1≤600) && decide (a≤16)))):=by
 unfold f114 ao0 ah2;simp only;rw [abk (n:=n + 1) (by omega) (by omega)];have e1:decide (((n + 1:Nat):Int) > 600)=!decide (n + 1≤600):=by rw [← decide_not,decide_eq_decide]; omega
 have e2:decide ((a:Int) > 16)=!decide (a≤16):=by rw [← decide_not,decide_eq_decide]; omega
 rw [e1,e2];cases decide (n + 1≤600) <;> cases decide (a≤16) <;> cases q <;> rfl
theorem bfun {α:Type} (Q:Bool→α) : ∃ A B,Q=fun b=>if b=true then A else B :=
 ⟨Q true,Q false,funext fun b=>by cases b <;> rfl⟩
theorem aq7 (k:Nat) (F:amS) (op num:Int) (txt:ByteArray) (l:List aam) (a:Int) (x:Bool) (n d:Int) (q:Bool) :
  ajC k F op num txt l a x n d q=afD k F a x l 0 n d (q || !ahv op num txt l.length):=by
 unfold ajC alW acD ahv;have h01:(decide (num ≥ 0) && decide (num≤1))=(num == 0 || num == 1):=by
  rw [Bool.eq_iff_iff]; simp only [Bool.and_eq_true,Bool.or_eq_true,decide_eq_true_eq,beq_iff_eq]; omega
 rw [h01];simp only [adz,avP,ajf,Option.bind_some,Bool.cond_eq_ite];generalize afD k F a x l 0 n d=Q;obtain ⟨A,B,rfl⟩:=bfun Q;grind (splits:=40)
def RRes (r:Option aap) (g:Bool) (n sz:Nat) (q:Bool):Prop :=
 ∃ x d q',r=some (.mk x d q')∧q'=(q || !(g && decide (n + sz≤600)))∧(q'=false→x=((n + sz:Nat):Int))
theorem RRes.wrong {r:Option aap} {g:Bool} {n sz:Nat} {x d:Int} (h:r=some (.mk x d true)):RRes r g n sz true :=
 ⟨x,d,true,h,rfl,fun h=>by cases h⟩
theorem RRes.bad {r:Option aap} {g:Bool} {n sz:Nat} {q:Bool} {x d:Int} (h:r=some (.mk x d true)) (hg:(g && decide (n + sz≤600))=false):RRes r g n sz q :=
 ⟨x,d,true,h,by rw [hg]; cases q <;> rfl,fun h=>by cases h⟩
theorem aAu (g1 g2:Bool) (n s1 s2:Nat):(!(g1 && decide (n + s1≤600)) || !(g2 && decide (n + s1 + s2≤600)))=!(g1 && g2 && decide (n + (s1 + s2)≤600)):=by
 rw [← Nat.add_assoc];by_cases hh:n + s1 + s2≤600
 ·have:n + s1≤600:=by omega
  simp only [hh,this,decide_true]; cases g1 <;> cases g2 <;> rfl
 ·simp only [hh,decide_false]; cases g1 <;> cases g2 <;> simp
theorem RRes.bind {r:Option aap} {f:aap→Option aap} {g1 g2:Bool} {n s1 s2:Nat} {q:Bool} (h1:RRes r g1 n s1 q)
  (h2 : ∀ x d q',(q'=false→x=((n + s1:Nat):Int)∧n + s1≤600)→RRes (f (.mk x d q')) g2 (n + s1) s2 q'):RRes (r.bind f) (g1 && g2) n (s1 + s2) q:=by
 obtain ⟨x,d,q',rfl,hq,hx⟩:=h1;obtain ⟨x2,d2,q2,h4,h5,h6⟩:=h2 x d q' (fun h=>⟨hx h,by rw [h] at hq; cases q <;> simp at hq; exact hq.2⟩);refine ⟨x2,d2,q2,h4,?_,?_⟩
 ·rw [h5,hq,Bool.or_assoc,aAu]
 ·rw [← Nat.add_assoc]; exact h6
theorem RRes.done {n:Nat} {q:Bool} {x d:Int} (hx:q=false→x=(n:Int)∧n≤600):RRes (some (.mk x d q)) true n 0 q :=
 ⟨x,d,q,rfl,by cases q <;> simp; exact (hx rfl).2,fun h=>(hx h).1⟩
theorem RRes.cast {r:Option aap} {g g' : Bool} {n s s' : Nat} {q:Bool} (h:RRes r g n s q) (hg:g=g') (hs:s=s'):RRes r g' n s' q:=by
 subst hg; subst hs; exact h
theorem RRes.check {r:Option aap} {g b:Bool} {n s:Nat} {q:Bool} (h:RRes r g n s (q || !b)):RRes r (b && g) n s q:=by
 obtain ⟨x,d,q',h1,h2,h3⟩:=h;exact ⟨x,d,q',h1,by rw [h2]; cases q <;> cases b <;> rfl,h3⟩
theorem rE (k:Nat) : ∀ m,
  ∀ e,szE e≤m→∀ (n:Nat) (d:Int) (a:Nat),n≤600→a≤17→RRes ((al8 k m).f84 (.mk n d false) e a false) (gE false e a) n (szE e) false
 | 0=>fun e he=>by have:=aeg e; omega
 | m + 1=>by
  have ihe:=rE k m;intro e he n d a hn ha;have loop:a≤16→∀ (l:List aam) (i:Nat) (x:Int) (n:Nat) (d:Int) (q:Bool),szEs l≤m→(q=false→x=(n:Int)∧n≤600)→RRes (afD k (al8 k m) a false l i x d q) (gEs false l (a + 1)) n (szEs l) q:=by
   intro ha l;induction l with
   | nil=>intro i x n d q _ hx; exact .done hx
   | cons e l ih =>
    intro i x n d q hm hx;obtain ⟨e0,e1,e2,e3,e4⟩:=e;unfold afD;cases q with
    | true=>exact .wrong rfl
    | false =>
     obtain ⟨rfl,hn⟩:=hx rfl;simp only [szEs] at hm;simp only [Bool.not_false,cond_true];rw [abk (n:=a + 1) (by omega) (by omega)];exact (ihe (.mk e0 e1 e2 e3 e4) (by omega) n d (a + 1) hn (by omega)).bind fun x1 d1 q1 h1=>ih (i + 1) x1 _ d1 q1 (by omega) h1
  obtain ⟨op,num,txt,slot,l⟩:=e;simp only [szE] at he;show RRes (apV k (al8 k m) (.mk n d false) (.mk op num txt slot l) a false) _ _ _ _;unfold apV;simp only [szE,cond_false,adz,aq7,Option.bind_some];rw [akW k n d false a hn];simp only [Option.bind_some,Bool.false_or];by_cases ha' : a≤16
  ·obtain ⟨x2,d2,q2,h4,h5,h6⟩:=loop ha' l 0 ((n + 1:Nat):Int) (n + 1) (imax d a) (!(decide (n + 1≤600) && decide (a≤16)) || !(slot == 0) || !ahv op num txt l.length) (by omega) (fun hq=>⟨rfl,by simp at hq; omega⟩);have e1:n + (szEs l + 1)=n + 1 + szEs l:=by omega
   refine ⟨x2,d2,q2,h4,?_,?_⟩
   ·rw [h5,e1];simp only [gE,ha',decide_true,Bool.false_or,Bool.true_and,Bool.and_true];by_cases hh:n + 1 + szEs l≤600
    ·have:n + 1≤600:=by omega
     simp only [hh,this,decide_true];cases (slot == 0) <;> cases ahv op num txt l.length <;> simp
    ·simp [hh]
   ·rw [e1]; exact h6
  ·have loopw : ∀ (l:List aam) (i:Nat) (x d:Int),∃ x' d',afD k (al8 k m) a false l i x d true=some (.mk x' d' true):=by
    intro l i x d;cases l with
    | nil=>exact ⟨_,_,rfl⟩
    | cons e l=>obtain ⟨_,_,_,_,_⟩:=e; exact ⟨_,_,rfl⟩
   have:(!(decide (n + 1≤600) && decide (a≤16)) || !(slot == 0) || !ahv op num txt l.length)=true:=by simp [ha']
   rw [this];obtain ⟨x',d',h⟩:=loopw l 0 ((n + 1:Nat):Int) (imax d a);exact .bad h (by simp [gE,ha'])
mutual
def stE:aam→aam | .mk op num txt _ l=>.mk op num txt 0 (stEs l)
def stEs:List aam→List aam | []=>[] | e :: l=>stE e :: stEs l
end
theorem ahF : ∀ l,(stEs l).length=l.length
 | []=>rfl
 | e :: l=>by simp [stEs,ahF l]
mutual
theorem axD : ∀ e,szE (stE e)=szE e
 | .mk _ _ _ _ l=>by simp only [stE,szE,akb l]
theorem akb : ∀ l,szEs (stEs l)=szEs l
 | []=>rfl
 | e :: l=>by simp only [stEs,szEs,axD e,akb l]
end
mutual
theorem azO : ∀ e a,gE false (stE e) a=gE true e a
 | .mk _ _ _ _ l,a=>by simp [stE,gE,an1 l,ahF]
theorem an1 : ∀ l a,gEs false (stEs l) a=gEs true l a
 | [],_=>rfl
 | e :: l,a=>by simp only [stEs,gEs,azO e,an1 l]
end
def shp (op:Int):Option (Int × Bool × Int × Int × Bool × Int) :=
 match op with
 | 1=>some (1,false,1,1,false,0) | 2=>some (1,false,1,1,false,0) | 3=>some (2,true,0,600,false,0) | 4=>some (2,true,0,600,false,0)
 | 5=>some (2,false,1,1,false,0) | 6=>some (2,false,1,1,false,1) | 7=>some (1,false,1,1,false,2) | 8=>some (1,false,1,1,false,0)
 | 9=>some (1,false,0,0,false,0) | 10=>some (0,false,2,2,false,0) | 11=>some (0,false,1,1,false,0) | 12=>some (0,false,1,1,false,0)
 | 13=>some (0,false,0,0,false,0) | 14=>some (0,false,1,1,false,0) | 15=>some (0,false,1,1,false,0) | 16=>some (0,false,1,1,false,0)
 | 17=>some (0,false,0,1,false,0) | 18=>some (0,false,0,0,false,0) | 19=>some (0,false,0,0,false,0) | 20=>some (0,false,1,1,true,1)
 | 21=>some (0,false,1,1,true,0) | 22=>some (0,false,0,1,true,1) | 23=>some (0,false,0,0,true,0) | 24=>some (2,false,0,0,true,3)
 | 25=>some (1,false,1,1,true,0) | 26=>some (0,false,1,1,true,0) | 27=>some (0,false,0,0,false,0) | 28=>some (1,true,0,600,true,66)
 | 29=>some (0,false,1,1,false,0) | _=>none
theorem aoX {P:Int→Prop} (op:Int) (h : ∀ n:Nat,n < 29→P ((n + 1:Nat):Int)) (h0:op < 1∨op > 29→P op):P op:=by
 by_cases h1:op < 1∨op > 29
 ·exact h0 h1
 ·obtain ⟨n,rfl⟩ : ∃ n:Nat,op=((n + 1:Nat):Int):=⟨(op - 1).toNat,by omega⟩;exact h n (by omega)
theorem afl {op:Int} (h:op < 1∨op > 29):shp op=none:=by
 unfold shp;split <;> first | rfl | (exfalso; omega)
def toR:Option (Int × Bool × Int × Int × Bool × Int)→abo × Bool
 | none=>(.mk 0 0 0 false false 0,false)
 | some (nm,fr,lo,hi,bd,fl)=>(.mk lo hi nm fr bd fl,true)
theorem avk (k:Nat) (op:Int):f168 k op=some (toR (shp op)):=by
 refine aoX (P:=fun op=>f168 k op=some (toR (shp op))) op ?_ ?_
 ·intro n hn
  match n,hn with
  | 0,_=>rfl | 1,_=>rfl | 2,_=>rfl | 3,_=>rfl | 4,_=>rfl | 5,_=>rfl | 6,_=>rfl | 7,_=>rfl | 8,_=>rfl | 9,_=>rfl
  | 10,_=>rfl | 11,_=>rfl | 12,_=>rfl | 13,_=>rfl | 14,_=>rfl | 15,_=>rfl | 16,_=>rfl | 17,_=>rfl | 18,_=>rfl | 19,_=>rfl
  | 20,_=>rfl | 21,_=>rfl | 22,_=>rfl | 23,_=>rfl | 24,_=>rfl | 25,_=>rfl | 26,_=>rfl | 27,_=>rfl | 28,_=>rfl
  | n + 29,h=>omega
 ·intro h;rw [afl h];have e : ∀ c:Int,1≤c→c≤29→(op == c)=false:=fun c h1 h2=>by rw [beq_eq_false_iff_ne]; omega
  unfold f168 aoJ ag7 aiV aed afT ahS;simp [e,toR]
def toN:Option (Int × Bool × Int × Int × Bool × Int)→Option aaI
 | none=>none
 | some (nm,fr,lo,hi,bd,fl)=>some (.mk nm fr lo (if hi=600 then 601 else hi) bd)
theorem amh (op:Int) : ∀ L:List (Int × aaI),(∀ x ∈ L,qI op x.1=false)→mget qI op L=none
 | [],_=>rfl
 | (a,v) :: L,h=>by
  unfold mget;rw [if_neg (by rw [h (a,v) (by simp)]; simp)];exact amh op L fun x hx=>h x (by simp [hx])
theorem av0 (k:Nat) (op:Int):(f189 k).bind (fun r=>some (mget qI op r))=some (toN (shp op)):=by
 refine aoX (P:=fun op=>(f189 k).bind (fun r=>some (mget qI op r))=some (toN (shp op))) op ?_ ?_
 ·intro n hn
  match n,hn with
  | 0,_=>rfl | 1,_=>rfl | 2,_=>rfl | 3,_=>rfl | 4,_=>rfl | 5,_=>rfl | 6,_=>rfl | 7,_=>rfl | 8,_=>rfl | 9,_=>rfl
  | 10,_=>rfl | 11,_=>rfl | 12,_=>rfl | 13,_=>rfl | 14,_=>rfl | 15,_=>rfl | 16,_=>rfl | 17,_=>rfl | 18,_=>rfl | 19,_=>rfl
  | 20,_=>rfl | 21,_=>rfl | 22,_=>rfl | 23,_=>rfl | 24,_=>rfl | 25,_=>rfl | 26,_=>rfl | 27,_=>rfl | 28,_=>rfl
  | n + 29,h=>omega
 ·intro h;rw [afl h];obtain ⟨L,hL,hA⟩ : ∃ L,f189 k=some L∧(L.all fun x=>decide (1≤x.1) && decide (x.1≤29))=true:=⟨_,rfl,rfl⟩;rw [hL];simp only [Option.bind_some];rw [amh op L]
  ·rfl
  ·intro x hx;have:=List.all_eq_true.mp hA x hx;simp only [Bool.and_eq_true,decide_eq_true_eq] at this;unfold qI; rw [beq_eq_false_iff_ne]; omega
def anF (op:Int) (name:ByteArray) (flag:Int) (l8 l9:Int):Bool :=
 let b0:=(IntKind.i64.wrap (BitVec.ofInt IntKind.i64.bits flag &&& BitVec.ofInt IntKind.i64.bits 1).toNat) == 1
 let b1:=(IntKind.i64.wrap (BitVec.ofInt IntKind.i64.bits flag &&& BitVec.ofInt IntKind.i64.bits 2).toNat) == 2
 cond (op == 6) (decide (flag ≥ 0) && decide (flag≤1) && (flag == 0 || !seq name ⟨#[]⟩) && l8 == 0 && l9 == 0)
 (cond (op == 7) (decide (flag ≥ 0) && decide (flag≤2) && l8 == 0 && l9 == 0)
 (cond (op == 22) (decide (flag ≥ 0) && decide (flag≤1) && l8 == 0 && l9 == 0)
 (cond (op == 20) (decide (flag ≥ 0) && decide (flag≤1) && (flag == 1 || l8 == 0) && l9 == 0)
 (cond (op == 24) (decide (flag ≥ 1) && decide (flag≤3) && ((!seq name ⟨#[]⟩) == b0) && (b0 || l8 == 0) && (b1 || l9 == 0))
 (cond (op == 28) (decide (flag ≥ 0) && decide (flag≤66) && decide (flag.tmod 4 < 3) && l8 == 0 && l9 == 0)
  (flag == 0 && l8 == 0 && l9 == 0))))))
theorem awh (k:Nat) (op:Int) (name:ByteArray) (s2:Int) (fr:ByteArray) (s4 flag:Int) (l6:List aam) (l7 l8 l9:List aaf) (l10:List aaz) :
  f190 k (.mk op name s2 fr s4 flag l6 l7 l8 l9 l10)=some (anF op name flag l8.length l9.length):=by
 unfold f190 aoI ah9 acT aek anF;simp only [ajG,Option.bind_some,Bool.cond_eq_ite];generalize (IntKind.i64.wrap (BitVec.ofInt IntKind.i64.bits flag &&& BitVec.ofInt IntKind.i64.bits 1).toNat == 1)=b0;generalize (IntKind.i64.wrap (BitVec.ofInt IntKind.i64.bits flag &&& BitVec.ofInt IntKind.i64.bits 2).toNat == 2)=b1;generalize ((l8.length:Int) == 0)=c8;generalize ((l9.length:Int) == 0)=c9;generalize seq name ⟨#[]⟩=e;grind (splits:=20)
def apy (nm:Int) (fr:Bool) (name from_:ByteArray):Bool :=
 (seq name ⟨#[]⟩ || (!(nm == 0) && isN name)) && (!seq name ⟨#[]⟩ || !(nm == 1)) && ((!seq from_ ⟨#[]⟩) == fr) && (!fr || isN from_)
def als (op lo hi:Int) (bd:Bool) (l6 l7 l10:Int):Bool :=
 decide (l6 ≥ lo) && decide (l6≤hi) && (bd || !decide (l7 > 0)) && (cond (op == 27) (decide (l10 ≥ 1) && decide (l10≤4)) (!decide (l10 > 0)))
section
variable (k:Nat) (F:acJ) (op:Int) (name:ByteArray) (s2:Int) (from_:ByteArray) (s4 flag:Int) (l6:List aam) (l7 l8 l9:List aaf) (l10:List aaz) (a nm:Int) (fr:Bool) (lo hi:Int) (bd:Bool) (n d:Int) (z q:Bool)
theorem apf:abA k F op l6 l7 l8 l9 l10 a lo hi bd n d z q =
  cond (!q && als op lo hi bd l6.length l7.length l10.length) (aci k F l6 l7 l8 l9 l10 a l10 0 n d z) (some (.mk n d z,false)):=by
 unfold abA acs als;simp only [ajG,Option.bind_some,Bool.cond_eq_ite];grind (splits:=20)
theorem ajs:adh k F op name from_ l6 l7 l8 l9 l10 a nm fr lo hi bd n d z q =
  cond (!q && apy nm fr name from_ && als op lo hi bd l6.length l7.length l10.length) (aci k F l6 l7 l8 l9 l10 a l10 0 n d z) (some (.mk n d z,false)):=by
 unfold adh apy;simp only [al7,apf,Option.bind_some,Bool.cond_eq_ite];grind (splits:=20)
theorem apA:afO k F n d z op name s2 from_ s4 flag l6 l7 l8 l9 l10 a nm fr lo hi bd true =
  (f76 k (.mk n d z) a).bind fun x=>match x with
   | (.mk n1 d1 z1,ok)=>cond (ok && ((s2 == 0 && s4 == 0) || z1) && anF op name flag l8.length l9.length && apy nm fr name from_ && als op lo hi bd l6.length l7.length l10.length)
    (aci k F l6 l7 l8 l9 l10 a l10 0 n1 d1 z1) (some (.mk n1 d1 z1,false)):=by
 unfold afO;simp only [Bool.not_true,cond_false];congr 1;funext x;obtain ⟨⟨n1,d1,z1⟩,ok⟩:=x;simp only [awh,ajs,Option.bind_some,Bool.cond_eq_ite];grind (splits:=20)
end
def akw (nm:Int) (name:ByteArray):Bool:=(nm == 0 && seq name ⟨#[]⟩) || (nm == 1 && isN name) || (nm == 2 && (seq name ⟨#[]⟩ || isN name))
def alh (fr:Bool) (from_:ByteArray):Bool:=cond fr (isN from_) (seq from_ ⟨#[]⟩)
def aig (op:Int) (name:ByteArray) (flag:Int) (l8 l9:Int):Bool :=
 (l8 == 0 || (op == 20 && flag == 1) || (op == 24 && flag.tmod 2 == 1)) && (l9 == 0 || (op == 24 && decide (flag ≥ 2))) &&
 cond (op == 6) (flag == 0 || !seq name ⟨#[]⟩) (cond (op == 24) (decide (flag > 0) && ((flag.tmod 2 == 1) == !seq name ⟨#[]⟩)) (cond (op == 28) (decide (flag.tmod 4 < 3)) true))
def aeC (op l10:Int):Bool:=((op == 27) == decide (l10 > 0)) && decide (l10≤4)
section
variable (k:Nat) (F:abz) (op:Int) (name:ByteArray) (s2:Int) (from_:ByteArray) (s4 flag:Int) (l6:List aam) (l7 l8 l9:List aaf) (l10:List aaz) (a nm:Int) (fr:Bool) (lo hi:Int) (bd:Bool) (n d:Int) (z q:Bool)
theorem apx:adK k F op l6 l7 l8 l9 l10 a n d q=abF k F l7 l8 l9 l10 a l6 0 n d (q || !aeC op l10.length):=by
 unfold adK aiN aeC;simp only [adz,Option.bind_some,Bool.cond_eq_ite];generalize abF k F l7 l8 l9 l10 a l6 0 n d=Q;obtain ⟨A,B,rfl⟩:=bfun Q;grind (splits:=20)
theorem apu:agJ k F op name flag l6 l7 l8 l9 l10 a n d q=abF k F l7 l8 l9 l10 a l6 0 n d (q || !(aig op name flag l8.length l9.length && aeC op l10.length)):=by
 unfold agJ aej agT aig;simp only [adz,apx,Option.bind_some,Bool.cond_eq_ite];generalize abF k F l7 l8 l9 l10 a l6 0 n d=Q;generalize aeC op l10.length=c;generalize (flag.tmod 2 == 1)=b0;obtain ⟨A,B,rfl⟩:=bfun Q;grind (splits:=30)
theorem apb:adk k F op name from_ flag l6 l7 l8 l9 l10 a nm fr bd n d q=abF k F l7 l8 l9 l10 a l6 0 n d (q || !(akw nm name && alh fr from_ && (bd || (l7.length:Int) == 0) && aig op name flag l8.length l9.length && aeC op l10.length)):=by
 unfold adk acj aeT akw alh;simp only [adz,ajf,apu,Option.bind_some,Bool.cond_eq_ite];generalize abF k F l7 l8 l9 l10 a l6 0 n d=Q;generalize aeC op l10.length=c;generalize aig op name flag l8.length l9.length=c2;generalize ((l7.length:Int) == 0)=c7;obtain ⟨A,B,rfl⟩:=bfun Q;generalize isN name=n1;generalize isN from_=n2;generalize seq name ⟨#[]⟩=e1;generalize seq from_ ⟨#[]⟩=e2;grind (splits:=30)
end
def apm (op:Int) (name from_:ByteArray) (flag:Int) (l6 l7 l8 l9 l10:Nat):Bool :=
 match shp op with
 | none=>false
 | some (nm,fr,lo,hi,bd,fl)=>anF op name flag l8 l9 && apy nm fr name from_ && als op lo (if hi=600 then 601 else hi) bd l6 l7 l10
def acx (op:Int) (name from_:ByteArray) (flag:Int) (l6 l7 l8 l9 l10:Nat):Bool :=
 match shp op with
 | none=>false
 | some (nm,fr,lo,hi,bd,fl)=>decide ((l6:Int) ≥ lo) && decide ((l6:Int)≤hi) && decide (flag ≥ 0) && decide (flag≤fl) && (akw nm name && alh fr from_ && (bd || (l7:Int) == 0) && aig op name flag l8 l9 && aeC op l10)
theorem aiW {s:ByteArray} (h:isN s=true):seq s ⟨#[]⟩=false:=by
 unfold isN at h; cases hs:seq s ⟨#[]⟩ with
 | false=>rfl
 | true=>rw [hs] at h; simp at h
theorem bits (flag:Int) (h1:1≤flag) (h2:flag≤3):(IntKind.i64.wrap (BitVec.ofInt IntKind.i64.bits flag &&& BitVec.ofInt IntKind.i64.bits 1).toNat == 1)=(flag.tmod 2 == 1) ∧
  (IntKind.i64.wrap (BitVec.ofInt IntKind.i64.bits flag &&& BitVec.ofInt IntKind.i64.bits 2).toNat == 2)=decide (flag ≥ 2):=by
 rcases (by omega:flag=1∨flag=2∨flag=3) with rfl | rfl | rfl <;> exact ⟨rfl,rfl⟩
theorem aux (op:Int) (name from_:ByteArray) (flag:Int) (l6 l7 l8 l9 l10:Nat) (h6:l6≤600):apm op name from_ flag l6 l7 l8 l9 l10=acx op name from_ flag l6 l7 l8 l9 l10:=by
 have hn:=@aiW name;have hf:=@aiW from_;have hb:=bits flag;unfold apm acx anF apy als akw alh aig aeC;generalize (IntKind.i64.wrap (BitVec.ofInt IntKind.i64.bits flag &&& BitVec.ofInt IntKind.i64.bits 1).toNat == 1)=b0 at hb ⊢;generalize (IntKind.i64.wrap (BitVec.ofInt IntKind.i64.bits flag &&& BitVec.ofInt IntKind.i64.bits 2).toNat == 2)=b1 at hb ⊢;generalize isN name=n1 at hn ⊢;generalize isN from_=n2 at hf ⊢;generalize seq name ⟨#[]⟩=e1 at hn ⊢;generalize seq from_ ⟨#[]⟩=e2 at hf ⊢;generalize flag.tmod 2=t2 at hb ⊢;generalize flag.tmod 4=t4;by_cases hop:op < 1∨op > 29
 ·rw [afl hop]
 rcases (by omega:op=1∨op=2∨op=3∨op=4∨op=5∨op=6∨op=7∨op=8∨op=9∨op=10∨op=11∨op=12∨op=13∨op=14∨op=15∨op=16∨op=17∨op=18∨op=19∨op=20∨op=21∨op=22∨op=23∨op=24∨op=25∨op=26∨op=27∨op=28∨op=29) with rfl | rfl | rfl | rfl | rfl | rfl | rfl | rfl | rfl | rfl | rfl | rfl | rfl | rfl | rfl | rfl | rfl | rfl | rfl | rfl | rfl | rfl | rfl | rfl | rfl | rfl | rfl | rfl | rfl <;>
  simp only [shp,Int.reduceBEq,cond_true,cond_false,Int.reduceEq,if_true,if_false] <;> grind (splits:=20)
end Go.Proofs.YtphdlngnegjgcaaGreatDoor
namespace Go.Proofs.YtphdlngnegjgcaaGreatDoor
open Go
def ai1 (kind:Int) (name:ByteArray) (len:Int):Bool :=
 decide (kind ≥ 1) && decide (kind≤4) && len == (cond (kind == 2) 2 (cond (kind == 4) 0 1)) && cond (kind == 1) (isN name) (seq name ⟨#[]⟩)
mutual
def gS (z:Bool):aaf→Nat→Bool
 | .mk op name s2 fr s4 flag l6 l7 l8 l9 l10,a=>decide (a≤16) && (z || (s2 == 0 && s4 == 0)) && acx op name fr flag l6.length l7.length l8.length l9.length l10.length &&
  (gEs z l6 (a + 1) && (gSs z l7 (a + 1) && (gSs z l8 (a + 1) && (gSs z l9 (a + 1) && gCs z l10 (a + 1)))))
def gSs (z:Bool):List aaf→Nat→Bool
 | [],_=>true
 | s :: l,a=>gS z s a && gSs z l a
def gC (z:Bool):aaz→Nat→Bool
 | .mk kind name slot es b,a=>decide (a≤16) && (z || slot == 0) && ai1 kind name es.length && (gEs z es (a + 1) && gSs z b (a + 1))
def gCs (z:Bool):List aaz→Nat→Bool
 | [],_=>true
 | .mk kind name slot es b :: l,a=>(!(kind == 4) || l.isEmpty) && gC z (.mk kind name slot es b) a && gCs z l a
end
theorem acl : ∀ e:aaf,1≤szS e
 | .mk _ _ _ _ _ _ _ _ _ _ _=>by simp only [szS]; omega
theorem adq : ∀ e:aaz,1≤szC e
 | .mk _ _ _ _ _=>by simp only [szC]; omega
theorem NRes.bind {r:Option (aae × Bool)} {f:aae × Bool→Option (aae × Bool)} {g1 g2:Bool} {n s1 s2:Nat} {z:Bool} (h1:NRes r g1 n s1 z)
  (hf : ∀ c,∃ c',f (c,false)=some (c',false)) (h2 : ∀ d,n + s1≤600→NRes (f (.mk ((n + s1:Nat):Int) d z,true)) g2 (n + s1) s2 z):NRes (r.bind f) (g1 && g2) n (s1 + s2) z:=by
 obtain ⟨c,rfl,hc⟩:=h1;by_cases hg:(g1 && decide (n + s1≤600))=true
 ·obtain ⟨d,rfl⟩:=hc hg;rw [Bool.and_eq_true,decide_eq_true_eq] at hg;obtain ⟨h3,h4⟩:=hg;subst h3;simp only [h4,decide_true,Bool.and_self,Bool.true_and,Option.bind_some];obtain ⟨c,h5,h6⟩:=h2 d h4;rw [Nat.add_assoc] at h5 h6;exact ⟨c,h5,h6⟩
 ·have hg' : (g1 && decide (n + s1≤600))=false:=by simpa using hg
  rw [hg'];obtain ⟨c',h⟩:=hf c;refine .no h ?_;rw [Bool.and_eq_false_iff,decide_eq_false_iff_not] at hg' ⊢;rcases hg' with h | h
  ·left; rw [h]; rfl
  ·right; omega
theorem NRes.conv {r:Option (aae × Bool)} {g g' : Bool} {n s n' s' : Nat} {z:Bool} (h:NRes r g n s z) (hs:n + s=n' + s') (hg:n + s≤600→g=g'):NRes r g' n' s' z:=by
 unfold NRes at h ⊢;rw [← hs];have:(g && decide (n + s≤600))=(g' && decide (n + s≤600)):=by
  by_cases h:n + s≤600
  ·rw [hg h]
  ·simp [h]
 rwa [← this]
theorem aqF (k:Nat) (z:Bool) (l:List aam) (hk:2 * szEs l + 1≤k) (n:Nat) (d:Int) (a:Nat) (hn:n≤600) (ha:a≤17):NRes (f80 k (.mk n d z) l a) (gEs z l a) n (szEs l) z :=
 (nE k z k).2 l hk n d a hn ha
theorem azA (kind:Int):mget qI kind (mput qI 4 0 (mput qI 3 1 (mput qI 2 2 (mput qI 1 1 ([]:List (Int × Int)))))) =
  cond (decide (kind ≥ 1) && decide (kind≤4)) (some (cond (kind == 2) 2 (cond (kind == 4) 0 1))) none:=by
 have e:mput qI 4 0 (mput qI 3 1 (mput qI 2 2 (mput qI 1 1 ([]:List (Int × Int)))))=[(1,1),(2,2),(3,1),(4,0)]:=rfl;rw [e];unfold mget mget mget mget mget qI;simp only [Bool.cond_eq_ite];grind
theorem aqx (k:Nat) (F:acJ) (kind:Int) (name:ByteArray) (slot:Int) (es:List aam) (b:List aaf) (a n d:Int) (z:Bool) :
  ajP k F (.mk n d z) (.mk kind name slot es b) a=cond (decide (kind ≥ 1) && decide (kind≤4)) ((f76 k (.mk n d z) a).bind fun x=>match x with
   | (.mk n1 d1 z1,ok)=>cond (ok && (z1 || slot == 0) && ai1 kind name es.length) (acr k F es b a n1 d1 z1 false) (some (.mk n1 d1 z1,false))) (some (.mk n d z,false)):=by
 unfold ajP;simp only [azA];by_cases hk:(decide (kind ≥ 1) && decide (kind≤4))=true
 ·simp only [hk,cond_true,afw];congr 1;funext x;obtain ⟨⟨n1,d1,z1⟩,ok⟩:=x;unfold acr;have hn:=@aiW name;simp only [al7,Option.bind_some,ai1,hk,Bool.true_and];generalize (cond (kind == 2) (2:Int) (cond (kind == 4) 0 1))=e;generalize isN name=n1 at hn ⊢;generalize seq name ⟨#[]⟩=e1 at hn ⊢;simp only [Bool.cond_eq_ite];grind (splits:=20)
 ·have hk' : (decide (kind ≥ 1) && decide (kind≤4))=false:=by simpa using hk
  simp only [hk',cond_false,afw]
theorem arl {op lo hi:Int} {bd:Bool} {l6 l7:Int} {l10:Nat} (h:als op lo hi bd l6 l7 l10=true):l10≤4:=by
 unfold als at h;cases hop:(op == 27) <;> simp only [hop,cond_true,cond_false,Bool.and_eq_true,Bool.not_eq_true',decide_eq_true_eq,decide_eq_false_iff_not] at h <;> omega
theorem nSt (k:Nat) (z:Bool) : ∀ m,m≤k →
  (∀ s,2 * szS s≤m→∀ (n:Nat) (d:Int) (a:Nat),n≤600→a≤17→NRes ((abW k m).f177 (.mk n d z) s a) (gS z s a) n (szS s) z) ∧
  (∀ l,2 * szSs l + 1≤m→∀ (n:Nat) (d:Int) (a:Nat),n≤600→a≤17→NRes ((abW k m).f156 (.mk n d z) l a) (gSs z l a) n (szSs l) z) ∧
  (∀ c,2 * szC c≤m→∀ (n:Nat) (d:Int) (a:Nat),n≤600→a≤17→NRes ((abW k m).f191 (.mk n d z) c a) (gC z c a) n (szC c) z)
 | 0,_=>⟨fun e he=>by have:=acl e; omega,fun l hl=>by omega,fun c hc=>by have:=adq c; omega⟩
 | m + 1,hmk=>by
  obtain ⟨ihs,ihl,ihc⟩:=nSt k z m (by omega);refine ⟨?_,?_,?_⟩
  ·intro s hs n d a hn ha;obtain ⟨op,name,s2,fr,s4,flag,l6,l7,l8,l9,l10⟩:=s;simp only [szS] at hs;show NRes (am2 k (abW k m) (.mk n d z) (.mk op name s2 fr s4 flag l6 l7 l8 l9 l10) a) _ _ _ _;have tail : ∀ (n:Nat) (d:Int),a≤16→n≤600→NRes (aci k (abW k m) l6 l7 l8 l9 l10 a [] l10.length n d z) (gEs z l6 (a + 1) && (gSs z l7 (a + 1) && (gSs z l8 (a + 1) && gSs z l9 (a + 1)))) n (szEs l6 + (szSs l7 + (szSs l8 + szSs l9))) z:=by
    intro n d ha hn;unfold aci;rw [abk (n:=a + 1) (by omega) (by omega)];refine (aqF k z l6 (by omega) n d (a + 1) hn (by omega)).bind (fun c=>by obtain ⟨_,_,_⟩:=c; exact ⟨_,rfl⟩) fun d hn=>?_
    refine (ihl l7 (by omega) _ d (a + 1) hn (by omega)).bind (fun c=>by obtain ⟨_,_,_⟩:=c; exact ⟨_,rfl⟩) fun d hn=>?_
    refine (ihl l8 (by omega) _ d (a + 1) hn (by omega)).bind (fun c=>by obtain ⟨_,_,_⟩:=c; exact ⟨_,rfl⟩) fun d hn=>?_
    refine ((ihl l9 (by omega) _ d (a + 1) hn (by omega)).bind (g2:=true) (s2:=0) (fun c=>by obtain ⟨_,_,_⟩:=c; exact ⟨_,rfl⟩) fun d hn=>?_).conv (by omega) (fun _=>by simp);exact .yes rfl (by simp [hn])
   have loop:a≤16→l10.length≤4→∀ (rest:List aaz) (i:Nat) (n:Nat) (d:Int),2 * szCs rest≤m→i + rest.length=l10.length→n≤600 →
     NRes (aci k (abW k m) l6 l7 l8 l9 l10 a rest i n d z) (gCs z rest (a + 1) && (gEs z l6 (a + 1) && (gSs z l7 (a + 1) && (gSs z l8 (a + 1) && gSs z l9 (a + 1))))) n (szCs rest + (szEs l6 + (szSs l7 + (szSs l8 + szSs l9)))) z:=by
    intro ha h10 rest;induction rest with
    | nil =>
     intro i n d _ hi hn;obtain rfl:i=l10.length:=by simpa using hi
     exact (tail n d ha hn).conv (by simp [szCs]) (fun _=>by simp [gCs])
    | cons c rest ih =>
     intro i n d hm hi hn;obtain ⟨e0,e1,e2,e3,e4⟩:=c;simp only [szCs,List.length_cons] at hm hi;unfold aci;rw [abk (x:=(a:Int) + 1) (n:=a + 1) (by omega) (by omega),abk (x:=(l10.length:Int) - 1) (n:=l10.length - 1) (by omega) (by omega)];have step:NRes (((abW k m).f191 (.mk n d z) (.mk e0 e1 e2 e3 e4) ((a + 1:Nat):Int)).bind fun q_=>match q_ with | (.mk z1467_0 z1467_1 z1467_2,r1468)=>(ag2 k (abW k m) i z1467_0 z1467_1 z1467_2 (!r1468) (aci k (abW k m) l6 l7 l8 l9 l10 a rest)))
       (gC z (.mk e0 e1 e2 e3 e4) (a + 1) && (gCs z rest (a + 1) && (gEs z l6 (a + 1) && (gSs z l7 (a + 1) && (gSs z l8 (a + 1) && gSs z l9 (a + 1)))))) n (szC (.mk e0 e1 e2 e3 e4) + (szCs rest + (szEs l6 + (szSs l7 + (szSs l8 + szSs l9))))) z :=
      (ihc (.mk e0 e1 e2 e3 e4) (by omega) n d (a + 1) hn (by omega)).bind (fun c=>by obtain ⟨_,_,_⟩:=c; exact ⟨_,rfl⟩) fun d hn=>ih (i + 1) _ d (by omega) (by omega) hn
     by_cases h4:(e0 == 4)=true
     ·simp only [h4,cond_true];by_cases hl:i < l10.length - 1
      ·have:((i:Int) < ((l10.length - 1:Nat):Int)):=by omega
       simp only [this,decide_true,cond_true];refine .no rfl ?_;have:rest.isEmpty=false:=by cases rest with
        | nil=>simp at hi; omega
        | cons=>rfl
       simp [gCs,h4,this]
      ·have : ¬ ((i:Int) < ((l10.length - 1:Nat):Int)):=by omega
       simp only [this,decide_false,cond_false];have:rest.isEmpty=true:=by cases rest with
        | nil=>rfl
        | cons=>simp at hi; omega
       exact step.conv (by simp only [szCs]; omega) (fun _=>by simp [gCs,this,Bool.and_assoc])
     ·have h4' : (e0 == 4)=false:=by simpa using h4
      simp only [h4',cond_false];exact step.conv (by simp only [szCs]; omega) (fun _=>by simp [gCs,h4',Bool.and_assoc])
   unfold am2;obtain ⟨L,hL⟩ : ∃ L,f189 k=some L:=⟨_,rfl⟩;have hg:=av0 k op;rw [hL] at hg ⊢;simp only [Option.bind_some,Option.some.injEq] at hg ⊢;rw [hg];cases hsh:shp op with
   | none =>
    have:acx op name fr flag l6.length l7.length l8.length l9.length l10.length=false:=by unfold acx; rw [hsh]
    refine .no (c:=.mk n d z) ?_ (by simp [gS,this]);simp only [toN,afw];unfold afO;simp only [Bool.not_false,cond_true,ajs];rfl
   | some t =>
    obtain ⟨nm,frm,lo,hi,bd,fl⟩:=t;simp only [toN,afw,apA,aoj k n d z a hn,Option.bind_some];have hN:apm op name fr flag l6.length l7.length l8.length l9.length l10.length=(anF op name flag l8.length l9.length && apy nm frm name fr && als op lo (if hi=600 then 601 else hi) bd l6.length l7.length l10.length):=by unfold apm; rw [hsh]
    rw [Bool.and_assoc,Bool.and_assoc,← Bool.and_assoc (anF _ _ _ _ _),← hN];have hl6:=an5 l6;by_cases h1:n + 1≤600∧a≤16
    ·obtain ⟨h1,h2⟩:=h1;by_cases h3:((s2 == 0 && s4 == 0) || z)=true
     ·by_cases h4:apm op name fr flag l6.length l7.length l8.length l9.length l10.length=true
      ·have h10:l10.length≤4:=by
        rw [hN] at h4;rw [Bool.and_eq_true] at h4;exact arl h4.2
       simp only [h1,h2,h3,h4,decide_true,Bool.and_self,cond_true];refine (loop h2 h10 l10 0 (n + 1) (imax d a) (by omega) (by omega) h1).conv (by simp only [szS]; omega) (fun hh=>?_);have h5:acx op name fr flag l6.length l7.length l8.length l9.length l10.length=true:=by rw [← aux _ _ _ _ _ _ _ _ _ (by omega)]; exact h4
       simp only [gS,h2,decide_true,h5];rw [Bool.or_comm] at h3;simp only [h3,Bool.and_self,Bool.true_and];cases gCs z l10 (a + 1) <;> cases gEs z l6 (a + 1) <;> cases gSs z l7 (a + 1) <;> cases gSs z l8 (a + 1) <;> cases gSs z l9 (a + 1) <;> rfl
      ·have h4' : apm op name fr flag l6.length l7.length l8.length l9.length l10.length=false:=by simpa using h4
       simp only [h4',Bool.and_false,cond_false];refine .no rfl ?_;by_cases hh:n + szS (.mk op name s2 fr s4 flag l6 l7 l8 l9 l10)≤600
       ·have h5:acx op name fr flag l6.length l7.length l8.length l9.length l10.length=false:=by
         rw [← aux _ _ _ _ _ _ _ _ _ (by simp only [szS] at hh; omega)]; exact h4'
        simp [gS,h5]
       ·simp [hh]
     ·have h3' : ((s2 == 0 && s4 == 0) || z)=false:=by simpa using h3
      simp only [h3',Bool.false_and,Bool.and_false,cond_false];refine .no rfl ?_;rw [Bool.or_comm] at h3';simp only [gS,h3',Bool.false_and,Bool.and_false]
    ·have h1' : (decide (n + 1≤600) && decide (a≤16))=false:=by
      simp only [Bool.and_eq_false_iff,decide_eq_false_iff_not]; omega
     simp only [h1',Bool.false_and,cond_false];refine .no rfl ?_;rw [Bool.and_eq_false_iff,decide_eq_false_iff_not];by_cases h2:a≤16
     ·right; simp only [szS]; omega
     ·left; simp [gS,h2]
  ·intro l hl n d a hn ha;show NRes (aeM k (abW k m) a l 0 n d z) _ _ _ _;have loop : ∀ (l:List aaf) (i:Nat) (n:Nat) (d:Int),2 * szSs l≤m→n≤600→NRes (aeM k (abW k m) a l i n d z) (gSs z l a) n (szSs l) z:=by
    intro l;induction l with
    | nil=>intro i n d _ hn; exact .yes rfl (by simp [gSs,szSs,hn])
    | cons e l ih =>
     intro i n d hm hn;obtain ⟨e0,e1,e2,e3,e4,e5,e6,e7,e8,e9,e10⟩:=e;unfold aeM;simp only [szSs] at hm;exact (ihs (.mk e0 e1 e2 e3 e4 e5 e6 e7 e8 e9 e10) (by omega) n d a hn ha).bind (fun c=>by obtain ⟨_,_,_⟩:=c; exact ⟨_,rfl⟩) fun d hn=>ih (i + 1) _ d (by omega) hn
   exact loop l 0 n d (by omega) hn
  ·intro c hc n d a hn ha;obtain ⟨kind,name,slot,es,b⟩:=c;simp only [szC] at hc;show NRes (ajP k (abW k m) (.mk n d z) (.mk kind name slot es b) a) _ _ _ _;rw [aqx];by_cases hk:(decide (kind ≥ 1) && decide (kind≤4))=true
   ·simp only [hk,cond_true];rw [aoj k n d z a hn];simp only [Option.bind_some];by_cases h1:n + 1≤600∧a≤16
    ·obtain ⟨h1,h2⟩:=h1;by_cases h3:((z || slot == 0) && ai1 kind name es.length)=true
     ·rw [Bool.and_assoc,h3];simp only [h1,h2,decide_true,Bool.and_self,cond_true];unfold acr;simp only [cond_false];rw [abk (x:=(a:Int) + 1) (n:=a + 1) (by omega) (by omega)];refine NRes.conv (g:=gEs z es (a + 1) && (gSs z b (a + 1) && true)) (n:=n + 1) (s:=szEs es + (szSs b + 0)) ?_ (by simp only [szC]; omega) (fun _=>?_)
      ·refine (aqF k z es (by omega) (n + 1) _ (a + 1) h1 (by omega)).bind (fun c=>by obtain ⟨_,_,_⟩:=c; exact ⟨_,rfl⟩) fun d hn=>?_
       refine (ihl b (by omega) _ d (a + 1) hn (by omega)).bind (fun c=>by obtain ⟨_,_,_⟩:=c; exact ⟨_,rfl⟩) fun d hn=>?_
       exact .yes rfl (by simp [hn])
      ·simp only [gC,h2,decide_true,Bool.true_and,Bool.and_true,h3]
     ·have h3' : ((z || slot == 0) && ai1 kind name es.length)=false:=by simpa using h3
      rw [Bool.and_assoc,h3',Bool.and_false];refine .no rfl ?_;rw [gC,Bool.and_assoc (decide (a≤16)),h3'];simp
    ·have h1' : (decide (n + 1≤600) && decide (a≤16))=false:=by
      simp only [Bool.and_eq_false_iff,decide_eq_false_iff_not]; omega
     simp only [h1',Bool.false_and,cond_false];refine .no rfl ?_;rw [Bool.and_eq_false_iff,decide_eq_false_iff_not];by_cases h2:a≤16
     ·right; simp only [szC]; omega
     ·left; simp [gC,h2]
   ·have hk' : (decide (kind ≥ 1) && decide (kind≤4))=false:=by simpa using hk
    simp only [hk',cond_false];exact .no rfl (by simp only [gC,ai1,hk',Bool.false_and,Bool.and_false])
end Go.Proofs.YtphdlngnegjgcaaGreatDoor
