/- Words of the proof, part 4; nothing is claimed here. -/
import Derived.Test.YtphdlngnegjgcaaGreatDoorV3
set_option linter.unusedVariables false
set_option maxRecDepth 100000
set_option maxHeartbeats 20000000
namespace Go.Proofs.YtphdlngnegjgcaaGreatDoor
open Go
theorem aqF(k:Nat)(F:abk)(IH118:acX F.f118)(IH142:acV F.f142)(IH169:acW F.f169):acW (air k F):=by
 intro K wi g bs am an ao aW cm s cn co cq h hG aX aY;obtain⟨r_,n,h⟩:=rz h;obtain⟨o,p,t,d,e⟩:=aW;obtain⟨x,y,z,A,rfl,aZ,ap,a0⟩:=aar.open aX;refine en 88 Tryz.func169 rfl ?_;unfold air at h;refine gI 9 [] [] aY (fun a3 a4=>?_);have aq:=p10 a4;refine cB h (fun _ a5=>(ai7 k) a5 (hG.mono kr)<|pt aq) ?_;rintro⟨ar,au,av⟩ _ cr⟨aw,rfl,a⟩ h;have D:=ca a aq;refine go 7<|wk D (fun j m=>∃ax Z,j ax [0,2,4] [(6,iI Z)]∧m aw [] [.box bs g #[iI ar,iI au,.bool av] 104,.box (zz wi) (zz wi) (aC' o p t x d y z e A) 84]∧ahK k F o p t d e s ar au av Z=some r_) ?_ ?_
 ·refine gD 13 [0,2] D (bC 13 h ?_ ?_)<;>intro _ h
  ·exact gd 6 ⟨_,2,fK,D,h⟩
  ·refine gd 7 (bC 15 h ?_ ?_)<;>intro _ h
   ·exact gd 6 ⟨_,0,fK,D,h⟩
   ·exact gd 4 ⟨_,1,fK,D,h⟩
 ·rintro _ cs⟨ax,Z,rfl,b,h⟩;refine wk b (fun j m=>∃ay V ab ac ad,j ay [0,2,4] []∧KH.sub aw V∧m V [] [.box bs g #[iI ab,iI ac,.bool ad] 104,.box (zz wi) (zz wi) (aC' o p t x d y z e A) 84]∧agj k F o p d e s ab ac ad=some r_) ?_ ?_
  ·refine gD 6 [0,2] b (bO 21 h ?_ ?_)<;>intro _ h
   ·refine gP 8 [0,2] b (bO 26 h ?_ ?_)<;>intro _ h
    ·refine gP 12 [3,2] b (bO 33 h ?_ ?_)<;>intro _ h
     ·refine gP 7 [2,2] b<|cB h (fun _ a6=>(aam k) a6 (gm hG a)<|pt b) ?_;rintro⟨a7,a8,a9⟩ _ ct⟨ba,rfl,az⟩ h;have bb:=ca az b;exact go 2 ⟨_,ba,a7,a8,a9,fK,az.sub,bb,h⟩
     ·refine go 4<|cB h (fun _ bd=>(aam k) bd (gm hG a)<|pt b) ?_;rintro⟨be,bf,bg⟩ _ cu⟨bh,rfl,aA⟩ h;have bi:=ca aA b;exact go 2 ⟨_,bh,be,bf,bg,fK,aA.sub,bi,h⟩
    ·refine go 11<|cB h (fun _ bj=>(aam k) bj (gm hG a)<|pt b) ?_;rintro⟨bk,bm,bn⟩ _ cw⟨bo,rfl,aB⟩ h;have bp:=ca aB b;exact go 2 ⟨_,bo,bk,bm,bn,fK,aB.sub,bp,h⟩
   ·refine go 16<|cB h (fun _ bq=>(aam k) bq (gm hG a)<|pt b) ?_;rintro⟨br,bu,bv⟩ _ cx⟨bw,rfl,aG⟩ h;have bx:=ca aG b;exact go 2 ⟨_,bw,br,bu,bv,fK,aG.sub,bx,h⟩
  ·rintro _ cy⟨ay,V,ab,ac,ad,rfl,f,i,h⟩;refine wk i (fun j m=>∃aH B W X Y,j aH [0,2,4] []∧KH.sub V B∧m B [] [.box bs g #[iI W,iI X,.bool Y] 104,.box (zz wi) (zz wi) (aC' o p t x d y z e A) 84]∧ae0 k F d e s W X Y=some r_) ?_ ?_
   ·refine gD 6 [0,2] i (bO 43 h ?_ ?_)<;>intro _ h
    ·refine gP 5 [1,2] i<|cB h (fun _ bz=>(acY k) bz (gm hG i) aZ<|pt i) ?_;rintro cz _ cA⟨cC,rfl,u⟩ h;have q:=ca u i;refine go 2 (bO 48 h ?_ ?_)<;>intro _ h
     ·refine go 9<|cB h (fun _ bB=>(aam k) bB (gm hG q)<|pt q) ?_;rintro⟨bD,bE,bF⟩ _ cD⟨bG,rfl,aI⟩ h;have bH:=ca aI q;exact go 2 ⟨_,bG,bD,bE,bF,fK,u.sub.trans aI.sub,bH,h⟩
     ·refine gP 8 [0,2] q (bO 52 h ?_ ?_)<;>intro _ h
      ·refine gP 9 [1,2] q<|cB h (fun _ bI=>(aam k) bI (gm hG q)<|pt q) ?_;rintro⟨bJ,bK,bL⟩ _ cG⟨bM,rfl,aK⟩ h;have bP:=ca aK q;exact go 2 ⟨_,bM,bJ,bK,bL,fK,u.sub.trans aK.sub,bP,h⟩
      ·refine go 6<|cB h (fun _ bQ=>(aam k) bQ (gm hG q)<|pt q) ?_;rintro⟨bR,bS,bT⟩ _ cH⟨bU,rfl,aL⟩ h;have bV:=ca aL q;exact go 2 ⟨_,bU,bR,bS,bT,fK,u.sub.trans aL.sub,bV,h⟩
    ·refine gP 13 [0,2] i (bO 52 h ?_ ?_)<;>intro _ h
     ·refine gP 9 [1,2] i<|cB h (fun _ bW=>(aam k) bW (gm hG i)<|pt i) ?_;rintro⟨bX,bY,bZ⟩ _ cI⟨b0,rfl,aM⟩ h;have b1:=ca aM i;exact go 2 ⟨_,b0,bX,bY,bZ,fK,aM.sub,b1,h⟩
     ·refine go 6<|cB h (fun _ b2=>(aam k) b2 (gm hG i)<|pt i) ?_;rintro⟨b3,b4,b5⟩ _ cJ⟨b6,rfl,aN⟩ h;have b7:=ca aN i;exact go 2 ⟨_,b6,b3,b4,b5,fK,aN.sub,b7,h⟩
   ·rintro _ cK⟨aH,B,W,X,Y,rfl,G,ae,h⟩;refine wk ae (fun j m=>∃aP af ai aj ak,j aP [0,2,4] []∧KH.sub B af∧m af [] [.box bs g #[iI ai,iI aj,.bool ak] 104,.box (zz wi) (zz wi) (aC' o p t x d y z e A) 84]∧aeT k F e s ai aj ak=some r_) ?_ ?_
    ·refine gd 6<|wl ae (fun j m g_=>∃aT I v,∃(J:Nat),∃N O S,g_=v.length∧j aT [0,2,4] [(7,iI (J:Int))]∧KH.sub B I∧m I [] [.box bs g #[iI N,iI O,.bool S] 104,.box (zz wi) (zz wi) (aC' o p t x d y z e A) 84]∧d.drop J=v∧ac3 k F e s v J N O S=some r_) d.length ?_ ?_
     ·exact⟨_,B,d,0,W,X,Y,rfl,fK,kr,ae,List.drop_zero,h⟩
     ·rintro _ _ cL⟨aT,I,v,J,N,O,S,rfl,rfl,C,l,U,h⟩;rcases v with _|⟨⟨cM,cN,cO,cP,cQ⟩,v⟩
      ·exact gD 7 [3,2] l<|cNl U<|go 15 ⟨_,I,N,O,S,fK,C,l,h⟩
      ·refine gD 7 [3,2] l (cCl U<|gP 14 [2,1] l<|bC 70 h ?_ ?_)<;>intro _ h
       ·refine gD 10 [3,2] l<|eN l (me ap<|((a.sub.trans f).trans G).trans C) U aai.open ?_;rintro cR cS cU cV cW b8⟨cY,cZ,rfl,c3,c4⟩;refine go 1<|bar (r:=(w64<|s+1)) rfl rfl rfl<|cB h (fun _ b9=>(at2 k) b9 (gm hG l) b8<|pt l) ?_;rintro⟨cb,cc,ce⟩ _ c6⟨cf,rfl,aU⟩ h;have ch:=ca aU l;exact go 5<|iCl U ((me ap<|((a.sub.trans f).trans G).trans C).len)<|go 3 ⟨_,Nat.lt_succ_self _,_,cf,v,J+1,cb,cc,ce,rfl,fK,C.trans aU.sub,ch,aac U,h⟩
       ·exact gd 6 ⟨_,I,N,O,S,fK,C,l,h⟩
    ·rintro _ c7⟨aP,af,ai,aj,ak,rfl,aV,al,h⟩;refine gD 5 [4,2] al<|bar (r:=(w64<|s+1)) rfl rfl rfl<|cB h (fun _ ci=>IH118 ci (hG.mono<|((a.sub.trans f).trans G).trans aV) (ms a0<|((a.sub.trans f).trans G).trans aV)<|pt al) ?_;rintro⟨c8,c9,da⟩ _ db⟨cj,rfl,ck⟩ h;have cl:=ca ck al;refine go 1 ?_;cases oj h n;exact end0 rfl ⟨cj,rfl,cl.sel [0]⟩
theorem ahj(k0:Nat) : ∀k,acX (aaX k0 k).f118∧acV (aaX k0 k).f142∧acW (aaX k0 k).f169:=by
 intro k;induction k with
 | zero=>exact⟨by simp[acX,aaX],by simp[acV,aaX],by simp[acW,aaX]⟩
 | succ k ih=>exact⟨apQ k0 (aaX k0 k) ih.1 ih.2.1 ih.2.2,aq0 k0 (aaX k0 k) ih.1 ih.2.1 ih.2.2,aqF k0 (aaX k0 k) ih.1 ih.2.1 ih.2.2⟩
theorem avU(k:Nat):acX (f118 k):=(ahj k k).1
theorem ayf(k:Nat):acV (f142 k):=(ahj k k).2.1
theorem ayc(k:Nat):acW (f169 k):=(ahj k k).2.2
theorem aw5(k:Nat):as0 (f85 k):=by
 intro K wi bD dr ds h hG bE bF;obtain⟨n,o,h⟩:=rz h;obtain⟨g⟩:=bD;obtain⟨u,c1,rfl,a3⟩:=aad.open bE;refine en 126 Tryz.func85 rfl ?_;unfold f85 at h;refine gI 8 [] [[iI 0,iI 0,vN]] bF (fun r s bG=>bld (cells:=#[iI 0,iI 0,vN]) (vs:=[]) rfl (fun w=>by kernel_rfl)<|gR 4 [] [] bG (fun dt ad=>wk ad (fun j m=>∃a4 af aq ar au,j a4 [1,2,3] []∧KH.sub K af∧m af [] [.box (zz wi) (zz wi) #[sl u g c1] 24,.box (zz wi) (zz r) #[iI 0,iI 0,vN] 104,.box (zz wi) (zz s) #[iI aq,iI ar,.bool au] 104]∧anj k g aq ar au=some n) ?_ ?_))
 ·refine gD 7 [0,3] ad (bO 14 h ?_ ?_)<;>intro _ h
  ·refine gP 9 [0,3] ad<|cB h (fun _ bH=>(aam k) bH (hG.mono kr)<|pt ad) ?_;rintro⟨bI,bJ,bK⟩ _ du⟨bL,rfl,a5⟩ h;have bM:=ca a5 ad;exact go 2 ⟨_,bL,bI,bJ,bK,fK,a5.sub,bM.sel [2,1,0],h⟩
  ·refine go 5<|cB h (fun _ bP=>(aam k) bP (hG.mono kr)<|pt ad) ?_;rintro⟨bQ,bR,bS⟩ _ dv⟨bT,rfl,a6⟩ h;have bU:=ca a6 ad;exact go 2 ⟨_,bT,bQ,bR,bS,fK,a6.sub,bU.sel [2,1,0],h⟩
 ·rintro _ dw⟨a4,af,aq,ar,au,rfl,f,aU,h⟩;refine wk aU (fun j m=>∃a7 av aw ax ay,j a7 [2,3] []∧KH.sub af av∧m av [] [.box (zz wi) (zz r) #[iI 0,iI 0,vN] 104,.box (zz wi) (zz s) #[iI aw,iI ax,.bool ay] 104]∧ap1 k aw ax ay=some n) ?_ ?_
  ·refine gd 6<|wl aU (fun j m g_=>∃a8 ai x,∃(z:Nat),∃aj ak al,g_=x.length∧j a8 [1,2,3] [(4,iI (z:Int))]∧KH.sub af ai∧m ai [] [.box (zz wi) (zz wi) #[sl u g c1] 24,.box (zz wi) (zz r) #[iI 0,iI 0,vN] 104,.box (zz wi) (zz s) #[iI aj,iI ak,.bool al] 104]∧g.drop z=x∧abV k x z aj ak al=some n) g.length ?_ ?_
   ·exact⟨_,af,g,0,aq,ar,au,rfl,fK,kr,aU,List.drop_zero,h⟩
   ·rintro _ _ A⟨a8,ai,x,z,aj,ak,al,rfl,rfl,d,W,ap,h⟩;rcases x with _|⟨⟨B,p,C,D,G,q⟩,x⟩
    ·exact gD 7 [0,1] W<|cNl ap<|go 15 ⟨_,ai,aj,ak,al,fK,d,W.sel [1,2],h⟩
    ·refine gD 7 [0,1] W (cCl ap<|gP 14 [2,3] W<|bC 32 h ?_ ?_)<;>intro _ h
     ·refine gD 10 [0,1] W<|eN W (mf a3<|f.trans d) ap aak.open ?_;rintro dx dy dz dA dB dC⟨I,J,N,O,rfl,bV,a9,bW⟩;refine gR 7 [0] [[sE,nS,iI 0,vN,iI 0,nS]] W (fun dD bX bY=>?_);have ba:=ayp bY;refine cB h (fun _ bZ=>(ai7 k) bZ (gm hG ba)<|pt ba) ?_;rintro⟨dE,dF,dG⟩ _ dH⟨b0,rfl,e⟩ h;have az:=ca e ba;refine go 2<|wk az (fun j m=>∃bb am aA aB aG,j bb [1,2,3,4,5] []∧KH.sub b0 am∧m am [] [.box (zz wi) (zz wi) #[sl u g c1] 24,.box (zz wi) (zz r) #[iI 0,iI 0,vN] 104,.box (zz wi) (zz s) #[iI aA,iI aB,.bool aG] 104,.box (zz wi) (zz A) (aF B I p J C D G N q O) 52]∧afk k z p q aA aB aG (abV k x)=some n) ?_ ?_
      ·refine gD 4 [0,2] az<|cB h (fun _ b1=>(acY k) b1 (gm hG az) bV<|pt az) ?_;rintro dI _ dJ⟨dK,rfl,l⟩ h;have a:=ca l az;refine go 1 (bO 46 h ?_ ?_)<;>intro _ h
       ·refine gP 10 [1,2] a (bO 52 h ?_ ?_)<;>intro _ h
        ·refine gP 8 [2,2] a (bO 57 h ?_ ?_)<;>intro _ h
         ·refine gP 8 [2,2] a (bO 62 h ?_ ?_)<;>intro _ h
          ·refine gP 8 [3,2] a (bO 66 h ?_ ?_)<;>intro _ h
           ·refine gP 14 [4,2] a<|cB h (fun _ b2=>(aam k) b2 (gm hG a)<|pt a) ?_;rintro⟨b3,b4,b5⟩ _ dL⟨b6,rfl,bd⟩ h;have b7:=ca bd a;exact go 2 ⟨_,b6,b3,b4,b5,fK,l.sub.trans bd.sub,b7.sel [2,3,0,1],h⟩
           ·refine gP 10 [2,2] a (bO 72 h ?_ ?_)<;>intro _ h
            ·refine gP 7 [4,2] a<|cB h (fun _ b8=>(aam k) b8 (gm hG a)<|pt a) ?_;rintro⟨b9,cb,cc⟩ _ dM⟨ce,rfl,be⟩ h;have cf:=ca be a;exact go 2 ⟨_,ce,b9,cb,cc,fK,l.sub.trans be.sub,cf.sel [2,3,0,1],h⟩
            ·refine go 4<|cB h (fun _ ch=>(aam k) ch (gm hG a)<|pt a) ?_;rintro⟨ci,cj,ck⟩ _ dN⟨cl,rfl,bf⟩ h;have cm:=ca bf a;exact go 2 ⟨_,cl,ci,cj,ck,fK,l.sub.trans bf.sub,cm.sel [2,3,0,1],h⟩
          ·refine go 14<|cB h (fun _ cn=>(aam k) cn (gm hG a)<|pt a) ?_;rintro⟨co,cq,cr⟩ _ dO⟨cs,rfl,bg⟩ h;have ct:=ca bg a;exact go 2 ⟨_,cs,co,cq,cr,fK,l.sub.trans bg.sub,ct.sel [2,3,0,1],h⟩
         ·refine go 19<|cB h (fun _ cu=>(aam k) cu (gm hG a)<|pt a) ?_;rintro⟨cw,cx,cy⟩ _ dP⟨cz,rfl,bh⟩ h;have cA:=ca bh a;exact go 2 ⟨_,cz,cw,cx,cy,fK,l.sub.trans bh.sub,cA.sel [2,3,0,1],h⟩
        ·refine go 24<|cB h (fun _ cC=>(aam k) cC (gm hG a)<|pt a) ?_;rintro⟨cD,cG,cH⟩ _ dQ⟨cI,rfl,bi⟩ h;have cJ:=ca bi a;exact go 2 ⟨_,cI,cD,cG,cH,fK,l.sub.trans bi.sub,cJ.sel [2,3,0,1],h⟩
       ·refine go 30<|cB h (fun _ cK=>(aam k) cK (gm hG a)<|pt a) ?_;rintro⟨cL,cM,cN⟩ _ dR⟨cO,rfl,bj⟩ h;have cP:=ca bj a;exact go 2 ⟨_,cO,cL,cM,cN,fK,l.sub.trans bj.sub,cP.sel [2,3,0,1],h⟩
      ·rintro _ dS⟨bb,am,aA,aB,aG,rfl,S,aV,h⟩;refine wk aV (fun j m=>∃bk aH aI aK aL,j bk [1,2,3,4,5] []∧KH.sub am aH∧m aH [] [.box (zz wi) (zz wi) #[sl u g c1] 24,.box (zz wi) (zz r) #[iI 0,iI 0,vN] 104,.box (zz wi) (zz s) #[iI aI,iI aK,.bool aL] 104,.box (zz wi) (zz A) (aF B I p J C D G N q O) 52]∧agy k z q aI aK aL (abV k x)=some n) ?_ ?_
       ·refine gd 6<|wl aV (fun j m g_=>∃bm an X,∃(t:Nat),∃Y Z ab,g_=X.length∧j bm [1,2,3,4,5] [(6,iI (t:Int))]∧KH.sub am an∧m an [] [.box (zz wi) (zz wi) #[sl u g c1] 24,.box (zz wi) (zz r) #[iI 0,iI 0,vN] 104,.box (zz wi) (zz s) #[iI Y,iI Z,.bool ab] 104,.box (zz wi) (zz A) (aF B I p J C D G N q O) 52]∧p.drop t=X∧afv k z q (abV k x) X t Y Z ab=some n) p.length ?_ ?_
        ·exact⟨_,am,p,0,aA,aB,aG,rfl,fK,kr,aV,List.drop_zero,h⟩
        ·rintro _ _ dT⟨bm,an,X,t,Y,Z,ab,rfl,rfl,U,y,ac,h⟩;rcases X with _|⟨⟨cQ,bn⟩,X⟩
         ·exact gD 7 [1,4] y<|cNl ac<|go 15 ⟨_,an,Y,Z,ab,fK,U,y,h⟩
         ·refine gD 7 [1,4] y (cCl ac<|gP 14 [2,3] y<|bC 89 h ?_ ?_)<;>intro _ h
          ·refine gd 3<|wk y (fun j m=>∃bo aM aN aP aT,j bo [1,2,3,4,5,6] []∧KH.sub an aM∧m aM [] [.box (zz wi) (zz wi) #[sl u g c1] 24,.box (zz wi) (zz r) #[iI 0,iI 0,vN] 104,.box (zz wi) (zz s) #[iI aN,iI aP,.bool aT] 104,.box (zz wi) (zz A) (aF B I p J C D G N q O) 52]∧al9 k t aN aP aT (afv k z q (abV k x) X)=some n) ?_ ?_
           ·refine gD 6 [1,4] y ?_;obtain⟨aW,ao,dU,aX,dV,aY,cR⟩:=((mp a9 ((e.sub.trans S).trans U))).row.at_ (aaB ac);obtain⟨rfl,cS⟩:=aaz.open cR;refine iNl 70 2 aX ac<|fd (ao+t*2+0) aoQ rfl<|ld1 (v:=.string cQ) Tya9 rfl (y.cell<|kr.cell<|aY 0 _ rfl)<|cB h (fun _ cU=>(acY k) cU (gm hG y) cS<|pt y) ?_;rintro dW _ aZ⟨a1,rfl,V⟩ h;have ae:=ca V y;refine go 1 (bO 100 h ?_ ?_)<;>intro _ h
            ·refine gP 7 [1,4] ae (iNl 70 2 aX ac<|go 1<|fd (ao+t*2+1) ajD rfl<|go 1<|ld1 (v:=iI bn) Tya3 rfl (ae.cell<|V.sub.cell<|aY 1 _ rfl)<|go 4<|bO 109 h ?_ ?_)<;>intro _ h
             ·refine gP 7 [1,4] ae<|iNl 70 2 aX ac<|go 1<|fd (ao+t*2+1) ajD rfl<|go 1<|ld1 (v:=iI bn) Tya3 rfl (ae.cell<|V.sub.cell<|aY 1 _ rfl)<|go 3 ?_;have bp:=atw ae;refine cB h (fun _ cV=>(aam k) cV (hG.mono<|((((f.trans d).trans e.sub).trans S).trans U).trans V.sub)<|pt bp) ?_;rintro⟨cW,cY,cZ⟩ _ dX⟨c2,rfl,bq⟩ h;have c3:=ca bq bp;exact go 3 ⟨_,c2,cW,cY,cZ,fK,V.sub.trans bq.sub,c3.sel [1,2,0,3],h⟩
             ·refine go 8 ?_;have br:=atw ae;refine cB h (fun _ c4=>(aam k) c4 (hG.mono<|((((f.trans d).trans e.sub).trans S).trans U).trans V.sub)<|pt br) ?_;rintro⟨c5,c6,c7⟩ _ dY⟨c8,rfl,bs⟩ h;have c9:=ca bs br;exact go 3 ⟨_,c8,c5,c6,c7,fK,V.sub.trans bs.sub,c9.sel [1,2,0,3],h⟩
            ·refine go 17 ?_;have bu:=atw ae;refine cB h (fun _ da=>(aam k) da (hG.mono<|((((f.trans d).trans e.sub).trans S).trans U).trans V.sub)<|pt bu) ?_;rintro⟨db,dc,dd⟩ _ dZ⟨de,rfl,bv⟩ h;have df:=ca bv bu;exact go 3 ⟨_,de,db,dc,dd,fK,V.sub.trans bv.sub,df.sel [1,2,0,3],h⟩
           ·rintro _ d0⟨bo,aM,aN,aP,aT,rfl,dg,dh,h⟩;exact gd 2<|iCl ac ((mp a9<|(e.sub.trans S).trans U).len)<|go 3 ⟨_,Nat.lt_succ_self _,_,aM,X,t+1,aN,aP,aT,rfl,fK,U.trans dg,dh,aac ac,h⟩
          ·exact gd 6 ⟨_,an,Y,Z,ab,fK,U,y,h⟩
       ·rintro _ di⟨bk,aH,aI,aK,aL,rfl,a2,bw,h⟩;refine gD 4 [5,4] bw ?_;have bx:=atw bw;refine cB h (fun _ dj=>(avU k) dj (hG.mono<|(((f.trans d).trans e.sub).trans S).trans a2) (ms bW<|(e.sub.trans S).trans a2)<|pt bx) ?_;rintro⟨dk,dl,dm⟩ _ d1⟨dn,rfl,bz⟩ h;have dp:=ca bz bx;exact go 5<|iCl ap ((mf a3<|f.trans d).len)<|go 3 ⟨_,Nat.lt_succ_self _,_,dn,x,z+1,dk,dl,dm,rfl,fK,(((d.trans e.sub).trans S).trans a2).trans bz.sub,dp.sel [1,2,0],aac ap,h⟩
     ·exact gd 6 ⟨_,ai,aj,ak,al,fK,d,W.sel [1,2],h⟩
  ·rintro _ d2⟨a7,av,aw,ax,ay,rfl,d3,dq,h⟩;refine gI 9 [0,1,3,0] [] dq (fun d4 bB=>?_);cases oj h o;exact adq rfl (rNl 0 bB rfl) ⟨av,[iI aw,iI ax,.bool ay],rfl,bB.sel [],.mk⟩
theorem atB(k:Nat):asm (f59 k):=by
 intro K wi d r s h hG e f;obtain⟨Z,n,h⟩:=rz h;obtain⟨t⟩:=d;obtain⟨x,c1,rfl,g⟩:=aad.open e;refine en 7 Tryz.func59 rfl ?_;unfold f59 at h;refine gI 9 [0,0,1] [] f (fun y a=>cB h (fun _ i=>(aw5 k) i (hG.mono kr) (aad.intro g)<|pt a) ?_);rintro⟨j,l,b⟩ _ z⟨m,A,rfl,o,p⟩ h;have q:=ca o a;obtain rfl:=adm.open p;refine fva (v:=.agg #[iI j,iI l,.bool b]) (u:=.bool b) rfl (fun w=>by kernel_rfl)<|go 5 ?_;cases oj h n;exact rt1 ⟨m,rfl,q.sel []⟩
theorem axi(k:Nat):as1 (f37 k):=by
 intro K wi o z A h hG p q;obtain⟨Z,n,h⟩:=rz h;obtain⟨B⟩:=o;obtain⟨C,c1,rfl,r⟩:=aad.open p;refine en 12 Tryz.func37 rfl ?_;unfold f37 at h;refine gI 6 [] [] q (fun D a=>wk a (fun j m=>∃f b d,j f [] [(2,.bool d)]∧KH.sub K b∧m b [] []∧anD k d=some Z) ?_ ?_)
 ·refine gD 6 [0,1] a (bO 7 h ?_ ?_)<;>intro _ h
  ·refine gP 3 [0,0,1] a<|cB h (fun _ s=>(at7 k) s (hG.mono kr) (aad.intro r)<|pt a) ?_;rintro⟨G⟩ _ I⟨J,N,rfl,e,g⟩ h;have i:=ca e a;obtain⟨O,S,rfl,U⟩:=aad.open g;refine go 1<|cB h (fun _ t=>(atB k) t (gm hG e) g<|pt i) ?_;rintro u _ V⟨v,rfl,l⟩ h;have x:=ca l i;exact go 4 ⟨_,v,u,fK,e.sub.trans l.sub,x.sel [],h⟩
  ·exact go 7 ⟨_,K,false,fK,kr,a.sel [],h⟩
 ·rintro _ W⟨f,b,d,rfl,X,y,h⟩;refine gd 1 ?_;cases oj h n;exact rt1 ⟨b,rfl,y⟩
theorem api(k:Nat):arZ (f60 k):=by
 intro K wi g A B s C h hG l D p;obtain⟨n,o,h⟩:=rz h;refine en 20 Tryz.func60 rfl ?_;unfold f60 at h;refine gd 12<|wl p (fun j m g_=>∃q a,∃(d:Nat),g_=a.length∧j q [0,1] [(5,iI (d:Int))]∧m K [] []∧g.drop d=a∧aeh k s a d=some n) g.length ?_ ?_
 ·exact⟨_,g,0,rfl,fK,p,List.drop_zero,h⟩
 ·rintro _ _ G⟨q,a,d,rfl,rfl,f,e,h⟩;rcases a with _|⟨⟨t,I,J,N,O,S⟩,a⟩
  ·refine gd 6<|cNl e<|go 14 ?_;cases oj h o;exact rt1 ⟨K,rfl,f⟩
  ·refine gd 6<|cCl e<|go 11 ?_;obtain⟨u,r,U,x,V,y,z⟩:=(l).row.at_ (aaB e);obtain⟨W,X,Y,Z,rfl,ab,ac,ad⟩:=aak.open z;refine iNl 52 6 x e (fd (r+d*6+0) arN rfl<|ld1 (v:=.string t) Tya9 rfl (f.cell<|kr.cell<|y 0 _ rfl)<|go 4<|bC 18 h ?_ ?_)<;>intro _ h
   ·refine gd 13 ?_;cases oj h o;exact rt1 ⟨K,rfl,f⟩
   ·exact gd 6<|iCl e ((l).len)<|go 3 ⟨_,Nat.lt_succ_self _,_,a,d+1,rfl,fK,f,aac e,h⟩
theorem amI(k:Nat):apC (f119 k):=by
 intro K wi g bs br aj z A ak al B C am an ao ap D G aq I J N p O S U ar au av aA aB aG aH aI aK aL aM aN aP aT aU h hG V W X Y s Z t u hbr aV ab;obtain⟨r_,n,h⟩:=rz h;refine en 37 Tryz.func119 rfl ?_;unfold f119 at h;refine gd 12<|wl ab (fun j m g_=>∃ac e,∃(a:Nat),g_=e.length∧j ac [0,1] [(5,iI (a:Int))]∧m K [0,1,2] []∧p.drop a=e∧agt k aj ak al am an ao ap aq p ar au av e a=some r_) p.length ?_ ?_
 ·exact⟨_,p,0,rfl,fK,ab,List.drop_zero,h⟩
 ·rintro _ _ aW⟨ac,e,a,rfl,rfl,q,f,h⟩;rcases e with _|⟨l,e⟩
  ·refine gD 9 [8,1] q<|cNl f<|go 14 ?_;cases oj h n;exact rt1 ⟨K,z,A,B,C,D,G,I,J,N,O,S,U,rfl,q,V,W,X,Y,s,Z,t,u⟩
  ·refine gD 9 [8,1] q<|cCl f<|go 8<|rB [] q (fun d r=>ah 9 [0,1,2,7,3,1,4,5,6,8,7,1,8] r ?_);obtain⟨x,aX,ad,aY,aw,ae⟩:=afg (d.entAt (i:=2) rfl) t (aaB f);obtain rfl:=aw;refine kK 9 (pp x<|0+a*1) rfl (fun w=>aiw (b:=x) (o:=0) (i:=a) aeP Tys3 rfl ad rfl<|aaR f) r<|tT 10 (iI l) [] rfl (fq [0,1,2] d) (fun w hF=>acE (v:=iI l) Tya3 rfl<|ae _ (hF.entAt (i:=2) rfl) 0 _ rfl) ?_;obtain⟨af,y,h⟩:=ob h;obtain⟨ai,aZ,ax,a0,ay,az⟩:=afg (d.entAt (i:=1) rfl) s (aay y).1;obtain⟨rfl,a2⟩:=ay;refine kGl 9 1 11 rfl ax y r (tT 12 (.string af) [] rfl (fq [0,1,2] d) (fun w hF=>acE (v:=.string af) Tya9 rfl<|az _ (hF.entAt (i:=1) rfl) 0 _ rfl)<|ah 2 [13,14] r<|aD<|gx 1<|bC 29 h ?_ ?_)<;>intro _ h
   ·refine gD 8 [8,1] d<|iNl 3 1 ad f<|ld1 (v:=iI l) Tya3 rfl (ae _ (d.entAt (i:=2) rfl) 0 _ rfl)<|go 9 ?_;cases oj h n;exact rt1 ⟨K,z,A,B,C,D,G,I,J,N,O,S,U,rfl,d,V,W,X,Y,s,Z,t,u⟩
   ·exact gd 6<|iCl f u<|go 3 ⟨_,Nat.lt_succ_self _,_,e,a+1,rfl,fK,d,aac f,h⟩
theorem ad5(k:Nat):asN (f88 k):=by
 intro K wi g bs br N d e O S f i U V W X l o Y p q r Z s t u ab v ae ac af ai aj ak al am an ao ap aq ar h hG x y z A B C D G hbr a;obtain⟨r_,n,h⟩:=rz h;refine en 19 Tryz.func88 rfl ?_;unfold f88 at h;refine wk a (fun j m=>∃I b,j I [0,2] [(14,.bool b)]∧m K [0,1,2] []∧anF k N O S U V W X Y Z ab v ac b=some r_) ?_ ?_
 ·refine gd 4 (bO 8 h ?_ ?_)<;>intro _ h
  ·exact gP 13 [10,1] a ⟨_,v==0,fK,a,h⟩
  ·exact go 8 ⟨_,false,fK,a,h⟩
 ·rintro _ au⟨I,b,rfl,J,h⟩;refine bC 14 h ?_ ?_<;>intro _ h
  ·refine gI 8 [10,0] [] J (fun av ad=>?_);cases oj h n;exact end0 rfl ⟨K,d,e,f,i,l,o,p,q,r,s,t,u,rfl,ad,x,y,z,A,B,C,D,G⟩
  ·refine gd 2 ?_;cases oj h n;exact end0 rfl ⟨K,d,e,f,i,l,o,p,q,r,s,t,u,rfl,J,x,y,z,A,B,C,D,G⟩
theorem arq(k:Nat):atl (f86 k):=by
 intro K wi g bs br D G I J N O S U V W X Y Z b f i ab d j l ac ad ae m bu bv bw bx bz bB bD bE bF bG bH bI h hG aA aB aG aH aI aK aL aM hbr af o;obtain⟨r_,n,h⟩:=rz h;refine en 42 Tryz.func86 rfl ?_;unfold f86 at h;refine gd 10<|cB h (fun _ aN=>(amI k) aN (hG.mono kr) aA aB aG aH aI aK aL aM (Nat.le_trans hbr o.size) af<|pt o) ?_;rintro⟨⟨bJ,⟨bK,bL,bM,bP,bQ,bR⟩,bS,bT,bU,bV⟩,bW⟩ _ bX⟨bY,bZ,b0,b1,b2,b3,b4,b5,b6,b7,b8,b9,cb,rfl,ai,aP,aT,aU,aV,aW,aX,aY,aZ⟩ h;have p:=ca ai o;refine go 1<|cB h (fun _ a0=>(ad5 k) a0 (gm hG ai) aP aT aU aV aW aX aY aZ (Nat.le_trans hbr p.size)<|pt p) ?_;rintro⟨aj,⟨ak,al,am,an,ao,ap⟩,a,e,aq,ar⟩ _ cc⟨q,r,s,t,u,v,x,au,av,ce,y,z,a2,rfl,a3,a4,a5,a6,a7,a8,cf,a9,ch⟩ h;have aw:=ca a3 p;refine gP 13 [7,1] aw<|rB [] aw (fun ba bb=>ah 10 [0,1,2,7,3,1,4,5,6,8,7,1,8,9] bb<|aD<|gY 8 [9] [] ba (fun ci bd=>aJ (hbase:=hbr) h 2 0 bd rfl rfl a8 ⟨rfl,af⟩ ?_));rintro A B C be bf bg bh h;have bi:=p123 bf;refine gR 3 [3] [] bi (fun cj bj=>aJ (hbase:=hbr) h 3 0 bj rfl rfl a9 rfl ?_);rintro ax ay az bk bm bn bo h;have bp:=p123 bm;refine gR 15 [7,0,8,0] [] bp (fun ck cl bq=>?_);cases oj h n;exact rt1 ⟨q,r,s,t,u,v,x,A,B,C,ax,ay,az,rfl,bq,a4,a5,a6,a7,bg,aav bh,bn,aav bo⟩
theorem aoT(k:Nat)(F:ahf)(IH143:adI F.f143)(IH170:adx F.f170):adI (arE k F):=by
 intro K wi g bs br az aA aB aG aH aI aK aL aM aN aP aT aU q Y Z aV r ab ac aW aX aY ad ce cf ch ci cj ck cl cm cn co cq cr cs ct h hG bG bH bI bJ bK bL bM bP hbr aZ bQ;obtain⟨r_,n,h⟩:=rz h;refine en 23 Tryz.func143 rfl ?_;unfold arE at h;refine gd 17 ?_;have a0:=bQ.row_ (zz wi) 35 5;refine wl a0 (fun j m g_=>∃a2 a d,∃(l:Nat),∃s t u v x y z ae af ai A B C e D G I f J N O aj ak b S U al,g_=d.length∧j a2 [0,1] [(5,sl S b U),(6,iI (l:Int))]∧KH.sub K a∧m a [] [.box bs g #[sl t s u,.string v,sl y x z,iI ae,.bool af,iI ai,sl B A C,sl D e G,sl J f N,iI aj,iI ak] 109,eW br D e G 9 1 I,eW br J f N 3 1 O,eW (zz wi) S b U 35 5 al]∧ad.drop l=d∧tF a t u s∧v.size≤mB∧tP a y z x∧tS a B C A∧Reps RStr 1 e I∧e.length*16≤mB∧Reps (RInt .i64) 1 f O∧f.length*8≤mB∧Reps (aai a) 5 b al∧b.length*64≤mB∧ae9 k F d l s v x ae af ai A e f aj ak b=some r_) ad.length ?_ ?_
 ·exact⟨_,K,ad,0,az,aA,aB,aG,aH,aI,aK,aL,aM,aN,aP,aT,aU,q,Y,Z,aV,r,ab,ac,aW,aX,aY,([]:LE),none,0,[],rfl,fK,kr,a0.sel [1,2,3,0],List.drop_zero,bG,bH,bI,bJ,bK,bL,bM,bP,abo (R:=(aai K)) (size:=5),(by simp),h⟩
 ·rintro _ _ cu⟨a2,a,d,l,s,t,u,v,x,y,z,ae,af,ai,A,B,C,e,D,G,I,f,J,N,O,aj,ak,b,S,U,hh⟩;obtain⟨al,rfl,rfl,V,o,p,a3,a4,a5,a6,a7,a8,a9,ba,bb,bR,h⟩:=hh;rcases d with _|⟨⟨cw,cx,cy,cz,cA⟩,d⟩
  ·refine gd 6<|cNl p<|go 15 ?_;obtain⟨bS,bT,am,bU⟩:=abD (i:=3) (bytes:=64) (R:=fun K=>(aai K)) o rfl (Nat.le_refl _) bb bR (fun hs=>(fun _ _ h=>aai.mono hs h));cases oj h n;exact rt1 ⟨bS,t,u,y,z,B,C,D,G,I,J,N,O,S,U,rfl,bT,mf a3 am,a4,mp a5 am,ms a6 am,a7.mono (fun _ _ h=>h),a8,a9.mono (fun _ _ h=>h),ba,bU⟩
  ·refine gd 6<|cCl p<|go 12<|eN o (me aZ V) p aai.open ?_;rintro cC cD cG cH cI bV⟨cJ,cK,rfl,cL,cM⟩;refine cB h (fun _ bW=>IH170 bW (hG.mono V) a3 a4 a5 a6 a7 a8 a9 ba (Nat.le_trans hbr o.size) bV<|pt o) ?_;rintro⟨⟨bd,⟨be,bf,bg,bh,bi,bj⟩,W,X,bk,bm⟩,⟨an,ao,ap,aq,ar⟩⟩ _ cN⟨bn,bo,bp,bq,bu,bv,bw,au,av,bx,aw,ax,bz,cO,rfl,ay,bX,bY,bZ,b0,b1,b2,b3,b4,bB⟩ h;have b5:=ca ay o;obtain⟨cP,cQ,rfl,cR,cS⟩:=aai.open bB;refine gR 1 [35] [] b5 (fun cU b6=>aJ h 4 0 b6 rfl rfl (bb.mono (fun _ _ h=>aai.mono ay.sub h)) bB ?_);rintro bD bE bF b7 b8 b9 cb h;have cc:=akF b8;exact go 6<|iCl p ((me aZ V).len)<|go 3 ⟨_,Nat.lt_succ_self _,_,bn,d,l+1,bd,bo,bp,be,bf,bq,bu,bg,bh,bi,bj,bv,bw,W,au,av,bx,X,aw,ax,bz,bk,bm,b++[(aah.mk an ao ap aq ar)],bD,bE,bF,rfl,fK,V.trans ay.sub,cc,aac p,bX,bY,bZ,b0,b1,b2,b3,b4,b9,aav cb,h⟩
theorem aqj(k:Nat)(F:ahf)(IH143:adI F.f143)(IH170:adx F.f170):adx (alN k F):=by
 intro K wi g bs br G I J N O S U V W X Y Z ab a i l ac b o p ad ae af a4 cL cM cN cO cP cQ cR cS cU cV cW cY cZ h hG aI aK aL aM aN aP aT aU hbr a5 a6;obtain⟨r_,n,h⟩:=rz h;obtain⟨r,s,t,aV,ai⟩:=a4;obtain⟨ay,az,rfl,aW,a7⟩:=aai.open a5;refine en 24 Tryz.func170 rfl ?_;unfold alN at h;refine gI 6 [] [[iI 0,iI 0,sE,iI 0,nS]] a6 (fun aA a8 q=>wk q (fun j m=>∃aX d u aj ak v x al am an ao ap y aq ar e z A au f B C av aw ax D,j aX [0,3,4] []∧KH.sub K d∧m d [] [.box bs g #[sl aj u ak,.string v,sl al x am,iI an,.bool ao,iI ap,sl aq y ar,sl z e A,sl B f C,iI aw,iI ax] 109,.box (zz wi) (zz wi) (aE r s t D ay ai az) 35,.box (zz wi) (zz aA) zE.toArray 35,eW br z e A 9 1 au,eW br B f C 3 1 av]∧tF d aj ak u∧v.size≤mB∧tP d al am x∧tS d aq ar y∧Reps RStr 1 e au∧e.length*16≤mB∧Reps (RInt .i64) 1 f av∧f.length*8≤mB∧aj6 k F r s t ai u v x an ao ap y e f aw ax D=some r_) ?_ ?_)
 ·refine gD 7 [0,2] q (bC 7 h ?_ ?_)<;>intro _ h
  ·refine gD 6 [2,2] q ?_;have aY:=alF q;refine cB h (fun _ a9=>(amI k) a9 (hG.mono kr) aI aK aL aM aN aP aT aU (Nat.le_trans hbr q.size) aW<|pt aY) ?_;rintro⟨⟨c3,⟨c4,c5,c6,c7,c8,c9⟩,da,db,dc,dd⟩,ba⟩ _ de⟨df,dg,dh,di,dj,dk,dl,dm,dn,dp,dq,dr,ds,rfl,aB,bb,bd,be,bf,bg,bh,bi,bj⟩ h;have bk:=ca aB aY;refine gR 9 [3,4,3,5] [] bk (fun dt aG=>cB h (fun _ bm=>(ad5 k) bm (gm hG aB) bb bd be bf bg bh bi bj (Nat.le_trans hbr aG.size)<|pt aG) ?_);rintro⟨bn,⟨bo,bp,bq,bu,bv,bw⟩,bx,bz,bB,bD⟩ _ du⟨bE,bF,bG,bH,bI,bJ,bK,bL,bM,bP,bQ,bR,bS,rfl,aZ,bT,bU,bV,bW,bX,bY,bZ,b0⟩ h;have b1:=ca aZ aG;exact go 2 ⟨_,bE,bn,bF,bG,bo,bp,bH,bI,bq,bu,bv,bw,bJ,bK,bx,bL,bM,bP,bz,bQ,bR,bS,bB,bD,ba,fK,aB.sub.trans aZ.sub,b1.sel [0,4,3,1,2],bT,bU,bV,bW,bX,bY,bZ,b0,h⟩
  ·exact gd 3 ⟨_,K,G,I,J,N,O,S,U,V,W,X,Y,Z,ab,a,i,l,ac,b,o,p,ad,ae,af,aV,fK,kr,q.sel [2,1,0,3,4],aI,aK,aL,aM,aN,aP,aT,aU,h⟩
 ·rintro _ b2⟨aX,d,u,aj,ak,v,x,al,am,an,ao,ap,y,aq,ar,e,z,A,au,f,B,C,av,aw,ax,D,rfl,a0,aH,b3,hh⟩;obtain⟨b4,b5,b6,b7,b8,b9,cb,h⟩:=hh;refine gD 5 [4,2] aH ?_;have a2:=abZ aH;refine cB h (fun _ cc=>IH143 cc (hG.mono a0) b3 b4 b5 b6 b7 b8 b9 cb (Nat.le_trans hbr aH.size) (me a7 a0)<|pt a2) ?_;rintro⟨⟨dv,⟨dw,dx,dy,dz,dA,dB⟩,dC,dD,dE,dF⟩,ce⟩ _ dG⟨cf,ch,ci,cj,ck,cl,cm,cn,co,cq,cr,cs,ct,cu,cw,rfl,cx,cy,cz,cA,cC,cD,cG,cH,cI,cJ⟩ h;have cK:=ca cx a2;refine gR 11 [4,3,0,3,5,4] [] cK (fun dH dI a3=>?_);cases oj h n;exact adq rfl (rNl 4 a3 rfl) ⟨cf,ch,ci,cj,ck,cl,cm,cn,co,cq,cr,cs,ct,vE r s t D cu ce cw,rfl,a3.sel [0,1,2],cy,cz,cA,cC,cD,cG,cH,cI,aai.intro aW cJ⟩
theorem alb(k0:Nat) : ∀k,adI (adb k0 k).f143∧adx (adb k0 k).f170:=by
 intro k;induction k with
 | zero=>exact⟨by simp[adI,adb],by simp[adx,adb]⟩
 | succ k ih=>exact⟨aoT k0 (adb k0 k) ih.1 ih.2,aqj k0 (adb k0 k) ih.1 ih.2⟩
theorem aq2(k:Nat):adI (f143 k):=(alb k k).1
theorem ayw(k:Nat):adx (f170 k):=(alb k k).2
theorem auW(k:Nat):aoK (f144 k):=by
 intro K wi g bs br q r s t u x y z A B C D G a f j I d l m J N O a7 cu cw cx cy cz cA cC cD cG cH cI cJ cK h hG S ai aj ak al am an ao hbr a8 a9;obtain⟨n,o,h⟩:=rz h;obtain⟨ap,aq,ar,au,av,aw,ax,ay,az,aA,aB⟩:=a7;obtain⟨aG,aH,aI,aK,aL,aM,aN,aP,aT,aU,rfl,cL,ba,cM,cN,cO,cP,cQ⟩:=aag.open a8;refine en 47 Tryz.func144 rfl ?_;unfold f144 at h;refine gI 7 [] [] a9 (fun cR bb=>rB [] bb (fun aV bd=>ah 6 [0,1,2,0,3,2,4,3,5,1] bd<|aQ 6 rfl<|cB h (fun _ be=>(api k) be (hG.mono kr) S ba<|pt aV) ?_));rintro p _ aW⟨aX,rfl,e⟩ h;have U:=ca e aV;refine go 2 (wB (fwOf (is:=[0,1,2,3]) U e.sub rfl) (fun bf=>ah 1 [7] bf<|aD<|gx 8<|bC 14 h ?_ ?_))<;>intro _ h
 ·refine gd 4 ?_;have aY:=aw7 U;refine cB h (fun _ bg=>(ad5 k) bg (gm hG e) (mf S e.sub) ai (mp aj e.sub) (ms ak e.sub) (al.mono (fun _ _ h=>h)) am (an.mono (fun _ _ h=>h)) ao (Nat.le_trans hbr U.size)<|pt aY) ?_;rintro⟨cS,⟨cU,cV,cW,cY,cZ,c2⟩,c4,c5,c7,c8⟩ _ da⟨bh,bi,bj,bk,bm,bn,bo,bp,bq,bu,bv,bw,bx,rfl,bz,bB,bD,bE,bF,bG,bH,bI,bJ⟩ h;have bK:=ca bz aY;refine go 9 ?_;cases oj h o;exact rt1 ⟨bh,bi,bj,bk,bm,bn,bo,bp,bq,bu,bv,bw,bx,rfl,bK.sel [0,1,2],bB,bD,bE,bF,bG,bH,bI,bJ⟩
 ·refine gd 4<|rB [13] U (fun ab V=>ah 6 [0,1,2,3,0,4,2,5] V ?_);obtain⟨⟨db,dc,dd,aZ,de,df⟩,ac,h⟩:=ob h;obtain⟨ad,W,dg,bL,dh,bM,bP⟩:=((mf S e.sub)).row.at_ (aay ac).1;obtain⟨di,dj,dk,dl,rfl,dm,dn,dp⟩:=aak.open bP;refine kGl 52 6 6 rfl bL ac V<|kK 7 (pp ad<|W+p.toNat*6+3) rfl (fun w=>aeU (o':=W+p.toNat*6+3) arC rfl rfl) V<|tT 8 (.bool aZ) [[13,12,8]] rfl (fq [0,1,2,3] ab) (fun w hF=>acE (v:=.bool aZ) Tya4 rfl<|hF.cell<|kr.cell<|bM 3 _ rfl)<|ah 4 [9,0,10,1,11,12] V<|aQ 13 rfl ?_;have a0:=aw7 ab;refine cB h (fun _ bQ=>(ad5 k) bQ (gm hG e) (mf S e.sub) ai (mp aj e.sub) (ms ak e.sub) (al.mono (fun _ _ h=>h)) am (an.mono (fun _ _ h=>h)) ao (Nat.le_trans hbr ab.size)<|pt a0) ?_;rintro⟨dq,⟨dr,ds,dt,du,dv,dw⟩,dx,dy,dz,dA⟩ _ dB⟨dC,dD,dE,dF,dG,dH,dI,dJ,dK,dL,dM,dN,dO,rfl,a2,a3,bR,bS,bT,bU,bV,bW,bX⟩ h;have bY:=ca a2 a0;refine go 2 ⟨hE 13,aD<|gx 2<|rB [14] bY (fun X Y=>ah 9 [0,1,6,2,4,3,4,5,6,0,7,1,8] Y ?_)⟩;obtain⟨⟨dP,a4,dQ,dR,dS,dT⟩,ae,h⟩:=ob h;obtain⟨af,Z,dU,bZ,dV,b0,b1⟩:=(a3).row.at_ (aay ae).1;obtain⟨a5,a6,dW,dX,rfl,dY,dZ,d0⟩:=aak.open b1;refine kGl 52 6 9 rfl bZ ae Y<|kK 10 (pp af<|Z+p.toNat*6+1) rfl (fun w=>aeU (o':=Z+p.toNat*6+1) aj8 rfl rfl) Y<|tT 11 (sl a5 a4 a6) [[14,13,12,11]] rfl (fq [0,1,2,3] X) (fun w hF=>acE (v:=sl a5 a4 a6) arV rfl<|hF.cell<|kr.cell<|b0 1 _ rfl)<|ah 2 [12,13] Y<|aQ 14 rfl<|cB h (fun _ b2=>(ad5 k) b2 (hG.mono<|e.sub.trans a2.sub) a3 bR bS bT bU bV bW bX (Nat.le_trans hbr X.size)<|pt X) ?_;rintro⟨d1,⟨d2,d3,d4,d5,d6,d7⟩,d8,d9,ea,ec⟩ _ ed⟨b3,b4,b5,b6,b7,b8,b9,cb,cc,ce,cf,ch,ci,rfl,cj,ck,cl,cm,cn,co,cq,cr,cs⟩ h;have ct:=ca cj X;refine go 2 ⟨hE 14,aD<|gx 8 ?_⟩;cases oj h o;exact rt1 ⟨b3,b4,b5,b6,b7,b8,b9,cb,cc,ce,cf,ch,ci,rfl,ct.sel [0,1,2],ck,cl,cm,cn,co,cq,cr,cs⟩
theorem auR(k:Nat):ao5 (f145 k):=by
 intro K wi b s h hG a;obtain⟨y,z,h⟩:=rz h;refine en 13 Tryz.func145 rfl ?_;unfold f145 at h;refine gd 12<|wk a (fun j m=>∃e d,j e [] [(4,.bool d)]∧m K [] []∧adr k d=some y) ?_ ?_
 ·refine gd 6 (bC 4 h ?_ ?_)<;>intro g h
  ·exact gd 3<|lX 4 g.symm ⟨_,b==1,fK,a,h⟩
  ·refine gd 7 (bC 4 h ?_ ?_)<;>intro i h
   ·exact gd 3<|lX 4 i.symm ⟨_,b==3,fK,a,h⟩
   ·refine gd 7 (bC 4 h ?_ ?_)<;>intro l h
    ·exact gd 3<|lX 4 l.symm ⟨_,b==4,fK,a,h⟩
    ·refine gd 7 (bC 4 h ?_ ?_)<;>intro o h
     ·exact gd 3<|lX 4 o.symm ⟨_,b==5,fK,a,h⟩
     ·refine gd 7 (bC 4 h ?_ ?_)<;>intro p h
      ·exact gd 3<|lX 4 p.symm ⟨_,b==6,fK,a,h⟩
      ·refine gd 7 (bC 4 h ?_ ?_)<;>intro q h
       ·exact gd 3<|lX 4 q.symm ⟨_,b==7,fK,a,h⟩
       ·refine gd 7 (bC 4 h ?_ ?_)<;>intro r h
        ·exact gd 3<|lX 4 r.symm ⟨_,b==8,fK,a,h⟩
        ·exact gd 6 ⟨_,b==9,fK,a,h⟩
 ·rintro _ t⟨e,d,rfl,f,h⟩;refine bC 4 h ?_ ?_<;>intro _ h
  ·refine gd 9 ?_;cases oj h z;exact rt1 ⟨K,rfl,f⟩
  ·refine gd 10 ?_;cases oj h z;exact rt1 ⟨K,rfl,f⟩
theorem as5(k:Nat)(F:aex)(IH87:adl F.f87)(IH120:acx F.f120)(IH146:acz F.f146)(IH147:acC F.f147):adl (aqp k F):=by
 intro K wi g bs br aU aV aW aX aY aZ a0 a3 a4 a5 a6 a7 a8 s ae af a9 d ai aj ba ak bb al cS cU t cV cW cY cZ c2 c3 c4 c5 c6 c7 c8 c9 h hG bU bV bW bX bY bZ b0 b1 hbr bd u;obtain⟨r_,n,h⟩:=rz h;refine en 58 Tryz.func87 rfl ?_;unfold aqp at h;refine gD 23 [8,1,9,1] u<|bar (r:=(w64<|ak+t)) rfl rfl rfl<|gR 17 [9,0] [] u (fun da u=>?_);have be:=u.row_ (zz wi) 62 11;refine wl be (fun j m g_=>∃bf a f,∃(p:Nat),∃v x y z A B C am an ao D G I l J N O e S U V W ap b X Y aq,g_=f.length∧j bf [0,1,2,7] [(8,sl X b Y),(9,iI (p:Int))]∧KH.sub K a∧m a [] [.box bs g #[sl x v y,.string z,sl B A C,iI am,.bool an,iI ao,sl G D I,sl J l N,sl S e U,iI W,iI ap] 109,eW br J l N 9 1 O,eW br S e U 3 1 V,eW (zz wi) X b Y 62 11 aq]∧al.drop p=f∧tF a x y v∧z.size≤mB∧tP a B C A∧tS a G I D∧Reps RStr 1 l O∧l.length*16≤mB∧Reps (RInt .i64) 1 e V∧e.length*8≤mB∧Reps (aag a) 11 b aq∧b.length*184≤mB∧aib k F d t f p v z A am an ao D l e W ap b=some r_) al.length ?_ ?_
 ·exact⟨_,K,al,0,aU,aV,aW,aX,aY,aZ,a0,a3,a4,a5,a6,a7,a8,s,ae,af,a9,d,ai,aj,ba,w64<|ak+t,bb,([]:LS),none,0,[],rfl,fK,kr,be.sel [1,2,3,0],List.drop_zero,bU,bV,bW,bX,bY,bZ,b0,b1,abo (R:=(aag K)) (size:=11),(by simp),h⟩
 ·rintro _ _ db⟨bf,a,f,p,v,x,y,z,A,B,C,am,an,ao,D,G,I,l,J,N,O,e,S,U,V,W,ap,b,X,Y,hh⟩;obtain⟨aq,rfl,rfl,Z,o,q,bg,bh,bi,bj,bk,bm,ar,bn,bo,b2,h⟩:=hh;rcases f with _|⟨⟨b3,b4,b5,b6,b7,b8,b9,cb,cc,ce,cf⟩,f⟩
  ·refine gd 6<|cNl q<|gP 16 [9,1] o<|bar (r:=(w64<|W - t)) rfl rfl rfl<|gR 13 [9,0,8,1] [] o (fun dc bp=>?_);obtain⟨ab,h⟩:=aaQ h;refine slH (m:=(e.take (d.length:Int).toNat).length) aeP Tys3 rfl rfl ab.1 (Int.le_trans ab.2<|Int.ofNat_le.2<|apz (i:=2) bp rfl) (afE ab) (have ch:=bp.cut_ (i:=2) (m:=(d.length:Int).toNat) rfl ar (by have:=ab.2;omega);(gR 12 [8,0] [] ch (fun dd ci=>?_)));obtain⟨cj,ck,au,cl⟩:=abD (i:=3) (bytes:=184) (R:=fun K=>(aag K)) ci rfl (Nat.le_refl _) bo b2 (fun hs=>(fun _ _ h=>aag.mono hs h));cases oj h n;exact rt1 ⟨cj,x,y,B,C,G,I,J,N,O,S,U,V.take<|(d.length:Int).toNat*1,X,Y,rfl,ck,mf bg au,bh,mp bi au,ms bj au,bk.mono (fun _ _ h=>h),bm,(Reps.take ar _).mono (fun _ _ h=>h),adG bn,cl⟩
  ·refine gd 6<|cCl q<|go 12<|eN o (ms bd Z) q aag.open ?_;rintro de df dg dh di cm⟨cn,co,cq,cr,cs,ct,cu,cw,cx,cy,rfl,dj,dk,dl,dm,dn,dp,dq⟩;obtain⟨⟨⟨bq,⟨bu,bv,bw,bx,bz,bB⟩,ac,ad,bD,bE⟩,⟨av,aw,ax,ay,az,aA,aB,aG,aH,aI,aK⟩⟩,cz,h⟩:=ob h;refine cv ([pp g 0,.agg (aS b3 b4 b5 b6 b7 b8 cn b9 co cq cb cr cs cc ct cu ce cw cx cf cy)]) axU (IH120 cz (hG.mono Z) bg bh bi bj bk bm ar bn (Nat.le_trans hbr o.size) cm<|pt o) ?_;rintro _ dr⟨bF,bG,bH,bI,bJ,bK,bL,aL,aM,bM,aN,aP,bP,ds,rfl,aT,cA,cC,cD,cG,cH,cI,cJ,cK,bQ⟩;have cL:=ca aT o;obtain⟨dt,du,dv,dw,dx,dy,dz,dA,dB,dC,rfl,dD,dE,dF,dG,dH,dI,dJ⟩:=aag.open bQ;refine gR 1 [62] [] cL (fun dK cM=>aJ h 4 0 cM rfl rfl (bo.mono (fun _ _ h=>aag.mono aT.sub h)) bQ ?_);rintro bR bS bT cN cO cP cQ h;have cR:=akF cO;exact go 6<|iCl q ((ms bd Z).len)<|go 3 ⟨_,Nat.lt_succ_self _,_,bF,f,p+1,bq,bG,bH,bu,bv,bI,bJ,bw,bx,bz,bB,bK,bL,ac,aL,aM,bM,ad,aN,aP,bP,bD,bE,b++[(aae.mk av aw ax ay az aA aB aG aH aI aK)],bR,bS,bT,rfl,fK,Z.trans aT.sub,cR,aac q,cA,cC,cD,cG,cH,cI,cJ,cK,cP,aav cQ,h⟩
theorem aqY(k:Nat)(F:aex)(IH87:adl F.f87)(IH120:acx F.f120)(IH146:acz F.f146)(IH147:acC F.f147):acx (alr k F):=by
 intro K wi g bs br ap aq ar au av aw ax ay az aA aB aG aH e t u aI f v x aK aL aM ge sj sk sm sn so sp sq ss st su sv sw sx h hG gf gg gh gi gj gk gl gn hbr gp gq;obtain⟨r_,n,h⟩:=rz h;obtain⟨y,D,bM,J,et,G,gr,I,s,q,p⟩:=ge;obtain⟨gs,gt,ac,ad,N,O,z,A,B,C,rfl,bP,eu,gu,a9,a7,ba,a8⟩:=aag.open gp;refine en 186 Tryz.func120 rfl ?_;unfold alr at h;refine gI 11 [6,2] [[iI 0,sE,iI 0,sE,iI 0,iI 0,nS,nS,nS,nS,nS]] gq (fun af gv ew=>?_);have ex:=alF ew;refine cB h (fun _ gw=>(aq2 k) gw (hG.mono kr) gf gg gh gi gj gk gl gn (Nat.le_trans hbr ew.size) gu<|pt ex) ?_;rintro⟨⟨gy,⟨gz,gA,gB,gF,gG,gH⟩,gJ,gK,gL,gM⟩,U⟩ _ sy⟨ey,gN,gQ,gT,gU,gV,gW,gZ,g0,g1,g2,g3,g4,ai,aj,rfl,a,ez,eC,eD,eF,eH,eI,eJ,eL,eM⟩ h;have g5:=ca a ex;refine gR 4 [6,4] [] g5 (fun sz bQ=>wk bQ (fun j m=>∃eO bn bz b3 b4 bB bD b5 b6 bR bS bT bE b7 b8 a5 bF bG b9 a6 bH bI cb bU bV S,j eO [0,3,4] []∧KH.sub ey bn∧m bn [] [.box bs g #[sl b3 bz b4,.string bB,sl b5 bD b6,iI bR,.bool bS,iI bT,sl b7 bE b8,sl bF a5 bG,sl bH a6 bI,iI bU,iI bV] 109,.box (zz wi) (zz wi) (aS y D bM J S G ai U aj ac I ad N s O z q A B p C) 62,.box (zz wi) (zz af) zS.toArray 62,eW br bF a5 bG 9 1 b9,eW br bH a6 bI 3 1 cb]∧tF bn b3 b4 bz∧bB.size≤mB∧tP bn b5 b6 bD∧tS bn b7 b8 bE∧Reps RStr 1 a5 b9∧a5.length*16≤mB∧Reps (RInt .i64) 1 a6 cb∧a6.length*8≤mB∧af6 k F y D bM J G I s q p U bz bB bD bR bS bT bE a5 a6 bU bV S=some r_) ?_ ?_)
 ·refine gD 7 [3,5] bQ (bC 14 h ?_ ?_)<;>intro _ h
  ·refine gD 4 [0,4,11] bQ<|cB h (fun _ g6=>(auW k) g6 (gm hG a) ez eC eD eF eH eI eJ eL (Nat.le_trans hbr bQ.size) (aag.intro bP eu eM (ms a9 a.sub) (ms a7 a.sub) (ms ba a.sub)<|mc a8 a.sub)<|pt bQ) ?_;rintro⟨⟨g7,⟨g8,g9,ha,hb,hc,hd⟩,he,hf,hg,hi⟩,hj⟩ _ sA⟨hk,hl,hm,hn,ho,hp,hq,hr,ht,hu,hv,hw,hx,rfl,eP,hy,hz,hA,hB,hC,hD,hF,hH⟩ h;have hI:=ca eP bQ;exact gR 4 [4,4] [] hI (fun sB hJ=>⟨_,hk,g7,hl,hm,g8,g9,hn,ho,ha,hb,hc,hd,hp,hq,he,hr,ht,hu,hf,hv,hw,hx,hg,hi,hj,fK,eP.sub,hJ.sel [0,4,3,1,2],hy,hz,hA,hB,hC,hD,hF,hH,h⟩)
  ·exact gd 3 ⟨_,ey,gy,gN,gQ,gz,gA,gT,gU,gB,gF,gG,gH,gV,gW,gJ,gZ,g0,g1,gK,g2,g3,g4,gL,gM,et,fK,kr,bQ.sel [0,4,3,1,2],ez,eC,eD,eF,eH,eI,eJ,eL,h⟩
 ·rintro _ sC⟨eO,bn,bz,b3,b4,bB,bD,b5,b6,bR,bS,bT,bE,b7,b8,a5,bF,bG,b9,a6,bH,bI,cb,bU,bV,S,rfl,b,cw,eQ,hh⟩;obtain⟨eR,eS,eT,eU,eV,eX,eY,h⟩:=hh;refine wk cw (fun j m=>∃eZ ae ak aW aX al am aY aZ aN aP aT an a0 a2 l X Y a3 o Z ab a4 aU aV V,j eZ [0,3,4] []∧KH.sub bn ae∧m ae [] [.box bs g #[sl aW ak aX,.string al,sl aY am aZ,iI aN,.bool aP,iI aT,sl a0 an a2,sl X l Y,sl Z o ab,iI aU,iI aV] 109,.box (zz wi) (zz wi) (aS y D V J S G ai U aj ac I ad N s O z q A B p C) 62,.box (zz wi) (zz af) zS.toArray 62,eW br X l Y 9 1 a3,eW br Z o ab 3 1 a4]∧tF ae aW aX ak∧al.size≤mB∧tP ae aY aZ am∧tS ae a0 a2 an∧Reps RStr 1 l a3∧l.length*16≤mB∧Reps (RInt .i64) 1 o a4∧o.length*8≤mB∧adN k F y D J G I s q p U S ak al am aN aP aT an l o aU aV V=some r_) ?_ ?_
  ·refine wk cw (fun j m=>∃e0 cx d2,j e0 [0,3,4] [(26,.bool d2)]∧KH.sub bn cx∧m cx [] [.box bs g #[sl b3 bz b4,.string bB,sl b5 bD b6,iI bR,.bool bS,iI bT,sl b7 bE b8,sl bF a5 bG,sl bH a6 bI,iI bU,iI bV] 109,.box (zz wi) (zz wi) (aS y D bM J S G ai U aj ac I ad N s O z q A B p C) 62,.box (zz wi) (zz af) zS.toArray 62,eW br bF a5 bG 9 1 b9,eW br bH a6 bI 3 1 cb]∧aha k F y D bM J G I s q p U bz bB bD bR bS bT bE a5 a6 bU bV S d2=some r_) ?_ ?_
   ·refine gD 3 [0,2] cw<|cB h (fun _ hK=>(auR k) hK (gm hG cw)<|pt cw) ?_;rintro sD _ sF⟨e1,rfl,d3⟩ h;have d4:=ca d3 cw;refine go 1 (bO 22 h ?_ ?_)<;>intro _ h
    ·exact gP 9 [1,2] d4 ⟨_,e1,!seq D ⟨#[]⟩,fK,d3.sub,d4,h⟩
    ·exact go 6 ⟨_,e1,false,fK,d3.sub,d4,h⟩
   ·rintro _ hL⟨e0,cx,d2,rfl,bx,dk,h⟩;refine bC 26 h ?_ ?_<;>intro _ h
    ·refine gD 5 [1,2] dk ?_;have e3:=abZ dk;refine cB h (fun _ hM=>(arq k) hM (hG.mono<|(a.sub.trans b).trans bx) (mf eQ bx) eR (mp eS bx) (ms eT bx) (eU.mono (fun _ _ h=>h)) eV (eX.mono (fun _ _ h=>h)) eY (Nat.le_trans hbr dk.size) bP<|pt e3) ?_;rintro⟨⟨hN,⟨hO,hP,hQ,hR,hS,hT⟩,hU,hV,hW,hX⟩,hY⟩ _ sG⟨hZ,h0,h1,h2,h3,h4,h5,h6,h7,h8,h9,ia,ib,rfl,e4,ic,id,ie,ig,ih,ii,ij,ik⟩ h;have il:=ca e4 e3;exact gR 4 [2,3] [] il (fun sH im=>⟨_,hZ,hN,h0,h1,hO,hP,h2,h3,hQ,hR,hS,hT,h4,h5,hU,h6,h7,h8,hV,h9,ia,ib,hW,hX,hY,fK,bx.trans e4.sub,im.sel [0,3,4,1,2],ic,id,ie,ig,ih,ii,ij,ik,h⟩)
    ·exact gd 3 ⟨_,cx,bz,b3,b4,bB,bD,b5,b6,bR,bS,bT,bE,b7,b8,a5,bF,bG,b9,a6,bH,bI,cb,bU,bV,bM,fK,bx,dk,mf eQ bx,eR,mp eS bx,ms eT bx,eU.mono (fun _ _ h=>h),eV,eX.mono (fun _ _ h=>h),eY,h⟩
  ·rintro _ io⟨eZ,ae,ak,aW,aX,al,am,aY,aZ,aN,aP,aT,an,a0,a2,l,X,Y,a3,o,Z,ab,a4,aU,aV,V,rfl,d,bJ,bd,hh⟩;obtain⟨be,bf,bg,bh,bi,bj,bk,h⟩:=hh;refine wk bJ (fun j m=>∃e5 ao dl cy dm dn cz dp dq cA dr ds cC dt du dv dw dx dy dz dA dB d5 d6 d7 dC dD dE bW dF dG dH bX dI dJ dK d8 d9,j e5 [3,4] []∧KH.sub ae ao∧m ao [] [.box (zz wi) (zz wi) (aS y D dl J S G ai U aj dm cy dn dp cz dq dr cA ds dt cC du) 62,.box (zz wi) (zz af) zS.toArray 62,.box bs g #[sl dw dv dx,.string dy,sl dA dz dB,iI d5,.bool d6,iI d7,sl dD dC dE,sl dF bW dG,sl dI bX dJ,iI d8,iI d9] 109,eW br dF bW dG 9 1 dH,eW br dI bX dJ 3 1 dK]∧tS ao dm dn cy∧tS ao dp dq cz∧tS ao dr ds cA∧tC ao dt du cC∧tF ao dw dx dv∧dy.size≤mB∧tP ao dA dB dz∧tS ao dD dE dC∧Reps RStr 1 bW dH∧bW.length*16≤mB∧Reps (RInt .i64) 1 bX dK∧bX.length*8≤mB∧abW k F y D J G U S dl cy cz cA cC dv dy dz d5 d6 d7 dC bW bX d8 d9=some r_) ?_ ?_
   ·refine gD 13 [0,2] bJ (bC 44 h ?_ ?_)<;>intro _ h
    ·refine gD 6 [1,2] bJ ?_;have e6:=abZ bJ;refine cB h (fun _ ip=>(amI k) ip (hG.mono<|(a.sub.trans b).trans d) bd be bf bg bh bi bj bk (Nat.le_trans hbr bJ.size) bP<|pt e6) ?_;rintro⟨⟨sK,⟨sL,sM,sN,sO,sP,sQ⟩,sR,sS,sT,sU⟩,iq⟩ _ sV⟨sW,sX,sY,sZ,s0,s1,s2,s3,s4,s5,s6,s7,s8,rfl,bY,ir,it,iu,iv,iw,ix,iy,iz⟩ h;have iA:=ca bY e6;refine gR 9 [2,3,2,4] [] iA (fun s9 ea=>cB h (fun _ iB=>(ad5 k) iB (hG.mono<|((a.sub.trans b).trans d).trans bY.sub) ir it iu iv iw ix iy iz (Nat.le_trans hbr ea.size)<|pt ea) ?_);rintro⟨iC,⟨iD,iE,iF,iG,iH,iJ⟩,iK,iL,iM,iN⟩ _ ta⟨iO,iP,iQ,iR,iS,iT,iU,iV,iW,iX,iY,iZ,i0,rfl,cc,i1,i2,i3,i4,i5,i6,i7,i8⟩ h;have i9:=ca cc ea;exact go 3 ⟨_,iO,iq,I,ac,ad,s,N,O,q,z,A,p,B,C,iC,iP,iQ,iD,iE,iR,iS,iF,iG,iH,iJ,iT,iU,iK,iV,iW,iX,iL,iY,iZ,i0,iM,iN,fK,bY.sub.trans cc.sub,i9.sel [3,4,0,1,2],ms a9<|(((a.sub.trans b).trans d).trans bY.sub).trans cc.sub,ms a7<|(((a.sub.trans b).trans d).trans bY.sub).trans cc.sub,ms ba<|(((a.sub.trans b).trans d).trans bY.sub).trans cc.sub,mc a8<|(((a.sub.trans b).trans d).trans bY.sub).trans cc.sub,i1,i2,i3,i4,i5,i6,i7,i8,h⟩
    ·refine gd 1<|wk bJ (fun j m=>∃e7 ec,j e7 [0,3,4,33] [(56,.bool ec)]∧m ae [] [.box bs g #[sl aW ak aX,.string al,sl aY am aZ,iI aN,.bool aP,iI aT,sl a0 an a2,sl X l Y,sl Z o ab,iI aU,iI aV] 109,.box (zz wi) (zz wi) (aS y D V J S G ai U aj ac I ad N s O z q A B p C) 62,.box (zz wi) (zz af) zS.toArray 62,eW br X l Y 9 1 a3,eW br Z o ab 3 1 a4]∧agq k F y D J G I s q p U S ak al am aN aP aT an l o aU aV V ec=some r_) ?_ ?_
     ·refine gd 6 (bC 56 h ?_ ?_)<;>intro ja h
      ·exact gd 3<|lX 56 ja.symm ⟨_,y==18,fK,bJ,h⟩
      ·exact gd 6 ⟨_,y==19,fK,bJ,h⟩
     ·rintro _ bu⟨e7,ec,rfl,W,h⟩;refine bC 56 h ?_ ?_<;>intro _ h
      ·refine gD 8 [9,1] W ?_;have e8:=abZ W;refine cB h (fun _ jb=>(ad5 k) jb (hG.mono<|(a.sub.trans b).trans d) bd be bf bg bh bi bj bk (Nat.le_trans hbr W.size)<|pt e8) ?_;rintro⟨jc,⟨jd,je,jf,jg,jh,ji⟩,jj,jk,jl,jm⟩ _ tb⟨jn,jo,jp,jq,jr,js,jt,ju,jv,jw,jx,jy,jz,rfl,ce,jA,jB,jC,jD,jE,jF,jG,jH⟩ h;have jI:=ca ce e8;exact go 3 ⟨_,jn,V,I,ac,ad,s,N,O,q,z,A,p,B,C,jc,jo,jp,jd,je,jq,jr,jf,jg,jh,ji,js,jt,jj,ju,jv,jw,jk,jx,jy,jz,jl,jm,fK,ce.sub,jI.sel [3,4,0,1,2],ms a9<|((a.sub.trans b).trans d).trans ce.sub,ms a7<|((a.sub.trans b).trans d).trans ce.sub,ms ba<|((a.sub.trans b).trans d).trans ce.sub,mc a8<|((a.sub.trans b).trans d).trans ce.sub,jA,jB,jC,jD,jE,jF,jG,jH,h⟩
      ·refine gd 7 (bC 66 h ?_ ?_)<;>intro _ h
       ·refine gD 7 [5,2] W (bO 72 h ?_ ?_)<;>intro _ h
        ·refine go 6 ?_;have e9:=abZ W;refine cB h (fun _ jK=>(ad5 k) jK (hG.mono<|(a.sub.trans b).trans d) bd be bf bg bh bi bj bk (Nat.le_trans hbr W.size)<|pt e9) ?_;rintro⟨jL,⟨jM,jN,jO,jP,jQ,jR⟩,jS,jT,jU,jV⟩ _ tc⟨jW,jX,jY,jZ,j0,j1,j2,j3,j4,j5,j6,j7,j8,rfl,cf,j9,ka,kb,kc,kd,ke,kf,kg⟩ h;have kh:=ca cf e9;exact go 3 ⟨_,jW,V,I,ac,ad,s,N,O,q,z,A,p,B,C,jL,jX,jY,jM,jN,jZ,j0,jO,jP,jQ,jR,j1,j2,jS,j3,j4,j5,jT,j6,j7,j8,jU,jV,fK,cf.sub,kh.sel [3,4,0,1,2],ms a9<|((a.sub.trans b).trans d).trans cf.sub,ms a7<|((a.sub.trans b).trans d).trans cf.sub,ms ba<|((a.sub.trans b).trans d).trans cf.sub,mc a8<|((a.sub.trans b).trans d).trans cf.sub,j9,ka,kb,kc,kd,ke,kf,kg,h⟩
        ·refine gP 11 [9,1] W ?_;have fa:=abZ W;refine cB h (fun _ ki=>(ad5 k) ki (hG.mono<|(a.sub.trans b).trans d) bd be bf bg bh bi bj bk (Nat.le_trans hbr W.size)<|pt fa) ?_;rintro⟨kj,⟨kk,kl,km,kn,ko,kq⟩,ks,kt,ku,kv⟩ _ td⟨kw,kx,ky,kz,kB,kD,kJ,kO,kP,kQ,kR,kT,kU,rfl,ch,kV,kW,kX,kY,kZ,k0,k1,k2⟩ h;have k3:=ca ch fa;exact go 3 ⟨_,kw,V,I,ac,ad,s,N,O,q,z,A,p,B,C,kj,kx,ky,kk,kl,kz,kB,km,kn,ko,kq,kD,kJ,ks,kO,kP,kQ,kt,kR,kT,kU,ku,kv,fK,ch.sub,k3.sel [3,4,0,1,2],ms a9<|((a.sub.trans b).trans d).trans ch.sub,ms a7<|((a.sub.trans b).trans d).trans ch.sub,ms ba<|((a.sub.trans b).trans d).trans ch.sub,mc a8<|((a.sub.trans b).trans d).trans ch.sub,kV,kW,kX,kY,kZ,k0,k1,k2,h⟩
       ·refine gd 7 (bC 80 h ?_ ?_)<;>intro _ h
        ·refine gD 8 [1,4,1] W ?_;have fb:=abZ W;refine cB h (fun _ k4=>(ad5 k) k4 (hG.mono<|(a.sub.trans b).trans d) bd be bf bg bh bi bj bk (Nat.le_trans hbr W.size)<|pt fb) ?_;rintro⟨k5,⟨k6,k7,k8,k9,la,lc⟩,ld,lf,lg,lh⟩ _ te⟨li,lj,lk,ll,lm,ln,lo,lp,lq,lr,ls,lu,lv,rfl,ci,lw,lx,ly,lz,lB,lE,lF,lG⟩ h;have lH:=ca ci fb;exact go 3 ⟨_,li,V,I,ac,ad,s,N,O,q,z,A,p,B,C,k5,lj,lk,k6,k7,ll,lm,k8,k9,la,lc,ln,lo,ld,lp,lq,lr,lf,ls,lu,lv,lg,lh,fK,ci.sub,lH.sel [3,4,0,1,2],ms a9<|((a.sub.trans b).trans d).trans ci.sub,ms a7<|((a.sub.trans b).trans d).trans ci.sub,ms ba<|((a.sub.trans b).trans d).trans ci.sub,mc a8<|((a.sub.trans b).trans d).trans ci.sub,lw,lx,ly,lz,lB,lE,lF,lG,h⟩
        ·refine gd 7 (bC 89 h ?_ ?_)<;>intro _ h
         ·refine gd 1<|rB [12] W (fun fc lI=>ah 12 [0,1,6,2,2,3,4,5,6,7,1,8,3,9,1,10,11] lI<|aQ 12 rfl ?_);have fe:=abZ fc;refine cB h (fun _ lJ=>(ad5 k) lJ (hG.mono<|(a.sub.trans b).trans d) bd be bf bg bh bi bj bk (Nat.le_trans hbr fc.size)<|pt fe) ?_;rintro⟨lK,⟨lL,lM,lP,lQ,lR,lT⟩,lU,lV,lW,lY⟩ _ tg⟨lZ,l0,l2,l3,l4,l5,l6,l7,l8,l9,ma,mb,md,rfl,cj,mg,mh,mi,mj,ml,mm,mn,mo⟩ h;have mq:=ca cj fe;exact go 2 ⟨hE 12,aD<|gx 2 ⟨_,lZ,V,I,ac,ad,s,N,O,q,z,A,p,B,C,lK,l0,l2,lL,lM,l3,l4,lP,lQ,lR,lT,l5,l6,lU,l7,l8,l9,lV,ma,mb,md,lW,lY,fK,cj.sub,mq.sel [3,4,0,1,2],ms a9<|((a.sub.trans b).trans d).trans cj.sub,ms a7<|((a.sub.trans b).trans d).trans cj.sub,ms ba<|((a.sub.trans b).trans d).trans cj.sub,mc a8<|((a.sub.trans b).trans d).trans cj.sub,mg,mh,mi,mj,ml,mm,mn,mo,h⟩⟩
         ·refine gd 7 (bC 104 h ?_ ?_)<;>intro _ h
          ·refine gD 7 [1,2,7,2] W ?_;have ff:=abZ W;refine cB h (fun _ mr=>IH146 mr (hG.mono<|(a.sub.trans b).trans d) bd be bf bg bh bi bj bk (Nat.le_trans hbr W.size) bP (ms a9<|(a.sub.trans b).trans d)<|pt ff) ?_;rintro⟨⟨mt,⟨mu,mw,mx,my,mz,mA⟩,mC,mD,mE,mF⟩,mG,mH⟩ _ th⟨mJ,mK,mL,mM,mN,mO,mP,mQ,mR,mS,mT,mU,mV,mW,mX,rfl,cD,mY,mZ,m0,m4,m5,m6,m7,m8,m9⟩ h;have na:=ca cD ff;exact gR 10 [2,3,7,3] [] na (fun ti tj nb=>⟨_,mJ,mG,mH,mW,mX,s,N,O,q,z,A,p,B,C,mt,mK,mL,mu,mw,mM,mN,mx,my,mz,mA,mO,mP,mC,mQ,mR,mS,mD,mT,mU,mV,mE,mF,fK,cD.sub,nb.sel [3,4,0,1,2],m9,ms a7<|((a.sub.trans b).trans d).trans cD.sub,ms ba<|((a.sub.trans b).trans d).trans cD.sub,mc a8<|((a.sub.trans b).trans d).trans cD.sub,mY,mZ,m0,m4,m5,m6,m7,m8,h⟩)
          ·refine gd 7 (bC 117 h ?_ ?_)<;>intro _ h
           ·refine gD 7 [1,2,7,2] W ?_;have fg:=abZ W;refine cB h (fun _ nc=>IH146 nc (hG.mono<|(a.sub.trans b).trans d) bd be bf bg bh bi bj bk (Nat.le_trans hbr W.size) bP (ms a9<|(a.sub.trans b).trans d)<|pt fg) ?_;rintro⟨⟨nd,⟨ne,nf,ng,nh,ni,nj⟩,nk,nl,nm,nn⟩,np,nq⟩ _ tl⟨nr,ns,nt,nu,nv,nw,nx,ny,nz,nA,nB,nC,nD,nF,nG,rfl,cG,nH,nI,nJ,nK,nL,nM,nN,nO,nP⟩ h;have nQ:=ca cG fg;exact gR 10 [2,3,7,3] [] nQ (fun tm tn nT=>⟨_,nr,np,nq,nF,nG,s,N,O,q,z,A,p,B,C,nd,ns,nt,ne,nf,nu,nv,ng,nh,ni,nj,nw,nx,nk,ny,nz,nA,nl,nB,nC,nD,nm,nn,fK,cG.sub,nT.sel [3,4,0,1,2],nP,ms a7<|((a.sub.trans b).trans d).trans cG.sub,ms ba<|((a.sub.trans b).trans d).trans cG.sub,mc a8<|((a.sub.trans b).trans d).trans cG.sub,nH,nI,nJ,nK,nL,nM,nN,nO,h⟩)
           ·refine gd 7 (bC 130 h ?_ ?_)<;>intro _ h
            ·refine gD 5 [7,2] W ?_;have fh:=abZ W;refine cB h (fun _ nV=>IH87 nV (hG.mono<|(a.sub.trans b).trans d) bd be bf bg bh bi bj bk (Nat.le_trans hbr W.size) (ms a9<|(a.sub.trans b).trans d)<|pt fh) ?_;rintro⟨⟨nW,⟨nX,nY,nZ,n2,n3,n4⟩,n5,n6,n7,n8⟩,n9⟩ _ tp⟨oa,oc,od,oe,og,oh,ol,om,oo,op,oq,os,ot,ov,ow,rfl,cH,ox,oy,oz,oA,oB,oC,oD,oE,oF⟩ h;have oG:=ca cH fh;exact gR 5 [7,3] [] oG (fun tq oH=>⟨_,oa,V,n9,ov,ow,s,N,O,q,z,A,p,B,C,nW,oc,od,nX,nY,oe,og,nZ,n2,n3,n4,oh,ol,n5,om,oo,op,n6,oq,os,ot,n7,n8,fK,cH.sub,oH.sel [3,4,0,1,2],oF,ms a7<|((a.sub.trans b).trans d).trans cH.sub,ms ba<|((a.sub.trans b).trans d).trans cH.sub,mc a8<|((a.sub.trans b).trans d).trans cH.sub,ox,oy,oz,oA,oB,oC,oD,oE,h⟩)
            ·refine gd 7 (bC 137 h ?_ ?_)<;>intro _ h
             ·refine gD 6 [7,2] W ?_;have fi:=abZ W;refine cB h (fun _ oI=>IH87 oI (hG.mono<|(a.sub.trans b).trans d) bd be bf bg bh bi bj bk (Nat.le_trans hbr W.size) (ms a9<|(a.sub.trans b).trans d)<|pt fi) ?_;rintro⟨⟨oJ,⟨oK,oL,oM,oN,oO,oP⟩,oQ,oR,oS,oT⟩,dL⟩ _ tr⟨fj,oU,oV,oW,oX,oY,oZ,o2,o3,o4,o5,o6,o7,ed,ee,rfl,bK,fk,fl,fm,fn,fo,fp,fs,ft,o8⟩ h;have o9:=ca bK fi;refine gR 4 [7,3] [] o9 (fun ts bZ=>wk bZ (fun j m=>∃fu bm cI dM dN cJ cK dO dP dQ dR dS cL dT dU bv cM cN dV bw cO cP dW dX dY cQ ck cR cS,j fu [0,3,4] []∧KH.sub fj bm∧m bm [] [.box bs g #[sl dM cI dN,.string cJ,sl dO cK dP,iI dQ,.bool dR,iI dS,sl dT cL dU,sl cM bv cN,sl cO bw cP,iI dX,iI dY] 109,.box (zz wi) (zz wi) (aS y D cQ J S G ai U aj ed dL ee cR ck cS z q A B p C) 62,.box (zz wi) (zz af) zS.toArray 62,eW br cM bv cN 9 1 dV,eW br cO bw cP 3 1 dW]∧tF bm dM dN cI∧cJ.size≤mB∧tP bm dO dP cK∧tS bm dT dU cL∧Reps RStr 1 bv dV∧bv.length*16≤mB∧Reps (RInt .i64) 1 bw dW∧bw.length*8≤mB∧tS bm cR cS ck∧akn k F y D J G q p U S dL cI cJ cK dQ dR dS cL bv bw dX dY cQ ck=some r_) ?_ ?_)
              ·refine gD 4 [5,4] bZ (bdv (r:=(G.tmod 2)) rfl rfl (by decide) rfl<|go 3<|bC 147 h ?_ ?_)<;>intro _ h
               ·refine gD 7 [1,4,8,4] bZ<|cB h (fun _ pa=>IH146 pa (hG.mono<|((a.sub.trans b).trans d).trans bK.sub) fk fl fm fn fo fp fs ft (Nat.le_trans hbr bZ.size) bP (ms a7<|((a.sub.trans b).trans d).trans bK.sub)<|pt bZ) ?_;rintro⟨⟨pb,⟨pc,pd,pe,pf,pg,ph⟩,pi,pj,pk,pl⟩,pm,pn⟩ _ tt⟨po,pq,pr,ps,pu,pv,pw,px,py,pz,pA,pB,pC,pD,pE,rfl,fv,pF,pG,pH,pI,pJ,pK,pL,pM,pN⟩ h;have pO:=ca fv bZ;exact gR 9 [2,3,8,3] [] pO (fun tu tv pP=>⟨_,po,pb,pq,pr,pc,pd,ps,pu,pe,pf,pg,ph,pv,pw,pi,px,py,pz,pj,pA,pB,pC,pk,pl,pm,pn,pD,pE,fK,fv.sub,pP.sel [0,3,4,1,2],pF,pG,pH,pI,pJ,pK,pL,pM,pN,h⟩)
               ·exact gd 3 ⟨_,fj,oJ,oU,oV,oK,oL,oW,oX,oM,oN,oO,oP,oY,oZ,oQ,o2,o3,o4,oR,o5,o6,o7,oS,oT,V,s,N,O,fK,kr,bZ.sel [0,3,4,1,2],fk,fl,fm,fn,fo,fp,fs,ft,ms a7<|((a.sub.trans b).trans d).trans bK.sub,h⟩
              ·rintro _ pQ⟨fu,bm,cI,dM,dN,cJ,cK,dO,dP,dQ,dR,dS,cL,dT,dU,bv,cM,cN,dV,bw,cO,cP,dW,dX,dY,cQ,ck,cR,cS,rfl,hh⟩;obtain⟨cU,ef,pR,pS,pT,pU,pV,pW,pY,pZ,p0,h⟩:=hh;refine gD 4 [9,2] ef ?_;have fx:=abZ ef;refine cB h (fun _ p1=>IH87 p1 (hG.mono<|(((a.sub.trans b).trans d).trans bK.sub).trans cU) pR pS pT pU pV pW pY pZ (Nat.le_trans hbr ef.size) (ms ba<|(((a.sub.trans b).trans d).trans bK.sub).trans cU)<|pt fx) ?_;rintro⟨⟨p2,⟨p3,p4,p5,p6,p7,p8⟩,p9,qa,qb,qc⟩,qd⟩ _ tw⟨qe,qf,qg,qh,qi,qj,qk,ql,qm,qn,qo,qp,qq,qr,qs,rfl,cV,qt,qu,qv,qw,qx,qy,qz,qA,qB⟩ h;have qC:=ca cV fx;exact gR 5 [9,3] [] qC (fun tx qD=>⟨_,qe,cQ,dL,ed,ee,ck,cR,cS,qd,qr,qs,p,B,C,p2,qf,qg,p3,p4,qh,qi,p5,p6,p7,p8,qj,qk,p9,ql,qm,qn,qa,qo,qp,qq,qb,qc,fK,(bK.sub.trans cU).trans cV.sub,qD.sel [3,4,0,1,2],ms o8<|cU.trans cV.sub,ms p0 cV.sub,qB,mc a8<|((((a.sub.trans b).trans d).trans bK.sub).trans cU).trans cV.sub,qt,qu,qv,qw,qx,qy,qz,qA,h⟩)
             ·refine gd 7 (bC 164 h ?_ ?_)<;>intro _ h
              ·refine gd 13 ?_;have fy:=W.row_ (zz wi) 84 5;refine wl fy (fun j m g_=>∃fz bo b0,∃(cW:Nat),∃cl cY cZ cm cn c2 c4 c5 c7 c8 co da db bp cq cr dc bq cs ct dd de df bb dg dh dZ,g_=b0.length∧j fz [0,3,4] [(5,sl dg bb dh),(6,iI (cW:Int))]∧KH.sub ae bo∧m bo [] [.box bs g #[sl cY cl cZ,.string cm,sl c2 cn c4,iI c5,.bool c7,iI c8,sl da co db,sl cq bp cr,sl cs bq ct,iI de,iI df] 109,.box (zz wi) (zz wi) (aS y D V J S G ai U aj ac I ad N s O z q A B p C) 62,.box (zz wi) (zz af) zS.toArray 62,eW br cq bp cr 9 1 dc,eW br cs bq ct 3 1 dd,eW (zz wi) dg bb dh 84 5 dZ]∧p.drop cW=b0∧tF bo cY cZ cl∧cm.size≤mB∧tP bo c2 c4 cn∧tS bo da db co∧Reps RStr 1 bp dc∧bp.length*16≤mB∧Reps (RInt .i64) 1 bq dd∧bq.length*8≤mB∧Reps (aar bo) 5 bb dZ∧bb.length*80≤mB∧ag9 k F y D J G I s q U S V b0 cW cl cm cn c5 c7 c8 co bp bq de df bb=some r_) p.length ?_ ?_
               ·exact⟨_,ae,p,0,ak,aW,aX,al,am,aY,aZ,aN,aP,aT,an,a0,a2,l,X,Y,a3,o,Z,ab,a4,aU,aV,([]:LC),none,0,[],rfl,fK,kr,fy.sel [1,2,3,4,5,0],List.drop_zero,bd,be,bf,bg,bh,bi,bj,bk,abo (R:=(aar ae)) (size:=5),(by simp),h⟩
               ·rintro _ _ qE⟨fz,bo,b0,cW,cl,cY,cZ,cm,cn,c2,c4,c5,c7,c8,co,da,db,bp,cq,cr,dc,bq,cs,ct,dd,de,df,bb,dg,dh,hh⟩;obtain⟨dZ,rfl,rfl,bL,b1,di,fA,fB,fC,fD,fE,fF,fG,fH,fI,qF,h⟩:=hh;rcases b0 with _|⟨⟨ty,tz,tA,tB,tD⟩,b0⟩
                ·refine gD 7 [10,2] b1<|cNl di<|gR 15 [10,1] [] b1 (fun tG qG=>?_);obtain⟨qH,qJ,b2,qK⟩:=abD (i:=5) (bytes:=80) (R:=fun K=>(aar K)) qG rfl (Nat.le_refl _) fI qF (fun hs=>(fun _ _ h=>aar.mono hs h));exact⟨_,qH,V,I,ac,ad,s,N,O,q,z,A,bb,dg,dh,cl,cY,cZ,cm,cn,c2,c4,c5,c7,c8,co,da,db,bp,cq,cr,dc,bq,cs,ct,dd,de,df,fK,bL.trans b2,qJ.sel [1,2,0,3,4],ms a9<|(((a.sub.trans b).trans d).trans bL).trans b2,ms a7<|(((a.sub.trans b).trans d).trans bL).trans b2,ms ba<|(((a.sub.trans b).trans d).trans bL).trans b2,qK,mf fA b2,fB,mp fC b2,ms fD b2,fE.mono (fun _ _ h=>h),fF,fG.mono (fun _ _ h=>h),fH,h⟩
                ·refine gD 7 [10,2] b1<|cCl di<|gP 13 [10,2] b1<|eN b1 (mc a8<|((a.sub.trans b).trans d).trans bL) di aar.open ?_;rintro tH tI tJ tK tM qL⟨tN,tO,tQ,tR,rfl,tU,tV,tW⟩;have fJ:=avJ b1;refine cB h (fun _ qM=>IH147 qM (hG.mono<|((a.sub.trans b).trans d).trans bL) fA fB fC fD fE fF fG fH (Nat.le_trans hbr b1.size) qL<|pt fJ) ?_;rintro⟨⟨fL,⟨fM,fN,fO,fP,fQ,fS⟩,d0,d1,fT,fU⟩,⟨eg,eh,ei,ej,ek⟩⟩ _ tX⟨fV,fW,fX,fY,fZ,f0,f1,el,em,f2,eo,ep,f3,tY,rfl,eq,qN,qP,qQ,qR,qS,qT,qU,qV,f4⟩ h;have qW:=ca eq fJ;obtain⟨tZ,t0,t1,t2,rfl,t3,t4,t5⟩:=aar.open f4;refine gR 1 [84] [] qW (fun t6 qX=>aJ h 6 0 qX rfl rfl (fI.mono (fun _ _ h=>aar.mono eq.sub h)) f4 ?_);rintro f5 f7 ga qY qZ q0 q1 h;have q2:=ajJ qZ;exact go 6<|iCl di ((mc a8<|((a.sub.trans b).trans d).trans bL).len)<|go 3 ⟨_,Nat.lt_succ_self _,_,fV,b0,cW+1,fL,fW,fX,fM,fN,fY,fZ,fO,fP,fQ,fS,f0,f1,d0,el,em,f2,d1,eo,ep,f3,fT,fU,bb++[(aap.mk eg eh ei ej ek)],f5,f7,ga,rfl,fK,bL.trans eq.sub,q2.sel [0,3,4,1,2,5],aac di,qN,qP,qQ,qR,qS,qT,qU,qV,q0,aav q1,h⟩
              ·refine gD 6 [7,2] W ?_;have gb:=abZ W;refine cB h (fun _ q3=>IH87 q3 (hG.mono<|(a.sub.trans b).trans d) bd be bf bg bh bi bj bk (Nat.le_trans hbr W.size) (ms a9<|(a.sub.trans b).trans d)<|pt gb) ?_;rintro⟨⟨t7,⟨t8,t9,ua,ub,uc,ud⟩,ue,uf,ug,uh⟩,q4⟩ _ ui⟨uj,uk,ul,um,un,uo,up,uq,ur,us,ut,uu,uv,q5,q6,rfl,cu,q7,q8,q9,ra,rb,rc,rd,re,rf⟩ h;have rg:=ca cu gb;refine gR 8 [7,3,8,4] [] rg (fun uw es=>cB h (fun _ rh=>IH87 rh (hG.mono<|((a.sub.trans b).trans d).trans cu.sub) q7 q8 q9 ra rb rc rd re (Nat.le_trans hbr es.size) (ms a7<|((a.sub.trans b).trans d).trans cu.sub)<|pt es) ?_);rintro⟨⟨ri,⟨rj,rk,rl,rm,ro,rp⟩,rq,rr,rs,rt⟩,ru⟩ _ ux⟨rv,rw,rx,ry,rC,rD,rF,rG,rH,rI,rJ,rK,rM,rN,rO,rfl,dj,rQ,rR,rT,rV,rW,rX,rY,r1,r2⟩ h;have r3:=ca dj es;exact gR 5 [8,3] [] r3 (fun uy r4=>⟨_,rv,V,q4,q5,q6,ru,rN,rO,q,z,A,p,B,C,ri,rw,rx,rj,rk,ry,rC,rl,rm,ro,rp,rD,rF,rq,rG,rH,rI,rr,rJ,rK,rM,rs,rt,fK,cu.sub.trans dj.sub,r4.sel [3,4,0,1,2],ms rf dj.sub,r2,ms ba<|(((a.sub.trans b).trans d).trans cu.sub).trans dj.sub,mc a8<|(((a.sub.trans b).trans d).trans cu.sub).trans dj.sub,rQ,rR,rT,rV,rW,rX,rY,r1,h⟩)
   ·rintro _ uz⟨e5,ao,dl,cy,dm,dn,cz,dp,dq,cA,dr,ds,cC,dt,du,dv,dw,dx,dy,dz,dA,dB,d5,d6,d7,dC,dD,dE,bW,dF,hh⟩;obtain⟨dG,dH,bX,dI,dJ,dK,d8,d9,rfl,r5,r6,r7,r8,r9,sa,sb,sc,sd,se,sf,sg,sh,si,h⟩:=hh;refine gI 7 [0,0,11,1] [] r6 (fun uA gc=>?_);cases oj h n;exact adq rfl (rNl 1 gc rfl) ⟨ao,dw,dx,dA,dB,dD,dE,dF,dG,dH,dI,dJ,dK,vS y D dl J S G ai U aj dm cy dn dp cz dq dr cA ds dt cC du,rfl,gc.sel [2,3,4],sb,sc,sd,se,sf,sg,sh,si,aag.intro bP eu (me eM<|(b.trans d).trans r5) r7 r8 r9 sa⟩
theorem ap8(k:Nat)(F:aex)(IH87:adl F.f87)(IH120:acx F.f120)(IH146:acz F.f146)(IH147:acC F.f147):acz (alk k F):=by
 intro K wi g bs br aK aL aM aN aP aT aU aV aW aX aY aZ a0 a4 a5 a6 a7 d a8 a9 ba bb bd o p q r s be bf bg bh bi bj bk bm bn bo bp bq t h hG u v x y z A B C hbr D G a;obtain⟨r_,n,h⟩:=rz h;refine en 36 Tryz.func146 rfl ?_;unfold alk at h;refine gD 20 [8,1] a ?_;obtain⟨⟨⟨bu,⟨bv,bw,bx,bz,bB,bD⟩,bE,bF,bG,bH⟩,t⟩,I,h⟩:=ob h;refine cv ([pp g 0,.string o]) aym ((arq k) I (hG.mono kr) u v x y z A B C (Nat.le_trans hbr a.size) D<|pt a) ?_;rintro _ bI⟨bJ,bK,bL,bM,bP,bQ,bR,bS,bT,bU,bV,bW,bX,rfl,e,J,N,O,S,U,V,W,X⟩;have f:=ca e a;refine go 8 ?_;obtain⟨⟨⟨bY,⟨bZ,b0,b1,b2,b3,b4⟩,b5,Y,b6,b7⟩,b8⟩,Z,h⟩:=ob h;refine cv ([pp g 0,sl q p r,iI s]) ayD (IH87 Z (gm hG e) J N O S U V W X (Nat.le_trans hbr f.size) (ms G e.sub)<|pt f) ?_;rintro _ b9⟨ab,ac,ad,ae,af,ai,aj,ak,al,am,an,ao,ap,aq,ar,rfl,au,av,aw,ax,ay,az,aA,l,aB,aG⟩;have j:=ca au f;refine gP 11 [8,1] j ?_;obtain⟨b,h⟩:=aaQ h;refine slH (m:=(Y.take (d.length:Int).toNat).length) aeP Tys3 rfl rfl b.1 (Int.le_trans b.2<|Int.ofNat_le.2<|apz (i:=2) j rfl) (afE b) (have aH:=j.cut_ (i:=2) (m:=(d.length:Int).toNat) rfl l (by have:=b.2;omega);(gR 14 [8,0] [] aH (fun cb aI=>?_)));cases oj h n;exact rt2 ⟨ab,ac,ad,ae,af,ai,aj,ak,al,am,an,ao,ap.take<|(d.length:Int).toNat*1,aq,ar,rfl,aI,av,aw,ax,ay,az,aA,Reps.take l _,adG aB,aG⟩
theorem apY(k:Nat)(F:aex)(IH87:adl F.f87)(IH120:acx F.f120)(IH146:acz F.f146)(IH147:acC F.f147):acC (als k F):=by
 intro K wi g bs br q r s t u v x y z A B C D b f i G d j l I J N ap b0 b1 b2 b3 b4 b5 b6 b7 b8 b9 cb cc ce h hG aq ar au av aw ax ay az hbr aA aB;obtain⟨r_,n,h⟩:=rz h;obtain⟨m,o,O,aG,aH⟩:=ap;obtain⟨aI,aK,aL,aM,rfl,p,aN,S⟩:=aar.open aA;refine en 31 Tryz.func147 rfl ?_;unfold als at h;refine gI 11 [3,2] [[iI 0,sE,iI 0,nS,nS]] aB (fun aP aT U=>?_);have V:=alF U;refine cB h (fun _ aU=>(aq2 k) aU (hG.mono kr) aq ar au av aw ax ay az (Nat.le_trans hbr U.size) aN<|pt V) ?_;rintro⟨⟨cf,⟨ch,ci,cj,ck,cl,cm⟩,cn,co,cq,cr⟩,W⟩ _ cs⟨ct,cu,cw,cx,cy,cz,cA,cC,cD,cG,cH,cI,cJ,X,Y,rfl,e,Z,ab,ac,ad,ae,af,ai,aj,ak⟩ h;have aV:=ca e V;refine gR 12 [3,4,0,5] [] aV (fun cK a=>bC 12 h ?_ ?_)<;>intro _ h
 ·refine gD 8 [1,5,4,5] a<|cB h (fun _ aW=>IH146 aW (gm hG e) Z ab ac ad ae af ai aj (Nat.le_trans hbr a.size) p (ms S e.sub)<|pt a) ?_;rintro⟨⟨cL,⟨cM,cN,cO,cP,cQ,cR⟩,cS,cU,cV,cW⟩,aX,aY⟩ _ cY⟨aZ,a0,a2,a3,a4,a5,a6,a7,a8,a9,ba,bb,bd,be,bf,rfl,al,bg,bh,bi,bj,bk,bm,bn,bo,bp⟩ h;have bq:=ca al a;refine gR 17 [2,4,4,4,0,4,5,3] [] bq (fun cZ c3 c4 am=>?_);cases oj h n;exact adq rfl (rNl 3 am rfl) ⟨aZ,a0,a2,a3,a4,a5,a6,a7,a8,a9,ba,bb,bd,vC m o aX X W Y be aY bf,rfl,am.sel [0,1,2],bg,bh,bi,bj,bk,bm,bn,bo,aar.intro p (me ak al.sub) bp⟩
 ·refine gD 8 [4,5] a<|cB h (fun _ bu=>IH87 bu (gm hG e) Z ab ac ad ae af ai aj (Nat.le_trans hbr a.size) (ms S e.sub)<|pt a) ?_;rintro⟨⟨c6,⟨c7,c8,c9,da,db,dc⟩,dd,de,df,dg⟩,bv⟩ _ dh⟨bw,bx,bz,bB,bD,bE,bF,bG,bH,bI,bJ,bK,bL,bM,bP,rfl,an,bQ,bR,bS,bT,bU,bV,bW,bX,bY⟩ h;have bZ:=ca an a;refine gR 11 [4,4,0,4,5,3] [] bZ (fun di dj ao=>?_);cases oj h n;exact adq rfl (rNl 3 ao rfl) ⟨bw,bx,bz,bB,bD,bE,bF,bG,bH,bI,bJ,bK,bL,vC m o O X W Y bM bv bP,rfl,ao.sel [0,1,2],bQ,bR,bS,bT,bU,bV,bW,bX,aar.intro p (me ak an.sub) bY⟩
theorem agU(k0:Nat) : ∀k,adl (abE k0 k).f87∧acx (abE k0 k).f120∧acz (abE k0 k).f146∧acC (abE k0 k).f147:=by
 intro k;induction k with
 | zero=>exact⟨by simp[adl,abE],by simp[acx,abE],by simp[acz,abE],by simp[acC,abE]⟩
 | succ k ih=>exact⟨as5 k0 (abE k0 k) ih.1 ih.2.1 ih.2.2.1 ih.2.2.2,aqY k0 (abE k0 k) ih.1 ih.2.1 ih.2.2.1 ih.2.2.2,ap8 k0 (abE k0 k) ih.1 ih.2.1 ih.2.2.1 ih.2.2.2,apY k0 (abE k0 k) ih.1 ih.2.1 ih.2.2.1 ih.2.2.2⟩
theorem awG(k:Nat):adl (f87 k):=(agU k k).1
theorem ayI(k:Nat):acx (f120 k):=(agU k k).2.1
theorem ayS(k:Nat):acz (f146 k):=(agU k k).2.2.1
theorem ayE(k:Nat):acC (f147 k):=(agU k k).2.2.2
theorem alB(k:Nat):ar0 (f61 k):=by
 intro K wi bd be bf cq dR dS dT h hG cr cs ct;obtain⟨n,o,h⟩:=rz h;obtain⟨l,e,p,q,J,z⟩:=cq;obtain⟨t,u,N,O,rfl,bg,Z,bn⟩:=aak.open cs;refine en 47 Tryz.func61 rfl ?_;unfold f61 at h;refine gI 11 [0,2,6] [[nS,sE,nS,iI 0,vN,iI 0,nS,nS,nS,iI 0,iI 0],[sE,nS,iI 0,vN,iI 0,nS]] ct (fun aB aG bh cu=>bld (cells:=#[sl be bd bf,.string l,sl t e u,iI p,.bool q,iI J,sl N z O,nS,nS,iI 0,iI 0]) (vs:=[(0,sl be bd bf),(1,.agg<|aF l t e u p q J N z O)]) rfl (fun w=>by kernel_rfl)<|gR 11 [] [] cu (fun dU cw=>?_));have cx:=cw.row_ (zz wi) 9 1;have bo:=cx.row_ (zz wi) 3 1;refine wl bo (fun j m g_=>∃bp f A,∃(B:Nat),∃S ab ac U V ad ae af ai aj W ak al a C D am d G I an ao ap,g_=A.length∧j bp [3,4,5,6] [(7,iI (B:Int))]∧KH.sub K f∧m f [] [.box (zz wi) (zz wi) (aF l t e u p q J N z O) 52,.box (zz wi) (zz aB) #[nS,sE,nS,iI 0,vN,iI 0,nS,nS,nS,iI 0,iI 0] 109,.box (zz wi) (zz aG) zF.toArray 52,.box (zz wi) (zz bh) #[sl ab S ac,.string U,sl ad V ae,iI af,.bool ai,iI aj,sl ak W al,sl C a D,sl G d I,iI ao,iI ap] 109,eW (zz wi) C a D 9 1 am,eW (zz wi) G d I 3 1 an]∧e.drop B=A∧tF f ab ac S∧U.size≤mB∧tP f ad ae V∧tS f ak al W∧Reps RStr 1 a am∧a.length*16≤mB∧Reps (RInt .i64) 1 d an∧d.length*8≤mB∧agz k l e p q z A B S U V af ai aj W a d ao ap=some n) e.length ?_ ?_
 ·exact⟨_,K,e,0,bd,be,bf,l,e,t,u,p,q,J,z,N,O,([]:LB),none,0,[],([]:List Int),none,0,[],0,0,rfl,fK,kr,bo.sel [5,4,3,2,1,0],List.drop_zero,cr,bg,Z,bn,abo (R:=RStr) (size:=1),(by simp),abo (R:=(RInt .i64)) (size:=1),(by simp),h⟩
 ·rintro _ _ bq⟨bp,f,A,B,S,ab,ac,U,V,ad,ae,af,ai,aj,W,ak,al,a,C,D,am,d,G,I,an,ao,ap,rfl,rfl,r,hh⟩;obtain⟨s,X,br,bs,bu,bv,bw,bx,bz,bB,h⟩:=hh;rcases A with _|⟨⟨cy,dV⟩,A⟩
  ·refine gD 7 [1,1] s<|cNl X<|gP 13 [5,1] s ?_;have bD:=amn s;refine cB h (fun _ cz=>(awG k) cz (hG.mono r) br bs bu bv bw bx bz bB (Nat.le_trans (Nat.le_refl _) s.size) (ms bn r)<|pt bD) ?_;rintro⟨⟨dW,⟨dX,dY,dZ,d0,d1,d2⟩,bE,d3,d4,d5⟩,bF⟩ _ d6⟨d7,d8,d9,ea,ec,ed,ee,ef,eg,eh,ei,ej,ek,bG,bH,rfl,aH,cA,cC,cD,cG,cH,cI,cJ,cK,bI⟩ h;have cL:=ca aH bD;refine gR 21 [5,3,7,1,4,3,4,4] [] cL (fun el em bi=>cB h (fun _ cM=>(ad5 k) cM (hG.mono<|r.trans aH.sub) cA cC cD cG cH cI cJ cK (Nat.le_trans (Nat.le_refl _) bi.size)<|pt bi) ?_);rintro⟨bJ,⟨bK,bL,bM,bP,bQ,bR⟩,bS,bT,bU,bV⟩ _ eo⟨g,bW,bX,bY,bZ,b0,b1,b2,b3,b4,b5,b6,b7,rfl,aq,b8,b9,cb,cc,ce,cf,ch,ci⟩ h;have cj:=ca aq bi;refine go 2<|wk cj (fun j m=>∃ck ar aI aK au av aL aM aN aP aT aw aU aV x aW aX bj y aY aZ bk a2 a3 ax ay a4 a5 a6 a7 a8 az a9 ba,j ck [4,5] []∧m g [] [.box (zz wi) (zz aB) #[sl aI ar aK,.string au,sl aL av aM,iI aN,.bool aP,iI aT,sl aU aw aV,sl aW x aX,sl aY y aZ,iI a2,iI a3] 109,.box (zz wi) (zz aG) (aF ax a4 ay a5 a6 a7 a8 a9 az ba) 52,eW (zz wi) aW x aX 9 1 bj,eW (zz wi) aY y aZ 3 1 bk]∧tF g aI aK ar∧au.size≤mB∧tP g aL aM av∧tS g aU aV aw∧Reps RStr 1 x bj∧x.length*16≤mB∧Reps (RInt .i64) 1 y bk∧y.length*8≤mB∧ax.size≤mB∧tP g a4 a5 ay∧tS g a9 ba az∧arH k ar au av aN aP aT aw x y a2 a3 ax ay a6 a7 a8 az=some n) ?_ ?_
   ·refine rB [4,5] cj (fun bb cN=>ah 3 [0,1,2,0,0,11] cN<|an2 (i:=3) (j:=4) ?_ ?_)
    ·exact opQ (i:=3) rfl<|gP 3 [0,3,6] bb<|wB (fq [0,1,2,3,4,5] bb) (fun ep=>aQ 4 rfl<|gR 3 [4] [] bb (fun eq cO=>⟨hE 4,aQ 5 rfl<|gR 3 [5] [] cO (fun es cP=>⟨hE 5,aD<|gx 1 ⟨_,bJ,bW,bX,bK,bL,bY,bZ,bM,bP,bQ,bR,b0,b1,bS,b2,b3,b4,bT,b5,b6,b7,bU,bV,l,e,t,u,p,q,(bE.length:Int),bF,bG,bH,fK,cP.sel [4,5,1,2],b8,b9,cb,cc,ce,cf,ch,ci,bg,mp Z<|(r.trans aH.sub).trans aq.sub,ms bI aq.sub,h⟩⟩)⟩))
    ·exact opQ (i:=4) rfl<|gR 3 [4] [] bb (fun et cl=>⟨hE 4,aQ 3 rfl<|gP 3 [0,3,6] cl ⟨hE 4,aQ 5 rfl<|gR 3 [5] [] cl (fun eu cQ=>⟨hE 5,aD<|gx 1 ⟨_,bJ,bW,bX,bK,bL,bY,bZ,bM,bP,bQ,bR,b0,b1,bS,b2,b3,b4,bT,b5,b6,b7,bU,bV,l,e,t,u,p,q,(bE.length:Int),bF,bG,bH,fK,cQ.sel [4,5,1,2],b8,b9,cb,cc,ce,cf,ch,ci,bg,mp Z<|(r.trans aH.sub).trans aq.sub,ms bI aq.sub,h⟩⟩)⟩⟩)
   ·rintro _ ew⟨ck,ar,aI,aK,au,av,aL,aM,aN,aP,aT,aw,aU,aV,x,aW,aX,bj,y,aY,aZ,bk,a2,a3,ax,ay,a4,a5,a6,a7,hh⟩;obtain⟨a8,az,a9,ba,rfl,bm,cR,cS,cU,cV,cW,cY,cZ,c3,c4,c6,c7,h⟩:=hh;refine gd 1 ?_;obtain⟨ex,c8,aA,c9⟩:=abD (i:=2) (bytes:=16) (R:=fun K=>RStr) bm rfl (Nat.le_refl _) cW cY (fun hs=>(fun _ _ h=>h));obtain⟨da,db,Y,dc⟩:=abD (i:=2) (bytes:=8) (R:=fun K=>(RInt .i64)) c8 rfl (Nat.le_refl _) (cZ.mono (fun _ _ h=>h)) c3 (fun hs=>(fun _ _ h=>h));cases oj h o;exact aby rfl (rNl 0 bm rfl) (rNl 1 bm rfl) ⟨da,[sl aI ar aK,.string au,sl aL av aM,iI aN,.bool aP,iI aT,sl aU aw aV,sl aW x aX,sl aY y aZ,iI a2,iI a3],vF ax a4 ay a5 a6 a7 a8 a9 az ba,rfl,db.sel [],acg.intro (mf cR<|aA.trans Y) cS (mp cU<|aA.trans Y) (ms cV<|aA.trans Y) (c9.mono Y (fun _ _ h=>h)) dc,aak.intro c4 (mp c6<|aA.trans Y)<|ms c7<|aA.trans Y⟩
  ·refine gD 7 [1,1] s<|cCl X<|gP 12 [1,1] s ?_;obtain⟨dd,cm,ey,de,ez,df,dg⟩:=((mp Z r)).row.at_ (aaB X);obtain⟨rfl,dh⟩:=aaz.open dg;refine iNl 70 2 de X<|fd (cm+B*2+0) aoQ rfl<|ld1 (v:=.string cy) Tya9 rfl (s.cell<|kr.cell<|df 0 _ rfl) ?_;have cn:=amn s;refine cB h (fun _ di=>(arq k) di (hG.mono r) br bs bu bv bw bx bz bB (Nat.le_trans (Nat.le_refl _) s.size) dh<|pt cn) ?_;rintro⟨⟨dj,⟨dk,dl,dm,dn,dp,dq⟩,dr,ds,dt,du⟩,eC⟩ _ eD⟨dv,dw,dx,dy,dz,dA,dB,dC,dD,dE,dF,dG,dH,rfl,co,dI,dJ,dK,dL,dM,dN,dO,dP⟩ h;have dQ:=ca co cn;exact go 5<|iCl X ((mp Z r).len)<|go 3 ⟨_,Nat.lt_succ_self _,_,dv,A,B+1,dj,dw,dx,dk,dl,dy,dz,dm,dn,dp,dq,dA,dB,dr,dC,dD,dE,ds,dF,dG,dH,dt,du,rfl,fK,r.trans co.sub,dQ.sel [3,4,5,0,1,2],aac X,dI,dJ,dK,dL,dM,dN,dO,dP,h⟩
theorem aw9(k:Nat):arS (f38 k):=by
 intro K wi dp d7 d8 d9 h hG dq dr;obtain⟨r_,n,h⟩:=rz h;obtain⟨q⟩:=dp;obtain⟨bg,c1,rfl,r⟩:=aad.open dq;refine en 91 Tryz.func38 rfl ?_;unfold f38 at h;refine gI 11 [0,1,1] [[nS]] dr (fun a1 ea cH=>cB h (fun _ ds=>(atB k) ds (hG.mono kr) (aad.intro r)<|pt cH) ?_);rintro ec _ ed⟨bT,rfl,a⟩ h;have bU:=ca a cH;refine go 3 (bC 13 h ?_ ?_)<;>intro _ h
 ·refine gd 3<|bld (cells:=#[nS]) (vs:=[]) rfl (fun w=>by kernel_rfl)<|gR 6 [0] [] bU (fun ee cI=>?_);cases oj h n;exact aby rfl (rNl 0 cI rfl) (resT rfl) ⟨bT,[nS],rfl,cI.sel [],aad.intro<|RSl.nil _ _ _ _ _ _⟩
 ·refine gd 10<|wl bU (fun j m g_=>∃cJ bV aq,∃(aj:Nat),g_=aq.length∧j cJ [1,2] [(4,iI (aj:Int))]∧KH.sub bT bV∧m bV [] [.box (zz wi) (zz wi) #[sl bg q c1] 24,.box (zz wi) (zz a1) #[nS] 24]∧q.drop aj=aq∧ahG k q aq aj=some r_) q.length ?_ ?_
  ·exact⟨_,bT,q,0,rfl,fK,kr,bU.sel [1,0],List.drop_zero,h⟩
  ·rintro _ _ ef⟨cJ,bV,aq,aj,rfl,rfl,d,aL,aM,h⟩;rcases aq with _|⟨⟨cK,eg,eh,ei,ej,ek⟩,aq⟩
   ·refine gD 7 [0,1] aL<|cNl aM<|gP 12 [0,1] aL<|cB h (fun _ dt=>(api k) dt (hG.mono<|a.sub.trans d) (mf r<|a.sub.trans d) (by decide)<|pt aL) ?_;rintro bh _ bW⟨aN,rfl,p⟩ h;have al:=ca p aL;refine go 12 (bC 37 h ?_ ?_)<;>intro _ h
    ·refine gd 3<|bld (cells:=#[nS]) (vs:=[]) rfl (fun w=>by kernel_rfl)<|gR 7 [1] [] al (fun el cL=>?_);cases oj h n;exact aby rfl (rNl 1 cL rfl) (resT rfl) ⟨aN,[nS],rfl,cL.sel [],aad.intro<|RSl.nil _ _ _ _ _ _⟩
    ·refine gD 6 [0,1] al ?_;obtain⟨⟨em,du,eo,dv,ep,eq⟩,a2,h⟩:=ob h;obtain⟨cM,bi,es,cN,et,cO,dw⟩:=((mf r ((a.sub.trans d).trans p.sub))).row.at_ (aay a2).1;obtain⟨dx,dy,eu,ew,rfl,ex,ey,ez⟩:=aak.open dw;refine iGl 52 6 cN a2 (fd (bi+bh.toNat*6+3) arC rfl<|ld1 (v:=.bool dv) Tya4 rfl (al.cell<|kr.cell<|cO 3 _ rfl)<|go 3<|bC 41 h ?_ ?_)<;>intro _ h
     ·refine gd 3<|bld (cells:=#[nS]) (vs:=[]) rfl (fun w=>by kernel_rfl)<|gR 7 [1] [] al (fun eC cP=>?_);cases oj h n;exact aby rfl (rNl 1 cP rfl) (resT rfl) ⟨aN,[nS],rfl,cP.sel [],aad.intro<|RSl.nil _ _ _ _ _ _⟩
     ·refine gD 6 [0,1] al (iGl 52 6 cN a2<|fd (bi+bh.toNat*6+1) aj8 rfl<|ld1 (v:=sl dx du dy) arV rfl (al.cell<|kr.cell<|cO 1 _ rfl)<|go 5<|bC 49 h ?_ ?_)<;>intro _ h
      ·refine gd 3<|bld (cells:=#[nS]) (vs:=[]) rfl (fun w=>by kernel_rfl)<|gR 7 [1] [] al (fun eD cQ=>?_);cases oj h n;exact aby rfl (rNl 1 cQ rfl) (resT rfl) ⟨aN,[nS],rfl,cQ.sel [],aad.intro<|RSl.nil _ _ _ _ _ _⟩
      ·refine gI 16 [] [[nS]] al (fun eF dz=>?_);have cR:=dz.row_ (zz wi) 52 6;refine wl cR (fun j m g_=>∃cS a3 am,∃(aP:Nat),∃l ar au bj,g_=am.length∧j cS [1,2,6] [(7,iI (aP:Int))]∧KH.sub aN a3∧m a3 [] [.box (zz wi) (zz wi) #[sl bg q c1] 24,.box (zz wi) (zz a1) #[nS] 24,.box (zz wi) (zz bW) #[sl ar l au] 24,eW (zz wi) ar l au 52 6 bj]∧q.drop aP=am∧Reps (aak a3) 6 l bj∧l.length*88≤mB∧agH k q am aP l=some r_) q.length ?_ ?_
       ·exact⟨_,aN,q,0,([]:LF),none,0,[],rfl,fK,kr,cR.sel [2,3,1,0],List.drop_zero,abo (R:=(aak aN)) (size:=6),(by simp),h⟩
       ·rintro _ _ bk⟨cS,a3,am,aP,l,ar,au,bj,rfl,rfl,s,a4,a5,cU,dA,h⟩;rcases am with _|⟨⟨eH,eI,eJ,eL,eM,eO⟩,am⟩
        ·refine gD 7 [0,1] a4<|cNl a5<|gR 16 [0,2,1,1] [] a4 (fun eP cV=>?_);obtain⟨dB,dC,eQ,dD⟩:=abD (i:=3) (bytes:=88) (R:=fun K=>(aak K)) cV rfl (Nat.le_refl _) cU dA (fun hs=>(fun _ _ h=>aak.mono hs h));cases oj h n;exact aby rfl (rNl 1 cV rfl) (resT rfl) ⟨dB,[sl ar l au],rfl,dC.sel [],aad.intro dD⟩
        ·refine gD 7 [0,1] a4<|cCl a5<|go 7<|wk a4 (fun j m=>∃cW e bm bn bo bp bq br bs bu bX bY bZ bv bw bx bz bB bD bE bF bG b0 aT bH an ao bI bJ av aw ax ap bK bL,j cW [1,2,6,7] [(8,pp bm 0),(9,pp bH 0)]∧KH.sub a3 e∧m e [] [.box (zz wi) (zz wi) #[sl bg q c1] 24,.box (zz wi) (zz a1) #[nS] 24,.box (zz wi) (zz bW) #[sl ar l au] 24,.box (zz wi) bm #[sl bo bn bp,.string bq,sl bs br bu,iI bX,.bool bY,iI bZ,sl bw bv bx,sl bB bz bD,sl bF bE bG,iI b0,iI aT] 109,.box (zz wi) bH (aF an bI ao bJ av aw ax bK ap bL) 52,eW (zz wi) ar l au 52 6 bj]∧tF e bo bp bn∧bq.size≤mB∧tP e bs bu br∧tS e bw bx bv∧RSl BA RStr 1 16 e bB bD bz∧RSl Int (RInt .i64) 1 8 e bF bG bE∧an.size≤mB∧tP e bI bJ ao∧tS e bK bL ap∧aoL k l aP aT an ao av aw ax ap (agH k q am)=some r_) ?_ ?_
         ·refine rB [] a4 (fun bM cY=>ah 5 [0,0,1,1,2,0,3,1,4] cY<|eA 5 6 rfl rfl cY (mf r<|((a.sub.trans d).trans p.sub).trans s) a5 aak.open ?_);rintro eR eS eT eU eV a6⟨eX,eY,eZ,e0,rfl,e1,e3,e4⟩;refine an3 (i:=7) (j:=11) (k:=12) ?_ ?_ ?_
          ·refine opQ (i:=7) rfl<|cB h (fun _ dE=>(alB k) dE (hG.mono<|((a.sub.trans d).trans p.sub).trans s) (mf r<|((a.sub.trans d).trans p.sub).trans s) a6<|pt bM) ?_;rintro⟨⟨z,⟨A,B,C,D,G,I⟩,J,N,O,S⟩,⟨U,V,W,X,Y,Z⟩⟩ _ cZ⟨c2,e5,e6,rfl,u,dF,dG⟩ h;have b1:=ca u bM;obtain⟨c3,c4,c5,c6,aU,aV,ab,ac,ad,ae,rfl,c7,c8,c9,aW,af,ai⟩:=acg.open dF;obtain⟨da,db,aX,aY,rfl,dc,dd,aZ⟩:=aak.open dG;refine go 2<|wB (fwOf (is:=[0,1,2,3]) b1 u.sub rfl) (fun dH=>ah 3 [8,9,10] dH<|an2 (i:=11) (j:=12) ?_ ?_)
           ·exact opQ (i:=11) rfl<|gR 3 [] [[nS,sE,nS,iI 0,vN,iI 0,nS,nS,nS,iI 0,iI 0]] b1 (fun b2 a7=>wB (fwOf (is:=[1,2,3,4]) a7 u.sub rfl) (fun a8=>aQ 12 rfl<|gR 3 [] [[sE,nS,iI 0,vN,iI 0,nS]] a7 (fun b3 x=>wB (fwOf (is:=[2,3,4,5]) x u.sub rfl) (fun ay=>aQ 13 rfl<|gR 3 [1] [] x (fun a9 f=>wB (fwOf (is:=[2,3,4,5]) f u.sub rfl) (fun ba=>aQ 14 rfl<|gR 3 [0] [] f (fun bb g=>wB (fwOf (is:=[2,3,4,5]) g u.sub rfl) (fun bd=>aD<|gx 1 ⟨_,c2,zz cZ,z,c3,c4,A,B,c5,c6,C,D,G,I,aU,aV,J,ab,ac,N,ad,ae,O,S,zz b2,U,V,da,db,W,X,Y,Z,aX,aY,fK,u.sub,g.sel [2,3,4,1,0,5],c7,c8,c9,aW,af,ai,dc,dd,aZ,h⟩))))))))
           ·exact opQ (i:=12) rfl<|gR 3 [] [[sE,nS,iI 0,vN,iI 0,nS]] b1 (fun b2 a7=>wB (fwOf (is:=[1,2,3,4]) a7 u.sub rfl) (fun a8=>aQ 11 rfl<|gR 3 [] [[nS,sE,nS,iI 0,vN,iI 0,nS,nS,nS,iI 0,iI 0]] a7 (fun b3 x=>wB (fwOf (is:=[2,3,4,5]) x u.sub rfl) (fun ay=>aQ 13 rfl<|gR 3 [0] [] x (fun a9 f=>wB (fwOf (is:=[2,3,4,5]) f u.sub rfl) (fun ba=>aQ 14 rfl<|gR 3 [1] [] f (fun bb g=>wB (fwOf (is:=[2,3,4,5]) g u.sub rfl) (fun bd=>aD<|gx 1 ⟨_,c2,zz b2,z,c3,c4,A,B,c5,c6,C,D,G,I,aU,aV,J,ab,ac,N,ad,ae,O,S,zz cZ,U,V,da,db,W,X,Y,Z,aX,aY,fK,u.sub,g.sel [2,3,4,0,1,5],c7,c8,c9,aW,af,ai,dc,dd,aZ,h⟩))))))))
          ·refine opQ (i:=11) rfl<|gR 3 [] [[nS,sE,nS,iI 0,vN,iI 0,nS,nS,nS,iI 0,iI 0]] bM (fun b4 ak=>wB (fq [1,2,3,4] ak) (fun dI=>an2 (i:=7) (j:=12) ?_ ?_))
           ·refine opQ (i:=7) rfl<|cB h (fun _ b5=>(alB k) b5 (hG.mono<|((a.sub.trans d).trans p.sub).trans s) (mf r<|((a.sub.trans d).trans p.sub).trans s) a6<|pt ak) ?_;rintro⟨⟨z,⟨A,B,C,D,G,I⟩,J,N,O,S⟩,⟨U,V,W,X,Y,Z⟩⟩ _ b6⟨b7,dJ,dK,rfl,t,b8,b9⟩ h;have be:=ca t ak;obtain⟨cb,cc,aU,aV,ab,ac,ad,ae,az,aA,rfl,ce,cf,aW,af,ai,aB⟩:=acg.open b8;obtain⟨aX,aY,aG,aH,rfl,ch,aZ,aI⟩:=aak.open b9;exact go 2<|wB (fwOf (is:=[1,2,3,4]) be t.sub rfl) (fun a8=>ah 3 [8,9,10] a8<|aQ 12 rfl<|gR 3 [] [[sE,nS,iI 0,vN,iI 0,nS]] be (fun b3 x=>wB (fwOf (is:=[2,3,4,5]) x t.sub rfl) (fun ay=>aQ 13 rfl<|gR 3 [1] [] x (fun a9 f=>wB (fwOf (is:=[2,3,4,5]) f t.sub rfl) (fun ba=>aQ 14 rfl<|gR 3 [0] [] f (fun bb g=>wB (fwOf (is:=[2,3,4,5]) g t.sub rfl) (fun bd=>aD<|gx 1 ⟨_,b7,zz bk.drew,z,cb,cc,A,B,aU,aV,C,D,G,I,ab,ac,J,ad,ae,N,az,aA,O,S,zz b6,U,V,aX,aY,W,X,Y,Z,aG,aH,fK,t.sub,g.sel [2,3,4,1,0,5],ce,cf,aW,af,ai,aB,ch,aZ,aI,h⟩)))))))
           ·refine opQ (i:=12) rfl<|gR 3 [] [[sE,nS,iI 0,vN,iI 0,nS]] ak (fun dL aK=>wB (fq [2,3,4,5] aK) (fun dM=>aQ 7 rfl<|cB h (fun _ ci=>(alB k) ci (hG.mono<|((a.sub.trans d).trans p.sub).trans s) (mf r<|((a.sub.trans d).trans p.sub).trans s) a6<|pt aK) ?_));rintro⟨⟨z,⟨A,B,C,D,G,I⟩,J,N,O,S⟩,⟨U,V,W,X,Y,Z⟩⟩ _ dN⟨cj,dO,dP,rfl,y,ck,cl⟩ h;have bf:=ca y aK;obtain⟨cm,cn,ab,ac,ad,ae,az,aA,co,cq,rfl,cr,cs,af,ai,aB,ct⟩:=acg.open ck;obtain⟨aG,aH,cu,cw,rfl,cx,aI,cy⟩:=aak.open cl;exact go 2<|wB (fwOf (is:=[2,3,4,5]) bf y.sub rfl) (fun ay=>ah 3 [8,9,10] ay<|aQ 13 rfl<|gR 3 [1] [] bf (fun a9 f=>wB (fwOf (is:=[2,3,4,5]) f y.sub rfl) (fun ba=>aQ 14 rfl<|gR 3 [0] [] f (fun bb g=>wB (fwOf (is:=[2,3,4,5]) g y.sub rfl) (fun bd=>aD<|gx 1 ⟨_,cj,zz bk.drew,z,cm,cn,A,B,ab,ac,C,D,G,I,ad,ae,J,az,aA,N,co,cq,O,S,zz b4,U,V,aG,aH,W,X,Y,Z,cu,cw,fK,y.sub,g.sel [2,3,4,1,0,5],cr,cs,af,ai,aB,ct,cx,aI,cy,h⟩)))))
          ·refine opQ (i:=12) rfl<|gR 3 [] [[sE,nS,iI 0,vN,iI 0,nS]] bM (fun b4 ak=>wB (fq [1,2,3,4] ak) (fun dI=>an2 (i:=7) (j:=11) ?_ ?_))
           ·refine opQ (i:=7) rfl<|cB h (fun _ b5=>(alB k) b5 (hG.mono<|((a.sub.trans d).trans p.sub).trans s) (mf r<|((a.sub.trans d).trans p.sub).trans s) a6<|pt ak) ?_;rintro⟨⟨z,⟨A,B,C,D,G,I⟩,J,N,O,S⟩,⟨U,V,W,X,Y,Z⟩⟩ _ b6⟨b7,dJ,dK,rfl,t,b8,b9⟩ h;have be:=ca t ak;obtain⟨cb,cc,aU,aV,ab,ac,ad,ae,az,aA,rfl,ce,cf,aW,af,ai,aB⟩:=acg.open b8;obtain⟨aX,aY,aG,aH,rfl,ch,aZ,aI⟩:=aak.open b9;exact go 2<|wB (fwOf (is:=[1,2,3,4]) be t.sub rfl) (fun a8=>ah 3 [8,9,10] a8<|aQ 11 rfl<|gR 3 [] [[nS,sE,nS,iI 0,vN,iI 0,nS,nS,nS,iI 0,iI 0]] be (fun b3 x=>wB (fwOf (is:=[2,3,4,5]) x t.sub rfl) (fun ay=>aQ 13 rfl<|gR 3 [0] [] x (fun a9 f=>wB (fwOf (is:=[2,3,4,5]) f t.sub rfl) (fun ba=>aQ 14 rfl<|gR 3 [1] [] f (fun bb g=>wB (fwOf (is:=[2,3,4,5]) g t.sub rfl) (fun bd=>aD<|gx 1 ⟨_,b7,zz b6,z,cb,cc,A,B,aU,aV,C,D,G,I,ab,ac,J,ad,ae,N,az,aA,O,S,zz bk.drew,U,V,aX,aY,W,X,Y,Z,aG,aH,fK,t.sub,g.sel [2,3,4,0,1,5],ce,cf,aW,af,ai,aB,ch,aZ,aI,h⟩)))))))
           ·refine opQ (i:=11) rfl<|gR 3 [] [[nS,sE,nS,iI 0,vN,iI 0,nS,nS,nS,iI 0,iI 0]] ak (fun dL aK=>wB (fq [2,3,4,5] aK) (fun dM=>aQ 7 rfl<|cB h (fun _ ci=>(alB k) ci (hG.mono<|((a.sub.trans d).trans p.sub).trans s) (mf r<|((a.sub.trans d).trans p.sub).trans s) a6<|pt aK) ?_));rintro⟨⟨z,⟨A,B,C,D,G,I⟩,J,N,O,S⟩,⟨U,V,W,X,Y,Z⟩⟩ _ dN⟨cj,dO,dP,rfl,y,ck,cl⟩ h;have bf:=ca y aK;obtain⟨cm,cn,ab,ac,ad,ae,az,aA,co,cq,rfl,cr,cs,af,ai,aB,ct⟩:=acg.open ck;obtain⟨aG,aH,cu,cw,rfl,cx,aI,cy⟩:=aak.open cl;exact go 2<|wB (fwOf (is:=[2,3,4,5]) bf y.sub rfl) (fun ay=>ah 3 [8,9,10] ay<|aQ 13 rfl<|gR 3 [0] [] bf (fun a9 f=>wB (fwOf (is:=[2,3,4,5]) f y.sub rfl) (fun ba=>aQ 14 rfl<|gR 3 [1] [] f (fun bb g=>wB (fwOf (is:=[2,3,4,5]) g y.sub rfl) (fun bd=>aD<|gx 1 ⟨_,cj,zz b4,z,cm,cn,A,B,ab,ac,C,D,G,I,ad,ae,J,az,aA,N,co,cq,O,S,zz bk.drew,U,V,aG,aH,W,X,Y,Z,cu,cw,fK,y.sub,g.sel [2,3,4,0,1,5],cr,cs,af,ai,aB,ct,cx,aI,cy,h⟩)))))
         ·rintro _ e7⟨cW,e,bm,bn,bo,bp,bq,br,bs,bu,bX,bY,bZ,bv,bw,bx,bz,bB,bD,bE,bF,bG,b0,aT,bH,an,ao,bI,bJ,av,hh⟩;obtain⟨aw,ax,ap,bK,bL,rfl,de,bP,e8,e9,fa,fb,fc,fe,dQ,dR,dS,h⟩:=hh;refine gD 8 [10,4] bP (bC 79 h ?_ ?_)<;>intro _ h
          ·refine gd 1<|wk bP (fun j m=>∃df cz,j df [2] [(3,iI cz)]∧m e [] [.box (zz wi) (zz a1) #[nS] 24]∧are k cz=some r_) ?_ ?_
           ·refine rB [3] bP (fun bQ dg=>kK 0 (.agg #[nS]) rfl (fun w=>ae3 (cells:=#[nS]) (vs:=[]) rfl (fun w=>by kernel_rfl)) dg<|ah 1 [1,10] dg<|an2 (i:=2) (j:=3) ?_ ?_)
            ·exact opQ (i:=2) rfl<|gP 3 [4] bQ<|wB (fq [0,1,2,3,4,5] bQ) (fun ff=>aQ 3 rfl<|gR 3 [1] [] bQ (fun fg dT=>⟨hE 3,ag 1 [4] (hE 3)<|aD<|gx 1 ⟨_,aT,fK,dT.sel [1],h⟩⟩))
            ·exact opQ (i:=3) rfl<|gR 3 [1] [] bQ (fun fh dh=>⟨hE 3,aQ 2 rfl<|gP 3 [4] dh ⟨hE 3,ag 1 [4] (hE 3)<|aD<|gx 1 ⟨_,aT,fK,dh.sel [1],h⟩⟩⟩)
           ·rintro _ fi⟨df,cz,rfl,di,h⟩;refine gd 7 ?_;cases oj h n;exact aby rfl (rNl 0 di rfl) (resT rfl) ⟨e,[nS],rfl,di.sel [],aad.intro<|RSl.nil _ _ _ _ _ _⟩
          ·refine gI 14 [0,3,0,4,6,52] [] bP (fun fj dU=>aJ h 6 0 dU rfl rfl (cU.mono (fun _ _ h=>aak.mono de h)) (aak.intro dQ dR dS) ?_);rintro dj dk dl dV dW dX dY h;have dZ:=ajJ dW;exact gR 7 [0,2] [] dZ (fun fk d0=>iCl a5 ((mf r<|((a.sub.trans d).trans p.sub).trans s).len)<|go 3 ⟨_,Nat.lt_succ_self _,_,e,am,aP+1,l++[(aab.mk an ao av aw ax ap)],dj,dk,dl,rfl,fK,s.trans de,d0.sel [0,1,2,5],aac a5,dX,aav dY,h⟩)
   ·refine gD 7 [0,1] aL<|cCl aM<|go 8<|rB [] aL (fun cA bR=>ah 5 [0,0,1,1,2,0,3,1,4] bR ?_);obtain⟨cC,bS,fl,d1,fm,d2,d3⟩:=((mf r (a.sub.trans d))).row.at_ (aaB aM);obtain⟨fn,fo,fp,fs,rfl,d4,ft,fu⟩:=aak.open d3;refine kK 5 (pp cC<|bS+aj*6) rfl (fun w=>aiw (b:=cC) (o:=bS) (i:=aj) ar3 asM rfl d1 rfl<|aaR aM) bR<|kK 6 (pp cC<|bS+aj*6+0) rfl (fun w=>aeU (o':=bS+aj*6+0) arN rfl rfl) bR<|tT 7 (.string cK) [] rfl (fq [0,1] cA) (fun w hF=>acE (v:=.string cK) Tya9 rfl<|hF.cell<|kr.cell<|d2 0 _ rfl)<|ah 1 [9] bR<|aQ 8 rfl<|cB h (fun _ d5=>(api k) d5 (hG.mono<|a.sub.trans d) (mf r<|a.sub.trans d) d4<|pt cA) ?_;rintro fv _ fx⟨dm,rfl,cD⟩ h;have cG:=ca cD cA;refine go 2 (wB (fwOf (is:=[0,1]) cG cD.sub rfl) (fun d6=>ah 1 [10] d6<|aD<|gx 1<|bC 32 h ?_ ?_))<;>intro _ h
    ·refine gd 3<|bld (cells:=#[nS]) (vs:=[]) rfl (fun w=>by kernel_rfl)<|gR 10 [1] [] cG (fun fy dn=>?_);cases oj h n;exact aby rfl (rNl 1 dn rfl) (resT rfl) ⟨dm,[nS],rfl,dn.sel [],aad.intro<|RSl.nil _ _ _ _ _ _⟩
    ·exact gd 6<|iCl aM ((mf r<|a.sub.trans d).len)<|go 3 ⟨_,Nat.lt_succ_self _,_,dm,aq,aj+1,rfl,fK,d.trans cD.sub,cG,aac aM,h⟩
theorem awI(k:Nat):asR (f16 k):=by
 intro K wi m D G I h hG o p;obtain⟨r_,n,h⟩:=rz h;obtain⟨J⟩:=m;obtain⟨N,c1,rfl,d⟩:=aad.open o;refine en 13 Tryz.func16 rfl ?_;unfold f16 at h;refine gI 11 [0,1,1] [[nS]] p (fun O S e=>cB h (fun _ q=>(axi k) q (hG.mono kr) (aad.intro d)<|pt e) ?_);rintro U _ V⟨r,rfl,a⟩ h;have b:=ca a e;refine go 3 (bC 6 h ?_ ?_)<;>intro _ h
 ·refine gd 3<|bld (cells:=#[nS]) (vs:=[]) rfl (fun w=>by kernel_rfl)<|gR 6 [0] [] b (fun W f=>?_);cases oj h n;exact aby rfl (rNl 0 f rfl) (resT rfl) ⟨r,[nS],rfl,f.sel [],aad.intro<|RSl.nil _ _ _ _ _ _⟩
 ·refine gD 6 [0,1,1] b<|cB h (fun _ s=>(at7 k) s (gm hG a) (aad.intro<|mf d a.sub)<|pt b) ?_;rintro⟨X⟩ _ Y⟨Z,ab,rfl,g,i⟩ h;have j:=ca g b;obtain⟨ac,ad,rfl,ae⟩:=aad.open i;refine cB h (fun _ t=>(aw9 k) t (gm hG j) i<|pt j) ?_;rintro⟨⟨u⟩,af⟩ _ ai⟨v,aj,rfl,x,y⟩ h;have z:=ca x j;obtain⟨A,B,rfl,C⟩:=aad.open y;refine gR 7 [0] [] z (fun ak l=>?_);cases oj h n;exact aby rfl (rNl 0 l rfl) (resT rfl) ⟨v,[sl A u B],rfl,l.sel [],aad.intro C⟩
theorem asS(k:Nat)(F:ahY)(IH66:afz F.f66):afz (awp k F):=by
 intro K wi aq bi bj bk h hG ax ay;obtain⟨n,o,h⟩:=rz h;refine en 64 Tryz.func66 rfl ?_;unfold awp at h;refine gd 12<|wl ay (fun j m g_=>∃az d a,∃(e:Nat),g_=a.length∧j az [0] [(3,iI (e:Int))]∧KH.sub K d∧m d [] []∧aq.drop e=a∧acI k F a e=some n) aq.length ?_ ?_
 ·exact⟨_,K,aq,0,rfl,fK,kr,ay,List.drop_zero,h⟩
 ·rintro _ _ N⟨az,d,a,e,rfl,rfl,l,O,C,h⟩;rcases a with _|⟨⟨t,S,U,V,W,D,X,u,x,y,f⟩,a⟩
  ·refine gd 6<|cNl C<|go 14 ?_;cases oj h o;exact rt1 ⟨d,rfl,O⟩
  ·refine gd 6<|cCl C<|go 5<|wk O (fun j m=>∃aA Y,j aA [0,3] []∧KH.sub d Y∧m Y [] []∧an5 k F e (acI k F a)=some n) ?_ ?_
   ·refine gd 5<|eN O (ms ax l) C aag.open ?_;rintro bm bn bo bp bq br⟨Z,ab,ac,ad,ae,af,ai,aj,ak,al,rfl,bs,bu,bv,aU,aV,aW,aB⟩;refine gR 5 [0] [[iI 0,sE,iI 0,sE,iI 0,iI 0,nS,nS,nS,nS,nS]] O (fun bw bx p=>wk p (fun j m=>∃aG ar,j aG [0,3,4] [(28,.bool ar)]∧m d [] [.box (zz wi) (zz N) (aS t S U V W D Z X ab ac u ad ae x af ai y aj ak f al) 62]∧aiJ k F e t u x y f ar (acI k F a)=some n) ?_ ?_)
    ·refine gD 5 [0,1] p (bO 19 h ?_ ?_)<;>intro _ h
     ·exact go 11 ⟨_,true,fK,p,h⟩
     ·refine gP 8 [0,1] p (bO 23 h ?_ ?_)<;>intro _ h
      ·exact gP 11 [5,1] p ⟨_,D==1,fK,p,h⟩
      ·exact go 8 ⟨_,false,fK,p,h⟩
    ·rintro _ bz⟨aG,ar,rfl,z,h⟩;refine bC 28 h ?_ ?_<;>intro _ h
     ·refine gd 13 ?_;cases oj h o;exact rt1 ⟨d,rfl,z.sel []⟩
     ·refine gd 4<|wk z (fun j m=>∃aH au,j aH [0,3,4] [(36,.bool au)]∧m d [] [.box (zz wi) (zz N) (aS t S U V W D Z X ab ac u ad ae x af ai y aj ak f al) 62]∧alT k F e u x y f au (acI k F a)=some n) ?_ ?_
      ·refine gD 5 [0,1] z (bO 32 h ?_ ?_)<;>intro _ h
       ·exact go 6 ⟨_,true,fK,z,h⟩
       ·exact gP 9 [0,1] z ⟨_,t==28,fK,z,h⟩
      ·rintro _ bB⟨aH,au,rfl,G,h⟩;refine bC 36 h ?_ ?_<;>intro _ h
       ·exact gd 5 ⟨_,d,fK,kr,G.sel [],h⟩
       ·refine gd 4<|wk G (fun j m=>∃aI A av,j aI [0,3,4] [(49,.bool av)]∧KH.sub d A∧m A [] [.box (zz wi) (zz N) (aS t S U V W D Z X ab ac u ad ae x af ai y aj ak f al) 62]∧aiS k F e f av (acI k F a)=some n) ?_ ?_
        ·refine gD 3 [7,1] G<|cB h (fun _ aX=>IH66 aX (hG.mono l) aU<|pt G) ?_;rintro bD _ bE⟨aY,rfl,g⟩ h;have am:=ca g G;refine go 1 (bO 40 h ?_ ?_)<;>intro _ h
         ·exact go 11 ⟨_,aY,true,fK,g.sub,am,h⟩
         ·refine gP 5 [8,1] am<|cB h (fun _ aZ=>IH66 aZ (hG.mono<|l.trans g.sub) (ms aV g.sub)<|pt am) ?_;rintro bF _ bG⟨a1,rfl,I⟩ h;have an:=ca I am;refine go 2 (bO 45 h ?_ ?_)<;>intro _ h
          ·exact go 6 ⟨_,a1,true,fK,g.sub.trans I.sub,an,h⟩
          ·refine gP 5 [9,1] an<|cB h (fun _ a2=>IH66 a2 (hG.mono<|(l.trans g.sub).trans I.sub) (ms aW<|g.sub.trans I.sub)<|pt an) ?_;rintro a3 _ bH⟨a4,rfl,aK⟩ h;have a5:=ca aK an;exact go 3 ⟨_,a4,a3,fK,(g.sub.trans I.sub).trans aK.sub,a5,h⟩
        ·rintro _ bI⟨aI,A,av,rfl,ao,aw,h⟩;refine bC 49 h ?_ ?_<;>intro _ h
         ·refine gd 13 ?_;cases oj h o;exact rt1 ⟨A,rfl,aw.sel []⟩
         ·refine gd 9<|wl aw (fun j m g_=>∃aL ap q,∃(r:Nat),g_=q.length∧j aL [0,3,4] [(5,iI (r:Int))]∧KH.sub A ap∧m ap [] [.box (zz wi) (zz N) (aS t S U V W D Z X ab ac u ad ae x af ai y aj ak f al) 62]∧f.drop r=q∧alQ k F e (acI k F a) q r=some n) f.length ?_ ?_
          ·exact⟨_,A,f,0,rfl,fK,kr,aw,List.drop_zero,h⟩
          ·rintro _ _ bJ⟨aL,ap,q,r,rfl,rfl,J,s,B,h⟩;rcases q with _|⟨⟨bK,bL,bM,bP,a6⟩,q⟩
           ·exact gD 7 [10,1] s<|cNl B<|go 9 ⟨_,ap,fK,ao.trans J,s.sel [],h⟩
           ·refine gD 7 [10,1] s<|cCl B<|gP 12 [10,1] s ?_;obtain⟨a7,aM,bQ,a8,bR,a9,ba⟩:=((mc aB (ao.trans J))).row.at_ (aaB B);obtain⟨bS,bT,bb,bd,rfl,bU,bV,be⟩:=aar.open ba;refine iNl 84 5 a8 B<|fd (aM+r*5+4) ams rfl<|ld1 (v:=sl bb a6 bd) akU rfl (s.cell<|kr.cell<|a9 4 _ rfl)<|cB h (fun _ bf=>IH66 bf (gm hG s) be<|pt s) ?_;rintro bW _ bX⟨aN,rfl,aP⟩ h;have aT:=ca aP s;refine go 2 (bC 63 h ?_ ?_)<;>intro _ h
            ·refine gd 16 ?_;cases oj h o;exact rt1 ⟨aN,rfl,aT.sel []⟩
            ·exact gd 6<|iCl B ((mc aB<|ao.trans J).len)<|go 3 ⟨_,Nat.lt_succ_self _,_,aN,q,r+1,rfl,fK,J.trans aP.sub,aT,aac B,h⟩
   ·rintro _ bY⟨aA,Y,rfl,bg,bh,h⟩;exact gd 2<|iCl C ((ms ax l).len)<|go 3 ⟨_,Nat.lt_succ_self _,_,Y,a,e+1,rfl,fK,l.trans bg,bh,aac C,h⟩
theorem ash(k0:Nat) : ∀k,afz (amh k0 k).f66:=by
 intro k;induction k with
 | zero=>simp[afz,amh]
 | succ k ih=>exact asS k0 (amh k0 k) ih
theorem awK(k:Nat):afz (f66 k):=(ash k k)
theorem ast(k:Nat)(F:afc)(IH21:aeA F.f21)(IH41:aeK F.f41):aeA (avL k F):=by
 intro K wi i v x y h hG l o;obtain⟨r_,n,h⟩:=rz h;refine en 15 Tryz.func21 rfl ?_;unfold avL at h;refine gd 12<|wl o (fun j m g_=>∃p e a,∃(b:Nat),g_=a.length∧j p [0] [(3,iI (b:Int))]∧KH.sub K e∧m e [] []∧i.drop b=a∧akN k F a b=some r_) i.length ?_ ?_
 ·exact⟨_,K,i,0,rfl,fK,kr,o,List.drop_zero,h⟩
 ·rintro _ _ z⟨p,e,a,b,rfl,rfl,f,g,d,h⟩;rcases a with _|⟨⟨A,B,C,D,G,I,J,N,O,S,U⟩,a⟩
  ·refine gd 6<|cNl d<|go 14 ?_;cases oj h n;exact rt1 ⟨e,rfl,g⟩
  ·refine gd 6<|cCl d<|go 11<|eN g (ms l f) d aag.open ?_;rintro V W X Y Z t⟨ab,ac,ad,ae,af,ai,aj,ak,al,am,rfl,an,ao,ap,aq,ar,au,av⟩;refine cB h (fun _ u=>IH41 u (hG.mono f) t<|pt g) ?_;rintro aw _ ax⟨q,rfl,r⟩ h;have s:=ca r g;refine go 2 (bC 14 h ?_ ?_)<;>intro _ h
   ·refine gd 12 ?_;cases oj h n;exact rt1 ⟨q,rfl,s⟩
   ·exact gd 6<|iCl d ((ms l f).len)<|go 3 ⟨_,Nat.lt_succ_self _,_,q,a,b+1,rfl,fK,f.trans r.sub,s,aac d,h⟩
theorem asH(k:Nat)(F:afc)(IH21:aeA F.f21)(IH41:aeK F.f41):aeK (apI k F):=by
 intro K wi a3 b0 b1 h hG a4 a5;obtain⟨n,o,h⟩:=rz h;obtain⟨e,ab,ac,ad,ae,l,N,A,B,C,g⟩:=a3;obtain⟨af,ai,aj,ak,al,am,an,ao,ap,aq,rfl,b2,b3,a6,D,ar,a7,az⟩:=aag.open a4;refine en 98 Tryz.func41 rfl ?_;unfold apI at h;refine gI 14 [0,1] [] a5 (fun b4 G=>wk G (fun j m=>∃aA au,j aA [1,5] [(6,.bool au)]∧m K [] [.box (zz wi) (zz wi) (aS e ab ac ad ae l af N ai aj A ak al B am an C ao ap g aq) 62]∧ah8 k F e l N A B C g au=some n) ?_ ?_)
 ·refine gd 6 (bC 6 h ?_ ?_)<;>intro a8 h
  ·exact gd 3<|lX 6 a8.symm ⟨_,e==17,fK,G,h⟩
  ·refine gd 7 (bC 6 h ?_ ?_)<;>intro a9 h
   ·exact gd 3<|lX 6 a9.symm ⟨_,e==15,fK,G,h⟩
   ·refine gd 7 (bC 6 h ?_ ?_)<;>intro ba h
    ·exact gd 3<|lX 6 ba.symm ⟨_,e==18,fK,G,h⟩
    ·exact gd 6 ⟨_,e==19,fK,G,h⟩
 ·rintro _ b5⟨aA,au,rfl,a,h⟩;refine bC 6 h ?_ ?_<;>intro _ h
  ·refine gd 9 ?_;cases oj h o;exact rt1 ⟨K,rfl,a.sel []⟩
  ·refine gd 7 (bC 11 h ?_ ?_)<;>intro _ h
   ·refine gd 1<|wk a (fun j m=>∃aB O av,j aB [] [(2,.bool av)]∧KH.sub K O∧m O [] []∧ak0 k F av=some n) ?_ ?_
    ·refine gD 5 [5,1] a (bO 16 h ?_ ?_)<;>intro _ h
     ·refine gP 5 [7,1] a<|cB h (fun _ bb=>IH21 bb (hG.mono kr) D<|pt a) ?_;rintro b6 _ b7⟨bd,rfl,I⟩ h;have S:=ca I a;refine go 2 (bO 21 h ?_ ?_)<;>intro _ h
      ·refine gP 5 [8,1] S<|cB h (fun _ be=>IH21 be (gm hG I) (ms ar I.sub)<|pt S) ?_;rintro bf _ b8⟨bg,rfl,aG⟩ h;have bh:=ca aG S;exact go 4 ⟨_,bg,bf,fK,I.sub.trans aG.sub,bh.sel [],h⟩
      ·exact go 7 ⟨_,bd,false,fK,I.sub,S.sel [],h⟩
     ·exact go 12 ⟨_,K,false,fK,kr,a.sel [],h⟩
    ·rintro _ b9⟨aB,O,av,rfl,cb,bi,h⟩;refine gd 3 ?_;cases oj h o;exact rt1 ⟨O,rfl,bi⟩
   ·refine gd 7 (bC 26 h ?_ ?_)<;>intro _ h
    ·refine gd 1<|wk a (fun j m=>∃aH U aw,j aH [] [(2,.bool aw)]∧KH.sub K U∧m U [] []∧akL k F aw=some n) ?_ ?_
     ·refine gD 3 [6,1] a ?_;obtain⟨⟨bj,bk,cc,ce,cf⟩,J,h⟩:=ob h;obtain⟨aI,V,ch,aK,ci,aL,bm⟩:=(a6).row.at_ (aay J).1;obtain⟨cj,ck,rfl,cl,cm⟩:=aai.open bm;refine iGl 35 5 aK J (fd (V+(0:Int).toNat*5+0) ap2 rfl<|ld1 (v:=iI bj) Tya3 rfl (a.cell<|kr.cell<|aL 0 _ rfl)<|go 2<|bO 34 h ?_ ?_)<;>intro _ h
      ·refine gP 5 [6,1] a (iGl 35 5 aK J<|go 1<|fd (V+(0:Int).toNat*5+1) aqE rfl<|go 1<|ld1 (v:=iI bk) Tya3 rfl (a.cell<|kr.cell<|aL 1 _ rfl)<|go 4<|bO 42 h ?_ ?_)<;>intro _ h
       ·refine gP 5 [7,1] a<|cB h (fun _ bn=>(awK k) bn (hG.mono kr) D<|pt a) ?_;rintro bo _ cn⟨bp,rfl,aM⟩ h;have bq:=ca aM a;exact go 6 ⟨_,bp,!bo,fK,aM.sub,bq.sel [],h⟩
       ·exact go 8 ⟨_,K,false,fK,kr,a.sel [],h⟩
      ·exact go 16 ⟨_,K,false,fK,kr,a.sel [],h⟩
     ·rintro _ co⟨aH,U,aw,rfl,cq,br,h⟩;refine gd 3 ?_;cases oj h o;exact rt1 ⟨U,rfl,br⟩
    ·refine gd 1<|wk a (fun j m=>∃aN ax,j aN [1,5] [(48,.bool ax)]∧m K [] [.box (zz wi) (zz wi) (aS e ab ac ad ae l af N ai aj A ak al B am an C ao ap g aq) 62]∧aif k F e l A B C g ax=some n) ?_ ?_
     ·refine gd 6 (bC 48 h ?_ ?_)<;>intro bs h
      ·exact gd 3<|lX 48 bs.symm ⟨_,e==23,fK,a,h⟩
      ·refine gd 7 (bC 48 h ?_ ?_)<;>intro bu h
       ·exact gd 3<|lX 48 bu.symm ⟨_,e==25,fK,a,h⟩
       ·exact gd 6 ⟨_,e==26,fK,a,h⟩
     ·rintro _ cr⟨aN,ax,rfl,d,h⟩;refine bC 48 h ?_ ?_<;>intro _ h
      ·refine gD 5 [7,1] d<|cB h (fun _ bv=>IH21 bv (hG.mono kr) D<|pt d) ?_;rintro cs _ ct⟨bw,rfl,bx⟩ h;have bz:=ca bx d;refine go 6 ?_;cases oj h o;exact rt1 ⟨bw,rfl,bz.sel []⟩
      ·refine gd 7 (bC 55 h ?_ ?_)<;>intro _ h
       ·refine gd 1<|wk d (fun j m=>∃aP W ay,j aP [] [(2,.bool ay)]∧KH.sub K W∧m W [] []∧afo k F ay=some n) ?_ ?_
        ·refine gD 5 [5,1] d (bO 60 h ?_ ?_)<;>intro _ h
         ·refine gP 5 [9,1] d<|cB h (fun _ bB=>IH21 bB (hG.mono kr) a7<|pt d) ?_;rintro cu _ cw⟨bD,rfl,f⟩ h;have X:=ca f d;refine go 2 (bO 65 h ?_ ?_)<;>intro _ h
          ·exact go 18 ⟨_,bD,true,fK,f.sub,X.sel [],h⟩
          ·refine gP 5 [7,1] X<|cB h (fun _ bE=>IH21 bE (gm hG f) (ms D f.sub)<|pt X) ?_;rintro cx _ cy⟨aT,rfl,t⟩ h;have u:=ca t X;refine go 2 (bO 69 h ?_ ?_)<;>intro _ h
           ·refine gP 5 [5,1] u (bdv (r:=(l.tmod 2)) rfl rfl (by decide) rfl<|go 4<|bO 74 h ?_ ?_)<;>intro _ h
            ·exact go 11 ⟨_,aT,true,fK,f.sub.trans t.sub,u.sel [],h⟩
            ·refine gP 5 [8,1] u<|cB h (fun _ bF=>IH21 bF (hG.mono<|f.sub.trans t.sub) (ms ar<|f.sub.trans t.sub)<|pt u) ?_;rintro bG _ cz⟨bH,rfl,aU⟩ h;have bI:=ca aU u;exact go 8 ⟨_,bH,bG,fK,(f.sub.trans t.sub).trans aU.sub,bI.sel [],h⟩
           ·exact go 15 ⟨_,aT,false,fK,f.sub.trans t.sub,u.sel [],h⟩
         ·refine gP 10 [7,1] d<|cB h (fun _ bJ=>IH21 bJ (hG.mono kr) D<|pt d) ?_;rintro cA _ cC⟨aV,rfl,x⟩ h;have y:=ca x d;refine go 2 (bO 69 h ?_ ?_)<;>intro _ h
          ·refine gP 5 [5,1] y (bdv (r:=(l.tmod 2)) rfl rfl (by decide) rfl<|go 4<|bO 74 h ?_ ?_)<;>intro _ h
           ·exact go 11 ⟨_,aV,true,fK,x.sub,y.sel [],h⟩
           ·refine gP 5 [8,1] y<|cB h (fun _ bK=>IH21 bK (gm hG x) (ms ar x.sub)<|pt y) ?_;rintro bL _ cD⟨bM,rfl,aW⟩ h;have bP:=ca aW y;exact go 8 ⟨_,bM,bL,fK,x.sub.trans aW.sub,bP.sel [],h⟩
          ·exact go 15 ⟨_,aV,false,fK,x.sub,y.sel [],h⟩
        ·rintro _ cG⟨aP,W,ay,rfl,cH,bQ,h⟩;refine gd 3 ?_;cases oj h o;exact rt1 ⟨W,rfl,bQ⟩
       ·refine gd 7 (bC 81 h ?_ ?_)<;>intro _ h
        ·refine gd 8<|wl d (fun j m g_=>∃aX Y p,∃(q:Nat),g_=p.length∧j aX [1] [(3,iI (q:Int))]∧KH.sub K Y∧m Y [] [.box (zz wi) (zz wi) (aS e ab ac ad ae l af N ai aj A ak al B am an C ao ap g aq) 62]∧g.drop q=p∧aly k F p q=some n) g.length ?_ ?_
         ·exact⟨_,K,g,0,rfl,fK,kr,d,List.drop_zero,h⟩
         ·rintro _ _ cI⟨aX,Y,p,q,rfl,rfl,Z,s,z,h⟩;rcases p with _|⟨⟨cJ,cK,cL,cM,bR⟩,p⟩
          ·refine gD 7 [10,1] s<|cNl z<|go 16 ?_;cases oj h o;exact rt1 ⟨Y,rfl,s.sel []⟩
          ·refine gD 7 [10,1] s<|cCl z<|gP 12 [10,1] s ?_;obtain⟨bS,aY,cN,bT,cO,bU,bV⟩:=((mc az Z)).row.at_ (aaB z);obtain⟨cP,cQ,bW,bX,rfl,cR,cS,bY⟩:=aar.open bV;refine iNl 84 5 bT z<|fd (aY+q*5+4) ams rfl<|ld1 (v:=sl bW bR bX) akU rfl (s.cell<|kr.cell<|bU 4 _ rfl)<|cB h (fun _ bZ=>IH21 bZ (hG.mono Z) bY<|pt s) ?_;rintro cU _ cV⟨aZ,rfl,a1⟩ h;have a2:=ca a1 s;refine go 3 (bC 97 h ?_ ?_)<;>intro _ h
           ·refine gd 14 ?_;cases oj h o;exact rt1 ⟨aZ,rfl,a2.sel []⟩
           ·exact gd 6<|iCl z ((mc az Z).len)<|go 3 ⟨_,Nat.lt_succ_self _,_,aZ,p,q+1,rfl,fK,Z.trans a1.sub,a2,aac z,h⟩
        ·refine gd 10 ?_;cases oj h o;exact rt1 ⟨K,rfl,d.sel []⟩
theorem aob(k0:Nat) : ∀k,aeA (afp k0 k).f21∧aeK (afp k0 k).f41:=by
 intro k;induction k with
 | zero=>exact⟨by simp[aeA,afp],by simp[aeK,afp]⟩
 | succ k ih=>exact⟨ast k0 (afp k0 k) ih.1 ih.2,asH k0 (afp k0 k) ih.1 ih.2⟩
theorem auf(k:Nat):aeA (f21 k):=(aob k k).1
theorem ayV(k:Nat):aeK (f41 k):=(aob k k).2
theorem anu(k:Nat):arR (f49 k):=by
 intro K wi g bs br t f j u x l m y z A B q r a d e I C D s ak al am an ao ap aq ar au h hG U V W X N Y hbr J;obtain⟨n,o,h⟩:=rz h;refine en 13 Tryz.func49 rfl ?_;unfold f49 at h;refine gD 7 [7,1] J ?_;obtain⟨Z,G,h⟩:=ob h;obtain⟨ab,av,O,aw,ac,ax⟩:=afg (J.entAt (i:=1) rfl) N (aay G).1;obtain rfl:=ac;refine iGl 3 1 O G ?_;have ad:SR K K wi wi [.box bs g #[sl f t j,.string u,sl l x m,iI y,.bool z,iI A,sl q B r,sl d a e,.bool C] 90,eW br d a e 3 1 I] [.box bs g #[sl f t j,.string u,sl l x m,iI y,.bool z,iI A,sl q B r,sl d a e,.bool C] 90,eW br d a e 3 1 I]:=id J;refine stR (R:=(RInt .i64)) (i:=1) (off:=0) (p:=Z) (p':=s) (v:=iI s) ad rfl N (aay G).1 Tys3 O rfl rfl rfl rfl (by decide) (fun cs_ h_=>by cases h_;rfl) (fun S ae af ai=>?_);have aj:SR K K wi ae [.box bs g #[sl f t j,.string u,sl l x m,iI y,.bool z,iI A,sl q B r,sl d a e,.bool C] 90,eW br d a e 3 1 I] [.box bs g #[sl f t j,.string u,sl l x m,iI y,.bool z,iI A,sl q B r,.slice d (a.set D.toNat s).length e,.bool C] 90,.row br (.slice d (a.set D.toNat s).length e) 3 1 (a.set D.toNat s).length S]:=by simpa only[List.length_set,List.eraseIdx_zero,List.eraseIdx_cons_succ,List.tail_cons,List.set_cons_succ,List.set_cons_zero,List.nil_append,List.cons_append] using af
 refine go 1 ?_;cases oj h o;exact end0 rfl ⟨K,f,j,l,m,q,r,d,e,S,rfl,aj,U,V,W,X,ai,adJ Y⟩
theorem awj(k:Nat):apx (f107 k):=by
 intro K wi g bs br U l p V W q s J X Y Z t u z d f x ab bR dd de df dg dh di dj dk dl dm dn dp h hG A C D G B I hbr bS bT;obtain⟨n,o,h⟩:=rz h;obtain⟨a,az,af,aA,y,aB,aG,aH,aI,aK,aL⟩:=bR;obtain⟨aM,aN,aP,aT,aU,aV,aW,aX,aY,aZ,rfl,dq,dr,ds,dt,du,dv,dw⟩:=aag.open bS;refine en 93 Tryz.func107 rfl ?_;unfold f107 at h;refine gI 21 [0,1] [] bT (fun bU ai=>bC 10 h ?_ ?_)<;>intro _ h
 ·refine gd 2<|rB [] ai (fun a0 bq=>ah 6 [0,1,2,7,3,2,4,2,5,1] bq ?_);obtain⟨am,a2,h⟩:=ob h;obtain⟨bu,dx,bV,dy,bW,bX⟩:=afg (a0.entAt (i:=2) rfl) B (aay a2).1;obtain rfl:=bW;refine kGl 3 1 6 rfl bV a2 bq<|tT 7 (iI am) [] rfl (fq [0,1,2] a0) (fun w hF=>acE (v:=iI am) Tya3 rfl<|bX _ (hF.entAt (i:=2) rfl) 0 _ rfl)<|aQ 8 rfl<|gR 3 [3] [] a0 (fun dz bv=>wB (fq [1,2,3] bv) (fun bY=>ah 2 [9,10] bY<|aD<|gx 4 ?_));obtain⟨bZ,b0,a3,b1⟩:=fzi 0 [am] bv rfl;cases oj h o;exact rt2 ⟨bZ,l,p,q,s,t,u,d,f,x,some ⟨zz bU.drew,0,none⟩,1,rfl,b0.sel [1,2],mf A a3,C,mp D a3,ms G a3,B.mono (fun _ _ h=>h),I,b1⟩
 ·refine gd 1<|wk ai (fun j m=>∃bw a4,j bw [0,3,9] [(21,.bool a4)]∧m K [0,1] [.box (zz wi) (zz wi) (aS a az af aA y aB aM aG aN aP aH aT aU aI aV aW aK aX aY aL aZ) 62]∧aem k U V W J X Y Z z ab a y a4=some n) ?_ ?_
  ·refine gd 6 (bC 21 h ?_ ?_)<;>intro b2 h
   ·exact gd 3<|lX 21 b2.symm ⟨_,a==3,fK,ai.sel [1,2,0],h⟩
   ·refine gd 7 (bC 21 h ?_ ?_)<;>intro b3 h
    ·exact gd 3<|lX 21 b3.symm ⟨_,a==4,fK,ai.sel [1,2,0],h⟩
    ·exact gd 6 ⟨_,a==28,fK,ai.sel [1,2,0],h⟩
  ·rintro _ dA⟨bw,a4,rfl,an,h⟩;refine bC 21 h ?_ ?_<;>intro _ h
   ·refine gd 13 ?_;have bx:=an.row_ (zz wi) 3 1;refine wl bx (fun j m g_=>∃bz N ao ap a5 O,j bz [0,3] [(6,sl ao N ap),(7,iI O)]∧m K [0,1] [.box (zz wi) (zz wi) (aS a az af aA y aB aM aG aN aP aH aT aU aI aV aW aK aX aY aL aZ) 62,eW (zz wi) ao N ap 3 1 a5]∧Reps (RInt .i64) 1 N a5∧N.length*8≤mB∧ah2 k U V W J X Y Z z ab y g_ N O=some n) k ?_ ?_
    ·exact⟨_,([]:List Int),none,0,[],0,fK,bx.sel [1,2,3,0],abo (R:=(RInt .i64)) (size:=1),(by simp),h⟩
    ·rintro g_ _ dB⟨bz,N,ao,ap,a5,O,rfl,b4,bB,b5,h⟩;rcases g_ with _|j1502
     ·cases h
     ·refine gd 2<|rB [] b4 (fun a6 aq=>ah 7 [0,1,2,3,0,4,1,5,4,6,3] aq ?_);obtain⟨⟨dC,ar,dD,dE,dF,dG⟩,aj,h⟩:=ob h;obtain⟨ad,ac,dH,bD,dI,bE,b6⟩:=(A).row.at_ (aay aj).1;obtain⟨au,av,dJ,dK,rfl,dL,b7,dM⟩:=aak.open b6;refine kGl 52 6 7 rfl bD aj aq (kK 8 (pp ad<|ac+y.toNat*6+1) rfl (fun w=>aeU (o':=ac+y.toNat*6+1) aj8 rfl rfl) aq<|tT 9 (sl au ar av) [] rfl (fq [0,1,2,3] a6) (fun w hF=>acE (v:=sl au ar av) arV rfl<|hF.cell<|kr.cell<|bE 1 _ rfl)<|ah 2 [10,11] aq<|aD<|gx 1<|bC 36 h ?_ ?_)<;>intro _ h
      ·refine gd 5<|rB [15] a6 (fun a7 ae=>ah 7 [0,1,2,3,0,4,1,5,4,6,3] ae<|kGl 52 6 7 rfl bD aj ae<|kK 8 (pp ad<|ac+y.toNat*6+1) rfl (fun w=>aeU (o':=ac+y.toNat*6+1) aj8 rfl rfl) ae<|tT 9 (sl au ar av) [[15,14,13,12,11,9]] rfl (fq [0,1,2,3] a7) (fun w hF=>acE (v:=sl au ar av) arV rfl<|hF.cell<|kr.cell<|bE 1 _ rfl)<|ah 1 [10] ae ?_);obtain⟨⟨dN,ak⟩,a8,h⟩:=ob h;obtain⟨a9,aw,dO,b8,dP,b9,cb⟩:=(b7).row.at_ (aay a8).1;obtain⟨rfl,dQ⟩:=aaz.open cb;refine kGl 70 2 11 rfl b8 a8 ae<|kK 12 (pp a9<|aw+O.toNat*2+1) rfl (fun w=>aeU (o':=aw+O.toNat*2+1) ajD rfl rfl) ae<|tT 13 (iI ak) [[15,14,13]] rfl (fq [0,1,2,3] a7) (fun w hF=>acE (v:=iI ak) Tya3 rfl<|hF.cell<|kr.cell<|b9 1 _ rfl)<|aQ 14 rfl<|gR 3 [3] [] a7 (fun dR bF=>wB (fq [1,2,3,4] bF) (fun dS=>aQ 15 rfl<|aJ h 4 0 bF rfl rfl bB rfl ?_));rintro bG bH bI cc ce cf ch h;have ci:=akF ce;exact go 2 ⟨hE 15,ag 1 [16] (hE 15)<|aD<|gx 4<|bar (r:=(w64<|O+1)) rfl rfl rfl<|go 3 ⟨_,Nat.lt_succ_self _,_,N++[ak],bG,bH,bI,w64<|O+1,fK,ci,cf,aav ch,h⟩⟩
      ·refine gd 16 ?_;obtain⟨cj,ck,ba,cl⟩:=abD (i:=3) (bytes:=8) (R:=fun K=>(RInt .i64)) a6 rfl (Nat.le_refl _) bB b5 (fun hs=>(fun _ _ h=>h));cases oj h o;exact rt2 ⟨cj,l,p,q,s,t,u,d,f,x,ao,ap,rfl,ck.sel [0,1],mf A ba,C,mp D ba,ms G ba,B.mono (fun _ _ h=>h),I,cl⟩
   ·refine gd 1<|wk an (fun j m=>∃bJ bb,j bJ [0,9] [(56,.bool bb)]∧m K [0,1] []∧akv k U V W J X Y Z z ab a bb=some n) ?_ ?_
    ·refine gd 6 (bC 56 h ?_ ?_)<;>intro cm h
     ·exact gd 3<|lX 56 cm.symm ⟨_,a==5,fK,an.sel [0,1],h⟩
     ·exact gd 6 ⟨_,a==16,fK,an.sel [0,1],h⟩
    ·rintro _ cn⟨bJ,bb,rfl,ax,h⟩;refine bC 56 h ?_ ?_<;>intro _ h
     ·refine gI 11 [3] [] ax (fun dT co=>?_);obtain⟨cq,cr,bd,cs⟩:=fzi 0 [5] co rfl;cases oj h o;exact rt2 ⟨cq,l,p,q,s,t,u,d,f,x,some ⟨zz cn,0,none⟩,1,rfl,cr,mf A bd,C,mp D bd,ms G bd,B.mono (fun _ _ h=>h),I,cs⟩
     ·refine gd 1<|wk ax (fun j m=>∃bK be,j bK [0,9] [(60,.bool be)]∧m K [0,1] []∧aky k U V W J X Y Z z ab a be=some n) ?_ ?_
      ·refine gd 6 (bC 60 h ?_ ?_)<;>intro ct h
       ·exact gd 3<|lX 60 ct.symm ⟨_,a==6,fK,ax,h⟩
       ·exact gd 6 ⟨_,a==11,fK,ax,h⟩
      ·rintro _ bL⟨bK,be,rfl,S,h⟩;refine bC 60 h ?_ ?_<;>intro _ h
       ·refine gI 11 [3] [] S (fun dU cu=>?_);obtain⟨cw,cx,bf,cy⟩:=fzi 0 [4] cu rfl;cases oj h o;exact rt2 ⟨cw,l,p,q,s,t,u,d,f,x,some ⟨zz bL,0,none⟩,1,rfl,cx,mf A bf,C,mp D bf,ms G bf,B.mono (fun _ _ h=>h),I,cy⟩
       ·refine gd 7 (bC 64 h ?_ ?_)<;>intro _ h
        ·refine gd 3<|bsl (e:=3) (cells:=#[iI 4,iI 1]) (vs:=[(0,iI 4),(1,iI 1)]) S rfl (fun w=>by kernel_rfl) (fun dV cz=>go 7 ?_);obtain⟨cA,cC,bg,cD⟩:=fzi 0 [4,1] cz rfl;cases oj h o;exact rt2 ⟨cA,l,p,q,s,t,u,d,f,x,some ⟨zz bL,0,none⟩,2,rfl,cC,mf A bg,C,mp D bg,ms G bg,B.mono (fun _ _ h=>h),I,cD⟩
        ·refine gd 1<|wk S (fun j m=>∃bM bh,j bM [0,9] [(67,.bool bh)]∧m K [0,1] []∧aek k U V W J X Y Z z ab a bh=some n) ?_ ?_
         ·refine gd 6 (bC 67 h ?_ ?_)<;>intro cG h
          ·exact gd 3<|lX 67 cG.symm ⟨_,a==12,fK,S,h⟩
          ·refine gd 7 (bC 67 h ?_ ?_)<;>intro cH h
           ·exact gd 3<|lX 67 cH.symm ⟨_,a==7,fK,S,h⟩
           ·refine gd 7 (bC 67 h ?_ ?_)<;>intro cI h
            ·exact gd 3<|lX 67 cI.symm ⟨_,a==8,fK,S,h⟩
            ·refine gd 7 (bC 67 h ?_ ?_)<;>intro cJ h
             ·exact gd 3<|lX 67 cJ.symm ⟨_,a==25,fK,S,h⟩
             ·refine gd 7 (bC 67 h ?_ ?_)<;>intro cK h
              ·exact gd 3<|lX 67 cK.symm ⟨_,a==29,fK,S,h⟩
              ·exact gd 6 ⟨_,a==22,fK,S,h⟩
         ·rintro _ bP⟨bM,bh,rfl,al,h⟩;refine bC 67 h ?_ ?_<;>intro _ h
          ·refine gI 11 [3] [] al (fun dW cL=>?_);obtain⟨cM,cN,bi,cO⟩:=fzi 0 [1] cL rfl;cases oj h o;exact rt2 ⟨cM,l,p,q,s,t,u,d,f,x,some ⟨zz bP,0,none⟩,1,rfl,cN,mf A bi,C,mp D bi,ms G bi,B.mono (fun _ _ h=>h),I,cO⟩
          ·refine gd 7 (bC 75 h ?_ ?_)<;>intro _ h
           ·refine gI 11 [3] [] al (fun dX cP=>?_);obtain⟨cQ,cR,bj,cS⟩:=fzi 0 [3] cP rfl;cases oj h o;exact rt2 ⟨cQ,l,p,q,s,t,u,d,f,x,some ⟨zz bP,0,none⟩,1,rfl,cR,mf A bj,C,mp D bj,ms G bj,B.mono (fun _ _ h=>h),I,cS⟩
           ·refine gd 1<|wk al (fun j m=>∃bQ bk,j bQ [0,9] [(78,.bool bk)]∧m K [0,1] []∧ajo k U V W J X Y Z z ab a bk=some n) ?_ ?_
            ·refine gd 6 (bC 78 h ?_ ?_)<;>intro cU h
             ·exact gd 3<|lX 78 cU.symm ⟨_,a==20,fK,al,h⟩
             ·exact gd 6 ⟨_,a==21,fK,al,h⟩
            ·rintro _ bm⟨bQ,bk,rfl,ay,h⟩;refine bC 78 h ?_ ?_<;>intro _ h
             ·refine gI 11 [3] [] ay (fun dY cV=>?_);obtain⟨cW,cY,bn,cZ⟩:=fzi 0 [2] cV rfl;cases oj h o;exact rt2 ⟨cW,l,p,q,s,t,u,d,f,x,some ⟨zz bm,0,none⟩,1,rfl,cY,mf A bn,C,mp D bn,ms G bn,B.mono (fun _ _ h=>h),I,cZ⟩
             ·refine gd 7 (bC 82 h ?_ ?_)<;>intro _ h
              ·refine gI 11 [3] [] ay (fun dZ c2=>?_);obtain⟨c4,c5,bo,c7⟩:=fzi 0 [6] c2 rfl;cases oj h o;exact rt2 ⟨c4,l,p,q,s,t,u,d,f,x,some ⟨zz bm,0,none⟩,1,rfl,c5,mf A bo,C,mp D bo,ms G bo,B.mono (fun _ _ h=>h),I,c7⟩
              ·refine gd 7 (bC 85 h ?_ ?_)<;>intro _ h
               ·refine gI 16 [1,3,1,3] [] ay (fun d0 c8=>?_);obtain⟨da,db,bp,dc⟩:=fzi 0 [J] c8 rfl;cases oj h o;exact rt2 ⟨da,l,p,q,s,t,u,d,f,x,some ⟨zz bm,0,none⟩,1,rfl,db,mf A bp,C,mp D bp,ms G bp,B.mono (fun _ _ h=>h),I,dc⟩
               ·refine gd 11 ?_;cases oj h o;exact rt2 ⟨K,l,p,q,s,t,u,d,f,x,none,0,rfl,ay,A,C,D,G,B,I,RSl.nil _ _ _ _ _ _⟩
theorem axx(k:Nat):atp (f36 k):=by
 intro K wi d a G I h hG i;obtain⟨Z,n,h⟩:=rz h;refine en 60 Tryz.func36 rfl ?_;unfold f36 at h;refine gd 6<|wk i (fun j m=>∃t l,j t [0,1] [(13,.bool l)]∧m K [] []∧anM k d a l=some Z) ?_ ?_
 ·refine gd 5 (bO 10 h ?_ ?_)<;>intro _ h
  ·exact go 5 ⟨_,true,fK,i,h⟩
  ·exact go 7 ⟨_,a==(-1),fK,i,h⟩
 ·rintro _ J⟨t,l,rfl,e,h⟩;refine bC 13 h ?_ ?_<;>intro _ h
  ·refine gd 8 ?_;cases oj h n;exact rt1 ⟨K,rfl,e⟩
  ·refine gd 3<|wk e (fun j m=>∃u,j u [] []∧m K [] []∧alz k=some Z) ?_ ?_
   ·refine gd 1<|wk e (fun j m=>∃v o,j v [0,1] [(14,.bool o)]∧m K [] []∧anv k d a o=some Z) ?_ ?_
    ·refine gd 4 (bO 17 h ?_ ?_)<;>intro _ h
     ·exact go 10 ⟨_,true,fK,e,h⟩
     ·refine go 6 (bO 21 h ?_ ?_)<;>intro _ h
      ·exact go 6 ⟨_,true,fK,e,h⟩
      ·exact go 8 ⟨_,d==8,fK,e,h⟩
    ·rintro _ N⟨v,o,rfl,f,h⟩;refine bC 14 h ?_ ?_<;>intro _ h
     ·refine gd 7 (bC 26 h ?_ ?_)<;>intro _ h
      ·refine gd 9 ?_;cases oj h n;exact rt1 ⟨K,rfl,f⟩
      ·exact gd 4 ⟨_,fK,f,h⟩
     ·refine gd 1<|wk f (fun j m=>∃x p,j x [0,1] [(27,.bool p)]∧m K [] []∧aqz k d a p=some Z) ?_ ?_
      ·refine gd 4 (bO 30 h ?_ ?_)<;>intro _ h
       ·exact go 6 ⟨_,true,fK,f,h⟩
       ·exact go 8 ⟨_,d==10,fK,f,h⟩
      ·rintro _ O⟨x,p,rfl,g,h⟩;refine bC 27 h ?_ ?_<;>intro _ h
       ·refine gd 9 ?_;cases oj h n;exact rt1 ⟨K,rfl,g⟩
       ·refine gd 1<|wk g (fun j m=>∃y q,j y [0,1] [(34,.bool q)]∧m K [] []∧aqB k d a q=some Z) ?_ ?_
        ·refine gd 4 (bO 37 h ?_ ?_)<;>intro _ h
         ·exact go 8 ⟨_,decide<|d≤14,fK,g,h⟩
         ·exact go 6 ⟨_,false,fK,g,h⟩
        ·rintro _ S⟨y,q,rfl,b,h⟩;refine bC 34 h ?_ ?_<;>intro _ h
         ·refine gd 1<|wk b (fun j m=>∃z r,j z [] [(46,.bool r)]∧m K [] []∧ap7 k r=some Z) ?_ ?_
          ·refine gd 4 (bO 43 h ?_ ?_)<;>intro _ h
           ·exact go 5 ⟨_,true,fK,b,h⟩
           ·exact go 7 ⟨_,a==3,fK,b,h⟩
          ·rintro _ U⟨z,r,rfl,A,h⟩;refine bC 46 h ?_ ?_<;>intro _ h
           ·refine gd 9 ?_;cases oj h n;exact rt1 ⟨K,rfl,A⟩
           ·exact gd 4 ⟨_,fK,A,h⟩
         ·refine gd 8 (bC 47 h ?_ ?_)<;>intro _ h
          ·refine gd 1<|wk b (fun j m=>∃B s,j B [1] [(55,.bool s)]∧m K [] []∧arI k a s=some Z) ?_ ?_
           ·refine gd 4 (bO 52 h ?_ ?_)<;>intro _ h
            ·exact go 5 ⟨_,true,fK,b,h⟩
            ·exact go 7 ⟨_,a==3,fK,b,h⟩
           ·rintro _ V⟨B,s,rfl,C,h⟩;refine bC 55 h ?_ ?_<;>intro _ h
            ·refine gd 10 ?_;cases oj h n;exact rt1 ⟨K,rfl,C⟩
            ·exact gd 4 ⟨_,fK,C,h⟩
          ·refine gd 8 (bC 57 h ?_ ?_)<;>intro _ h
           ·refine gd 9 ?_;cases oj h n;exact rt1 ⟨K,rfl,b⟩
           ·exact gd 4 ⟨_,fK,b,h⟩
   ·rintro _ W⟨u,rfl,D,h⟩;refine gd 6 ?_;cases oj h n;exact rt1 ⟨K,rfl,D⟩
theorem atb(k:Nat)(F:arU)(IH15:afy F.f15):afy (aoN k F):=by
 intro K wi A ap aq ar au av h hG B f C;obtain⟨n,o,h⟩:=rz h;obtain⟨r,D,G,s,I⟩:=A;obtain⟨J,N,rfl,aw,t⟩:=aai.open B;refine en 44 Tryz.func15 rfl ?_;unfold aoN at h;refine gI 20 [0,1] [] C (fun ax a=>bC 9 h ?_ ?_)<;>intro _ h
 ·refine gd 9 ?_;cases oj h o;exact rt1 ⟨K,rfl,a.sel []⟩
 ·refine gd 7 (bC 11 h ?_ ?_)<;>intro _ h
  ·refine gd 9 ?_;cases oj h o;exact rt1 ⟨K,rfl,a.sel []⟩
  ·refine gd 7 (bC 13 h ?_ ?_)<;>intro _ h
   ·refine gd 9 ?_;cases oj h o;exact rt1 ⟨K,rfl,a.sel []⟩
   ·refine gd 7 (bC 15 h ?_ ?_)<;>intro _ h
    ·refine gD 6 [3,1] a ?_;obtain⟨O,g,h⟩:=ob h;obtain⟨S,U,ay,V,az,W,X⟩:=(f).row.at_ (aay g).1;obtain rfl:=X;refine iGl 3 1 V g<|ld1 (v:=iI O) Tya3 rfl (a.cell<|kr.cell<|W 0 _ rfl)<|go 6 ?_;cases oj h o;exact rt1 ⟨K,rfl,a.sel []⟩
    ·refine gD 8 [4,1] a ?_;obtain⟨⟨aA,aB,aG,aH,aI⟩,Y,h⟩:=ob h;refine eG a t Y aai.open ?_;rintro aK aL aM aN aP Z⟨aT,aU,rfl,aV,aW⟩;refine go 1<|cB h (fun _ ab=>IH15 ab (hG.mono kr) Z f<|pt a) ?_;rintro u _ aX⟨x,rfl,e⟩ h;have d:=ca e a;refine go 9<|wk d (fun j m=>∃y l p,j y [2,5] [(6,iI p)]∧KH.sub x l∧m l [] [.box (zz wi) (zz wi) (aE r D G s J I N) 35]∧anb k F r u p=some n) ?_ ?_
     ·refine gD 8 [4,1] d (bC 32 h ?_ ?_)<;>intro _ h
      ·refine gD 4 [4,1] d ?_;obtain⟨⟨aY,aZ,a2,a3,a4⟩,ac,h⟩:=ob h;refine eG d (me t e.sub) ac aai.open ?_;rintro a5 a6 a7 a8 a9 ad⟨ba,bb,rfl,bd,be⟩;refine go 1<|cB h (fun _ ae=>IH15 ae (gm hG e) ad (f.mono e.sub (fun _ _ h=>h))<|pt d) ?_;rintro af _ bf⟨ai,rfl,z⟩ h;have aj:=ca z d;exact go 3 ⟨_,ai,af,fK,z.sub,aj,h⟩
      ·exact gd 3 ⟨_,x,u,fK,kr,d,h⟩
     ·rintro _ bg⟨y,l,p,rfl,ak,q,h⟩;refine gD 6 [0,1] q<|cB h (fun _ al=>(axx k) al (gm hG q)<|pt q) ?_;rintro bh _ bi⟨am,rfl,an⟩ h;have ao:=ca an q;refine go 4 ?_;cases oj h o;exact rt1 ⟨am,rfl,ao.sel []⟩
theorem ar5(k0:Nat) : ∀k,afy (amz k0 k).f15:=by
 intro k;induction k with
 | zero=>simp[afy,amz]
 | succ k ih=>exact atb k0 (amz k0 k) ih
theorem aqS(k:Nat):afy (f15 k):=(ar5 k k)
theorem apL(k:Nat):apa (f108 k):=by
 intro K wi g bs br S f j U V l m W X Y Z o p ab q r s ac y ad ae af ai aj ak al am an ao ap h hG t u v x b d hbr z A;obtain⟨r_,n,h⟩:=rz h;obtain⟨aq,ar,au,av,aw⟩:=y;obtain⟨ax,ay,rfl,B,C⟩:=aai.open z;refine en 17 Tryz.func108 rfl ?_;unfold f108 at h;refine gI 6 [] [] A (fun az D=>rB [] D (fun a G=>ah 6 [0,0,0,5,1,2,3,7,4,2,6] G<|aQ 5 rfl<|cB h (fun _ I=>(aqS k) I (hG.mono<|KW.sub a.le) (aai.intro B<|me C<|KW.sub a.le) (adS (a.entAt (i:=2) rfl) b d)<|Sx.all _) ?_));rintro aA _ aB⟨aG,rfl,J⟩ h;have e:=a.lend J;refine go 2 (wB (fq [0,1,2] e) (fun N=>ah 1 [7] N<|aD<|gx 1<|bC 13 h ?_ ?_))<;>intro _ h
 ·refine gI 7 [8,1] [] e (fun aH O=>?_);cases oj h n;exact end0 rfl ⟨K,f,j,l,m,o,p,q,r,s,rfl,O.sel [1,2],t,u,v,x,b,d⟩
 ·refine gd 2 ?_;cases oj h n;exact end0 rfl ⟨K,f,j,l,m,o,p,q,r,s,rfl,e.sel [1,2],t,u,v,x,b,d⟩
theorem amd(k:Nat):arw (f109 k):=by
 intro K wi g bs br aj f j ak al l m am an ao ap p q aq r s t ar U au av aw ax ay az aA aB aG aH aI h hG a u x y d e hbr V W;obtain⟨n,o,h⟩:=rz h;obtain⟨aK,aL,aM,aN,A,aP,aT,aU,aV,aW,aX⟩:=U;obtain⟨aY,aZ,a0,a2,a3,a4,a5,a6,a7,a8,rfl,a9,ba,X,bb,bd,be,bf⟩:=aag.open V;refine en 37 Tryz.func109 rfl ?_;unfold f109 at h;refine gI 20 [0,1] [] W (fun bg z=>bC 7 h ?_ ?_)<;>intro _ h
 ·refine gd 2<|rB [] z (fun B G=>ah 2 [0,6,1,1] G ?_);obtain⟨⟨bh,bi,bj,bk,bm⟩,Y,h⟩:=ob h;refine eB 2 3 rfl rfl G X Y aai.open ?_;rintro bn bo bp bq bu Z⟨bv,bw,rfl,bx,bz⟩;refine ah 4 [4,5,6,7,7,2] G<|aQ 8 rfl<|cB h (fun _ ab=>(aqS k) ab (hG.mono<|KW.sub B.le) (aai.mono (KW.sub B.le) Z) (adS (B.entAt (i:=2) rfl) d e)<|Sx.all _) ?_;rintro bB _ bD⟨bE,rfl,ac⟩ h;have N:=B.lend ac;refine go 2<|wB (fq [0,1,2] N) (fun ad=>ah 1 [9] ad<|aD<|gx 4 ?_);cases oj h o;exact rt1 ⟨K,f,j,l,m,p,q,r,s,t,rfl,N.sel [1,2],a,u,x,y,d,e⟩
 ·refine gd 7 (bC 18 h ?_ ?_)<;>intro _ h
  ·refine gd 2<|rB [] z (fun O C=>ah 6 [0,1,2,0,3,2,4,4,5,1] C ?_);obtain⟨⟨bF,bG,S,bH,bI,bJ⟩,I,h⟩:=ob h;obtain⟨J,D,bK,ae,bL,af,ai⟩:=(a).row.at_ (aay I).1;obtain⟨bM,bP,bQ,bR,rfl,bS,bT,bU⟩:=aak.open ai;refine kGl 52 6 6 rfl ae I C<|kK 7 (pp J<|D+A.toNat*6+2) rfl (fun w=>aeU (o':=D+A.toNat*6+2) ao9 rfl rfl) C<|tT 8 (iI S) [] rfl (fq [0,1,2] O) (fun w hF=>acE (v:=iI S) Tya3 rfl<|hF.cell<|kr.cell<|af 2 _ rfl)<|ah 1 [9] C<|aD<|gx 4 ?_;cases oj h o;exact rt1 ⟨K,f,j,l,m,p,q,r,s,t,rfl,O.sel [1,2],a,u,x,y,d,e⟩
  ·refine gd 7 (bC 29 h ?_ ?_)<;>intro _ h
   ·refine gd 9 ?_;cases oj h o;exact rt1 ⟨K,f,j,l,m,p,q,r,s,t,rfl,z.sel [1,2],a,u,x,y,d,e⟩
   ·refine gd 7 (bC 31 h ?_ ?_)<;>intro _ h
    ·refine gd 9 ?_;cases oj h o;exact rt1 ⟨K,f,j,l,m,p,q,r,s,t,rfl,z.sel [1,2],a,u,x,y,d,e⟩
    ·refine gd 7 (bC 33 h ?_ ?_)<;>intro _ h
     ·refine gd 9 ?_;cases oj h o;exact rt1 ⟨K,f,j,l,m,p,q,r,s,t,rfl,z.sel [1,2],a,u,x,y,d,e⟩
     ·refine gd 7 (bC 35 h ?_ ?_)<;>intro _ h
      ·refine gd 9 ?_;cases oj h o;exact rt1 ⟨K,f,j,l,m,p,q,r,s,t,rfl,z.sel [1,2],a,u,x,y,d,e⟩
      ·refine gd 10 ?_;cases oj h o;exact rt1 ⟨K,f,j,l,m,p,q,r,s,t,rfl,z.sel [1,2],a,u,x,y,d,e⟩
theorem asC(k:Nat)(F:acy)(IH50:adP F.f50)(IH74:ad1 F.f74)(IH110:acS F.f110):adP (auH k F):=by
 intro K wi g bs br ac ad ae af ai aj ak al am an ao ap aq ar au av aw ax C bh bi bj bk bm bn bo bp bq bu bv h hG ay az aA aB aG aH hbr X Y;obtain⟨r_,n,h⟩:=rz h;refine en 24 Tryz.func50 rfl ?_;unfold auH at h;refine gd 6<|wl Y (fun j m g_=>∃Z a b,∃(f:Nat),∃x i l y z o p D G I A q r d s t u J,g_=b.length∧j Z [0,1] [(4,iI (f:Int))]∧KH.sub K a∧m a [] [.box bs g #[sl i x l,.string y,sl o z p,iI D,.bool G,iI I,sl q A r,sl s d t,.bool J] 90,eW br s d t 3 1 u]∧C.drop f=b∧tF a i l x∧y.size≤mB∧tP a o p z∧tS a q r A∧Reps (RInt .i64) 1 d u∧d.length*8≤mB∧aiF k F b f x y z D G I A d J=some r_) C.length ?_ ?_
 ·exact⟨_,K,C,0,ac,ad,ae,af,ai,aj,ak,al,am,an,ao,ap,aq,ar,au,av,aw,ax,rfl,fK,kr,Y,List.drop_zero,ay,az,aA,aB,aG,aH,h⟩
 ·rintro _ _ bw⟨Z,a,b,f,x,i,l,y,z,o,p,D,G,I,A,q,r,d,s,t,u,J,rfl,rfl,B,e,v,N,O,S,U,V,W,h⟩;rcases b with _|⟨⟨bx,bz,bB,bD,bE,bF,bG,bH,bI,bJ,bK⟩,b⟩
  ·refine gd 6<|cNl v<|go 14 ?_;cases oj h n;exact end0 rfl ⟨a,i,l,o,p,q,r,s,t,u,rfl,e,N,O,S,U,V,W⟩
  ·refine gd 6 (cCl v<|gP 14 [8,1] e<|bC 15 h ?_ ?_)<;>intro _ h
   ·refine gd 9<|eN e (ms X B) v aag.open ?_;rintro bL bM bP bQ bR aI⟨bS,bT,bU,bV,bW,bX,bY,bZ,b0,b1,rfl,b2,b3,b4,b5,b6,b7,b8⟩;refine cB h (fun _ aK=>IH74 aK (hG.mono B) N O S U V W (Nat.le_trans hbr e.size) aI<|pt e) ?_;rintro⟨aL,⟨aM,aN,aP,aT,aU,aV⟩,aW,aX⟩ _ b9⟨aY,aZ,a0,a2,a3,a4,a5,a6,a7,a8,rfl,ab,a9,ba,bb,bd,be,bf⟩ h;have bg:=ca ab e;exact go 5<|iCl v ((ms X B).len)<|go 3 ⟨_,Nat.lt_succ_self _,_,aY,b,f+1,aL,aZ,a0,aM,aN,a2,a3,aP,aT,aU,aV,a4,a5,aW,a6,a7,a8,aX,rfl,fK,B.trans ab.sub,bg,aac v,a9,ba,bb,bd,be,bf,h⟩
   ·refine gd 5 ?_;cases oj h n;exact end0 rfl ⟨a,i,l,o,p,q,r,s,t,u,rfl,e,N,O,S,U,V,W⟩
theorem ar8(k:Nat)(F:acy)(IH50:adP F.f50)(IH74:ad1 F.f74)(IH110:acS F.f110):ad1 (aq1 k F):=by
 intro K wi g bs br aA aB aG aH aI aK aL aM aN aP aT aU aV l D G aW aX fM kW kX kY kZ k0 k1 k2 k3 k4 k5 h hG fN fO fP fQ fS fT hbr fU fV;obtain⟨r_,n,h⟩:=rz h;obtain⟨s,y,z,A,p,B,q,x,t,u,f⟩:=fM;obtain⟨I,J,N,O,S,U,V,W,X,Y,rfl,cU,cV,bq,bL,cc,ce,bM⟩:=aag.open fU;refine en 134 Tryz.func74 rfl ?_;unfold aq1 at h;refine gI 9 [0,0,11] [] fV (fun fW es=>?_);have et:=p120 es;refine cB h (fun _ fX=>(awj k) fX (hG.mono kr) fN fO fP fQ fS fT (Nat.le_trans hbr es.size) (aag.intro cU cV bq bL cc ce bM)<|pt et) ?_;rintro⟨⟨fY,⟨fZ,f0,f1,f2,f3,f4⟩,f5,f7⟩,eu,ew⟩ _ k6⟨ex,ga,gb,gc,ge,gf,gg,gh,gi,gj,k7,k8,rfl,e,gk,gl,gn,gp,gq,gr,gs⟩ h;have ey:=ca e et;refine go 14<|wl ey (fun j m g_=>∃ez Z be,∃(bf:Nat),∃af aq ar ai aj au av al am an ak aw ax C ac ad ay bg,g_=be.length∧j ez [0,3,4,5] [(6,iI (bf:Int))]∧KH.sub ex Z∧m Z [] [.box bs g #[sl aq af ar,.string ai,sl au aj av,iI al,.bool am,iI an,sl aw ak ax,sl ac C ad,.bool bg] 90,.box (zz wi) (zz wi) (aS s y z A p B I q J N x O S t U V u W X f Y) 62,eW br ac C ad 3 1 ay]∧q.drop bf=be∧tF Z aq ar af∧ai.size≤mB∧tP Z au av aj∧tS Z aw ax ak∧Reps (RInt .i64) 1 C ay∧C.length*8≤mB∧ad3 k F s y z A p B q x t u f eu ew be bf af ai aj al am an ak C bg=some r_) q.length ?_ ?_
 ·exact⟨_,ex,q,0,fY,ga,gb,fZ,f0,gc,ge,f1,f2,f3,f4,gf,gg,f5,gh,gi,gj,f7,rfl,fK,kr,ey.sel [0,2,1],List.drop_zero,gk,gl,gn,gp,gq,gr,h⟩
 ·rintro _ _ gt⟨ez,Z,be,bf,af,aq,ar,ai,aj,au,av,al,am,an,ak,aw,ax,C,ac,ad,ay,bg,rfl,rfl,a,bh,bP,bu,bQ,bR,bS,bv,bw,h⟩;rcases be with _|⟨⟨k9,la,lc,ld,lf⟩,be⟩
  ·refine gD 7 [6,2] bh<|cNl bP<|go 8<|wk bh (fun j m=>∃eC cf,j eC [0,3] []∧m Z [] [.box bs g #[sl aq af ar,.string ai,sl au aj av,iI al,.bool am,iI an,sl aw ak ax,sl ac C ad,.bool cf] 90,.box (zz wi) (zz wi) (aS s y z A p B I q J N x O S t U V u W X f Y) 62,eW br ac C ad 3 1 ay]∧alH k F s y z A p B q x t u f af ai aj al am an ak C cf=some r_) ?_ ?_
   ·refine wk bh (fun j m=>∃eD dN,j eD [0,3] [(61,.bool dN)]∧m Z [] [.box bs g #[sl aq af ar,.string ai,sl au aj av,iI al,.bool am,iI an,sl aw ak ax,sl ac C ad,.bool bg] 90,.box (zz wi) (zz wi) (aS s y z A p B I q J N x O S t U V u W X f Y) 62,eW br ac C ad 3 1 ay]∧ali k F s y z A p B q x t u f af ai aj al am an ak C bg dN=some r_) ?_ ?_
    ·refine rB [] bh (fun dO bT=>ah 4 [0,0,1,2,2,3] bT<|bA 50 h ?_ ?_)<;>intro _ h
     ·refine ah 6 [4,5,6,0,7,1,8,4,9,2] bT ?_;obtain⟨⟨lg,lh,dP,li,lj,lk⟩,dQ,h⟩:=ob h;obtain⟨dR,cW,ll,gu,lm,gv,gw⟩:=(bu).row.at_ (aay dQ).1;obtain⟨ln,lo,lp,lq,rfl,lr,ls,lu⟩:=aak.open gw;exact tkPG (i:=10) (d:=50) (v:=pp dR (cW+p.toNat*6)) (L':=(lb 15 2047)) rfl (by kernel_rfl) (by kernel_rfl) (fun _ _ d _ _ h=>by cases d<;>exact h) rfl rfl (fun w=>ahI (b:=dR) (o:=cW) (i:=p) ar3 asM rfl gu rfl (aay dQ).2.1 (aay dQ).2.2) (ak7 bT) rfl (tkPG (i:=11) (d:=50) (v:=pp dR (cW+p.toNat*6+2)) (L':=(lb 15 4095)) rfl (by kernel_rfl) (by kernel_rfl) (fun _ _ d _ _ h=>by cases d<;>exact h) rfl rfl (fun w=>aeU (o':=cW+p.toNat*6+2) ao9 rfl rfl) (ak7 bT) rfl (tkFG (i:=12) (d:=50) (v:=iI dP) (ps:=[]) (L':=(lb 15 8191)) rfl (by kernel_rfl) (by kernel_rfl) (by kernel_rfl) (by kernel_rfl) (fun _ _ d _ _ h=>by cases d<;>exact h) rfl rfl (fq [0,1,2] dO) (fun w hF=>acE (v:=iI dP) Tya3 rfl<|hF.cell<|kr.cell<|gv 2 _ rfl) rfl (ah 2 [13,14] bT<|aD<|gx 1 ⟨_,decide<|dP>1,fK,dO,h⟩)))
     ·exact ah 11 [4,5,6,7,8,9,10,11,12,13,14] bT<|aD<|gx 1 ⟨_,false,fK,dO,h⟩
    ·rintro _ lv⟨eD,dN,rfl,eF,h⟩;refine bC 61 h ?_ ?_<;>intro _ h
     ·exact gI 8 [8,0] [] eF (fun lw gy=>⟨_,true,fK,gy,h⟩)
     ·exact gd 3 ⟨_,bg,fK,eF,h⟩
   ·rintro _ gz⟨eC,cf,rfl,bi,h⟩;refine gD 9 [8,1] bi (bC 68 h ?_ ?_)<;>intro _ h
    ·refine gd 3 ?_;cases oj h n;exact ret0 rfl ⟨Z,aq,ar,au,av,aw,ax,ac,ad,ay,rfl,bi.sel [0,2],bu,bQ,bR,bS,bv,bw⟩
    ·refine gd 3<|wk bi (fun j m=>∃eH ae a7 bx bz a8 a9 bB bD bj bk bm ba bE bF ab aY aZ bG bn,j eH [0,3] []∧KH.sub Z ae∧m ae [] [.box bs g #[sl bx a7 bz,.string a8,sl bB a9 bD,iI bj,.bool bk,iI bm,sl bE ba bF,sl aY ab aZ,.bool bn] 90,.box (zz wi) (zz wi) (aS s y z A p B I q J N x O S t U V u W X f Y) 62,eW br aY ab aZ 3 1 bG]∧tF ae bx bz a7∧a8.size≤mB∧tP ae bB bD a9∧tS ae bE bF ba∧Reps (RInt .i64) 1 ab bG∧ab.length*8≤mB∧ahF k F s y z A p B q x t u f a7 a8 a9 bj bk bm ba ab bn=some r_) ?_ ?_
     ·refine gD 7 [0,2] bi (bC 71 h ?_ ?_)<;>intro _ h
      ·refine gD 5 [7,2] bi ?_;have eI:SR K Z wi gz [.box bs g #[sl aB aA aG,.string aH,sl aK aI aL,iI aM,.bool aN,iI aP,sl aU aT aV,sl D l G,.bool aX] 90,eW br D l G 3 1 aW] [.box bs g #[sl aq af ar,.string ai,sl au aj av,iI al,.bool am,iI an,sl aw ak ax,sl ac C ad,.bool cf] 90,eW br ac C ad 3 1 ay,.box (zz wi) (zz wi) (aS s y z A p B I q J N x O S t U V u W X f Y) 62]:=bi.sel [0,2,1];refine cB h (fun _ gA=>IH50 gA (hG.mono<|e.sub.trans a) bu bQ bR bS bv bw (Nat.le_trans hbr bi.size) (ms bL<|e.sub.trans a)<|pt eI) ?_;rintro⟨gB,⟨gF,gG,gH,gJ,gK,gL⟩,gM,gN⟩ _ lx⟨gQ,gT,gU,gV,gW,gZ,g0,g1,g2,g3,rfl,eJ,g4,g5,g6,g7,g8,g9⟩ h;have ha:=ca eJ eI;exact go 2 ⟨_,gQ,gB,gT,gU,gF,gG,gV,gW,gH,gJ,gK,gL,gZ,g0,gM,g1,g2,g3,gN,fK,eJ.sub,ha.sel [0,2,1],g4,g5,g6,g7,g8,g9,h⟩
      ·exact gd 3 ⟨_,Z,af,aq,ar,ai,aj,au,av,al,am,an,ak,aw,ax,C,ac,ad,ay,cf,fK,kr,bi,bu,bQ,bR,bS,bv,bw,h⟩
     ·rintro _ ly⟨eH,ae,a7,bx,bz,a8,a9,bB,bD,bj,bk,bm,ba,bE,bF,ab,aY,aZ,bG,bn,rfl,r,bU,dS,dT,dU,dV,dW,dX,h⟩;refine wk bU (fun j m=>∃eL ao bV ch ci bW bX cj ck cl cm cn bY co cq az bZ b0 cr cs,j eL [0,3] []∧KH.sub ae ao∧m ao [] [.box bs g #[sl ch bV ci,.string bW,sl cj bX ck,iI cl,.bool cm,iI cn,sl co bY cq,sl bZ az b0,.bool cs] 90,.box (zz wi) (zz wi) (aS s y z A p B I q J N x O S t U V u W X f Y) 62,eW br bZ az b0 3 1 cr]∧tF ao ch ci bV∧bW.size≤mB∧tP ao cj ck bX∧tS ao co cq bY∧Reps (RInt .i64) 1 az cr∧az.length*8≤mB∧agG k F s x t u f bV bW bX cl cm cn bY az cs=some r_) ?_ ?_
      ·refine wk bU (fun j m=>∃eM dY,j eM [0,3] [(83,.bool dY)]∧m ae [] [.box bs g #[sl bx a7 bz,.string a8,sl bB a9 bD,iI bj,.bool bk,iI bm,sl bE ba bF,sl aY ab aZ,.bool bn] 90,.box (zz wi) (zz wi) (aS s y z A p B I q J N x O S t U V u W X f Y) 62,eW br aY ab aZ 3 1 bG]∧ak6 k F s y z A p B q x t u f a7 a8 a9 bj bk bm ba ab bn dY=some r_) ?_ ?_
       ·refine gD 5 [1,2] bU (bO 79 h ?_ ?_)<;>intro _ h
        ·exact gP 9 [0,2] bU ⟨_,s != 2,fK,bU,h⟩
        ·exact go 6 ⟨_,false,fK,bU,h⟩
       ·rintro _ eO⟨eM,dY,rfl,dZ,h⟩;refine bC 83 h ?_ ?_<;>intro _ h
        ·refine gd 1<|wk dZ (fun j m=>∃eP a0 ct cY cZ cu cw c2 c4 c5 c7 c8 cx da db a2 cy cz dc dd,j eP [0,3] []∧KH.sub ae a0∧m a0 [] [.box bs g #[sl cY ct cZ,.string cu,sl c2 cw c4,iI c5,.bool c7,iI c8,sl da cx db,sl cy a2 cz,.bool dd] 90,.box (zz wi) (zz wi) (aS s y z A p B I q J N x O S t U V u W X f Y) 62,eW br cy a2 cz 3 1 dc]∧tF a0 cY cZ ct∧cu.size≤mB∧tP a0 c2 c4 cw∧tS a0 da db cx∧Reps (RInt .i64) 1 a2 dc∧a2.length*8≤mB∧an0 k F s y z A p B q x t u f ct cu cw c5 c7 c8 cx a2 dd=some r_) ?_ ?_
         ·refine rB [5,6] dZ (fun b1 hb=>ah 4 [0,1,2,3,4,0,1,11] hb<|an2 (i:=2) (j:=5) ?_ ?_)
          ·refine opQ (i:=2) rfl<|gP 3 [2] b1<|wB (fq [0,1,2] b1) (fun lz=>aQ 5 rfl ?_);have eQ:SR K ae wi eO.drew [.box bs g #[sl aB aA aG,.string aH,sl aK aI aL,iI aM,.bool aN,iI aP,sl aU aT aV,sl D l G,.bool aX] 90,eW br D l G 3 1 aW] [.box bs g #[sl bx a7 bz,.string a8,sl bB a9 bD,iI bj,.bool bk,iI bm,sl bE ba bF,sl aY ab aZ,.bool bn] 90,eW br aY ab aZ 3 1 bG,.box (zz wi) (zz wi) (aS s y z A p B I q J N x O S t U V u W X f Y) 62]:=b1.sel [0,2,1];refine cB h (fun _ hc=>(amd k) hc (hG.mono<|(e.sub.trans a).trans r) dS dT dU dV dW dX (Nat.le_trans hbr b1.size) (aag.intro cU cV (me bq<|(e.sub.trans a).trans r) (ms bL<|(e.sub.trans a).trans r) (ms cc<|(e.sub.trans a).trans r) (ms ce<|(e.sub.trans a).trans r)<|mc bM<|(e.sub.trans a).trans r)<|pt eQ) ?_;rintro⟨⟨hd,⟨he,hf,hg,hh,hi,hj⟩,hk,hl⟩,hm⟩ _ lB⟨lE,lF,lG,lH,lI,lJ,lK,lL,lM,lP,rfl,d0,hn,ho,hp,hq,hr,hs⟩ h;have d1:=ca d0 eQ;refine go 2 ⟨hE 5,aQ 6 rfl<|cB h (fun _ ht=>(anu k) ht (hG.mono<|((e.sub.trans a).trans r).trans d0.sub) hn ho hp hq hr hs (Nat.le_trans hbr d1.size)<|pt d1) ?_⟩;rintro⟨d2,⟨d3,d4,d5,d6,d7,d8⟩,d9,ea⟩ _ lQ⟨hu,hv,hw,hx,hy,hz,hA,hB,hC,hD,rfl,eR,hH,hI,hJ,hK,hL,hM⟩ h;have hN:=ca eR d1;exact go 2 ⟨hE 6,aD<|gx 1 ⟨_,hu,d2,hv,hw,d3,d4,hx,hy,d5,d6,d7,d8,hz,hA,d9,hB,hC,hD,ea,fK,d0.sub.trans eR.sub,hN.sel [0,2,1],hH,hI,hJ,hK,hL,hM,h⟩⟩
          ·refine opQ (i:=5) rfl ?_;have eS:SR K ae wi eO.drew [.box bs g #[sl aB aA aG,.string aH,sl aK aI aL,iI aM,.bool aN,iI aP,sl aU aT aV,sl D l G,.bool aX] 90,eW br D l G 3 1 aW] [.box bs g #[sl bx a7 bz,.string a8,sl bB a9 bD,iI bj,.bool bk,iI bm,sl bE ba bF,sl aY ab aZ,.bool bn] 90,eW br aY ab aZ 3 1 bG,.box (zz wi) (zz wi) (aS s y z A p B I q J N x O S t U V u W X f Y) 62]:=b1.sel [0,2,1];refine cB h (fun _ hO=>(amd k) hO (hG.mono<|(e.sub.trans a).trans r) dS dT dU dV dW dX (Nat.le_trans hbr b1.size) (aag.intro cU cV (me bq<|(e.sub.trans a).trans r) (ms bL<|(e.sub.trans a).trans r) (ms cc<|(e.sub.trans a).trans r) (ms ce<|(e.sub.trans a).trans r)<|mc bM<|(e.sub.trans a).trans r)<|pt eS) ?_;rintro⟨⟨hd,⟨he,hf,hg,hh,hi,hj⟩,hk,hl⟩,hm⟩ _ lR⟨lT,lU,lV,lW,lY,lZ,l0,l2,l3,l4,rfl,ec,hP,hQ,hR,hS,hT,hU⟩ h;have de:=ca ec eS;refine go 2 ⟨hE 5,aQ 2 rfl<|gP 3 [3] de ⟨hE 5,aQ 6 rfl<|cB h (fun _ hV=>(anu k) hV (hG.mono<|((e.sub.trans a).trans r).trans ec.sub) hP hQ hR hS hT hU (Nat.le_trans hbr de.size)<|pt de) ?_⟩⟩;rintro⟨d2,⟨d3,d4,d5,d6,d7,d8⟩,d9,ea⟩ _ l5⟨hW,hX,hY,hZ,h0,h1,h2,h3,h4,h5,rfl,eT,h6,h7,h8,h9,ia,ib⟩ h;have ic:=ca eT de;exact go 2 ⟨hE 6,aD<|gx 1 ⟨_,hW,d2,hX,hY,d3,d4,hZ,h0,d5,d6,d7,d8,h1,h2,d9,h3,h4,h5,ea,fK,ec.sub.trans eT.sub,ic.sel [0,2,1],h6,h7,h8,h9,ia,ib,h⟩⟩
         ·rintro _ id⟨eP,a0,ct,cY,cZ,cu,cw,c2,c4,c5,c7,c8,cx,da,db,a2,cy,cz,dc,dd,rfl,bo,ed,ie,ig,ih,ii,ij,ik,h⟩;refine gD 4 [0,1,11] ed ?_;have eU:SR K a0 wi id [.box bs g #[sl aB aA aG,.string aH,sl aK aI aL,iI aM,.bool aN,iI aP,sl aU aT aV,sl D l G,.bool aX] 90,eW br D l G 3 1 aW] [.box bs g #[sl cY ct cZ,.string cu,sl c2 cw c4,iI c5,.bool c7,iI c8,sl da cx db,sl cy a2 cz,.bool dd] 90,eW br cy a2 cz 3 1 dc,.box (zz wi) (zz wi) (aS s y z A p B I q J N x O S t U V u W X f Y) 62]:=ed.sel [0,2,1];refine cB h (fun _ il=>(amd k) il (hG.mono<|((e.sub.trans a).trans r).trans bo) ie ig ih ii ij ik (Nat.le_trans hbr ed.size) (aag.intro cU cV (me bq<|((e.sub.trans a).trans r).trans bo) (ms bL<|((e.sub.trans a).trans r).trans bo) (ms cc<|((e.sub.trans a).trans r).trans bo) (ms ce<|((e.sub.trans a).trans r).trans bo)<|mc bM<|((e.sub.trans a).trans r).trans bo)<|pt eU) ?_;rintro⟨⟨eV,⟨eX,eY,eZ,e0,e1,e3⟩,e4,im⟩,l6⟩ _ l7⟨e5,e6,e7,e8,e9,fa,fb,fc,fe,ff,rfl,ee,fg,fh,fi,fj,fk,fl⟩ h;have fm:=ca ee eU;refine go 3 (bC 94 h ?_ ?_)<;>intro _ h
          ·exact gI 8 [8,0] [] fm (fun l8 io=>⟨_,e5,eV,e6,e7,eX,eY,e8,e9,eZ,e0,e1,e3,fa,fb,e4,fc,fe,ff,true,fK,bo.trans ee.sub,io.sel [0,2,1],fg,fh,fi,fj,fk,fl,h⟩)
          ·exact gd 3 ⟨_,e5,eV,e6,e7,eX,eY,e8,e9,eZ,e0,e1,e3,fa,fb,e4,fc,fe,ff,im,fK,bo.trans ee.sub,fm.sel [0,2,1],fg,fh,fi,fj,fk,fl,h⟩
        ·exact gd 3 ⟨_,ae,a7,bx,bz,a8,a9,bB,bD,bj,bk,bm,ba,bE,bF,ab,aY,aZ,bG,bn,fK,kr,dZ,dS,dT,dU,dV,dW,dX,h⟩
      ·rintro _ ip⟨eL,ao,bV,ch,ci,bW,bX,cj,ck,cl,cm,cn,bY,co,cq,az,bZ,b0,cr,cs,rfl,bb,b2,fn,fo,fp,fs,ft,fu,h⟩;refine wk b2 (fun j m=>∃fv a3 cA df dg cC cD dh di dj dk dl cG dm dn a4 cH cI dp dq,j fv [0,3] []∧KH.sub ao a3∧m a3 [] [.box bs g #[sl df cA dg,.string cC,sl dh cD di,iI dj,.bool dk,iI dl,sl dm cG dn,sl cH a4 cI,.bool dq] 90,.box (zz wi) (zz wi) (aS s y z A p B I q J N x O S t U V u W X f Y) 62,eW br cH a4 cI 3 1 dp]∧tF a3 df dg cA∧cC.size≤mB∧tP a3 dh di cD∧tS a3 dm dn cG∧Reps (RInt .i64) 1 a4 dp∧a4.length*8≤mB∧ahv k F t u f cA cC cD dj dk dl cG a4 dq=some r_) ?_ ?_
       ·refine gD 7 [0,2] b2 (bC 100 h ?_ ?_)<;>intro _ h
        ·refine gD 5 [7,2] b2 ?_;have fx:SR K ao wi ip [.box bs g #[sl aB aA aG,.string aH,sl aK aI aL,iI aM,.bool aN,iI aP,sl aU aT aV,sl D l G,.bool aX] 90,eW br D l G 3 1 aW] [.box bs g #[sl ch bV ci,.string bW,sl cj bX ck,iI cl,.bool cm,iI cn,sl co bY cq,sl bZ az b0,.bool cs] 90,eW br bZ az b0 3 1 cr,.box (zz wi) (zz wi) (aS s y z A p B I q J N x O S t U V u W X f Y) 62]:=b2.sel [0,2,1];refine cB h (fun _ iq=>IH50 iq (hG.mono<|((e.sub.trans a).trans r).trans bb) fn fo fp fs ft fu (Nat.le_trans hbr b2.size) (ms bL<|((e.sub.trans a).trans r).trans bb)<|pt fx) ?_;rintro⟨ir,⟨it,iu,iv,iw,ix,iy⟩,iz,iA⟩ _ l9⟨iB,iC,iD,iE,iF,iG,iH,iJ,iK,iL,rfl,fy,iM,iN,iO,iP,iQ,iR⟩ h;have iS:=ca fy fx;exact go 2 ⟨_,iB,ir,iC,iD,it,iu,iE,iF,iv,iw,ix,iy,iG,iH,iz,iJ,iK,iL,iA,fK,fy.sub,iS.sel [0,2,1],iM,iN,iO,iP,iQ,iR,h⟩
        ·exact gd 3 ⟨_,ao,bV,ch,ci,bW,bX,cj,ck,cl,cm,cn,bY,co,cq,az,bZ,b0,cr,cs,fK,kr,b2,fn,fo,fp,fs,ft,fu,h⟩
       ·rintro _ iT⟨fv,a3,cA,df,dg,cC,cD,dh,di,dj,dk,dl,cG,dm,dn,a4,cH,cI,dp,dq,rfl,bH,ef,iU,iV,iW,iX,iY,iZ,h⟩;refine gD 5 [8,2] ef ?_;have fz:SR K a3 wi iT [.box bs g #[sl aB aA aG,.string aH,sl aK aI aL,iI aM,.bool aN,iI aP,sl aU aT aV,sl D l G,.bool aX] 90,eW br D l G 3 1 aW] [.box bs g #[sl df cA dg,.string cC,sl dh cD di,iI dj,.bool dk,iI dl,sl dm cG dn,sl cH a4 cI,.bool dq] 90,eW br cH a4 cI 3 1 dp,.box (zz wi) (zz wi) (aS s y z A p B I q J N x O S t U V u W X f Y) 62]:=ef.sel [0,2,1];refine cB h (fun _ i0=>IH50 i0 (hG.mono<|(((e.sub.trans a).trans r).trans bb).trans bH) iU iV iW iX iY iZ (Nat.le_trans hbr ef.size) (ms cc<|(((e.sub.trans a).trans r).trans bb).trans bH)<|pt fz) ?_;rintro⟨ma,⟨mb,md,mg,mh,mi,mj⟩,mk,ml⟩ _ mm⟨mn,mo,mq,mr,mt,mu,mw,mx,my,mz,rfl,b3,i1,i2,i3,i4,i5,i6⟩ h;have dr:=ca b3 fz;refine gP 7 [9,3] dr<|cB h (fun _ i7=>IH50 i7 (hG.mono<|((((e.sub.trans a).trans r).trans bb).trans bH).trans b3.sub) i1 i2 i3 i4 i5 i6 (Nat.le_trans hbr dr.size) (ms ce<|((((e.sub.trans a).trans r).trans bb).trans bH).trans b3.sub)<|pt dr) ?_;rintro⟨i8,⟨i9,ja,jb,jc,jd,je⟩,jf,jg⟩ _ mA⟨fA,jh,ji,jj,jk,jl,jm,jn,jo,jp,rfl,ds,jq,jr,js,jt,ju,jv⟩ h;have fB:=ca ds dr;refine go 8<|wl fB (fun j m g_=>∃fC ap bI,∃(cJ:Nat),∃cK b4 b5 cL cM b6 b7 dt du dv cN b8 b9 a5 bJ bK cb dw,g_=bI.length∧j fC [0,3] [(7,iI (cJ:Int))]∧KH.sub fA ap∧m ap [] [.box bs g #[sl b4 cK b5,.string cL,sl b6 cM b7,iI dt,.bool du,iI dv,sl b8 cN b9,sl bJ a5 bK,.bool dw] 90,.box (zz wi) (zz wi) (aS s y z A p B I q J N x O S t U V u W X f Y) 62,eW br bJ a5 bK 3 1 cb]∧f.drop cJ=bI∧tF ap b4 b5 cK∧cL.size≤mB∧tP ap b6 b7 cM∧tS ap b8 b9 cN∧Reps (RInt .i64) 1 a5 cb∧a5.length*8≤mB∧ah7 k F bI cJ cK cL cM dt du dv cN a5 dw=some r_) f.length ?_ ?_
        ·exact⟨_,fA,f,0,i8,jh,ji,i9,ja,jj,jk,jb,jc,jd,je,jl,jm,jf,jn,jo,jp,jg,rfl,fK,kr,fB.sel [0,2,1],List.drop_zero,jq,jr,js,jt,ju,jv,h⟩
        ·rintro _ _ jw⟨fC,ap,bI,cJ,cK,b4,b5,cL,cM,b6,b7,dt,du,dv,cN,b8,b9,a5,bJ,bK,cb,dw,rfl,rfl,dx,bd,cO,eg,eh,ei,ej,ek,el,h⟩;rcases bI with _|⟨⟨mC,mD,mE,mF,mG⟩,bI⟩
         ·refine gD 7 [10,2] bd<|cNl cO<|go 14 ?_;cases oj h n;exact end0 rfl ⟨ap,b4,b5,b6,b7,b8,b9,bJ,bK,cb,rfl,bd.sel [0,2],eg,eh,ei,ej,ek,el⟩
         ·refine gD 7 [10,2] bd (cCl cO<|gP 14 [8,1] bd<|bC 124 h ?_ ?_)<;>intro _ h
          ·refine gD 10 [10,2] bd<|eN bd (mc bM<|((((((e.sub.trans a).trans r).trans bb).trans bH).trans b3.sub).trans ds.sub).trans dx) cO aar.open ?_;rintro mH mJ mK mL mM jx⟨mN,mO,mP,mQ,rfl,mR,mS,mT⟩;have fD:SR K ap wi jw [.box bs g #[sl aB aA aG,.string aH,sl aK aI aL,iI aM,.bool aN,iI aP,sl aU aT aV,sl D l G,.bool aX] 90,eW br D l G 3 1 aW] [.box bs g #[sl b4 cK b5,.string cL,sl b6 cM b7,iI dt,.bool du,iI dv,sl b8 cN b9,sl bJ a5 bK,.bool dw] 90,eW br bJ a5 bK 3 1 cb,.box (zz wi) (zz wi) (aS s y z A p B I q J N x O S t U V u W X f Y) 62]:=bd.sel [0,2,1];refine cB h (fun _ jy=>IH110 jy (hG.mono<|((((((e.sub.trans a).trans r).trans bb).trans bH).trans b3.sub).trans ds.sub).trans dx) eg eh ei ej ek el (Nat.le_trans hbr bd.size) jx<|pt fD) ?_;rintro⟨jz,⟨jA,jB,jC,jD,jE,jF⟩,jG,jH⟩ _ mU⟨jI,jK,jL,jM,jN,jO,jP,jQ,jR,jS,rfl,fE,jT,jU,jV,jW,jX,jY⟩ h;have jZ:=ca fE fD;exact go 5<|iCl cO ((mc bM<|((((((e.sub.trans a).trans r).trans bb).trans bH).trans b3.sub).trans ds.sub).trans dx).len)<|go 3 ⟨_,Nat.lt_succ_self _,_,jI,bI,cJ+1,jz,jK,jL,jA,jB,jM,jN,jC,jD,jE,jF,jO,jP,jG,jQ,jR,jS,jH,rfl,fK,dx.trans fE.sub,jZ.sel [0,2,1],aac cO,jT,jU,jV,jW,jX,jY,h⟩
          ·refine gd 5 ?_;cases oj h n;exact end0 rfl ⟨ap,b4,b5,b6,b7,b8,b9,bJ,bK,cb,rfl,bd.sel [0,2],eg,eh,ei,ej,ek,el⟩
  ·refine gD 7 [6,2] bh<|cCl bP<|go 5<|wk bh (fun j m=>∃fF a6 cP dy dz cQ cR dA dB dC dD dE cS dF dG bp dH dI dJ dK,j fF [0,3,4,5,6] []∧KH.sub Z a6∧m a6 [] [.box bs g #[sl dy cP dz,.string cQ,sl dA cR dB,iI dC,.bool dD,iI dE,sl dF cS dG,sl dH bp dI,.bool dK] 90,.box (zz wi) (zz wi) (aS s y z A p B I q J N x O S t U V u W X f Y) 62,eW br dH bp dI 3 1 dJ]∧tF a6 dy dz cP∧cQ.size≤mB∧tP a6 dA dB cR∧tS a6 dF dG cS∧Reps (RInt .i64) 1 bp dJ∧bp.length*8≤mB∧anA k F bf cP cQ cR dC dD dE cS bp dK (ad3 k F s y z A p B q x t u f eu ew be)=some r_) ?_ ?_
   ·refine gd 6 (bC 21 h ?_ ?_)<;>intro _ h
    ·refine gd 1<|rB [10] bh (fun em dL=>ah 4 [0,1,6,2,2,3] dL<|eA 4 5 rfl rfl dL (me bq<|e.sub.trans a) bP aai.open ?_);rintro mV mW mX mY mZ j0⟨m0,m4,rfl,m5,m6⟩;refine ah 2 [6,7] dL ?_;obtain⟨fG,eo,h⟩:=ob h;obtain⟨fH,fI,m7,j1,m8,j2,j3⟩:=((gs.mono a (fun _ _ h=>h))).row.at_ (aay eo).1;obtain rfl:=j3;refine kGl 3 1 8 rfl j1 eo dL<|tT 9 (iI fG) [[10,9]] rfl (fq [0,1,2] em) (fun w hF=>acE (v:=iI fG) Tya3 rfl<|hF.cell<|kr.cell<|j2 0 _ rfl)<|aQ 10 rfl ?_;have fJ:SR K Z wi gt.drew [.box bs g #[sl aB aA aG,.string aH,sl aK aI aL,iI aM,.bool aN,iI aP,sl aU aT aV,sl D l G,.bool aX] 90,eW br D l G 3 1 aW] [.box bs g #[sl aq af ar,.string ai,sl au aj av,iI al,.bool am,iI an,sl aw ak ax,sl ac C ad,.bool bg] 90,eW br ac C ad 3 1 ay,.box (zz wi) (zz wi) (aS s y z A p B I q J N x O S t U V u W X f Y) 62]:=em.sel [0,2,1];refine cB h (fun _ j4=>(apL k) j4 (hG.mono<|e.sub.trans a) bu bQ bR bS bv bw (Nat.le_trans hbr em.size) j0<|pt fJ) ?_;rintro⟨j5,⟨j6,j7,j8,j9,ka,kb⟩,kc,kd⟩ _ m9⟨ke,kf,kg,kh,ki,kj,kk,kl,km,kn,rfl,fL,ko,kq,ks,kt,ku,kv⟩ h;have kw:=ca fL fJ;exact go 2 ⟨hE 10,aD<|gx 2 ⟨_,ke,j5,kf,kg,j6,j7,kh,ki,j8,j9,ka,kb,kj,kk,kc,kl,km,kn,kd,fK,fL.sub,kw.sel [0,2,1],ko,kq,ks,kt,ku,kv,h⟩⟩
    ·refine gd 2<|rB [] bh (fun dM ep=>ah 3 [0,6,1,2,2] ep<|eA 3 4 rfl rfl ep (me bq<|e.sub.trans a) bP aai.open ?_);rintro na nb nc nd ne kx⟨nf,ng,rfl,nh,ni⟩;refine ah 4 [5,6,7,7,8,1] ep<|aQ 9 rfl<|cB h (fun _ ky=>(aqS k) ky (hG.mono<|(e.sub.trans a).trans<|KW.sub dM.le) (aai.mono (KW.sub dM.le) kx) (adS (dM.entAt (i:=2) rfl) bv bw)<|Sx.all _) ?_;rintro nj _ nk⟨nl,rfl,kz⟩ h;have eq:=dM.lend kz;refine go 2 (wB (fq [0,1,2] eq) (fun kB=>ah 1 [10] kB<|aD<|gx 1<|bC 43 h ?_ ?_))<;>intro _ h
     ·exact gI 9 [8,0] [] eq (fun nm kD=>⟨_,Z,af,aq,ar,ai,aj,au,av,al,am,an,ak,aw,ax,C,ac,ad,ay,true,fK,kr,kD,bu,bQ,bR,bS,bv,bw,h⟩)
     ·exact gd 4 ⟨_,Z,af,aq,ar,ai,aj,au,av,al,am,an,ak,aw,ax,C,ac,ad,ay,bg,fK,kr,eq,bu,bQ,bR,bS,bv,bw,h⟩
   ·rintro _ nn⟨fF,a6,cP,dy,dz,cQ,cR,dA,dB,dC,dD,dE,cS,dF,dG,bp,dH,dI,dJ,dK,rfl,kJ,kO,kP,kQ,kR,kT,kU,kV,h⟩;exact gd 2<|iCl bP ((me bq<|e.sub.trans a).len)<|go 3 ⟨_,Nat.lt_succ_self _,_,a6,be,bf+1,cP,dy,dz,cQ,cR,dA,dB,dC,dD,dE,cS,dF,dG,bp,dH,dI,dJ,dK,rfl,fK,a.trans kJ,kO,aac bP,kP,kQ,kR,kT,kU,kV,h⟩
theorem apk(k:Nat)(F:acy)(IH50:adP F.f50)(IH74:ad1 F.f74)(IH110:acS F.f110):acS (alg k F):=by
 intro K wi g bs br ao aL aM ap aq aN aP ar au av aw aT aU f C D aV ax bJ dH dI dJ dK dL dM dN dO dP dQ h hG bK bL bM bP bQ bR hbr bS bT;obtain⟨n,o,h⟩:=rz h;obtain⟨x,U,y,l,r⟩:=bJ;obtain⟨V,W,X,Y,rfl,dR,bn,bU⟩:=aar.open bS;refine en 40 Tryz.func110 rfl ?_;unfold alg at h;refine gI 7 [] [] bT (fun bV bW=>bsl (e:=3) (cells:=#[iI 4,iI 1]) (vs:=[(0,iI 4),(1,iI 1)]) bW rfl (fun w=>by kernel_rfl) (fun bX bY=>?_));obtain⟨bo,aW,s,bZ⟩:=fzi 0 [4,1] bY rfl;refine go 3<|wk aW (fun j m=>∃bp Z ay ba bb,j bp [0,3] [(4,sl ba ay bb)]∧KH.sub bo Z∧m Z [0,1] [.box (zz wi) (zz wi) (aC' x U y V l W X r Y) 84]∧RSl Int (RInt .i64) 1 8 Z ba bb ay∧aj2 k F ao ap aq ar au av aw f ax x y l r ay=some n) ?_ ?_
 ·refine gD 7 [0,1] aW (bC 9 h ?_ ?_)<;>intro _ h
  ·refine gI 3 [3] [] aW (fun dS b0=>?_);obtain⟨b1,b2,b3,b4⟩:=fzi 0 [1] b0 rfl;exact go 3 ⟨_,b1,[1],some ⟨zz bX,0,none⟩,1,fK,b3,b2.sel [1,2,0],b4,h⟩
  ·exact gd 3 ⟨_,bo,[4,1],some ⟨zz bV,0,none⟩,2,fK,kr,aW.sel [1,2,0],bZ,h⟩
 ·rintro _ dT⟨bp,Z,ay,ba,bb,rfl,t,bq,b5,h⟩;refine gd 7<|wl bq (fun j m g_=>∃bu d G,∃(I:Nat),∃J ab ac N O ad ae af ai aj S ak al a z A am an,g_=G.length∧j bu [0,3,4] [(5,iI (I:Int))]∧KH.sub Z d∧m d [] [.box bs g #[sl ab J ac,.string N,sl ad O ae,iI af,.bool ai,iI aj,sl ak S al,sl z a A,.bool an] 90,.box (zz wi) (zz wi) (aC' x U y V l W X r Y) 84,eW br z a A 3 1 am]∧l.drop I=G∧tF d ab ac J∧N.size≤mB∧tP d ad ae O∧tS d ak al S∧Reps (RInt .i64) 1 a am∧a.length*8≤mB∧aeY k F x y r ay G I J N O af ai aj S a an=some n) l.length ?_ ?_
  ·exact⟨_,Z,l,0,ao,aL,aM,ap,aq,aN,aP,ar,au,av,aw,aT,aU,f,C,D,aV,ax,rfl,fK,kr,bq.sel [0,2,1],List.drop_zero,mf bK<|s.trans t,bL,mp bM<|s.trans t,ms bP<|s.trans t,bQ.mono (fun _ _ h=>h),bR,h⟩
  ·rintro _ _ bv⟨bu,d,G,I,J,ab,ac,N,O,ad,ae,af,ai,aj,S,ak,al,a,z,A,am,an,rfl,rfl,B,u,az,bd,be,bf,bg,bh,bi,h⟩;rcases G with _|⟨⟨dU,dV,dW,dX,dY⟩,G⟩
   ·refine gD 7 [3,2] u<|cNl az<|go 8<|wk u (fun j m=>∃bw p aA aX aY aB aG aZ a0 a2 a3 a4 aH a5 a6 q aI aK a7 a8,j bw [0,3] []∧KH.sub d p∧m p [] [.box bs g #[sl aX aA aY,.string aB,sl aZ aG a0,iI a2,.bool a3,iI a4,sl a5 aH a6,sl aI q aK,.bool a8] 90,.box (zz wi) (zz wi) (aC' x U y V l W X r Y) 84,eW br aI q aK 3 1 a7]∧tF p aX aY aA∧aB.size≤mB∧tP p aZ a0 aG∧tS p a5 a6 aH∧Reps (RInt .i64) 1 q a7∧q.length*8≤mB∧aeV k F r aA aB aG a2 a3 a4 aH q a8=some n) ?_ ?_
    ·refine gD 7 [0,2] u (bC 31 h ?_ ?_)<;>intro _ h
     ·refine gD 5 [2,2] u ?_;have bx:SR K d wi bv [.box bs g #[sl aL ao aM,.string ap,sl aN aq aP,iI ar,.bool au,iI av,sl aT aw aU,sl C f D,.bool ax] 90,eW br C f D 3 1 aV] [.box bs g #[sl ab J ac,.string N,sl ad O ae,iI af,.bool ai,iI aj,sl ak S al,sl z a A,.bool an] 90,eW br z a A 3 1 am,.box (zz wi) (zz wi) (aC' x U y V l W X r Y) 84]:=u.sel [0,2,1];refine cB h (fun _ b6=>(anu k) b6 (hG.mono<|(s.trans t).trans B) bd be bf bg bh bi (Nat.le_trans hbr u.size)<|pt bx) ?_;rintro⟨b7,⟨b8,b9,cb,cc,ce,cf⟩,ch,ci⟩ _ dZ⟨cj,ck,cl,cm,cn,co,cq,cr,cs,ct,rfl,bz,cu,cw,cx,cy,cz,cA⟩ h;have cC:=ca bz bx;exact go 2 ⟨_,cj,b7,ck,cl,b8,b9,cm,cn,cb,cc,ce,cf,co,cq,ch,cr,cs,ct,ci,fK,bz.sub,cC.sel [0,2,1],cu,cw,cx,cy,cz,cA,h⟩
     ·exact gd 3 ⟨_,d,J,ab,ac,N,O,ad,ae,af,ai,aj,S,ak,al,a,z,A,am,an,fK,kr,u,bd,be,bf,bg,bh,bi,h⟩
    ·rintro _ cD⟨bw,p,aA,aX,aY,aB,aG,aZ,a0,a2,a3,a4,aH,a5,a6,q,aI,aK,a7,a8,rfl,bB,bj,cG,cH,cI,cJ,cK,cL,h⟩;refine gD 4 [4,2] bj ?_;have bD:SR K p wi cD [.box bs g #[sl aL ao aM,.string ap,sl aN aq aP,iI ar,.bool au,iI av,sl aT aw aU,sl C f D,.bool ax] 90,eW br C f D 3 1 aV] [.box bs g #[sl aX aA aY,.string aB,sl aZ aG a0,iI a2,.bool a3,iI a4,sl a5 aH a6,sl aI q aK,.bool a8] 90,eW br aI q aK 3 1 a7,.box (zz wi) (zz wi) (aC' x U y V l W X r Y) 84]:=bj.sel [0,2,1];refine cB h (fun _ cM=>IH50 cM (hG.mono<|((s.trans t).trans B).trans bB) cG cH cI cJ cK cL (Nat.le_trans hbr bj.size) (ms bU<|((s.trans t).trans B).trans bB)<|pt bD) ?_;rintro⟨d0,⟨d1,d2,d3,d4,d5,d6⟩,d7,d8⟩ _ d9⟨cN,cO,cP,cQ,cR,cS,cU,cV,cW,cY,rfl,cZ,c3,c4,c6,c7,c8,c9⟩ h;have da:=ca cZ bD;refine go 1 ?_;cases oj h o;exact end0 rfl ⟨cN,cO,cP,cQ,cR,cS,cU,cV,cW,cY,rfl,da.sel [0,1],c3,c4,c6,c7,c8,c9⟩
   ·refine gD 7 [3,2] u<|cCl az<|go 7<|rB [10] u (fun bk a9=>ah 4 [0,1,3,2,2,3] a9<|eA 4 5 rfl rfl a9 (me bn<|(s.trans t).trans B) az aai.open ?_);rintro ea ec ed ee ef db⟨eg,eh,rfl,ei,ej⟩;refine ah 2 [6,7] a9 ?_;obtain⟨bE,bm,h⟩:=ob h;obtain⟨bF,bG,ek,dc,el,dd,de⟩:=((b5.mono B (fun _ _ h=>h))).row.at_ (aay bm).1;obtain rfl:=de;refine kGl 3 1 8 rfl dc bm a9<|tT 9 (iI bE) [[10,9]] rfl (fq [0,1,2] bk) (fun w hF=>acE (v:=iI bE) Tya3 rfl<|hF.cell<|kr.cell<|dd 0 _ rfl)<|aQ 10 rfl ?_;have bH:SR K d wi bv.drew [.box bs g #[sl aL ao aM,.string ap,sl aN aq aP,iI ar,.bool au,iI av,sl aT aw aU,sl C f D,.bool ax] 90,eW br C f D 3 1 aV] [.box bs g #[sl ab J ac,.string N,sl ad O ae,iI af,.bool ai,iI aj,sl ak S al,sl z a A,.bool an] 90,eW br z a A 3 1 am,.box (zz wi) (zz wi) (aC' x U y V l W X r Y) 84]:=bk.sel [0,2,1];refine cB h (fun _ df=>(apL k) df (hG.mono<|(s.trans t).trans B) bd be bf bg bh bi (Nat.le_trans hbr bk.size) db<|pt bH) ?_;rintro⟨dg,⟨dh,di,dj,dk,dl,dm⟩,dn,dp⟩ _ em⟨dq,dr,ds,dt,du,dv,dw,dx,dy,dz,rfl,bI,dA,dB,dC,dD,dE,dF⟩ h;have dG:=ca bI bH;exact go 2 ⟨hE 10,aD<|gx 4<|iCl az ((me bn<|(s.trans t).trans B).len)<|go 3 ⟨_,Nat.lt_succ_self _,_,dq,G,I+1,dg,dr,ds,dh,di,dt,du,dj,dk,dl,dm,dv,dw,dn,dx,dy,dz,dp,rfl,fK,B.trans bI.sub,dG.sel [0,2,1],aac az,dA,dB,dC,dD,dE,dF,h⟩⟩
theorem akc(k0:Nat) : ∀k,adP (acT k0 k).f50∧ad1 (acT k0 k).f74∧acS (acT k0 k).f110:=by
 intro k;induction k with
 | zero=>exact⟨by simp[adP,acT],by simp[ad1,acT],by simp[acS,acT]⟩
 | succ k ih=>exact⟨asC k0 (acT k0 k) ih.1 ih.2.1 ih.2.2,ar8 k0 (acT k0 k) ih.1 ih.2.1 ih.2.2,apk k0 (acT k0 k) ih.1 ih.2.1 ih.2.2⟩
theorem axY(k:Nat):adP (f50 k):=(akc k k).1
theorem ayZ(k:Nat):ad1 (f74 k):=(akc k k).2.1
theorem ayP(k:Nat):acS (f110 k):=(akc k k).2.2
theorem atT(k:Nat):asQ (f27 k):=by
 intro K wi af ai aj aY ci cj ck h hG aZ a2 a3;obtain⟨n,o,h⟩:=rz h;obtain⟨s,f,l,t,a,p⟩:=aY;obtain⟨u,x,y,z,rfl,a4,ao,ap⟩:=aak.open a2;refine en 52 Tryz.func27 rfl ?_;unfold f27 at h;refine gI 8 [] [] a3 (fun ak a5=>rB [] a5 (fun a6 a7=>ah 4 [0,1,0,0,6,2,4,3,1] a7<|aQ 4 rfl ?_));obtain⟨az,h⟩:=aaQ h;refine mkS (m:=a) aeP Tyi3 rfl rfl a6 az (by decide) (fun a8 al aA a9=>go 2<|wB (fq [1] aA) (fun ba=>kK 5 (.agg #[sl ai af aj,.string s,sl u f x,iI l,.bool t,iI a,sl y p z,.slice (some ⟨zz ak.drew,0,none⟩) (List.replicate a.toNat (0:Int)).length a.toNat,vN]) rfl (fun w=>ae3 (cells:=#[sl ai af aj,.string s,sl u f x,iI l,.bool t,iI a,sl y p z,.slice (some ⟨zz ak.drew,0,none⟩) (List.replicate a.toNat (0:Int)).length a.toNat,vN]) (vs:=[(0,sl ai af aj),(1,.agg<|aF s u f x l t a y p z),(2,.slice (some ⟨zz ak.drew,0,none⟩) (List.replicate a.toNat (0:Int)).length a.toNat)]) rfl (fun w=>by kernel_rfl)) ba<|aQ 6 rfl<|gR 3 [] [] aA (fun cl aq=>wB (fq [2] aq) (fun bb=>ah 1 [7] bb<|aD<|gx 8<|wl aq (fun j m g_=>∃aB e A,∃(B:Nat),∃G S U I J V W X Y Z N ab ac d C D ad ae,g_=A.length∧j aB [3,6] [(7,iI (B:Int))]∧KH.sub K e∧m e [] [.box (zz wi) (zz wi) (aF s u f x l t a y p z) 52,.box (zz wi) (zz al) #[sl S G U,.string I,sl V J W,iI X,.bool Y,iI Z,sl ab N ac,sl C d D,.bool ae] 90,eW (zz wi) C d D 3 1 ad]∧f.drop B=A∧tF e S U G∧I.size≤mB∧tP e V W J∧tS e ab ac N∧Reps (RInt .i64) 1 d ad∧d.length*8≤mB∧ah5 k l p A B G I J X Y Z N d ae=some n) f.length ?_ ?_))))
 ·exact⟨_,K,f,0,af,ai,aj,s,f,u,x,l,t,a,p,y,z,List.replicate a.toNat (0:Int),some ⟨zz ak.drew,0,none⟩,a.toNat,a8,false,rfl,fK,kr,aq.sel [2,0,1],List.drop_zero,aZ,a4,ao,ap,a9,arf az,h⟩
 ·rintro _ _ aG⟨aB,e,A,B,G,S,U,I,J,V,W,X,Y,Z,N,ab,ac,d,C,D,ad,ae,rfl,rfl,q,g,O,aH,aI,aK,aL,aM,aN,h⟩;rcases A with _|⟨⟨cm,bd⟩,A⟩
  ·refine gD 7 [1,1] g<|cNl O<|gP 13 [5,1] g ?_;have aP:=p120 g;refine cB h (fun _ be=>(axY k) be (hG.mono q) aH aI aK aL aM aN (Nat.le_trans (Nat.le_refl _) g.size) (ms ap q)<|pt aP) ?_;rintro⟨bf,⟨bg,bh,bi,bj,bk,bm⟩,am,bn⟩ _ cn⟨ar,bo,bp,bq,br,bs,bu,au,av,bv,rfl,aw,co,cq,cr,cs,bw,bx⟩ h;have r:=ca aw aP;refine gP 11 [8,1] r (bC 38 h ?_ ?_)<;>intro _ h
   ·refine gd 9 ?_;cases oj h o;exact rt2 ⟨ar,none,0,rfl,r.sel [],RSl.nil _ _ _ _ _ _⟩
   ·refine gd 4<|wk r (fun j m=>∃aT an ax,j aT [6] [(47,.bool ax)]∧KH.sub ar an∧m an [] [.box (zz wi) (zz al) #[sl bo bf bp,.string bg,sl bq bh br,iI bi,.bool bj,iI bk,sl bs bm bu,sl au am av,.bool bn] 90,eW (zz wi) au am av 3 1 bv]∧anJ k am ax=some n) ?_ ?_
    ·refine gD 5 [2,3] r (bO 42 h ?_ ?_)<;>intro _ h
     ·refine gP 5 [5,3] r<|cB h (fun _ bz=>(auf k) bz (hG.mono<|q.trans aw.sub) (ms ap<|q.trans aw.sub)<|pt r) ?_;rintro bB _ ct⟨bD,rfl,aU⟩ h;have bE:=ca aU r;exact go 5 ⟨_,bD,!bB,fK,aU.sub,bE.sel [0,1],h⟩
     ·exact go 7 ⟨_,ar,false,fK,kr,r.sel [0,1],h⟩
    ·rintro _ cu⟨aT,an,ax,rfl,cw,ay,h⟩;refine bC 47 h ?_ ?_<;>intro _ h
     ·refine gd 9 ?_;cases oj h o;exact rt2 ⟨an,none,0,rfl,ay.sel [],RSl.nil _ _ _ _ _ _⟩
     ·refine gD 14 [7,1] ay ?_;obtain⟨bF,bG,cx,bH⟩:=abD (i:=1) (bytes:=8) (R:=fun K=>(RInt .i64)) ay rfl (Nat.le_refl _) (bw.mono (fun _ _ h=>h)) bx (fun hs=>(fun _ _ h=>h));cases oj h o;exact rt2 ⟨bF,au,av,rfl,bG.sel [],bH⟩
  ·refine gD 7 [1,1] g<|cCl O<|gP 13 [1,1] g ?_;obtain⟨bI,aV,cy,bJ,cz,bK,bL⟩:=((mp ao q)).row.at_ (aaB O);obtain⟨rfl,cA⟩:=aaz.open bL;refine iNl 70 2 bJ O<|fd (aV+B*2+1) ajD rfl<|ld1 (v:=iI bd) Tya3 rfl (g.cell<|kr.cell<|bK 1 _ rfl) ?_;have aW:=p120 g;refine cB h (fun _ bM=>(anu k) bM (hG.mono q) aH aI aK aL aM aN (Nat.le_trans (Nat.le_refl _) g.size)<|pt aW) ?_;rintro⟨bP,⟨bQ,bR,bS,bT,bU,bV⟩,bW,bX⟩ _ cC⟨bY,bZ,b0,b1,b2,b3,b4,b5,b6,b7,rfl,aX,b8,b9,cb,cc,ce,cf⟩ h;have ch:=ca aX aW;exact go 5<|iCl O ((mp ao q).len)<|go 3 ⟨_,Nat.lt_succ_self _,_,bY,A,B+1,bP,bZ,b0,bQ,bR,b1,b2,bS,bT,bU,bV,b3,b4,bW,b5,b6,b7,bX,rfl,fK,q.trans aX.sub,ch.sel [2,0,1],aac O,b8,b9,cb,cc,ce,cf,h⟩
theorem axI(k:Nat):ata (f11 k):=by
 intro K wi G ab ac ad h hG I J;obtain⟨r_,n,h⟩:=rz h;obtain⟨ae⟩:=G;obtain⟨af,c1,rfl,N⟩:=aad.open I;refine en 41 Tryz.func11 rfl ?_;unfold f11 at h;refine gI 10 [0,1,1] [[nS]] J (fun O ai s=>cB h (fun _ S=>(awI k) S (hG.mono kr) (aad.intro N)<|pt s) ?_);rintro⟨⟨b⟩,aj⟩ _ U⟨o,ak,rfl,t,V⟩ h;have W:=ca t s;obtain⟨u,v,rfl,g⟩:=aad.open V;refine gR 15 [0] [[nS]] W (fun al am p=>bC 15 h ?_ ?_)<;>intro _ h
 ·refine gd 3<|bld (cells:=#[nS]) (vs:=[]) rfl (fun w=>by kernel_rfl)<|gR 7 [1] [] p (fun an x=>?_);cases oj h n;exact aby rfl (rNl 1 x rfl) (resT rfl) ⟨o,[nS],rfl,x.sel [],aad.intro<|RSl.nil _ _ _ _ _ _⟩
 ·refine gd 10<|wl p (fun j m g_=>∃y i a,∃(e:Nat),g_=a.length∧j y [2,4] [(6,iI (e:Int))]∧KH.sub o i∧m i [] [.box (zz wi) (zz O) #[nS] 24,.box (zz wi) (zz U) #[sl u b v] 24]∧b.drop e=a∧ak4 k b a e=some r_) b.length ?_ ?_
  ·exact⟨_,o,b,0,rfl,fK,kr,p.sel [1,0],List.drop_zero,h⟩
  ·rintro _ _ ao⟨y,i,a,e,rfl,rfl,d,l,f,h⟩;rcases a with _|⟨⟨ap,aq,ar,au,av,aw⟩,a⟩
   ·refine gD 7 [0,2] l<|cNl f<|gR 16 [0,1,1,0] [] l (fun ax z=>?_);cases oj h n;exact aby rfl (rNl 0 z rfl) (resT rfl) ⟨i,[sl u b v],rfl,z.sel [],aad.intro<|mf g d⟩
   ·refine gD 7 [0,2] l<|cCl f<|go 8<|rB [] l (fun A B=>ah 5 [0,0,1,2,2,0,3,2,4] B<|eA 5 6 rfl rfl B (mf g d) f aak.open ?_);rintro ay az aA aB aG X⟨aH,aI,aK,aL,rfl,aM,aN,aP⟩;refine aQ 7 rfl<|cB h (fun _ Y=>(atT k) Y (hG.mono<|t.sub.trans d) (mf g d) X<|pt A) ?_;rintro⟨aT,aU⟩ _ aV⟨C,aW,aX,rfl,q,aY⟩ h;have r:=ca q A;refine go 2 (wB (fwOf (is:=[0,1]) r q.sub rfl) (fun Z=>ah 5 [8,9,10,11,12] Z<|aD<|gx 7<|bC 37 h ?_ ?_))<;>intro _ h
    ·refine gd 3<|bld (cells:=#[nS]) (vs:=[]) rfl (fun w=>by kernel_rfl)<|gR 11 [0] [] r (fun aZ D=>?_);cases oj h n;exact aby rfl (rNl 0 D rfl) (resT rfl) ⟨C,[nS],rfl,D.sel [],aad.intro<|RSl.nil _ _ _ _ _ _⟩
    ·exact gd 6<|iCl f ((mf g d).len)<|go 3 ⟨_,Nat.lt_succ_self _,_,C,a,e+1,rfl,fK,d.trans q.sub,r,aac f,h⟩
theorem aqs(k:Nat):apK (f124 k):=by
 intro K wi S aB aG h hG U V;obtain⟨r_,n,h⟩:=rz h;obtain⟨aH,aI,aK,aL,aM,aN,aP,d,f,g,z⟩:=S;obtain⟨aT,aU,p,q,r,s,t,u,aV,aW,rfl,aX,aY,aZ,W,X,Y,D⟩:=aag.open U;refine en 27 Tryz.func124 rfl ?_;unfold f124 at h;refine gI 14 [7,1,8,1,9,1] [] V (fun Z ab=>bsl (e:=50) (cells:=#[sl p d q,sl r f s,sl t g u]) (vs:=[(0,sl p d q),(1,sl r f s),(2,sl t g u)]) ab rfl (fun w=>by kernel_rfl) (fun a1 ac=>(have A:=ac.boxrowN (i:=0) (size:=1) (m:=3) rfl rfl (by decide);(gP 13 [10,2] A<|wl A (fun j m g_=>∃G b,∃(l:Nat),∃a v x B,g_=b.length∧j G [14,15] [(3,sl v a x),(16,iI (l:Int))]∧m K [] [eW (zz wi) v a x 50 1 B]∧z.drop l=b∧Reps (RSlE aae (fun K=>aag K) 11 184 K) 1 a B∧a.length*24≤mB∧af4 k b l a=some r_) z.length ?_ ?_))))
 ·exact⟨_,z,0,[d,f,g],some ⟨zz Z,0,none⟩,3,[sl p d q,sl r f s,sl t g u],rfl,fK,A.sel [0],List.drop_zero,⟨[sl p d q],_,rfl,rfl,⟨_,_,rfl,W⟩,⟨[sl r f s],_,rfl,rfl,⟨_,_,rfl,X⟩,⟨[sl t g u],_,rfl,rfl,⟨_,_,rfl,Y⟩,abo (R:=(RSlE aae (fun K=>aag K) 11 184 K)) (size:=1)⟩⟩⟩,Nat.le_of_ble_eq_true rfl,h⟩
 ·rintro _ _ ad⟨G,b,l,a,v,x,B,rfl,rfl,C,o,I,ae,h⟩;rcases b with _|⟨⟨af,ai,aj,ak,y⟩,b⟩
  ·refine gd 2<|cNl o<|go 16 ?_;obtain⟨al,am,a2,an⟩:=abD (i:=0) (bytes:=24) (R:=fun K=>(RSlE aae (fun K=>(aag K)) 11 184 K)) C rfl (Nat.le_refl _) I ae (fun hs=>(fun _ _ h=>RSlE.mono (R:=fun K=>(aag K)) (fun hs _ _ h=>aag.mono hs h) hs h));cases oj h n;exact rt1 ⟨al,v,x,rfl,am,an⟩
  ·refine gd 2<|cCl o<|go 10<|eN C D o aar.open ?_;rintro a3 a4 a5 a6 a7 a8⟨ao,ap,aq,ar,rfl,a9,ba,au⟩;refine gR 9 [0,4,1,50] [[iI 0,sE,iI 0,nS,nS]] C (fun bb bd be av=>aJ h 2 0 av rfl rfl I ⟨_,_,rfl,au⟩ ?_);rintro J N O aw ax ay az h;have aA:=p12 ax;exact go 5<|iCl o ((D).len)<|go 3 ⟨_,Nat.lt_succ_self _,_,b,l+1,a++[y],J,N,O,rfl,fK,aA.sel [1],aac o,ay,aav az,h⟩
theorem asP(k:Nat)(F:aen)(IH92:acv F.f92)(IH122:abX F.f122)(IH1006489:aa8 F.f1006489)(IH1009189:abb F.f1009189)(IH1012326:aa0 F.f1012326)(IH1014826:aa4 F.f1014826):acv (awl k F):=by
 intro K wi j l m b h hG d a;obtain⟨y,z,h⟩:=rz h;refine en 5 Tryz.func92 rfl ?_;unfold awl at h;refine gd 8<|cB h (fun _ e=>IH1006489 e (hG.mono kr) d<|pt a) ?_;rintro b _ o⟨f,rfl,g⟩ h;have i:=ca g a;refine go 4 ?_;cases oj h z;exact rt1 ⟨f,rfl,i⟩
theorem apr(k:Nat)(F:aen)(IH92:acv F.f92)(IH122:abX F.f122)(IH1006489:aa8 F.f1006489)(IH1009189:abb F.f1009189)(IH1012326:aa0 F.f1012326)(IH1014826:aa4 F.f1014826):abX (akO k F):=by
 intro K wi W aB aG h hG X Y;obtain⟨r_,n,h⟩:=rz h;obtain⟨e,o,p,q,r,s,t,u,v,x,y⟩:=W;obtain⟨Z,ab,ac,ad,ae,af,ai,aj,ak,al,rfl,z,A,B,C,D,G,I⟩:=aag.open X;refine en 29 Tryz.func122 rfl ?_;unfold akO at h;refine gI 7 [] [] Y (fun aH b=>wk b (fun j m=>∃J f,j J [1] [(10,.bool f)]∧m K [] [.box (zz wi) (zz wi) (aS e o p q r s Z t ab ac u ad ae v af ai x aj ak y al) 62]∧akq k F e o p q r s t u v x y f=some r_) ?_ ?_)
 ·refine gD 5 [0,1] b (bO 6 h ?_ ?_)<;>intro _ h
  ·exact go 6 ⟨_,true,fK,b,h⟩
  ·exact gP 9 [0,1] b ⟨_,e==28,fK,b,h⟩
 ·rintro _ aI⟨J,f,rfl,a,h⟩;refine bC 10 h ?_ ?_<;>intro _ h
  ·refine gd 8 ?_;cases oj h n;exact rt1 ⟨K,rfl,a.sel []⟩
  ·refine gd 3<|wk a (fun j m=>∃N d g,j N [] [(2,.bool g)]∧KH.sub K d∧m d [] []∧afX k F g=some r_) ?_ ?_
   ·refine gD 5 [0,1] a (bO 14 h ?_ ?_)<;>intro _ h
    ·exact go 17 ⟨_,K,true,fK,kr,a.sel [],h⟩
    ·refine gP 8 [0,1] a (bO 18 h ?_ ?_)<;>intro _ h
     ·refine gP 10 [5,1] a (bO 24 h ?_ ?_)<;>intro _ h
      ·exact go 7 ⟨_,K,true,fK,kr,a.sel [],h⟩
      ·refine gP 3 [0,0,11] a<|cB h (fun _ am=>(aqs k) am (hG.mono kr) (aag.intro z A B C D G I)<|pt a) ?_;rintro aK _ aL⟨aM,aN,aP,rfl,i,an⟩ h;have O:=ca i a;refine go 1<|cB h (fun _ ao=>IH1012326 ao (gm hG i) an<|pt O) ?_;rintro ap _ aT⟨aq,rfl,S⟩ h;have ar:=ca S O;exact go 4 ⟨_,aq,ap,fK,i.sub.trans S.sub,ar.sel [],h⟩
     ·refine gP 10 [0,0,11] a<|cB h (fun _ au=>(aqs k) au (hG.mono kr) (aag.intro z A B C D G I)<|pt a) ?_;rintro aU _ aV⟨aW,aX,aY,rfl,l,av⟩ h;have U:=ca l a;refine go 1<|cB h (fun _ aw=>IH1012326 aw (gm hG l) av<|pt U) ?_;rintro ax _ aZ⟨ay,rfl,V⟩ h;have az:=ca V U;exact go 4 ⟨_,ay,ax,fK,l.sub.trans V.sub,az.sel [],h⟩
   ·rintro _ a1⟨N,d,g,rfl,a2,aA,h⟩;refine gd 1 ?_;cases oj h n;exact rt1 ⟨d,rfl,aA⟩
theorem ajV(k:Nat)(F:aen)(IH92:acv F.f92)(IH122:abX F.f122)(IH1006489:aa8 F.f1006489)(IH1009189:abb F.f1009189)(IH1012326:aa0 F.f1012326)(IH1014826:aa4 F.f1014826):aa8 (af9 k F):=by
 intro K wi j l m b h hG d a;obtain⟨y,z,h⟩:=rz h;refine en 9 Tryz.func64 rfl ?_;unfold af9 at h;refine gd 9<|cB h (fun _ e=>IH1009189 e (hG.mono kr) d<|pt a) ?_;rintro b _ o⟨f,rfl,g⟩ h;have i:=ca g a;refine go 5 ?_;cases oj h z;exact rt1 ⟨f,rfl,i⟩
theorem aks(k:Nat)(F:aen)(IH92:acv F.f92)(IH122:abX F.f122)(IH1006489:aa8 F.f1006489)(IH1009189:abb F.f1009189)(IH1012326:aa0 F.f1012326)(IH1014826:aa4 F.f1014826):abb (agk k F):=by
 intro K wi i v x y h hG l o;obtain⟨r_,n,h⟩:=rz h;refine en 19 Tryz.func91 rfl ?_;unfold agk at h;refine gd 14<|wl o (fun j m g_=>∃p e a,∃(b:Nat),g_=a.length∧j p [0,1,7] [(8,iI (b:Int))]∧KH.sub K e∧m e [] []∧i.drop b=a∧acu k F a b=some r_) i.length ?_ ?_
 ·exact⟨_,K,i,0,rfl,fK,kr,o,List.drop_zero,h⟩
 ·rintro _ _ z⟨p,e,a,b,rfl,rfl,f,g,d,h⟩;rcases a with _|⟨⟨A,B,C,D,G,I,J,N,O,S,U⟩,a⟩
  ·refine gd 2<|cNl d<|go 15 ?_;cases oj h n;exact rt1 ⟨e,rfl,g⟩
  ·refine gd 2<|cCl d<|go 19<|eN g (ms l f) d aag.open ?_;rintro V W X Y Z t⟨ab,ac,ad,ae,af,ai,aj,ak,al,am,rfl,an,ao,ap,aq,ar,au,av⟩;refine cB h (fun _ u=>IH122 u (hG.mono f) t<|pt g) ?_;rintro aw _ ax⟨q,rfl,r⟩ h;have s:=ca r g;refine go 2 (bC 16 h ?_ ?_)<;>intro _ h
   ·refine gd 13 ?_;cases oj h n;exact rt1 ⟨q,rfl,s⟩
   ·exact gd 5<|iCl d ((ms l f).len)<|go 3 ⟨_,Nat.lt_succ_self _,_,q,a,b+1,rfl,fK,f.trans r.sub,s,aac d,h⟩
theorem akl(k:Nat)(F:aen)(IH92:acv F.f92)(IH122:abX F.f122)(IH1006489:aa8 F.f1006489)(IH1009189:abb F.f1009189)(IH1012326:aa0 F.f1012326)(IH1014826:aa4 F.f1014826):aa0 (afY k F):=by
 intro K wi j l m b h hG d a;obtain⟨y,z,h⟩:=rz h;refine en 9 Tryz.func123 rfl ?_;unfold afY at h;refine gd 9<|cB h (fun _ e=>IH1014826 e (hG.mono kr) d<|pt a) ?_;rintro b _ o⟨f,rfl,g⟩ h;have i:=ca g a;refine go 5 ?_;cases oj h z;exact rt1 ⟨f,rfl,i⟩
theorem ajm(k:Nat)(F:aen)(IH92:acv F.f92)(IH122:abX F.f122)(IH1006489:aa8 F.f1006489)(IH1009189:abb F.f1009189)(IH1012326:aa0 F.f1012326)(IH1014826:aa4 F.f1014826):aa4 (afQ k F):=by
 intro K wi p O S U h hG q r;obtain⟨n,o,h⟩:=rz h;refine en 19 Tryz.func148 rfl ?_;unfold afQ at h;refine gd 14<|wl r (fun j m g_=>∃s g a,∃(d:Nat),g_=a.length∧j s [0,1,7] [(8,iI (d:Int))]∧KH.sub K g∧m g [] []∧p.drop d=a∧ac0 k F a d=some n) p.length ?_ ?_
 ·exact⟨_,K,p,0,rfl,fK,kr,r,List.drop_zero,h⟩
 ·rintro _ _ V⟨s,g,a,d,rfl,rfl,e,l,f,h⟩;rcases a with _|⟨y,a⟩
  ·refine gd 2<|cNl f<|go 15 ?_;cases oj h o;exact rt1 ⟨g,rfl,l⟩
  ·refine gd 2<|cCl f<|go 19 ?_;obtain⟨z,A,W,B,X,C,D⟩:=((q.mono e (fun _ _ h=>RSlE.mono (R:=fun K=>(aag K)) (fun hs _ _ h=>aag.mono hs h) e h))).row.at_ (aaB f);obtain⟨G,I,rfl,J⟩:=D;refine iNl 50 1 B f<|ld1 (v:=sl G y I) akU rfl (l.cell<|kr.cell<|C 0 _ rfl)<|cB h (fun _ N=>IH92 N (hG.mono e) J<|pt l) ?_;rintro Y _ Z⟨t,rfl,u⟩ h;have x:=ca u l;refine go 2 (bC 16 h ?_ ?_)<;>intro _ h
   ·refine gd 13 ?_;cases oj h o;exact rt1 ⟨t,rfl,x⟩
   ·exact gd 5<|iCl f ((q.mono e (fun _ _ h=>RSlE.mono (R:=fun K=>aag K) (fun hs _ _ h=>aag.mono hs h) e h)).len)<|go 3 ⟨_,Nat.lt_succ_self _,_,t,a,d+1,rfl,fK,e.trans u.sub,x,aac f,h⟩
theorem aeF(k0:Nat) : ∀k,acv (abq k0 k).f92∧abX (abq k0 k).f122∧aa8 (abq k0 k).f1006489∧abb (abq k0 k).f1009189∧aa0 (abq k0 k).f1012326∧aa4 (abq k0 k).f1014826:=by
 intro k;induction k with
 | zero=>exact⟨by simp[acv,abq],by simp[abX,abq],by simp[aa8,abq],by simp[abb,abq],by simp[aa0,abq],by simp[aa4,abq]⟩
 | succ k ih=>exact⟨asP k0 (abq k0 k) ih.1 ih.2.1 ih.2.2.1 ih.2.2.2.1 ih.2.2.2.2.1 ih.2.2.2.2.2,apr k0 (abq k0 k) ih.1 ih.2.1 ih.2.2.1 ih.2.2.2.1 ih.2.2.2.2.1 ih.2.2.2.2.2,ajV k0 (abq k0 k) ih.1 ih.2.1 ih.2.2.1 ih.2.2.2.1 ih.2.2.2.2.1 ih.2.2.2.2.2,aks k0 (abq k0 k) ih.1 ih.2.1 ih.2.2.1 ih.2.2.2.1 ih.2.2.2.2.1 ih.2.2.2.2.2,akl k0 (abq k0 k) ih.1 ih.2.1 ih.2.2.1 ih.2.2.2.1 ih.2.2.2.2.1 ih.2.2.2.2.2,ajm k0 (abq k0 k) ih.1 ih.2.1 ih.2.2.1 ih.2.2.2.1 ih.2.2.2.2.1 ih.2.2.2.2.2⟩
theorem axC(k:Nat):acv (f92 k):=(aeF k k).1
theorem ayz(k:Nat):abX (f122 k):=(aeF k k).2.1
theorem avr(k:Nat):aa8 (f1006489 k):=(aeF k k).2.2.1
theorem av3(k:Nat):abb (f1009189 k):=(aeF k k).2.2.2.1
theorem auj(k:Nat):aa0 (f1012326 k):=(aeF k k).2.2.2.2.1
theorem avi(k:Nat):aa4 (f1014826 k):=(aeF k k).2.2.2.2.2
theorem asU(k:Nat)(F:acB)(IH40:abR F.f40)(IH65:abT F.f65)(IH94:abQ F.f94)(IH1006449:aaM F.f1006449)(IH1009149:aaK F.f1009149)(IH1009388:aaI F.f1009388)(IH1012547:aaL F.f1012547)(IH1012626:aaJ F.f1012626)(IH1014947:aaH F.f1014947):abR (auz k F):=by
 intro K wi j l m b h hG d a;obtain⟨y,z,h⟩:=rz h;refine en 5 Tryz.func40 rfl ?_;unfold auz at h;refine gd 8<|cB h (fun _ e=>IH1006449 e (hG.mono kr) d<|pt a) ?_;rintro b _ o⟨f,rfl,g⟩ h;have i:=ca g a;refine go 4 ?_;cases oj h z;exact rt1 ⟨f,rfl,i⟩
theorem as8(k:Nat)(F:acB)(IH40:abR F.f40)(IH65:abT F.f65)(IH94:abQ F.f94)(IH1006449:aaM F.f1006449)(IH1009149:aaK F.f1009149)(IH1009388:aaI F.f1009388)(IH1012547:aaL F.f1012547)(IH1012626:aaJ F.f1012626)(IH1014947:aaH F.f1014947):abT (ap0 k F):=by
 intro K wi aH bw bx h hG aI aK;obtain⟨n,o,h⟩:=rz h;obtain⟨d,X,Y,Z,ab,p,N,u,x,y,z⟩:=aH;obtain⟨ac,ad,ae,af,ai,aj,ak,al,am,an,rfl,bz,bB,aL,A,ao,aM,aN⟩:=aag.open aI;refine en 80 Tryz.func65 rfl ?_;unfold ap0 at h;refine gI 14 [0,1] [] aK (fun bD q=>wk q (fun j m=>∃ap O,j ap [1,4] [(5,.bool O)]∧m K [] [.box (zz wi) (zz wi) (aS d X Y Z ab p ac N ad ae u af ai x aj ak y al am z an) 62]∧aiA k F d p N u x y z O=some n) ?_ ?_)
 ·refine gd 6 (bC 5 h ?_ ?_)<;>intro aP h
  ·exact gd 3<|lX 5 aP.symm ⟨_,d==17,fK,q,h⟩
  ·refine gd 7 (bC 5 h ?_ ?_)<;>intro aT h
   ·exact gd 3<|lX 5 aT.symm ⟨_,d==15,fK,q,h⟩
   ·refine gd 7 (bC 5 h ?_ ?_)<;>intro aU h
    ·exact gd 3<|lX 5 aU.symm ⟨_,d==18,fK,q,h⟩
    ·exact gd 6 ⟨_,d==19,fK,q,h⟩
 ·rintro _ bE⟨ap,O,rfl,a,h⟩;refine bC 5 h ?_ ?_<;>intro _ h
  ·refine gd 9 ?_;cases oj h o;exact rt1 ⟨K,rfl,a.sel []⟩
  ·refine gd 7 (bC 10 h ?_ ?_)<;>intro _ h
   ·refine gd 1<|wk a (fun j m=>∃aq B S,j aq [] [(2,.bool S)]∧KH.sub K B∧m B [] []∧alI k F S=some n) ?_ ?_
    ·refine gD 5 [5,1] a (bO 15 h ?_ ?_)<;>intro _ h
     ·refine gP 5 [7,1] a<|cB h (fun _ aV=>IH40 aV (hG.mono kr) A<|pt a) ?_;rintro bF _ bG⟨aW,rfl,s⟩ h;have C:=ca s a;refine go 2 (bO 20 h ?_ ?_)<;>intro _ h
      ·refine gP 5 [8,1] C<|cB h (fun _ aX=>IH40 aX (gm hG s) (ms ao s.sub)<|pt C) ?_;rintro aY _ bH⟨aZ,rfl,ar⟩ h;have a1:=ca ar C;exact go 4 ⟨_,aZ,aY,fK,s.sub.trans ar.sub,a1.sel [],h⟩
      ·exact go 7 ⟨_,aW,false,fK,s.sub,C.sel [],h⟩
     ·exact go 12 ⟨_,K,false,fK,kr,a.sel [],h⟩
    ·rintro _ bI⟨aq,B,S,rfl,bJ,a2,h⟩;refine gd 3 ?_;cases oj h o;exact rt1 ⟨B,rfl,a2⟩
   ·refine gd 7 (bC 25 h ?_ ?_)<;>intro _ h
    ·refine gd 1<|wk a (fun j m=>∃au D U,j au [] [(2,.bool U)]∧KH.sub K D∧m D [] []∧alM k F U=some n) ?_ ?_
     ·refine gD 3 [6,1] a ?_;obtain⟨⟨a3,a4,bK,bL,bM⟩,t,h⟩:=ob h;obtain⟨av,G,bP,aw,bQ,ax,a5⟩:=(aL).row.at_ (aay t).1;obtain⟨bR,bS,rfl,bT,bU⟩:=aai.open a5;refine iGl 35 5 aw t (fd (G+(0:Int).toNat*5+0) ap2 rfl<|ld1 (v:=iI a3) Tya3 rfl (a.cell<|kr.cell<|ax 0 _ rfl)<|go 2<|bO 33 h ?_ ?_)<;>intro _ h
      ·refine gP 5 [6,1] a (iGl 35 5 aw t<|go 1<|fd (G+(0:Int).toNat*5+1) aqE rfl<|go 1<|ld1 (v:=iI a4) Tya3 rfl (a.cell<|kr.cell<|ax 1 _ rfl)<|go 4<|bO 41 h ?_ ?_)<;>intro _ h
       ·refine gP 5 [7,1] a<|cB h (fun _ a6=>(axC k) a6 (hG.mono kr) A<|pt a) ?_;rintro a7 _ bV⟨a8,rfl,ay⟩ h;have a9:=ca ay a;exact go 6 ⟨_,a8,!a7,fK,ay.sub,a9.sel [],h⟩
       ·exact go 8 ⟨_,K,false,fK,kr,a.sel [],h⟩
      ·exact go 16 ⟨_,K,false,fK,kr,a.sel [],h⟩
     ·rintro _ bW⟨au,D,U,rfl,bX,ba,h⟩;refine gd 3 ?_;cases oj h o;exact rt1 ⟨D,rfl,ba⟩
    ·refine gd 1<|wk a (fun j m=>∃az V,j az [1,4] [(47,.bool V)]∧m K [] [.box (zz wi) (zz wi) (aS d X Y Z ab p ac N ad ae u af ai x aj ak y al am z an) 62]∧akY k F d p u x y z V=some n) ?_ ?_
     ·refine gd 6 (bC 47 h ?_ ?_)<;>intro bb h
      ·exact gd 3<|lX 47 bb.symm ⟨_,d==23,fK,a,h⟩
      ·refine gd 7 (bC 47 h ?_ ?_)<;>intro bd h
       ·exact gd 3<|lX 47 bd.symm ⟨_,d==25,fK,a,h⟩
       ·exact gd 6 ⟨_,d==26,fK,a,h⟩
     ·rintro _ bY⟨az,V,rfl,e,h⟩;refine bC 47 h ?_ ?_<;>intro _ h
      ·refine gD 5 [7,1] e<|cB h (fun _ be=>IH40 be (hG.mono kr) A<|pt e) ?_;rintro bZ _ b0⟨bf,rfl,bg⟩ h;have bh:=ca bg e;refine go 6 ?_;cases oj h o;exact rt1 ⟨bf,rfl,bh.sel []⟩
      ·refine gd 7 (bC 54 h ?_ ?_)<;>intro _ h
       ·refine gd 1<|wk e (fun j m=>∃aA I W,j aA [] [(2,.bool W)]∧KH.sub K I∧m I [] []∧ail k F W=some n) ?_ ?_
        ·refine gD 3 [9,1] e<|cB h (fun _ bi=>IH40 bi (hG.mono kr) aM<|pt e) ?_;rintro b1 _ b2⟨bj,rfl,f⟩ h;have J:=ca f e;refine go 1 (bO 59 h ?_ ?_)<;>intro _ h
         ·exact go 18 ⟨_,bj,true,fK,f.sub,J.sel [],h⟩
         ·refine gP 5 [7,1] J<|cB h (fun _ bk=>IH40 bk (gm hG f) (ms A f.sub)<|pt J) ?_;rintro b3 _ b4⟨aB,rfl,g⟩ h;have l:=ca g J;refine go 2 (bO 63 h ?_ ?_)<;>intro _ h
          ·refine gP 5 [5,1] l (bbt (r:=(IntKind.i64.wrap (BitVec.ofInt IntKind.i64.bits p &&& BitVec.ofInt IntKind.i64.bits 1).toNat)) rfl rfl rfl<|go 4<|bO 68 h ?_ ?_)<;>intro _ h
           ·exact go 11 ⟨_,aB,true,fK,f.sub.trans g.sub,l.sel [],h⟩
           ·refine gP 5 [8,1] l<|cB h (fun _ bm=>IH40 bm (hG.mono<|f.sub.trans g.sub) (ms ao<|f.sub.trans g.sub)<|pt l) ?_;rintro bn _ b5⟨bo,rfl,aG⟩ h;have bp:=ca aG l;exact go 8 ⟨_,bo,bn,fK,(f.sub.trans g.sub).trans aG.sub,bp.sel [],h⟩
          ·exact go 15 ⟨_,aB,false,fK,f.sub.trans g.sub,l.sel [],h⟩
        ·rintro _ b6⟨aA,I,W,rfl,b7,bq,h⟩;refine gd 3 ?_;cases oj h o;exact rt1 ⟨I,rfl,bq⟩
       ·refine gd 7 (bC 75 h ?_ ?_)<;>intro _ h
        ·refine gD 5 [10,1] e<|cB h (fun _ br=>IH1009388 br (hG.mono kr) aN<|pt e) ?_;rintro b8 _ b9⟨bs,rfl,bu⟩ h;have bv:=ca bu e;refine go 6 ?_;cases oj h o;exact rt1 ⟨bs,rfl,bv.sel []⟩
        ·refine gd 10 ?_;cases oj h o;exact rt1 ⟨K,rfl,e.sel []⟩
theorem ar7(k:Nat)(F:acB)(IH40:abR F.f40)(IH65:abT F.f65)(IH94:abQ F.f94)(IH1006449:aaM F.f1006449)(IH1009149:aaK F.f1009149)(IH1009388:aaI F.f1009388)(IH1012547:aaL F.f1012547)(IH1012626:aaJ F.f1012626)(IH1014947:aaH F.f1014947):abQ (avs k F):=by
 intro K wi b m o h hG d e;obtain⟨Z,n,h⟩:=rz h;obtain⟨p,q,r,s,t⟩:=b;obtain⟨u,v,x,y,rfl,z,A,f⟩:=aar.open d;refine en 6 Tryz.func94 rfl ?_;unfold avs at h;refine gI 10 [4,1] [] e (fun B a=>cB h (fun _ g=>IH40 g (hG.mono kr) f<|pt a) ?_);rintro C _ D⟨i,rfl,j⟩ h;have l:=ca j a;refine go 4 ?_;cases oj h n;exact rt1 ⟨i,rfl,l.sel []⟩
theorem ajN(k:Nat)(F:acB)(IH40:abR F.f40)(IH65:abT F.f65)(IH94:abQ F.f94)(IH1006449:aaM F.f1006449)(IH1009149:aaK F.f1009149)(IH1009388:aaI F.f1009388)(IH1012547:aaL F.f1012547)(IH1012626:aaJ F.f1012626)(IH1014947:aaH F.f1014947):aaM (agb k F):=by
 intro K wi j l m b h hG d a;obtain⟨y,z,h⟩:=rz h;refine en 9 Tryz.func64 rfl ?_;unfold agb at h;refine gd 9<|cB h (fun _ e=>IH1009149 e (hG.mono kr) d<|pt a) ?_;rintro b _ o⟨f,rfl,g⟩ h;have i:=ca g a;refine go 5 ?_;cases oj h z;exact rt1 ⟨f,rfl,i⟩
theorem ajQ(k:Nat)(F:acB)(IH40:abR F.f40)(IH65:abT F.f65)(IH94:abQ F.f94)(IH1006449:aaM F.f1006449)(IH1009149:aaK F.f1009149)(IH1009388:aaI F.f1009388)(IH1012547:aaL F.f1012547)(IH1012626:aaJ F.f1012626)(IH1014947:aaH F.f1014947):aaK (agn k F):=by
 intro K wi i v x y h hG l o;obtain⟨r_,n,h⟩:=rz h;refine en 19 Tryz.func91 rfl ?_;unfold agn at h;refine gd 14<|wl o (fun j m g_=>∃p e a,∃(b:Nat),g_=a.length∧j p [0,1,7] [(8,iI (b:Int))]∧KH.sub K e∧m e [] []∧i.drop b=a∧acs k F a b=some r_) i.length ?_ ?_
 ·exact⟨_,K,i,0,rfl,fK,kr,o,List.drop_zero,h⟩
 ·rintro _ _ z⟨p,e,a,b,rfl,rfl,f,g,d,h⟩;rcases a with _|⟨⟨A,B,C,D,G,I,J,N,O,S,U⟩,a⟩
  ·refine gd 2<|cNl d<|go 15 ?_;cases oj h n;exact rt1 ⟨e,rfl,g⟩
  ·refine gd 2<|cCl d<|go 19<|eN g (ms l f) d aag.open ?_;rintro V W X Y Z t⟨ab,ac,ad,ae,af,ai,aj,ak,al,am,rfl,an,ao,ap,aq,ar,au,av⟩;refine cB h (fun _ u=>IH65 u (hG.mono f) t<|pt g) ?_;rintro aw _ ax⟨q,rfl,r⟩ h;have s:=ca r g;refine go 2 (bC 16 h ?_ ?_)<;>intro _ h
   ·refine gd 13 ?_;cases oj h n;exact rt1 ⟨q,rfl,s⟩
   ·exact gd 5<|iCl d ((ms l f).len)<|go 3 ⟨_,Nat.lt_succ_self _,_,q,a,b+1,rfl,fK,f.trans r.sub,s,aac d,h⟩
theorem ai5(k:Nat)(F:acB)(IH40:abR F.f40)(IH65:abT F.f65)(IH94:abQ F.f94)(IH1006449:aaM F.f1006449)(IH1009149:aaK F.f1009149)(IH1009388:aaI F.f1009388)(IH1012547:aaL F.f1012547)(IH1012626:aaJ F.f1012626)(IH1014947:aaH F.f1014947):aaI (afU k F):=by
 intro K wi i j l m h hG b a;obtain⟨y,z,h⟩:=rz h;refine en 9 Tryz.func93 rfl ?_;unfold afU at h;refine gI 9 [] [] a (fun o a=>mkf (us:=[]) (vs:=[pp (zz wi) 0]) rfl rfl<|cB h (fun _ d=>IH1012547 d (hG.mono kr) b<|pt a) ?_);rintro p _ q⟨e,rfl,f⟩ h;have g:=ca f a;refine go 5 ?_;cases oj h z;exact rt1 ⟨e,rfl,g.sel []⟩
theorem ajE(k:Nat)(F:acB)(IH40:abR F.f40)(IH65:abT F.f65)(IH94:abQ F.f94)(IH1006449:aaM F.f1006449)(IH1009149:aaK F.f1009149)(IH1009388:aaI F.f1009388)(IH1012547:aaL F.f1012547)(IH1012626:aaJ F.f1012626)(IH1014947:aaH F.f1014947):aaL (agp k F):=by
 intro K wi l m o g bs b h hG d a;obtain⟨y,z,h⟩:=rz h;refine en 9 Tryz.func125 rfl ?_;unfold agp at h;refine gd 9<|cB h (fun _ e=>IH1014947 e (hG.mono kr) d<|pt a) ?_;rintro b _ p⟨f,rfl,i⟩ h;have j:=ca i a;refine go 5 ?_;cases oj h z;exact rt1 ⟨f,rfl,j⟩
theorem ai2(k:Nat)(F:acB)(IH40:abR F.f40)(IH65:abT F.f65)(IH94:abQ F.f94)(IH1006449:aaM F.f1006449)(IH1009149:aaK F.f1009149)(IH1009388:aaI F.f1009388)(IH1012547:aaL F.f1012547)(IH1012626:aaJ F.f1012626)(IH1014947:aaH F.f1014947):aaJ (afV k F):=by
 intro K wi b q g bs r h hG d e;obtain⟨Z,n,h⟩:=rz h;obtain⟨s,t,u,v,x⟩:=b;obtain⟨y,z,A,B,rfl,f,i,j⟩:=aar.open d;refine en 8 Tryz.func126 rfl ?_;unfold afV at h;refine gI 10 [2,0,0,5] [] e (fun C a=>cB h (fun _ l=>IH94 l (hG.mono kr) (aar.intro f i j)<|pt a) ?_);rintro D _ G⟨m,rfl,o⟩ h;have p:=ca o a;refine go 5 ?_;cases oj h n;exact rt1 ⟨m,rfl,p.sel [1]⟩
theorem akG(k:Nat)(F:acB)(IH40:abR F.f40)(IH65:abT F.f65)(IH94:abQ F.f94)(IH1006449:aaM F.f1006449)(IH1009149:aaK F.f1009149)(IH1009388:aaI F.f1009388)(IH1012547:aaL F.f1012547)(IH1012626:aaJ F.f1012626)(IH1014947:aaH F.f1014947):aaH (af7 k F):=by
 intro K wi l J N g bs O h hG o p;obtain⟨r_,n,h⟩:=rz h;refine en 19 Tryz.func149 rfl ?_;unfold af7 at h;refine gd 14<|wl p (fun j m g_=>∃q e a,∃(b:Nat),g_=a.length∧j q [0,1,7] [(8,iI (b:Int))]∧KH.sub K e∧m e [0] []∧l.drop b=a∧acp k F a b=some r_) l.length ?_ ?_
 ·exact⟨_,K,l,0,rfl,fK,kr,p,List.drop_zero,h⟩
 ·rintro _ _ S⟨q,e,a,b,rfl,rfl,f,i,d,h⟩;rcases a with _|⟨⟨u,v,x,y,z⟩,a⟩
  ·refine gd 2<|cNl d<|go 15 ?_;cases oj h n;exact rt1 ⟨e,rfl,i⟩
  ·refine gd 2<|cCl d<|go 19<|eN i (mc o f) d aar.open ?_;rintro U V W X Y A⟨B,C,D,G,rfl,Z,ab,ac⟩;obtain⟨ad,I,h⟩:=ob h;refine clV (caps:=#[pp g 0]) (vs:=[.agg (aC' u v x B y C D z G),pp g 0]) rfl awP rfl (IH1012626 I (hG.mono f) A<|pt i) ?_;rintro _ ae⟨r,rfl,s⟩;have t:=ca s i;refine go 2 (bC 16 h ?_ ?_)<;>intro _ h
   ·refine gd 13 ?_;cases oj h n;exact rt1 ⟨r,rfl,t⟩
   ·exact gd 5<|iCl d ((mc o f).len)<|go 3 ⟨_,Nat.lt_succ_self _,_,r,a,b+1,rfl,fK,f.trans s.sub,t,aac d,h⟩
theorem acL(k0:Nat) : ∀k,abR (aaW k0 k).f40∧abT (aaW k0 k).f65∧abQ (aaW k0 k).f94∧aaM (aaW k0 k).f1006449∧aaK (aaW k0 k).f1009149∧aaI (aaW k0 k).f1009388∧aaL (aaW k0 k).f1012547∧aaJ (aaW k0 k).f1012626∧aaH (aaW k0 k).f1014947:=by
 intro k;induction k with
 | zero=>exact⟨by simp[abR,aaW],by simp[abT,aaW],by simp[abQ,aaW],by simp[aaM,aaW],by simp[aaK,aaW],by simp[aaI,aaW],by simp[aaL,aaW],by simp[aaJ,aaW],by simp[aaH,aaW]⟩
 | succ k ih=>exact⟨asU k0 (aaW k0 k) ih.1 ih.2.1 ih.2.2.1 ih.2.2.2.1 ih.2.2.2.2.1 ih.2.2.2.2.2.1 ih.2.2.2.2.2.2.1 ih.2.2.2.2.2.2.2.1 ih.2.2.2.2.2.2.2.2,as8 k0 (aaW k0 k) ih.1 ih.2.1 ih.2.2.1 ih.2.2.2.1 ih.2.2.2.2.1 ih.2.2.2.2.2.1 ih.2.2.2.2.2.2.1 ih.2.2.2.2.2.2.2.1 ih.2.2.2.2.2.2.2.2,ar7 k0 (aaW k0 k) ih.1 ih.2.1 ih.2.2.1 ih.2.2.2.1 ih.2.2.2.2.1 ih.2.2.2.2.2.1 ih.2.2.2.2.2.2.1 ih.2.2.2.2.2.2.2.1 ih.2.2.2.2.2.2.2.2,ajN k0 (aaW k0 k) ih.1 ih.2.1 ih.2.2.1 ih.2.2.2.1 ih.2.2.2.2.1 ih.2.2.2.2.2.1 ih.2.2.2.2.2.2.1 ih.2.2.2.2.2.2.2.1 ih.2.2.2.2.2.2.2.2,ajQ k0 (aaW k0 k) ih.1 ih.2.1 ih.2.2.1 ih.2.2.2.1 ih.2.2.2.2.1 ih.2.2.2.2.2.1 ih.2.2.2.2.2.2.1 ih.2.2.2.2.2.2.2.1 ih.2.2.2.2.2.2.2.2,ai5 k0 (aaW k0 k) ih.1 ih.2.1 ih.2.2.1 ih.2.2.2.1 ih.2.2.2.2.1 ih.2.2.2.2.2.1 ih.2.2.2.2.2.2.1 ih.2.2.2.2.2.2.2.1 ih.2.2.2.2.2.2.2.2,ajE k0 (aaW k0 k) ih.1 ih.2.1 ih.2.2.1 ih.2.2.2.1 ih.2.2.2.2.1 ih.2.2.2.2.2.1 ih.2.2.2.2.2.2.1 ih.2.2.2.2.2.2.2.1 ih.2.2.2.2.2.2.2.2,ai2 k0 (aaW k0 k) ih.1 ih.2.1 ih.2.2.1 ih.2.2.2.1 ih.2.2.2.2.1 ih.2.2.2.2.2.1 ih.2.2.2.2.2.2.1 ih.2.2.2.2.2.2.2.1 ih.2.2.2.2.2.2.2.2,akG k0 (aaW k0 k) ih.1 ih.2.1 ih.2.2.1 ih.2.2.2.1 ih.2.2.2.2.1 ih.2.2.2.2.2.1 ih.2.2.2.2.2.2.1 ih.2.2.2.2.2.2.2.1 ih.2.2.2.2.2.2.2.2⟩
theorem atJ(k:Nat):abR (f40 k):=(acL k k).1
theorem ayX(k:Nat):abT (f65 k):=(acL k k).2.1
theorem ay0(k:Nat):abQ (f94 k):=(acL k k).2.2.1
theorem aus(k:Nat):aaM (f1006449 k):=(acL k k).2.2.2.1
theorem avM(k:Nat):aaK (f1009149 k):=(acL k k).2.2.2.2.1
theorem auY(k:Nat):aaI (f1009388 k):=(acL k k).2.2.2.2.2.1
theorem auv(k:Nat):aaL (f1012547 k):=(acL k k).2.2.2.2.2.2.1
theorem avA(k:Nat):aaJ (f1012626 k):=(acL k k).2.2.2.2.2.2.2.1
theorem avG(k:Nat):aaH (f1014947 k):=(acL k k).2.2.2.2.2.2.2.2
theorem aiB(k:Nat):asn (f42 k):=by
 intro K wi y V W h hG z A;obtain⟨r_,n,h⟩:=rz h;obtain⟨X,o,Y,Z,ab,ac⟩:=y;obtain⟨ad,ae,af,ai,rfl,aj,q,ak⟩:=aak.open z;refine en 20 Tryz.func42 rfl ?_;unfold f42 at h;refine gI 21 [1,1] [] A (fun al B=>?_);have r:=B.row_ (zz wi) 3 1;refine wl r (fun j m g_=>∃s b,∃(d:Nat),∃a f g i,g_=b.length∧j s [7,8] [(3,sl f a g),(9,iI (d:Int))]∧m K [] [eW (zz wi) f a g 3 1 i]∧o.drop d=b∧Reps (RInt .i64) 1 a i∧a.length*8≤mB∧aiD k b d a=some r_) o.length ?_ ?_
 ·exact⟨_,o,0,([]:List Int),none,0,[],rfl,fK,r.sel [0],List.drop_zero,abo (R:=(RInt .i64)) (size:=1),(by simp),h⟩
 ·rintro _ _ C⟨s,b,d,a,f,g,i,rfl,rfl,p,e,t,D,h⟩;rcases b with _|⟨⟨G,l⟩,b⟩
  ·refine gd 2<|cNl e<|go 16 ?_;cases oj h n;exact rt1 ⟨K,f,g,i,rfl,p,t,D⟩
  ·refine gd 2<|cCl e<|go 10<|eN p q e aaz.open ?_;rintro am an ao ap aq ar⟨rfl,au⟩;refine gR 9 [0,1,1,3] [[sE,iI 0]] p (fun av aw ax I=>aJ h 2 0 I rfl rfl t rfl ?_);rintro u v x J N O S h;have U:=p12 N;exact go 5<|iCl e ((q).len)<|go 3 ⟨_,Nat.lt_succ_self _,_,b,d+1,a++[l],u,v,x,rfl,fK,U.sel [1],aac e,O,aav S,h⟩
theorem arh(k:Nat):ak2 (f129 k):=by
 unfold ak2;intro K wi a0 Aa0 ca0 r0 h hG ha0 S0;unfold f129 at h;obtain⟨hn,h⟩:=aaQ h;have e_:=Option.some.inj h;subst e_;refine enter Tryz.func129 rfl (n:=8) rfl ?_;refine wp_seq ?_;refine wp_region_lit ?_;refine asg (v:=.slice none 0 0) rfl ?_;refine wpList_nil ?_;refine aaG ?_;refine wp_seq ?_;refine wp_seq ?_;refine wp_region_lit ?_;refine mv (v:=.slice Aa0 a0.length ca0) rfl ?_;refine bsn (A:=Aa0) av5 rfl rfl ?_;refine wpList_nil ?_;refine aaG ?_;rcases Bool.eq_false_or_eq_true Aa0.isNone with hb1 | hb1
 ·have ha:a0=[]:=by
   obtain⟨b,o,cs,g1,g2,g3⟩:=ha0.row;cases a0 with
   | nil=>rfl
   | cons x xs=>rw[g1 (by simp)] at hb1;cases hb1
  subst ha;refine cndT (congrArg Value.bool hb1) ?_;refine wp_seq ?_;refine wp_region_lit ?_;refine asg (v:=.slice none 0 0) rfl ?_;refine wpList_nil ?_;refine aaG ?_;refine wp_ret ?_;refine ar9 ?_;exact adq rfl (resT rfl) ⟨K,none,0,rfl,S0,RSl.nil _ _ _ _ _ _⟩
 ·refine cndF (congrArg Value.bool hb1) ?_;refine wp_skip ?_;refine aaG ?_;refine wp_seq ?_;refine wp_region_lit ?_;refine bsl (e:=70) (cells:=#[]) (vs:=[]) S0 rfl (fun w=>by kernel_rfl) ?_;intro w3 S2;have S4:=S2.boxrow (i:=0) (size:=2) rfl;refine mv (v:=.slice Aa0 a0.length ca0) rfl ?_;have hn11:(([]:List aat).length+a0.length)*24≤mB:=by simpa using hn
  refine apS (R:=fun K=>aaz K) (zs:=a0) (i:=0) S4 rfl av5 aw2 rfl (by decide) rfl rfl (abo (R:=(aaz K)) (size:=2)) ha0 (fun _ _ h=>aaz.one h) (Nat.le_refl _) hn11 (by decide) ?_;intro A5 c6 ys7 w8 S9 hr10;refine asg (v:=.slice A5 (([]:List aat)++a0).length c6) rfl ?_;refine wpList_nil ?_;refine aaG ?_;refine wp_ret ?_;obtain⟨K12,S13,hs14,hr15⟩:=abD (i:=0) (bytes:=24) (R:=fun K=>(aaz K)) S9 rfl (Nat.le_refl _) hr10 (aiY hn11) (fun hs=>(fun _ _ h=>aaz.mono hs h));exact adq rfl (resT rfl) ⟨K12,A5,c6,rfl,S13,hr15⟩
theorem avF(k:Nat):aqL (f157 k):=by
 intro K wi a f g h hG b d;obtain⟨y,z,h⟩:=rz h;obtain⟨i,j,l,m,o⟩:=a;obtain⟨p,q,rfl,r,s⟩:=aai.open b;refine en 3 Tryz.func157 rfl ?_;unfold f157 at h;refine gI 12 [] [] d (fun t e=>?_);cases oj h z;exact rt1 ⟨K,rfl,e.sel []⟩
theorem ai4(k:Nat)(F:acO)(IH1015923:abS F.f1015923)(IH1017823:abJ F.f1017823):abS (afZ k F):=by
 intro K wi p av aw ax h hG z S;obtain⟨r_,n,h⟩:=rz h;refine en 22 Tryz.func159 rfl ?_;unfold afZ at h;refine gd 19 ?_;have A:=S.row_ (zz wi) 35 5;refine wl A (fun j m g_=>∃B f b,∃(d:Nat),∃a g l q,g_=b.length∧j B [1,8,9] [(5,sl g a l),(10,iI (d:Int))]∧KH.sub K f∧m f [] [eW (zz wi) g a l 35 5 q]∧p.drop d=b∧Reps (aai f) 5 a q∧a.length*64≤mB∧ab6 k F b d a=some r_) p.length ?_ ?_
 ·exact⟨_,K,p,0,([]:LE),none,0,[],rfl,fK,kr,A,List.drop_zero,abo (R:=(aai K)) (size:=5),(by simp),h⟩
 ·rintro _ _ U⟨B,f,b,d,a,g,l,q,rfl,rfl,o,r,e,C,V,h⟩;rcases b with _|⟨⟨W,X,Y,Z,ab⟩,b⟩
  ·refine gd 2<|cNl e<|go 16 ?_;obtain⟨ac,ad,ay,ae⟩:=abD (i:=0) (bytes:=64) (R:=fun K=>(aai K)) r rfl (Nat.le_refl _) C V (fun hs=>(fun _ _ h=>aai.mono hs h));cases oj h n;exact rt1 ⟨ac,g,l,rfl,ad,ae⟩
  ·refine gd 2<|cCl e<|go 10<|eN r (me z o) e aai.open ?_;rintro az aA aB aG aH aI⟨af,ai,rfl,aj,ak⟩;refine gR 8 [0,0,0,5] [[iI 0,iI 0,sE,iI 0,nS]] r (fun aK aL D=>cB h (fun _ al=>IH1017823 al (hG.mono o) (aai.intro aj ak)<|pt D) ?_);rintro⟨s,t,u,v,x⟩ _ aM⟨G,aN,rfl,y,I⟩ h;have am:=ca y D;obtain⟨aP,aT,rfl,aU,aV⟩:=aai.open I;refine gR 1 [35] [] am (fun aW an=>aJ h 2 0 an rfl rfl (C.mono (fun _ _ h=>aai.mono y.sub h)) I ?_);rintro J N O ao ap aq ar h;have au:=p12 ap;exact go 5<|iCl e ((me z o).len)<|go 3 ⟨_,Nat.lt_succ_self _,_,G,b,d+1,a++[(aah.mk s t u v x)],J,N,O,rfl,fK,o.trans y.sub,au.sel [1],aac e,aq,aav ar,h⟩
theorem akk(k:Nat)(F:acO)(IH1015923:abS F.f1015923)(IH1017823:abJ F.f1017823):abJ (adA k F):=by
 intro K wi j C D h hG l m;obtain⟨r_,n,h⟩:=rz h;obtain⟨o,p,q,G,I⟩:=j;obtain⟨J,N,rfl,a,r⟩:=aai.open l;refine en 15 Tryz.func178 rfl ?_;unfold adA at h;refine gI 11 [4,2] [[iI 0,iI 0,sE,iI 0,nS]] m (fun O S b=>cB h (fun _ s=>IH1015923 s (hG.mono kr) r<|pt b) ?_);rintro t _ U⟨V,u,v,rfl,d,e⟩ h;have x:=ca d b;refine gR 8 [4,1,0,1,5] [] x (fun W f=>cB h (fun _ y=>(avF k) y (gm hG d) (aai.intro a e)<|pt f) ?_);rintro z _ X⟨A,rfl,g⟩ h;have B:=ca g f;refine gR 11 [3,1,0,1,5,0] [] B (fun Y Z i=>?_);cases oj h n;exact adq rfl (rNl 0 i rfl) ⟨A,vE o p q z u t v,rfl,i.sel [],aai.intro a<|me e g.sub⟩
theorem afn(k0:Nat) : ∀k,abS (aaT k0 k).f1015923∧abJ (aaT k0 k).f1017823:=by
 intro k;induction k with
 | zero=>exact⟨by simp[abS,aaT],by simp[abJ,aaT]⟩
 | succ k ih=>exact⟨ai4 k0 (aaT k0 k) ih.1 ih.2,akk k0 (aaT k0 k) ih.1 ih.2⟩
theorem ag7(k:Nat):abS (f1015923 k):=(afn k k).1
theorem au9(k:Nat):abJ (f1017823 k):=(afn k k).2
theorem av0(k:Nat):aph (f158 k):=by
 intro K wi a f g h hG b d;obtain⟨y,z,h⟩:=rz h;obtain⟨i,j,l,m,o⟩:=a;obtain⟨p,q,rfl,r,s⟩:=aai.open b;refine en 5 Tryz.func158 rfl ?_;unfold f158 at h;refine gI 14 [3,1] [] d (fun t e=>?_);cases oj h z;exact rt1 ⟨K,rfl,e.sel []⟩
theorem aj7(k:Nat)(F:acP)(IH1015954:abK F.f1015954)(IH1017854:abM F.f1017854):abK (agd k F):=by
 intro K wi p av aw ax h hG z S;obtain⟨r_,n,h⟩:=rz h;refine en 22 Tryz.func159 rfl ?_;unfold agd at h;refine gd 19 ?_;have A:=S.row_ (zz wi) 35 5;refine wl A (fun j m g_=>∃B f b,∃(d:Nat),∃a g l q,g_=b.length∧j B [1,8,9] [(5,sl g a l),(10,iI (d:Int))]∧KH.sub K f∧m f [] [eW (zz wi) g a l 35 5 q]∧p.drop d=b∧Reps (aai f) 5 a q∧a.length*64≤mB∧ae2 k F b d a=some r_) p.length ?_ ?_
 ·exact⟨_,K,p,0,([]:LE),none,0,[],rfl,fK,kr,A,List.drop_zero,abo (R:=(aai K)) (size:=5),(by simp),h⟩
 ·rintro _ _ U⟨B,f,b,d,a,g,l,q,rfl,rfl,o,r,e,C,V,h⟩;rcases b with _|⟨⟨W,X,Y,Z,ab⟩,b⟩
  ·refine gd 2<|cNl e<|go 16 ?_;obtain⟨ac,ad,ay,ae⟩:=abD (i:=0) (bytes:=64) (R:=fun K=>(aai K)) r rfl (Nat.le_refl _) C V (fun hs=>(fun _ _ h=>aai.mono hs h));cases oj h n;exact rt1 ⟨ac,g,l,rfl,ad,ae⟩
  ·refine gd 2<|cCl e<|go 10<|eN r (me z o) e aai.open ?_;rintro az aA aB aG aH aI⟨af,ai,rfl,aj,ak⟩;refine gR 8 [0,0,0,5] [[iI 0,iI 0,sE,iI 0,nS]] r (fun aK aL D=>cB h (fun _ al=>IH1017854 al (hG.mono o) (aai.intro aj ak)<|pt D) ?_);rintro⟨s,t,u,v,x⟩ _ aM⟨G,aN,rfl,y,I⟩ h;have am:=ca y D;obtain⟨aP,aT,rfl,aU,aV⟩:=aai.open I;refine gR 1 [35] [] am (fun aW an=>aJ h 2 0 an rfl rfl (C.mono (fun _ _ h=>aai.mono y.sub h)) I ?_);rintro J N O ao ap aq ar h;have au:=p12 ap;exact go 5<|iCl e ((me z o).len)<|go 3 ⟨_,Nat.lt_succ_self _,_,G,b,d+1,a++[(aah.mk s t u v x)],J,N,O,rfl,fK,o.trans y.sub,au.sel [1],aac e,aq,aav ar,h⟩
theorem ako(k:Nat)(F:acP)(IH1015954:abK F.f1015954)(IH1017854:abM F.f1017854):abM (af5 k F):=by
 intro K wi j C D h hG l m;obtain⟨r_,n,h⟩:=rz h;obtain⟨o,p,q,G,I⟩:=j;obtain⟨J,N,rfl,a,r⟩:=aai.open l;refine en 15 Tryz.func178 rfl ?_;unfold af5 at h;refine gI 11 [4,2] [[iI 0,iI 0,sE,iI 0,nS]] m (fun O S b=>cB h (fun _ s=>IH1015954 s (hG.mono kr) r<|pt b) ?_);rintro t _ U⟨V,u,v,rfl,d,e⟩ h;have x:=ca d b;refine gR 8 [4,1,0,1,5] [] x (fun W f=>cB h (fun _ y=>(av0 k) y (gm hG d) (aai.intro a e)<|pt f) ?_);rintro z _ X⟨A,rfl,g⟩ h;have B:=ca g f;refine gR 11 [3,1,0,1,5,0] [] B (fun Y Z i=>?_);cases oj h n;exact adq rfl (rNl 0 i rfl) ⟨A,vE o p q z u t v,rfl,i.sel [],aai.intro a<|me e g.sub⟩
theorem afO(k0:Nat) : ∀k,abK (abC k0 k).f1015954∧abM (abC k0 k).f1017854:=by
 intro k;induction k with
 | zero=>exact⟨by simp[abK,abC],by simp[abM,abC]⟩
 | succ k ih=>exact⟨aj7 k0 (abC k0 k) ih.1 ih.2,ako k0 (abC k0 k) ih.1 ih.2⟩
theorem ag3(k:Nat):abK (f1015954 k):=(afO k k).1
theorem avX(k:Nat):abM (f1017854 k):=(afO k k).2
theorem aoJ(k:Nat)(F:aey)(IH130:aec F.f130):aec (apT k F):=by
 intro K wi ay fx fy f fz h hG a8 bX;obtain⟨r_,n,h⟩:=rz h;refine en 76 Tryz.func130 rfl ?_;unfold apT at h;refine gd 16 (bC 12 h ?_ ?_)<;>intro _ h
 ·refine gd 19 ?_;have bY:=bX.row_ (zz wi) 62 11;refine wl bY (fun j m g_=>∃bZ aM N,∃(ai:Nat),∃a aj ak au,g_=N.length∧j bZ [1,5,13,14] [(6,sl aj a ak),(15,iI (ai:Int))]∧KH.sub K aM∧m aM [] [eW (zz wi) aj a ak 62 11 au]∧ay.drop ai=N∧Reps (aag aM) 11 a au∧a.length*184≤mB∧afe k F f N ai a=some r_) ay.length ?_ ?_
  ·exact⟨_,K,ay,0,([]:LS),none,0,[],rfl,fK,kr,bY,List.drop_zero,abo (R:=(aag K)) (size:=11),(by simp),h⟩
  ·rintro _ _ aN⟨bZ,aM,N,ai,a,aj,ak,au,rfl,rfl,V,bH,aP,b0,c4,h⟩;rcases N with _|⟨⟨u,v,c5,x,c6,y,b1,b2,b3,b4,al⟩,N⟩
   ·refine gd 2<|cNl aP<|go 16 ?_;obtain⟨c7,c8,fA,c9⟩:=abD (i:=0) (bytes:=184) (R:=fun K=>(aag K)) bH rfl (Nat.le_refl _) b0 c4 (fun hs=>(fun _ _ h=>aag.mono hs h));cases oj h n;exact rt1 ⟨c7,aj,ak,rfl,c8,c9⟩
   ·refine gd 2<|cCl aP<|go 10<|eN bH (ms a8 V) aP aag.open ?_;rintro fB fC fD fE fF fG⟨da,db,dc,dd,de,df,dg,dh,a9,ba,rfl,di,dj,dk,dl,dm,dn,b5⟩;refine gR 4 [0] [[iI 0,sE,iI 0,sE,iI 0,iI 0,nS,nS,nS,nS,nS]] bH (fun fH fI bI=>wk bI (fun j m=>∃b6 o p,j b6 [1,5,6,8,13,14,15] []∧m aM [] [.box (zz wi) (zz aN) (aS u v o x p y da b1 db dc b2 dd de b3 df dg b4 dh a9 al ba) 62,eW (zz wi) aj a ak 62 11 au]∧am2 k F f a ai u v x y b1 b2 b3 b4 al o p (afe k F f N)=some r_) ?_ ?_)
    ·refine gd 6 (bC 20 h ?_ ?_)<;>intro _ h
     ·exact gI 8 [2,0,4,0] [] bI (fun fJ fL dp=>⟨_,0,0,fK,dp,h⟩)
     ·exact gd 3 ⟨_,c5,c6,fK,bI,h⟩
    ·rintro _ fM⟨b6,o,p,rfl,bJ,h⟩;refine gD 5 [6,1] bJ<|cB h (fun _ dq=>(ag3 k) dq (hG.mono V) dk<|pt bJ) ?_;rintro W _ fN⟨fO,bb,bd,rfl,g,dr⟩ h;have ds:=ca g bJ;refine gR 9 [6,0,7,1] [] ds (fun fP b7=>cB h (fun _ dt=>IH130 dt (hG.mono<|V.trans g.sub) (ms dl g.sub)<|pt b7) ?_);rintro X _ fQ⟨fS,be,bf,rfl,q,du⟩ h;have dv:=ca q b7;refine gR 9 [7,0,8,1] [] dv (fun fT b8=>cB h (fun _ dw=>IH130 dw (hG.mono<|(V.trans g.sub).trans q.sub) (ms dm<|g.sub.trans q.sub)<|pt b8) ?_);rintro Y _ fU⟨fV,bg,bh,rfl,z,dx⟩ h;have dy:=ca z b8;refine gR 9 [8,0,9,1] [] dy (fun fW b9=>cB h (fun _ dz=>IH130 dz (hG.mono<|((V.trans g.sub).trans q.sub).trans z.sub) (ms dn<|(g.sub.trans q.sub).trans z.sub)<|pt b9) ?_);rintro Z _ fX⟨bK,bi,bj,rfl,O,dA⟩ h;have dB:=ca O b9;refine gR 19 [9,0,10,1] [] dB (fun fY dC=>?_);have cb:=dC.row_ (zz wi) 84 5;refine wl cb (fun j m g_=>∃cc aT am,∃(az:Nat),∃d aU aV bk,g_=am.length∧j cc [1,5,6,8,13,14,15,44,45] [(9,sl aU d aV),(46,iI (az:Int))]∧KH.sub bK aT∧m aT [] [.box (zz wi) (zz aN) (aS u v o x p y bb W bd be X bf bg Y bh bi Z bj a9 al ba) 62,eW (zz wi) aj a ak 62 11 au,eW (zz wi) aU d aV 84 5 bk]∧al.drop az=am∧Reps (aar aT) 5 d bk∧d.length*80≤mB∧ahz k F f a ai u v x y o p W X Y Z (afe k F f N) am az d=some r_) al.length ?_ ?_
     ·exact⟨_,bK,al,0,([]:LC),none,0,[],rfl,fK,kr,cb.sel [1,2,0],List.drop_zero,abo (R:=(aar bK)) (size:=5),(by simp),h⟩
     ·rintro _ _ ce⟨cc,aT,am,az,d,aU,aV,bk,rfl,rfl,A,bL,aW,cf,dD,h⟩;rcases am with _|⟨⟨aA,aB,dE,ch,ci⟩,am⟩
      ·refine gd 2<|cNl aW<|gR 20 [10,0,0,0,11,62] [] bL (fun fZ f0 dF=>?_);obtain⟨cj,dG,aG,dH⟩:=abD (i:=3) (bytes:=80) (R:=fun K=>(aar K)) dF rfl (Nat.le_refl _) cf dD (fun hs=>(fun _ _ h=>aar.mono hs h));refine aJ h 2 0 dG rfl rfl (b0.mono (fun _ _ h=>aag.mono (((((g.sub.trans q.sub).trans z.sub).trans O.sub).trans A).trans aG) h)) (aag.intro di dj (me dr<|(((q.sub.trans z.sub).trans O.sub).trans A).trans aG) (ms du<|((z.sub.trans O.sub).trans A).trans aG) (ms dx<|(O.sub.trans A).trans aG) (ms dA<|A.trans aG) dH) ?_;rintro ck cl cm dI dJ dK dL h;have dM:=p12 dJ;exact go 5<|iCl aP ((ms a8 V).len)<|go 3 ⟨_,Nat.lt_succ_self _,_,cj,N,ai+1,a++[(aae.mk u v o x p y W X Y Z d)],ck,cl,cm,rfl,fK,(((((V.trans g.sub).trans q.sub).trans z.sub).trans O.sub).trans A).trans aG,dM.sel [1],aac aP,dK,aav dL,h⟩
      ·refine gd 2<|cCl aW<|go 10<|eN bL (mc b5<|(((g.sub.trans q.sub).trans z.sub).trans O.sub).trans A) aW aar.open ?_;rintro f1 f2 f3 f4 f5 f7⟨dN,dO,dP,dQ,rfl,dR,dS,dT⟩;refine gR 4 [0] [[iI 0,sE,iI 0,nS,nS]] bL (fun ga gb bM=>wk bM (fun j m=>∃cn av,j cn [1,5,6,8,9,11,13,14,15,44,45,46] []∧m aT [] [.box (zz wi) (zz aN) (aS u v o x p y bb W bd be X bf bg Y bh bi Z bj a9 al ba) 62,.box (zz wi) (zz ce) (aC' aA aB av dN ch dO dP ci dQ) 84,eW (zz wi) aj a ak 62 11 au,eW (zz wi) aU d aV 84 5 bk]∧amg k F f d az aA aB ch ci av (ahz k F f a ai u v x y o p W X Y Z (afe k F f N) am)=some r_) ?_ ?_)
       ·refine gd 6 (bC 51 h ?_ ?_)<;>intro _ h
        ·exact gI 6 [2,0] [] bM (fun gc dU=>⟨_,0,fK,dU.sel [1,0,2,3],h⟩)
        ·exact gd 3 ⟨_,dE,fK,bM.sel [1,0,2,3],h⟩
       ·rintro _ ge⟨cn,av,rfl,bP,h⟩;refine gD 5 [3,2] bP<|cB h (fun _ dV=>(ag3 k) dV (hG.mono<|((((V.trans g.sub).trans q.sub).trans z.sub).trans O.sub).trans A) dS<|pt bP) ?_;rintro bm _ gf⟨gg,dW,dX,rfl,aX,dY⟩ h;have dZ:=ca aX bP;refine gR 9 [3,1,4,2] [] dZ (fun gh co=>cB h (fun _ d0=>IH130 d0 (hG.mono<|(((((V.trans g.sub).trans q.sub).trans z.sub).trans O.sub).trans A).trans aX.sub) (ms dT aX.sub)<|pt co) ?_);rintro bn _ gi⟨cq,d1,d2,rfl,bo,d3⟩ h;have d4:=ca bo co;refine gR 8 [4,1,0,1,5,84] [] d4 (fun gj gk d5=>aJ h 4 0 d5 rfl rfl (cf.mono (fun _ _ h=>aar.mono (aX.sub.trans bo.sub) h)) (aar.intro dR (me dY bo.sub) d3) ?_);rintro cr cs ct d6 d7 d8 d9 h;have ea:=akF d7;exact go 5<|iCl aW ((mc b5<|(((g.sub.trans q.sub).trans z.sub).trans O.sub).trans A).len)<|go 3 ⟨_,Nat.lt_succ_self _,_,cq,am,az+1,d++[(aap.mk aA aB av bm bn)],cr,cs,ct,rfl,fK,(A.trans aX.sub).trans bo.sub,ea.sel [0,2,3],aac aW,d8,aav d9,h⟩
 ·refine gd 17 ?_;have cu:=bX.row_ (zz wi) 62 11;refine wl cu (fun j m g_=>∃cw aY S,∃(an:Nat),∃b ao ap aw,g_=S.length∧j cw [1,5,13,14] [(6,sl ao b ap),(15,iI (an:Int))]∧KH.sub K aY∧m aY [] [eW (zz wi) ao b ap 62 11 aw]∧ay.drop an=S∧Reps (aag aY) 11 b aw∧b.length*184≤mB∧acZ k F f S an b=some r_) ay.length ?_ ?_
  ·exact⟨_,K,ay,0,([]:LS),none,0,[],rfl,fK,kr,cu,List.drop_zero,abo (R:=(aag K)) (size:=11),(by simp),h⟩
  ·rintro _ _ aZ⟨cw,aY,S,an,b,ao,ap,aw,rfl,rfl,ab,bQ,a2,cx,ec,h⟩;rcases S with _|⟨⟨B,C,ed,D,ee,G,cy,cz,cA,cC,aq⟩,S⟩
   ·refine gd 2<|cNl a2<|go 16 ?_;obtain⟨ef,eg,gl,eh⟩:=abD (i:=0) (bytes:=184) (R:=fun K=>(aag K)) bQ rfl (Nat.le_refl _) cx ec (fun hs=>(fun _ _ h=>aag.mono hs h));cases oj h n;exact rt1 ⟨ef,ao,ap,rfl,eg,eh⟩
   ·refine gd 2<|cCl a2<|go 10<|eN bQ (ms a8 ab) a2 aag.open ?_;rintro gn gp gq gr gs gt⟨ei,ej,ek,el,em,eo,ep,eq,bp,bq,rfl,es,et,eu,ew,ex,ey,cD⟩;refine gR 4 [0] [[iI 0,sE,iI 0,sE,iI 0,iI 0,nS,nS,nS,nS,nS]] bQ (fun gu gv bR=>wk bR (fun j m=>∃cG r s,j cG [1,5,6,8,13,14,15] []∧m aY [] [.box (zz wi) (zz aZ) (aS B C r D s G ei cy ej ek cz el em cA eo ep cC eq bp aq bq) 62,eW (zz wi) ao b ap 62 11 aw]∧ajr k F f b an B C D G cy cz cA cC aq r s (acZ k F f S)=some r_) ?_ ?_)
    ·refine gd 6 (bC 20 h ?_ ?_)<;>intro _ h
     ·exact gI 8 [2,0,4,0] [] bR (fun gw gy ez=>⟨_,0,0,fK,ez,h⟩)
     ·exact gd 3 ⟨_,ed,ee,fK,bR,h⟩
    ·rintro _ gz⟨cG,r,s,rfl,bS,h⟩;refine gD 5 [6,1] bS<|cB h (fun _ eC=>(ag7 k) eC (hG.mono ab) eu<|pt bS) ?_;rintro ac _ gA⟨gB,br,bs,rfl,l,eD⟩ h;have eF:=ca l bS;refine gR 9 [6,0,7,1] [] eF (fun gF cH=>cB h (fun _ eH=>IH130 eH (hG.mono<|ab.trans l.sub) (ms ew l.sub)<|pt cH) ?_);rintro ad _ gG⟨gH,bu,bv,rfl,t,eI⟩ h;have eJ:=ca t cH;refine gR 9 [7,0,8,1] [] eJ (fun gJ cI=>cB h (fun _ eL=>IH130 eL (hG.mono<|(ab.trans l.sub).trans t.sub) (ms ex<|l.sub.trans t.sub)<|pt cI) ?_);rintro ae _ gK⟨gL,bw,bx,rfl,I,eM⟩ h;have eO:=ca I cI;refine gR 9 [8,0,9,1] [] eO (fun gM cJ=>cB h (fun _ eP=>IH130 eP (hG.mono<|((ab.trans l.sub).trans t.sub).trans I.sub) (ms ey<|(l.sub.trans t.sub).trans I.sub)<|pt cJ) ?_);rintro af _ gN⟨bT,bz,bB,rfl,U,eQ⟩ h;have eR:=ca U cJ;refine gR 19 [9,0,10,1] [] eR (fun gQ eS=>?_);have cK:=eS.row_ (zz wi) 84 5;refine wl cK (fun j m g_=>∃cL a3 ar,∃(aH:Nat),∃e a4 a5 bD,g_=ar.length∧j cL [1,5,6,8,13,14,15,44,45] [(9,sl a4 e a5),(46,iI (aH:Int))]∧KH.sub bT a3∧m a3 [] [.box (zz wi) (zz aZ) (aS B C r D s G br ac bs bu ad bv bw ae bx bz af bB bp aq bq) 62,eW (zz wi) ao b ap 62 11 aw,eW (zz wi) a4 e a5 84 5 bD]∧aq.drop aH=ar∧Reps (aar a3) 5 e bD∧e.length*80≤mB∧aeq k F f b an B C D G r s ac ad ae af (acZ k F f S) ar aH e=some r_) aq.length ?_ ?_
     ·exact⟨_,bT,aq,0,([]:LC),none,0,[],rfl,fK,kr,cK.sel [1,2,0],List.drop_zero,abo (R:=(aar bT)) (size:=5),(by simp),h⟩
     ·rintro _ _ cM⟨cL,a3,ar,aH,e,a4,a5,bD,rfl,rfl,J,bU,a6,cN,eT,h⟩;rcases ar with _|⟨⟨aI,aK,eU,cO,cP⟩,ar⟩
      ·refine gd 2<|cNl a6<|gR 20 [10,0,0,0,11,62] [] bU (fun gT gU eV=>?_);obtain⟨cQ,eX,aL,eY⟩:=abD (i:=3) (bytes:=80) (R:=fun K=>(aar K)) eV rfl (Nat.le_refl _) cN eT (fun hs=>(fun _ _ h=>aar.mono hs h));refine aJ h 2 0 eX rfl rfl (cx.mono (fun _ _ h=>aag.mono (((((l.sub.trans t.sub).trans I.sub).trans U.sub).trans J).trans aL) h)) (aag.intro es et (me eD<|(((t.sub.trans I.sub).trans U.sub).trans J).trans aL) (ms eI<|((I.sub.trans U.sub).trans J).trans aL) (ms eM<|(U.sub.trans J).trans aL) (ms eQ<|J.trans aL) eY) ?_;rintro cR cS cU eZ e0 e1 e3 h;have e4:=p12 e0;exact go 5<|iCl a2 ((ms a8 ab).len)<|go 3 ⟨_,Nat.lt_succ_self _,_,cQ,S,an+1,b++[(aae.mk B C r D s G ac ad ae af e)],cR,cS,cU,rfl,fK,(((((ab.trans l.sub).trans t.sub).trans I.sub).trans U.sub).trans J).trans aL,e4.sel [1],aac a2,e1,aav e3,h⟩
      ·refine gd 2<|cCl a6<|go 10<|eN bU (mc cD<|(((l.sub.trans t.sub).trans I.sub).trans U.sub).trans J) a6 aar.open ?_;rintro gV gW gZ g0 g1 g2⟨e5,e6,e7,e8,rfl,e9,fa,fb⟩;refine gR 4 [0] [[iI 0,sE,iI 0,nS,nS]] bU (fun g3 g4 bV=>wk bV (fun j m=>∃cV ax,j cV [1,5,6,8,9,11,13,14,15,44,45,46] []∧m a3 [] [.box (zz wi) (zz aZ) (aS B C r D s G br ac bs bu ad bv bw ae bx bz af bB bp aq bq) 62,.box (zz wi) (zz cM) (aC' aI aK ax e5 cO e6 e7 cP e8) 84,eW (zz wi) ao b ap 62 11 aw,eW (zz wi) a4 e a5 84 5 bD]∧ajF k F f e aH aI aK cO cP ax (aeq k F f b an B C D G r s ac ad ae af (acZ k F f S) ar)=some r_) ?_ ?_)
       ·refine gd 6 (bC 51 h ?_ ?_)<;>intro _ h
        ·exact gI 6 [2,0] [] bV (fun g5 fc=>⟨_,0,fK,fc.sel [1,0,2,3],h⟩)
        ·exact gd 3 ⟨_,eU,fK,bV.sel [1,0,2,3],h⟩
       ·rintro _ g6⟨cV,ax,rfl,bW,h⟩;refine gD 5 [3,2] bW<|cB h (fun _ fe=>(ag7 k) fe (hG.mono<|((((ab.trans l.sub).trans t.sub).trans I.sub).trans U.sub).trans J) fa<|pt bW) ?_;rintro bE _ g7⟨g8,ff,fg,rfl,a7,fh⟩ h;have fi:=ca a7 bW;refine gR 9 [3,1,4,2] [] fi (fun g9 cW=>cB h (fun _ fj=>IH130 fj (hG.mono<|(((((ab.trans l.sub).trans t.sub).trans I.sub).trans U.sub).trans J).trans a7.sub) (ms fb a7.sub)<|pt cW) ?_);rintro bF _ ha⟨cY,fk,fl,rfl,bG,fm⟩ h;have fn:=ca bG cW;refine gR 8 [4,1,0,1,5,84] [] fn (fun hb hc fo=>aJ h 4 0 fo rfl rfl (cN.mono (fun _ _ h=>aar.mono (a7.sub.trans bG.sub) h)) (aar.intro e9 (me fh bG.sub) fm) ?_);rintro cZ c2 c3 fp fs ft fu h;have fv:=akF fs;exact go 5<|iCl a6 ((mc cD<|(((l.sub.trans t.sub).trans I.sub).trans U.sub).trans J).len)<|go 3 ⟨_,Nat.lt_succ_self _,_,cY,ar,aH+1,e++[(aap.mk aI aK ax bE bF)],cZ,c2,c3,rfl,fK,(J.trans a7.sub).trans bG.sub,fv.sel [0,2,3],aac a6,ft,aav fu,h⟩
theorem aps(k0:Nat) : ∀k,aec (afA k0 k).f130:=by
 intro k;induction k with
 | zero=>simp[aec,afA]
 | succ k ih=>exact aoJ k0 (afA k0 k) ih
theorem auM(k:Nat):aec (f130 k):=(aps k k)
theorem avI(k:Nat):apy (f100 k):=by
 intro K wi af a2 z a3 h hG ai aj;obtain⟨r_,n,h⟩:=rz h;obtain⟨A⟩:=af;obtain⟨a4,c1,rfl,J⟩:=aad.open ai;refine en 35 Tryz.func100 rfl ?_;unfold f100 at h;refine gI 21 [0,3] [[nS],[nS]] aj (fun B C a5 ak=>?_);have N:=ak.row_ (zz wi) 52 6;refine wl N (fun j m g_=>∃O q b,∃(g:Nat),∃a d e u,g_=b.length∧j O [1,4,5,9,10] [(11,iI (g:Int))]∧KH.sub K q∧m q [] [.box (zz wi) (zz B) #[nS] 24,.box (zz wi) (zz C) #[sl d a e] 24,eW (zz wi) d a e 52 6 u]∧A.drop g=b∧Reps (aak q) 6 a u∧a.length*88≤mB∧adO k z b g a=some r_) A.length ?_ ?_
 ·exact⟨_,K,A,0,([]:LF),none,0,[],rfl,fK,kr,N.sel [2,1,0],List.drop_zero,abo (R:=(aak K)) (size:=6),(by simp),h⟩
 ·rintro _ _ S⟨O,q,b,g,a,d,e,u,rfl,rfl,r,D,s,U,al,h⟩;rcases b with _|⟨⟨l,V,o,p,am,W⟩,b⟩
  ·refine gd 2<|cNl s<|gR 16 [0,1,1,0] [] D (fun a6 X=>?_);obtain⟨an,ao,a7,ap⟩:=abD (i:=2) (bytes:=88) (R:=fun K=>(aak K)) X rfl (Nat.le_refl _) U al (fun hs=>(fun _ _ h=>aak.mono hs h));cases oj h n;exact adq rfl (rNl 0 X rfl) ⟨an,[sl d a e],rfl,ao.sel [],aad.intro ap⟩
  ·refine gd 2<|cCl s<|go 10<|eN D (mf J r) s aak.open ?_;rintro a8 a9 ba bb bd be⟨aq,ar,au,av,rfl,aw,ax,ay⟩;refine gR 4 [0] [[sE,nS,iI 0,vN,iI 0,nS]] D (fun bf bg G=>wk G (fun j m=>∃Y f,j Y [1,4,5,7,9,10,11] []∧m q [] [.box (zz wi) (zz B) #[nS] 24,.box (zz wi) (zz C) #[sl d a e] 24,.box (zz wi) (zz S) (aF l aq V ar o p f au W av) 52,eW (zz wi) d a e 52 6 u]∧akd k z a g l V o p W f (adO k z b)=some r_) ?_ ?_)
   ·refine gd 6 (bC 16 h ?_ ?_)<;>intro _ h
    ·exact gI 6 [4,0] [] G (fun bh az=>⟨_,0,fK,az.sel [1,2,0,3],h⟩)
    ·exact gd 3 ⟨_,am,fK,G.sel [1,2,0,3],h⟩
   ·rintro _ bi⟨Y,f,rfl,I,h⟩;refine gD 4 [1,3] I<|cB h (fun _ aA=>(arh k) aA (hG.mono r) ax<|pt I) ?_;rintro v _ bj⟨bk,aB,aG,rfl,t,aH⟩ h;have aI:=ca t I;refine gR 9 [1,2,5,3] [] aI (fun bm Z=>cB h (fun _ aK=>(auM k) aK (hG.mono<|r.trans t.sub) (ms ay t.sub)<|pt Z) ?_);rintro x _ bn⟨ab,aL,aM,rfl,y,aN⟩ h;have aP:=ca y Z;refine gR 9 [5,2,0,2,0,2,6,52] [] aP (fun bo bp aT=>aJ h 4 0 aT rfl rfl (U.mono (fun _ _ h=>aak.mono (t.sub.trans y.sub) h)) (aak.intro aw (mp aH y.sub) aN) ?_);rintro ac ad ae aU aV aW aX h;have aY:=akF aV;exact gR 6 [0,1] [] aY (fun bq aZ=>iCl s ((mf J r).len)<|go 3 ⟨_,Nat.lt_succ_self _,_,ab,b,g+1,a++[(aab.mk l v o p f x)],ac,ad,ae,rfl,fK,(r.trans t.sub).trans y.sub,aZ.sel [0,1,3],aac s,aW,aav aX,h⟩)
theorem adf(k:Nat):ans (f98 k):=by
 intro K wi d a y h hG b;refine en 9 Tryz.func98 rfl ?_;unfold f98 at h;refine gd 6 (bC 5 h ?_ ?_)<;>intro _ h
 ·exact gd 3<|bld (cells:=#[iI a]) (vs:=[(0,iI a)]) rfl (fun w=>by kernel_rfl)<|mki (v:=.agg #[iI a]) axj rfl<|pnc rfl<|pX<|panE<|.inr ⟨_,rfl,a,K,(oi h).symm,rfl,b.sel []⟩
 ·exact gd 2<|retP<|end0 rfl ⟨K,(oi h).symm,rfl,b⟩
theorem aqZ(k:Nat):aqb (f189 k):=by
 intro K wi bo h hG a;obtain⟨r_,n,h⟩:=rz h;refine en 32 Tryz.func189 rfl ?_;unfold f189 at h;refine gd 7<|mkm a (fun bp a=>mI 0 1 (aaA.mk 1 false 1 1 false) [iI 1,vN,iI 1,iI 1,vN] a rfl (akt (kv:=kI) (R:=(VAgg<|abe K))) (fun bq br bs b d=>mI 0 2 (aaA.mk 1 false 1 1 false) [iI 1,vN,iI 1,iI 1,vN] b rfl d (fun bu bv bw e f=>mI 0 3 (aaA.mk 2 true 0 601 false) [iI 2,vT,iI 0,iI 601,vN] e rfl f (fun g i j l m=>?_))));have o:SR K K wi j [] [.mp (zz wi) (zz wi) g i]:=l;refine mI 0 4 (aaA.mk 2 true 0 601 false) [iI 2,vT,iI 0,iI 601,vN] o rfl m (fun bx bz bB p q=>mI 0 5 (aaA.mk 2 false 1 1 false) [iI 2,vN,iI 1,iI 1,vN] p rfl q (fun bD bE bF r s=>mI 0 6 (aaA.mk 2 false 1 1 false) [iI 2,vN,iI 1,iI 1,vN] r rfl s (fun t u v x y=>?_)));have z:SR K K wi v [] [.mp (zz wi) (zz wi) t u]:=x;refine mI 0 7 (aaA.mk 1 false 1 1 false) [iI 1,vN,iI 1,iI 1,vN] z rfl y (fun bG bH bI A B=>mI 0 8 (aaA.mk 1 false 1 1 false) [iI 1,vN,iI 1,iI 1,vN] A rfl B (fun bJ bK bL C D=>mI 0 9 (aaA.mk 1 false 0 0 false) [iI 1,vN,iI 0,iI 0,vN] C rfl D (fun G I J N O=>?_)));have S:SR K K wi J [] [.mp (zz wi) (zz wi) G I]:=N;refine mI 0 10 (aaA.mk 0 false 2 2 false) [iI 0,vN,iI 2,iI 2,vN] S rfl O (fun bM bP bQ U V=>mI 0 11 (aaA.mk 0 false 1 1 false) [iI 0,vN,iI 1,iI 1,vN] U rfl V (fun bR bS bT W X=>mI 0 12 (aaA.mk 0 false 1 1 false) [iI 0,vN,iI 1,iI 1,vN] W rfl X (fun Y Z ab ac ad=>?_)));have ae:SR K K wi ab [] [.mp (zz wi) (zz wi) Y Z]:=ac;refine mI 0 13 (aaA.mk 0 false 0 0 false) [iI 0,vN,iI 0,iI 0,vN] ae rfl ad (fun bU bV bW af ai=>mI 0 14 (aaA.mk 0 false 1 1 false) [iI 0,vN,iI 1,iI 1,vN] af rfl ai (fun bX bY bZ aj ak=>mI 0 15 (aaA.mk 0 false 1 1 false) [iI 0,vN,iI 1,iI 1,vN] aj rfl ak (fun al am an ao ap=>?_)));have aq:SR K K wi an [] [.mp (zz wi) (zz wi) al am]:=ao;refine mI 0 16 (aaA.mk 0 false 1 1 false) [iI 0,vN,iI 1,iI 1,vN] aq rfl ap (fun b0 b1 b2 ar au=>mI 0 17 (aaA.mk 0 false 0 1 false) [iI 0,vN,iI 0,iI 1,vN] ar rfl au (fun b3 b4 b5 av aw=>mI 0 18 (aaA.mk 0 false 0 0 false) [iI 0,vN,iI 0,iI 0,vN] av rfl aw (fun ax ay az aA aB=>?_)));have aG:SR K K wi az [] [.mp (zz wi) (zz wi) ax ay]:=aA;refine mI 0 19 (aaA.mk 0 false 0 0 false) [iI 0,vN,iI 0,iI 0,vN] aG rfl aB (fun b6 b7 b8 aH aI=>mI 0 20 (aaA.mk 0 false 1 1 true) [iI 0,vN,iI 1,iI 1,vT] aH rfl aI (fun b9 cb cc aK aL=>mI 0 21 (aaA.mk 0 false 1 1 true) [iI 0,vN,iI 1,iI 1,vT] aK rfl aL (fun aM aN aP aT aU=>?_)));have aV:SR K K wi aP [] [.mp (zz wi) (zz wi) aM aN]:=aT;refine mI 0 22 (aaA.mk 0 false 0 1 true) [iI 0,vN,iI 0,iI 1,vT] aV rfl aU (fun ce cf ch aW aX=>mI 0 23 (aaA.mk 0 false 0 0 true) [iI 0,vN,iI 0,iI 0,vT] aW rfl aX (fun ci cj ck aY aZ=>mI 0 24 (aaA.mk 2 false 0 0 true) [iI 2,vN,iI 0,iI 0,vT] aY rfl aZ (fun a0 a1 a2 a3 a4=>?_)));have a5:SR K K wi a2 [] [.mp (zz wi) (zz wi) a0 a1]:=a3;refine mI 0 25 (aaA.mk 1 false 1 1 true) [iI 1,vN,iI 1,iI 1,vT] a5 rfl a4 (fun cl cm cn a6 a7=>mI 0 26 (aaA.mk 0 false 1 1 true) [iI 0,vN,iI 1,iI 1,vT] a6 rfl a7 (fun co cq cr a8 a9=>mI 0 27 (aaA.mk 0 false 0 0 false) [iI 0,vN,iI 0,iI 0,vN] a8 rfl a9 (fun ba bb bd be bf=>?_)));have bg:SR K K wi bd [] [.mp (zz wi) (zz wi) ba bb]:=be;refine mI 0 28 (aaA.mk 1 true 0 601 true) [iI 1,vT,iI 0,iI 601,vT] bg rfl bf (fun cs ct cu bh bi=>mI 0 29 (aaA.mk 0 false 1 1 false) [iI 0,vN,iI 1,iI 1,vN] bh rfl bi (fun bj bk cw bm bn=>go 5 ?_));cases oj h n;exact rt1 ⟨K,zz wi,bj,bk,rfl,bm,bn⟩
theorem ab7(k:Nat):atc (f77 k):=by
 intro K wi e i f l h hG a;obtain⟨y,z,h⟩:=rz h;refine en 15 Tryz.func77 rfl ?_;unfold f77 at h;refine gd 5<|wk a (fun j m=>∃d b,j d [] [(6,.bool b)]∧m K [] []∧anU k b=some y) ?_ ?_
 ·refine gd 5 (bO 10 h ?_ ?_)<;>intro _ h
  ·exact go 10 ⟨_,decide<|e≤f,fK,a,h⟩
  ·exact go 7 ⟨_,false,fK,a,h⟩
 ·rintro _ o⟨d,b,rfl,g,h⟩;refine gd 1 ?_;cases oj h z;exact rt1 ⟨K,rfl,g⟩
theorem amV(k:Nat):ape (f190 k):=by
 intro K wi aq aU aV h hG ar au;obtain⟨r_,n,h⟩:=rz h;obtain⟨D,i,G,I,J,b,N,O,l,e,S⟩:=aq;obtain⟨U,V,W,X,Y,Z,ab,ac,ad,ae,rfl,aW,aX,aY,aZ,a1,a2,a3⟩:=aag.open ar;refine en 97 Tryz.func190 rfl ?_;unfold f190 at h;refine gI 20 [5,1] [] au (fun a4 a=>wk a (fun j m=>∃af f s t u,j af [1] [(3,.bool s),(4,.bool t),(5,.bool u)]∧KH.sub K f∧m f [] [.box (zz wi) (zz wi) (aS D i G I J b U N V W O X Y l Z ab e ac ad S ae) 62]∧acF k l e s t u=some r_) ?_ ?_)
 ·refine gD 13 [0,1] a (bC 11 h ?_ ?_)<;>intro _ h
  ·refine gD 4 [5,1] a<|cB h (fun _ av=>(ab7 k) av (hG.mono kr)<|pt a) ?_;rintro a5 _ a6⟨v,rfl,o⟩ h;have g:=ca o a;refine go 1 (bO 16 h ?_ ?_)<;>intro _ h
   ·refine gP 8 [5,1] g (bO 20 h ?_ ?_)<;>intro _ h
    ·exact go 10 ⟨_,v,false,false,true,fK,o.sub,g,h⟩
    ·exact gP 13 [1,1] g ⟨_,v,false,false,!seq i ⟨#[]⟩,fK,o.sub,g,h⟩
   ·exact go 13 ⟨_,v,false,false,false,fK,o.sub,g,h⟩
  ·refine gd 7 (bC 26 h ?_ ?_)<;>intro _ h
   ·refine gD 4 [5,1] a<|cB h (fun _ aw=>(ab7 k) aw (hG.mono kr)<|pt a) ?_;rintro ax _ a7⟨ay,rfl,ai⟩ h;have az:=ca ai a;exact go 4 ⟨_,ay,false,false,ax,fK,ai.sub,az,h⟩
   ·refine gd 7 (bC 31 h ?_ ?_)<;>intro _ h
    ·refine gD 4 [5,1] a<|cB h (fun _ aA=>(ab7 k) aA (hG.mono kr)<|pt a) ?_;rintro aB _ a8⟨aG,rfl,aj⟩ h;have aH:=ca aj a;exact go 4 ⟨_,aG,false,false,aB,fK,aj.sub,aH,h⟩
    ·refine gd 7 (bC 36 h ?_ ?_)<;>intro _ h
     ·refine gD 5 [5,1] a<|cB h (fun _ aI=>(ab7 k) aI (hG.mono kr)<|pt a) ?_;rintro aK _ a9⟨aL,rfl,ak⟩ h;have al:=ca ak a;exact gP 11 [5,1] al ⟨_,aL,b==1,false,aK,fK,ak.sub,al,h⟩
     ·refine gd 7 (bC 44 h ?_ ?_)<;>intro _ h
      ·refine gd 1<|wk a (fun j m=>∃am p q,j am [1] [(5,.bool q)]∧KH.sub K p∧m p [] [.box (zz wi) (zz wi) (aS D i G I J b U N V W O X Y l Z ab e ac ad S ae) 62]∧ajs k b l e q=some r_) ?_ ?_
       ·refine gD 3 [5,1] a<|cB h (fun _ aM=>(ab7 k) aM (hG.mono kr)<|pt a) ?_;rintro ba _ bb⟨an,rfl,x⟩ h;have y:=ca x a;refine go 1 (bO 49 h ?_ ?_)<;>intro _ h
        ·exact gP 11 [1,1,5,1] y<|bbt (r:=(IntKind.i64.wrap (BitVec.ofInt IntKind.i64.bits b &&& BitVec.ofInt IntKind.i64.bits 1).toNat)) rfl rfl rfl<|go 8 ⟨_,an,(!seq i ⟨#[]⟩)==((IntKind.i64.wrap (BitVec.ofInt IntKind.i64.bits b &&& BitVec.ofInt IntKind.i64.bits 1).toNat)==1),fK,x.sub,y,h⟩
        ·exact go 12 ⟨_,an,false,fK,x.sub,y,h⟩
       ·rintro _ bd⟨am,p,q,rfl,aN,z,h⟩;exact gD 4 [5,1] z<|bbt (r:=(IntKind.i64.wrap (BitVec.ofInt IntKind.i64.bits b &&& BitVec.ofInt IntKind.i64.bits 1).toNat)) rfl rfl rfl<|gP 7 [5,1] z<|bbt (r:=(IntKind.i64.wrap (BitVec.ofInt IntKind.i64.bits b &&& BitVec.ofInt IntKind.i64.bits 2).toNat)) rfl rfl rfl<|go 5 ⟨_,p,(IntKind.i64.wrap (BitVec.ofInt IntKind.i64.bits b &&& BitVec.ofInt IntKind.i64.bits 1).toNat)==1,(IntKind.i64.wrap (BitVec.ofInt IntKind.i64.bits b &&& BitVec.ofInt IntKind.i64.bits 2).toNat)==2,q,fK,aN,z,h⟩
      ·refine gd 7 (bC 67 h ?_ ?_)<;>intro _ h
       ·refine gD 4 [5,1] a<|cB h (fun _ aP=>(ab7 k) aP (hG.mono kr)<|pt a) ?_;rintro be _ bf⟨ao,rfl,A⟩ h;have B:=ca A a;refine go 1 (bO 72 h ?_ ?_)<;>intro _ h
        ·exact gP 5 [5,1] B<|bdv (r:=(b.tmod 4)) rfl rfl (by decide) rfl<|go 7 ⟨_,ao,false,false,decide<|(b.tmod 4)<3,fK,A.sub,B,h⟩
        ·exact go 9 ⟨_,ao,false,false,false,fK,A.sub,B,h⟩
       ·exact gd 4 ⟨_,K,false,false,b==0,fK,kr,a,h⟩
 ·rintro _ bg⟨af,f,s,t,u,rfl,bh,d,h⟩;refine wk d (fun j m=>∃ap C,j ap [] [(2,.bool C)]∧m f [] []∧aei k C=some r_) ?_ ?_
  ·refine gd 3 (bO 79 h ?_ ?_)<;>intro _ h
   ·refine go 4 (bO 81 h ?_ ?_)<;>intro _ h
    ·refine go 12 (bO 90 h ?_ ?_)<;>intro _ h
     ·exact go 10 ⟨_,true,fK,d.sel [],h⟩
     ·exact gP 14 [9,1] d ⟨_,(e.length:Int)==0,fK,d.sel [],h⟩
    ·refine gP 12 [8,1] d (bO 88 h ?_ ?_)<;>intro _ h
     ·refine go 4 (bO 90 h ?_ ?_)<;>intro _ h
      ·exact go 10 ⟨_,true,fK,d.sel [],h⟩
      ·exact gP 14 [9,1] d ⟨_,(e.length:Int)==0,fK,d.sel [],h⟩
     ·exact go 11 ⟨_,false,fK,d.sel [],h⟩
   ·exact go 20 ⟨_,false,fK,d.sel [],h⟩
  ·rintro _ bi⟨ap,C,rfl,aT,h⟩;refine gd 1 ?_;cases oj h n;exact rt1 ⟨f,rfl,aT⟩
theorem anQ(k:Nat):arP (f76 k):=by
 intro K wi g bs i l p d t u v x h hG e;obtain⟨Z,n,h⟩:=rz h;refine en 30 Tryz.func76 rfl ?_;unfold f76 at h;refine gD 11 [0,1] e<|bar (r:=(w64<|i+1)) rfl rfl rfl<|gR 13 [0,0,1,1] [] e (fun y e=>mxb (a:=l) (b:=d) rfl rfl<|gR 5 [1,0] [] e (fun z f=>wk f (fun j m=>∃q o,j q [] [(4,.bool o)]∧m K [] [.box bs g #[iI (w64<|i+1),iI<|imax l d,.bool p] 96]∧an4 k i l p d o=some Z) ?_ ?_))
 ·refine gD 7 [0,1] f (bO 26 h ?_ ?_)<;>intro _ h
  ·exact go 8 ⟨_,decide<|d≤16,fK,f,h⟩
  ·exact go 6 ⟨_,false,fK,f,h⟩
 ·rintro _ A⟨q,o,rfl,s,h⟩;refine gd 1 ?_;cases oj h n;exact rt1 ⟨K,rfl,s⟩
theorem au6(k:Nat):aqq (f135 k):=by
 intro K wi e g h hG a;obtain⟨y,z,h⟩:=rz h;refine en 9 Tryz.func135 rfl ?_;unfold f135 at h;refine gd 5<|wk a (fun j m=>∃d b,j d [] [(2,.bool b)]∧m K [] []∧aka k b=some y) ?_ ?_
 ·refine gd 4 (bO 5 h ?_ ?_)<;>intro _ h
  ·exact go 8 ⟨_,decide<|e≤122,fK,a,h⟩
  ·exact go 6 ⟨_,false,fK,a,h⟩
 ·rintro _ i⟨d,b,rfl,f,h⟩;refine gd 1 ?_;cases oj h z;exact rt1 ⟨K,rfl,f⟩
theorem avQ(k:Nat):ao1 (f136 k):=by
 intro K wi e g h hG a;obtain⟨y,z,h⟩:=rz h;refine en 9 Tryz.func136 rfl ?_;unfold f136 at h;refine gd 5<|wk a (fun j m=>∃d b,j d [] [(2,.bool b)]∧m K [] []∧ajU k b=some y) ?_ ?_
 ·refine gd 4 (bO 5 h ?_ ?_)<;>intro _ h
  ·exact go 8 ⟨_,decide<|e≤57,fK,a,h⟩
  ·exact go 6 ⟨_,false,fK,a,h⟩
 ·rintro _ i⟨d,b,rfl,f,h⟩;refine gd 1 ?_;cases oj h z;exact rt1 ⟨K,rfl,f⟩
theorem avq(k:Nat):aqM (f111 k):=by
 intro K wi e J h hG z s;obtain⟨Z,n,h⟩:=rz h;refine en 28 Tryz.func111 rfl ?_;unfold f111 at h;refine gd 14<|wl s (fun j m g_=>∃t f a,∃(b:Nat),g_=a.length∧j t [0,5] [(6,iI (b:Int))]∧KH.sub K f∧m f [] []∧e.data.toList.drop b=a∧adR k e a b=some Z) e.data.toList.length ?_ ?_
 ·exact⟨_,K,e.data.toList,0,rfl,fK,kr,s,List.drop_zero,h⟩
 ·rintro _ _ N⟨t,f,a,b,rfl,rfl,p,l,d,h⟩;rcases a with _|⟨O,a⟩
  ·refine gd 2<|bcm (r:=false) rfl rfl (congrArg some<|adV d)<|go 17 ?_;cases oj h n;exact rt1 ⟨f,rfl,l⟩
  ·refine gd 2<|bcm (r:=true) rfl rfl (congrArg some<|ado d)<|go 14<|wk l (fun j m=>∃u g q,j u [0,5,6] [(24,.bool q)]∧KH.sub f g∧m g [] []∧ahh k b q (adR k e a)=some Z) ?_ ?_
   ·refine gd 3<|ixN Tyt9 rfl rfl d<|cB h (fun _ A=>(au6 k) A (hG.mono p)<|pt l) ?_;rintro S _ U⟨v,rfl,i⟩ h;have o:=ca i l;refine go 2 (bO 14 h ?_ ?_)<;>intro _ h
    ·refine go 6 (bO 17 h ?_ ?_)<;>intro _ h
     ·exact go 10 ⟨_,v,true,fK,i.sub,o,h⟩
     ·refine go 5<|ixN Tyt9 rfl rfl d<|go 1<|cB h (fun _ B=>(avQ k) B (gm hG o)<|pt o) ?_;rintro C _ V⟨D,rfl,x⟩ h;have G:=ca x o;exact go 7 ⟨_,D,!C,fK,i.sub.trans x.sub,G,h⟩
    ·exact go 12 ⟨_,v,false,fK,i.sub,o,h⟩
   ·rintro _ W⟨u,g,q,rfl,I,y,h⟩;refine bC 24 h ?_ ?_<;>intro _ h
    ·refine gd 12 ?_;cases oj h n;exact rt1 ⟨g,rfl,y⟩
    ·exact gd 5<|bar (r:=((b+1:Nat):Int)) rfl rfl (aiZ<|ajc z d)<|go 3 ⟨_,Nat.lt_succ_self _,_,g,a,b+1,rfl,fK,p.trans I,y,aac d,h⟩
theorem auA(k:Nat):aqP (f165 k):=by
 intro K wi g A B r C h hG l D p;obtain⟨n,o,h⟩:=rz h;refine en 19 Tryz.func165 rfl ?_;unfold f165 at h;refine gd 14<|wl p (fun j m g_=>∃q a,∃(d:Nat),g_=a.length∧j q [0,1,7] [(8,iI (d:Int))]∧m K [] []∧g.drop d=a∧ahD k r a d=some n) g.length ?_ ?_
 ·exact⟨_,g,0,rfl,fK,p,List.drop_zero,h⟩
 ·rintro _ _ G⟨q,a,d,rfl,rfl,f,e,h⟩;rcases a with _|⟨s,a⟩
  ·refine gd 2<|cNl e<|go 15 ?_;cases oj h o;exact rt1 ⟨K,rfl,f⟩
  ·refine gd 2<|cCl e<|go 19 ?_;obtain⟨t,u,I,x,J,y,z⟩:=(l).row.at_ (aaB e);obtain⟨rfl,N⟩:=z;refine iNl 9 1 x e (ld1 (v:=.string s) Tya9 rfl (f.cell<|kr.cell<|y 0 _ rfl)<|go 3<|bC 16 h ?_ ?_)<;>intro _ h
   ·refine gd 13 ?_;cases oj h o;exact rt1 ⟨K,rfl,f⟩
   ·exact gd 5<|iCl e ((l).len)<|go 3 ⟨_,Nat.lt_succ_self _,_,a,d+1,rfl,fK,f,aac e,h⟩
theorem av1(k:Nat):aq9 (f137 k):=by
 intro K wi l m o p b h hG d e a;obtain⟨y,z,h⟩:=rz h;refine en 9 Tryz.func137 rfl ?_;unfold f137 at h;refine gd 9<|cB h (fun _ f=>(auA k) f (hG.mono kr) d e<|pt a) ?_;rintro b _ q⟨g,rfl,i⟩ h;have j:=ca i a;refine go 5 ?_;cases oj h z;exact rt1 ⟨g,rfl,j⟩
set_option maxRecDepth 100000 in
theorem agv:(Lib.fields ag0.data.toList).map (fun l=>(⟨l.toArray⟩:ByteArray))=ack:=by kernel_rfl
theorem amD : ∀x∈ack,x.size≤mB:=by
 have h:ack.all (fun x=>decide (x.size≤mB))=true:=by kernel_rfl
 intro x hx;simpa using List.all_eq_true.1 h x hx
set_option maxRecDepth 100000 in
theorem au5(k:Nat):alp (f138 k):=by
 unfold alp;intro K wi r0 h hG S0;unfold f138 at h;obtain rfl:=Option.some.inj h;refine enter Tryz.func138 rfl (n:=2) rfl ?_;refine wp_seq ?_;refine wp_region_lit ?_;refine asg (v:=.slice none 0 0) rfl ?_;refine wpList_nil ?_;refine aaG ?_;refine wp_seq ?_;refine wp_region_lit ?_;have hlen:(Lib.fields ag0.data.toList).length=ack.length:=by rw[←agv,List.length_map]
 have hmap:(Lib.fields ag0.data.toList).map (fun l=>Value.string ⟨l.toArray⟩)=ack.map Value.string:=by rw[←agv,List.map_map];rfl
 obtain⟨K1,S1,hs1,hr1⟩:=S0.texts (xs:=ack) 9 amD (by decide);refine clV (caps:=#[]) (vs:=[.string ag0]) (R:=fun v w'=>v=.slice (some ⟨zz wi,0,none⟩) ack.length ack.length∧w'=wi.alloc (.cells (ack.map Value.string).toArray 9)) rfl (by kernel_rfl) rfl
  ((Any.strings_Fields_core Tryz.lays157 (by kernel_rfl) ag0 wi (by decide) amt (fun c hc=>S0.cell (hG.1 c hc))).mono (fun e w' h=>⟨_,h.1,by rw[hlen],by rw[h.2,hmap];rfl⟩)) ?_
 rintro _ _⟨rfl,rfl⟩;refine asg (v:=.slice (some ⟨zz wi,0,none⟩) ack.length ack.length) rfl ?_;refine wpList_nil ?_;refine aaG ?_;refine wp_ret ?_;exact adq rfl (resT rfl) ⟨K1,_,_,rfl,S1,hr1⟩
theorem au1(k:Nat):aqQ (f112 k):=by
 intro K wi p e h hG f a;obtain⟨y,z,h⟩:=rz h;refine en 6 Tryz.func112 rfl ?_;unfold f112 at h;refine gd 7<|cB h (fun _ g=>(au5 k) g (hG.mono kr)<|pt a) ?_;rintro e _ q⟨r,s,t,rfl,b,i⟩ h;have d:=ca b a;refine go 1<|cB h (fun _ j=>(av1 k) j (gm hG b) i f<|pt d) ?_;rintro u _ v⟨l,rfl,m⟩ h;have o:=ca m d;refine go 4 ?_;cases oj h z;exact rt1 ⟨l,rfl,o⟩
theorem aeQ(k:Nat):asp (f79 k):=by
 intro K wi v x h hG g e;obtain⟨Z,n,h⟩:=rz h;refine en 15 Tryz.func79 rfl ?_;unfold f79 at h;refine gd 5<|wk e (fun j m=>∃i b f,j i [] [(2,.bool f)]∧KH.sub K b∧m b [] []∧akQ k f=some Z) ?_ ?_
 ·refine gd 2<|cB h (fun _ p=>(avq k) p (hG.mono kr) g<|pt e) ?_;rintro y _ z⟨l,rfl,a⟩ h;have d:=ca a e;refine go 1 (bO 5 h ?_ ?_)<;>intro _ h
  ·refine go 8 (bO 10 h ?_ ?_)<;>intro _ h
   ·refine go 3<|cB h (fun _ q=>(au1 k) q (gm hG a) g<|pt d) ?_;rintro r _ A⟨s,rfl,o⟩ h;have t:=ca o d;exact go 6 ⟨_,s,!r,fK,a.sub.trans o.sub,t,h⟩
   ·exact go 7 ⟨_,l,false,fK,a.sub,d,h⟩
  ·exact go 12 ⟨_,l,false,fK,a.sub,d,h⟩
 ·rintro _ B⟨i,b,f,rfl,C,u,h⟩;refine gd 1 ?_;cases oj h n;exact rt1 ⟨b,rfl,u⟩
theorem axq(k:Nat):an1 (f95 k):=by
 intro K wi e t h hG q i;obtain⟨y,z,h⟩:=rz h;refine en 23 Tryz.func95 rfl ?_;unfold f95 at h;refine gd 14<|wl i (fun j m g_=>∃l a,∃(b:Nat),g_=a.length∧j l [0,5] [(6,iI (b:Int))]∧m K [] []∧e.data.toList.drop b=a∧aee k e a b=some y) e.data.toList.length ?_ ?_
 ·exact⟨_,e.data.toList,0,rfl,fK,i,List.drop_zero,h⟩
 ·rintro _ _ u⟨l,a,b,rfl,rfl,f,d,h⟩;rcases a with _|⟨s,a⟩
  ·refine gd 2<|bcm (r:=false) rfl rfl (congrArg some<|adV d)<|go 18 ?_;cases oj h z;exact rt1 ⟨K,rfl,f⟩
  ·refine gd 2<|bcm (r:=true) rfl rfl (congrArg some<|ado d)<|go 14<|wk f (fun j m=>∃o g,j o [0,5,6] [(18,.bool g)]∧m K [] []∧aio k b g (aee k e a)=some y) ?_ ?_
   ·refine gd 3 (ixN Tyt9 rfl rfl d<|go 2<|bO 13 h ?_ ?_)<;>intro _ h
    ·exact go 7 ⟨_,true,fK,f,h⟩
    ·exact go 5<|ixN Tyt9 rfl rfl d<|go 5 ⟨_,decide<|(s.toNat:Int)>126,fK,f,h⟩
   ·rintro _ v⟨o,g,rfl,p,h⟩;refine bC 18 h ?_ ?_<;>intro _ h
    ·refine gd 12 ?_;cases oj h z;exact rt1 ⟨K,rfl,p⟩
    ·exact gd 5<|bar (r:=((b+1:Nat):Int)) rfl rfl (aiZ<|ajc q d)<|go 3 ⟨_,Nat.lt_succ_self _,_,a,b+1,rfl,fK,p,aac d,h⟩
theorem agx(k:Nat)(a:ByteArray) : ∀(l:List UInt8) (i:Nat),aee k a l i=some true→a.size≤60
 | [],i,h=>by
  unfold aee at h;have:=of_decide_eq_true (Option.some.inj h);omega
 | e::l,i,h=>by
  unfold aee at h;rcases Bool.eq_false_or_eq_true (decide ((e.toNat:Int)<32)) with h1 | h1
  ·rw[h1] at h;simp[aio] at h
  ·rw[h1] at h;simp only[cond_false,aio] at h;rcases Bool.eq_false_or_eq_true (decide ((e.toNat:Int)>126)) with h2 | h2
   ·rw[h2] at h;simp at h
   ·rw[h2] at h;exact agx k a l _ h
theorem asl(k:Nat)(h162:an1 (f95 k)){K:KH}{wi:World}{a:ByteArray}{r:Bool}(h:f95 k a=some r)(hG:GK K)(ha:a.size≤mB)(S0:Sx K K wi wi (fun b=>b∈Ents.blks []) []) :
  Calls Tryz.prog 67 #[.string a] wi (Ret fun v w'=>∃(K' : KH) (s:ByteArray),v=.tuple #[.string s,.int .i64 (cond r 0 2)]∧Sx K K' wi w' (fun b=>b∈Ents.blks []) []):=by
 refine enter Tryz.func67 rfl (n:=12) rfl ?_;refine wp_seq ?_;refine wp_region_lit ?_;refine asg (v:=.string ⟨#[]⟩) rfl ?_;refine asg (v:=.int .i64 0) rfl ?_;refine wpList_nil ?_;refine aaG ?_;refine wp_seq ?_;refine wp_seq ?_;refine wp_region_lit ?_;refine mv (v:=.string a) rfl ?_;refine clV (caps:=#[]) (vs:=[.string a]) rfl (by kernel_rfl) rfl (h162 h hG ha S0) ?_;rintro _ w1⟨K1,rfl,T1⟩;refine unot (a:=r) rfl ?_;refine wpList_nil ?_;refine aaG ?_;rcases r with _|_
 ·refine cndT rfl ?_;refine wp_seq ?_;refine wp_region_lit ?_;refine asg (v:=.string ⟨#[]⟩) rfl ?_;refine asg (v:=.int .i64 2) rfl ?_;refine wpList_nil ?_;refine aaG ?_;refine wp_ret ?_;refine ar9 ?_;exact aby rfl (resT rfl) (resT rfl) ⟨K1,_,rfl,T1⟩
 ·have hsh:a.size≤60:=agx k a _ _ h;refine cndF rfl ?_;refine wp_skip ?_;refine aaG ?_;refine wp_seq ?_;refine wp_region_lit ?_;refine mv (v:=.string a) rfl ?_;have hG1:=hG.mono T1.sub;refine clV (caps:=#[]) (vs:=[.string a,.string ⟨#[92]⟩,.string ⟨#[92,92]⟩]) rfl (by kernel_rfl) rfl (apX T1 hG1 a ⟨#[92]⟩ ⟨#[92,92]⟩ (by omega) (by decide) (by decide)) ?_;rintro _ w2⟨s2,rfl,hs2,T2⟩;refine clV (caps:=#[]) (vs:=[.string s2,.string ⟨#[34]⟩,.string ⟨#[92,34]⟩]) rfl (by kernel_rfl) rfl (apX T2 hG1 s2 ⟨#[34]⟩ ⟨#[92,34]⟩ (by omega) (by decide) (by decide)) ?_;rintro _ w3⟨s3,rfl,hs3,T3⟩;refine bsa (a:=⟨#[34]⟩) (b:=s3) rfl rfl (by have:(⟨#[34]⟩:ByteArray).size=1:=rfl;omega) ?_;refine bsa (a:=⟨#[34]⟩++s3) (b:=⟨#[34]⟩) rfl rfl (by have:(⟨#[34]⟩:ByteArray).size=1:=rfl;rw[ByteArray.size_append];omega) ?_;refine asg (v:=.string (⟨#[34]⟩++s3++⟨#[34]⟩)) rfl ?_;refine asg (v:=.int .i64 0) rfl ?_;refine wpList_nil ?_;refine aaG ?_;refine wp_ret ?_;exact aby rfl (resT rfl) (resT rfl) ⟨K1,_,rfl,T3⟩
theorem axn(k:Nat):anX (f78 k):=by
 unfold anX;intro K wi a0 r0 h hG ha0 S0;unfold f78 at h;refine enter Tryz.func78 rfl (n:=12) rfl ?_;refine wp_seq ?_;refine wp_region_lit ?_;refine asg (v:=.bool false) rfl ?_;refine wpList_nil ?_;refine aaG ?_;refine wp_seq ?_;refine wp_region_lit ?_;refine mv (v:=.string a0) rfl ?_;refine clV (caps:=#[]) (vs:=[.string a0]) rfl (by kernel_rfl) rfl (asl k (axq k) h hG ha0 S0) ?_;rintro _ w1⟨K1,s1,rfl,T1⟩;refine mv (v:=.tuple #[.string s1,.int .i64 (cond r0 0 2)]) rfl ?_;refine ext (v:=.string s1) rfl rfl ?_;refine ext (v:=.int .i64 (cond r0 0 2)) rfl rfl ?_;refine asg (v:=.string s1) rfl ?_;refine asg (v:=.int .i64 (cond r0 0 2)) rfl ?_;refine wpList_nil ?_;refine aaG ?_;refine wp_seq ?_;refine wp_region_lit ?_;refine mv (v:=.int .i64 (cond r0 0 2)) rfl ?_;refine bcm (r:=decide ((cond r0 0 2:Int)=0)) rfl rfl rfl ?_;refine asg (v:=.bool (decide<|(cond r0 0 2:Int)=0)) rfl ?_;refine wpList_nil ?_;refine aaG ?_;refine wp_ret ?_;exact adq rfl (resT rfl) ⟨K1,by cases r0<;>rfl,T1⟩
theorem ase(k:Nat)(F:agc)(IH53:aeN F.f53)(IH80:aeL F.f80):aeN (aqJ k F):=by
 intro K wi g bs am an ao aL bm u bn bo bp bq h hG aM aN;obtain⟨r_,n,h⟩:=rz h;obtain⟨o,q,f,v,i⟩:=aL;obtain⟨x,y,rfl,ap,aP⟩:=aai.open aM;refine en 107 Tryz.func53 rfl ?_;unfold aqJ at h;refine gI 7 [] [] aN (fun aT aq=>wk aq (fun j m=>∃ar l b d e S,j ar [0,2,4] [(24,.bool S)]∧KH.sub K l∧m l [] [.box bs g #[iI b,iI d,.bool e] 96,.box (zz wi) (zz wi) (aE o q f v x i y) 35]∧ahb k F o q f i u b d e S=some r_) ?_ ?_)
 ·refine gd 3 ?_;have au:=p10 aq;refine cB h (fun _ aU=>(anQ k) aU (hG.mono kr)<|pt au) ?_;rintro⟨⟨U,V,C⟩,br⟩ _ bu⟨W,rfl,D⟩ h;have A:=ca D au;refine go 2 (bO 13 h ?_ ?_)<;>intro _ h
  ·exact go 13 ⟨_,W,U,V,C,true,fK,D.sub,A,h⟩
  ·refine gP 8 [3,2] A (bO 17 h ?_ ?_)<;>intro _ h
   ·exact gP 15 [2,1] A ⟨_,W,U,V,C,!C,fK,D.sub,A,h⟩
   ·exact go 10 ⟨_,W,U,V,C,false,fK,D.sub,A,h⟩
 ·rintro _ bv⟨ar,l,b,d,e,S,rfl,s,a,h⟩;refine bC 24 h ?_ ?_<;>intro _ h
  ·refine gd 8 ?_;cases oj h n;exact rt1 ⟨l,rfl,a.sel [0]⟩
  ·refine gd 13<|wk a (fun j m=>∃av z X Y,j av [0,2,4] [(7,iI X),(8,.bool Y)]∧KH.sub l z∧m z [] [.box bs g #[iI b,iI d,.bool e] 96,.box (zz wi) (zz wi) (aE o q f v x i y) 35]∧ade k F i u b d e X Y=some r_) ?_ ?_
   ·refine gD 13 [0,2] a (bC 40 h ?_ ?_)<;>intro _ h
    ·refine gD 4 [1,2] a<|cB h (fun _ aV=>(ab7 k) aV (hG.mono s)<|pt a) ?_;rintro bw _ bx⟨aw,rfl,Z⟩ h;have ab:=ca Z a;refine go 1 (bO 45 h ?_ ?_)<;>intro _ h
     ·exact gP 11 [2,2] ab ⟨_,aw,0,seq f ⟨#[]⟩,fK,Z.sub,ab,h⟩
     ·exact go 8 ⟨_,aw,0,false,fK,Z.sub,ab,h⟩
    ·refine gd 7 (bC 50 h ?_ ?_)<;>intro _ h
     ·refine gD 4 [1,2] a<|cB h (fun _ aW=>(ab7 k) aW (hG.mono s)<|pt a) ?_;rintro bz _ bB⟨ax,rfl,ac⟩ h;have ad:=ca ac a;refine go 1 (bO 55 h ?_ ?_)<;>intro _ h
      ·exact gP 11 [2,2] ad ⟨_,ax,0,seq f ⟨#[]⟩,fK,ac.sub,ad,h⟩
      ·exact go 8 ⟨_,ax,0,false,fK,ac.sub,ad,h⟩
     ·refine gd 7 (bC 60 h ?_ ?_)<;>intro _ h
      ·refine gD 6 [1,2] a (bO 65 h ?_ ?_)<;>intro _ h
       ·refine gP 5 [2,2] a<|cB h (fun _ aX=>(axn k) aX (hG.mono s) ap<|pt a) ?_;rintro aY _ bD⟨aZ,rfl,ay⟩ h;have a0:=ca ay a;exact go 5 ⟨_,aZ,0,aY,fK,ay.sub,a0,h⟩
       ·exact go 8 ⟨_,l,0,false,fK,kr,a,h⟩
      ·refine gd 7 (bC 70 h ?_ ?_)<;>intro _ h
       ·refine gD 6 [1,2] a (bO 75 h ?_ ?_)<;>intro _ h
        ·refine gP 5 [2,2] a<|cB h (fun _ a3=>(aeQ k) a3 (hG.mono s) ap<|pt a) ?_;rintro a4 _ bE⟨a5,rfl,az⟩ h;have a6:=ca az a;exact go 5 ⟨_,a5,0,a4,fK,az.sub,a6,h⟩
        ·exact go 8 ⟨_,l,0,false,fK,kr,a,h⟩
       ·refine gd 1<|wk a (fun j m=>∃aA ae,j aA [0,2,4] [(80,.bool ae)]∧m l [] [.box bs g #[iI b,iI d,.bool e] 96,.box (zz wi) (zz wi) (aE o q f v x i y) 35]∧anY k F o q f i u b d e ae=some r_) ?_ ?_
        ·refine gd 6 (bC 80 h ?_ ?_)<;>intro a7 h
         ·exact gd 3<|lX 80 a7.symm ⟨_,o==5,fK,a,h⟩
         ·exact gd 6 ⟨_,o==6,fK,a,h⟩
        ·rintro _ bF⟨aA,ae,rfl,p,h⟩;refine bC 80 h ?_ ?_<;>intro _ h
         ·refine gd 1<|wk p (fun j m=>∃aB G,j aB [0,2,4] [(8,.bool G)]∧m l [] [.box bs g #[iI b,iI d,.bool e] 96,.box (zz wi) (zz wi) (aE o q f v x i y) 35]∧an6 k F i u b d e G=some r_) ?_ ?_
          ·refine gD 5 [1,2] p (bO 86 h ?_ ?_)<;>intro _ h
           ·exact gP 10 [2,2] p ⟨_,seq f ⟨#[]⟩,fK,p,h⟩
           ·exact go 7 ⟨_,false,fK,p,h⟩
          ·rintro _ bG⟨aB,G,rfl,a8,h⟩;exact gd 5 ⟨_,l,1,G,fK,kr,a8,h⟩
         ·refine gd 1<|wk p (fun j m=>∃aG I J,j aG [0,2,4] [(8,.bool J)]∧KH.sub l I∧m I [] [.box bs g #[iI b,iI d,.bool e] 96,.box (zz wi) (zz wi) (aE o q f v x i y) 35]∧al1 k F i u b d e J=some r_) ?_ ?_
          ·refine gD 3 [0,2] p<|cB h (fun _ a9=>(ab7 k) a9 (hG.mono s)<|pt p) ?_;rintro bH _ bI⟨af,rfl,N⟩ h;have B:=ca N p;refine go 1 (bO 30 h ?_ ?_)<;>intro _ h
           ·refine gP 8 [1,2] B (bO 35 h ?_ ?_)<;>intro _ h
            ·exact gP 10 [2,2] B ⟨_,af,seq f ⟨#[]⟩,fK,N.sub,B,h⟩
            ·exact go 7 ⟨_,af,false,fK,N.sub,B,h⟩
           ·exact go 12 ⟨_,af,false,fK,N.sub,B,h⟩
          ·rintro _ bJ⟨aG,I,J,rfl,ba,bb,h⟩;exact gd 5 ⟨_,I,2,J,fK,ba,bb,h⟩
   ·rintro _ bK⟨av,z,X,Y,rfl,aH,t,h⟩;refine wk t (fun j m=>∃aI O ai aj ak al,j aI [] [(6,.bool ai)]∧KH.sub z O∧m O [] [.box bs g #[iI aj,iI ak,.bool al] 96]∧aiO k F ai aj ak al=some r_) ?_ ?_
    ·refine gd 3 (bO 92 h ?_ ?_)<;>intro _ h
     ·refine gP 12 [4,2] t (bO 99 h ?_ ?_)<;>intro _ h
      ·refine gP 9 [4,2] t<|bar (r:=(w64<|u+1)) rfl rfl rfl<|go 1<|cB h (fun _ bd=>IH80 bd (hG.mono<|s.trans aH) (me aP<|s.trans aH)<|pt t) ?_;rintro⟨⟨be,bf,bg⟩,bh⟩ _ bL⟨bi,rfl,aK⟩ h;have bj:=ca aK t;exact go 4 ⟨_,bi,bh,be,bf,bg,fK,aK.sub,bj.sel [0],h⟩
      ·exact go 10 ⟨_,z,false,b,d,e,fK,kr,t.sel [0],h⟩
     ·exact go 17 ⟨_,z,false,b,d,e,fK,kr,t.sel [0],h⟩
    ·rintro _ bM⟨aI,O,ai,aj,ak,al,rfl,bP,bk,h⟩;refine gd 1 ?_;cases oj h n;exact rt1 ⟨O,rfl,bk⟩
theorem as7(k:Nat)(F:agc)(IH53:aeN F.f53)(IH80:aeL F.f80):aeL (au4 k F):=by
 intro K wi g bs r s t p ae af C ai aj ak al h hG u v;obtain⟨r_,n,h⟩:=rz h;refine en 21 Tryz.func80 rfl ?_;unfold au4 at h;refine gd 14<|wl v (fun j m g_=>∃x b a,∃(d:Nat),∃f i l,g_=a.length∧j x [0,2,9,10] [(11,iI (d:Int))]∧KH.sub K b∧m b [] [.box bs g #[iI f,iI i,.bool l] 96]∧p.drop d=a∧aid k F C a d f i l=some r_) p.length ?_ ?_
 ·exact⟨_,K,p,0,r,s,t,rfl,fK,kr,v,List.drop_zero,h⟩
 ·rintro _ _ D⟨x,b,a,d,f,i,l,rfl,rfl,o,q,e,h⟩;rcases a with _|⟨⟨G,I,J,N,O⟩,a⟩
  ·refine gd 2<|cNl e<|go 15 ?_;cases oj h n;exact rt1 ⟨b,rfl,q⟩
  ·refine gd 2<|cCl e<|go 10<|eN q (me u o) e aai.open ?_;rintro am an ao ap aq ar⟨S,U,rfl,V,W⟩;refine gR 9 [0,0,0,5] [[iI 0,iI 0,sE,iI 0,nS]] q (fun au X Y=>?_);have y:=p10 Y;refine cB h (fun _ Z=>IH53 Z (hG.mono o) (aai.intro V W)<|pt y) ?_;rintro⟨⟨ab,ac,ad⟩,av⟩ _ aw⟨z,rfl,A⟩ h;have B:=ca A y;refine go 3 (bC 19 h ?_ ?_)<;>intro _ h
   ·refine gd 12 ?_;cases oj h n;exact rt1 ⟨z,rfl,B.sel [0]⟩
   ·exact gd 5<|iCl e ((me u o).len)<|go 3 ⟨_,Nat.lt_succ_self _,_,z,a,d+1,ab,ac,ad,rfl,fK,o.trans A.sub,B.sel [0],aac e,h⟩
theorem anB(k0:Nat) : ∀k,aeN (aej k0 k).f53∧aeL (aej k0 k).f80:=by
 intro k;induction k with
 | zero=>exact⟨by simp[aeN,aej],by simp[aeL,aej]⟩
 | succ k ih=>exact⟨ase k0 (aej k0 k) ih.1 ih.2,as7 k0 (aej k0 k) ih.1 ih.2⟩
theorem awE(k:Nat):aeN (f53 k):=(anB k k).1
theorem at8(k:Nat):aeL (f80 k):=(anB k k).2
theorem apu(k:Nat)(F:ach)(IH156:acR F.f156)(IH177:adc F.f177)(IH191:ada F.f191):acR (ao8 k F):=by
 intro K wi g bs r s t p aB aG C aH aI aK aL h hG u v;obtain⟨r_,n,h⟩:=rz h;refine en 21 Tryz.func156 rfl ?_;unfold ao8 at h;refine gd 14<|wl v (fun j m g_=>∃x b a,∃(d:Nat),∃f i l,g_=a.length∧j x [0,2,9,10] [(11,iI (d:Int))]∧KH.sub K b∧m b [] [.box bs g #[iI f,iI i,.bool l] 96]∧p.drop d=a∧af1 k F C a d f i l=some r_) p.length ?_ ?_
 ·exact⟨_,K,p,0,r,s,t,rfl,fK,kr,v,List.drop_zero,h⟩
 ·rintro _ _ D⟨x,b,a,d,f,i,l,rfl,rfl,o,q,e,h⟩;rcases a with _|⟨⟨G,I,J,N,O,S,U,V,W,X,Y⟩,a⟩
  ·refine gd 2<|cNl e<|go 15 ?_;cases oj h n;exact rt1 ⟨b,rfl,q⟩
  ·refine gd 2<|cCl e<|go 10<|eN q (ms u o) e aag.open ?_;rintro aM aN aP aT aU aV⟨Z,ab,ac,ad,ae,af,ai,aj,ak,al,rfl,am,an,ao,ap,aq,ar,au⟩;refine gR 9 [0,0,0,11] [[iI 0,sE,iI 0,sE,iI 0,iI 0,nS,nS,nS,nS,nS]] q (fun aW av aw=>?_);have y:=p10 aw;refine cB h (fun _ ax=>IH177 ax (hG.mono o) (aag.intro am an ao ap aq ar au)<|pt y) ?_;rintro⟨⟨ay,az,aA⟩,aX⟩ _ aY⟨z,rfl,A⟩ h;have B:=ca A y;refine go 3 (bC 19 h ?_ ?_)<;>intro _ h
   ·refine gd 12 ?_;cases oj h n;exact rt1 ⟨z,rfl,B.sel [0]⟩
   ·exact gd 5<|iCl e ((ms u o).len)<|go 3 ⟨_,Nat.lt_succ_self _,_,z,a,d+1,ay,az,aA,rfl,fK,o.trans A.sub,B.sel [0],aac e,h⟩
theorem aqo(k:Nat)(F:ach)(IH156:acR F.f156)(IH177:adc F.f177)(IH191:ada F.f191):adc (alG k F):=by
 intro K wi g bs bf bg bh cK eF B eH eI eJ eL h hG cL cM;obtain⟨r_,n,h⟩:=rz h;obtain⟨l,J,S,N,U,V,v,x,y,z,o⟩:=cK;obtain⟨X,Y,Z,ab,ac,ad,ae,af,ai,aj,rfl,bi,av,bj,bk,bm,bn,aX⟩:=aag.open cL;refine en 192 Tryz.func177 rfl ?_;unfold alG at h;refine gI 6 [] [] cM (fun bY bZ=>wk bZ (fun j m=>∃b0 aY aZ aB aG aw ax ay bI,j b0 [0,2,4] [(7,pp aZ 0),(8,.bool bI)]∧KH.sub K aY∧m aY [0] [.box (zz wi) (zz wi) (aS l J S N U V X v Y Z x ab ac y ad ae z af ai o aj) 62,.box (zz wi) aZ #[iI aB,.bool aG,iI aw,iI ax,.bool ay] 231]∧ago k F bf bg bh l J S N U V v x y z o B aB aG aw ax ay bI=some r_) ?_ ?_)
 ·refine rB [3] bZ (fun bo cN=>ah 2 [1,0,2,1] cN<|an2 (i:=0) (j:=7) ?_ ?_)
  ·refine opQ (i:=0) rfl<|cB h (fun _ cO=>(aqZ k) cO (hG.mono kr)<|pt bo) ?_;rintro O _ bp⟨ak,eM,eO,eP,rfl,az,bq⟩ h;have cP:=ca az bo;have aH:=cP.lowerm_ (i:=0) rfl bo.size;refine go 2<|wB (fwOf (is:=[1,2]) aH az.sub rfl) (fun eQ=>an2 (i:=3) (j:=7) ?_ ?_)
   ·refine opQ (i:=3) rfl ?_;rcases aA:mget qI l O with _|⟨a0,a3,a4,a5,a6⟩
    ·have h:=abB aA h;exact lkN (kv:=kI) (q:=qI) (R:=(VAgg<|abe ak)) (xs:=O) (k:=l) (aH.entAt (i:=0) rfl).1 aic (aax Tyk3) keI aq4 bq rfl rfl aA<|go 2 ⟨hE 3,ag 3 [4,5,6] (hE 3)<|aQ 7 rfl<|gR 3 [] [[iI 0,vN,iI 0,iI 0,vN]] aH (fun eR cQ=>⟨hE 3,aQ 8 rfl<|gR 3 [0] [] cQ (fun eS cR=>⟨hE 3,ag 1 [9] (hE 3)<|aD<|gx 1 ⟨_,ak,zz bp,0,false,0,0,false,false,fK,az.sub,cR.sel [3,2,0],h⟩⟩)⟩)⟩
    ·have h:=abA aA h;refine lkS (kv:=kI) (q:=qI) (R:=(VAgg<|abe ak)) (xs:=O) (k:=l) (aH.entAt (i:=0) rfl).1 aic (aax Tyk3) keI bq rfl rfl aA (fun eT cS=>?_);obtain⟨eU,rfl,cU⟩:=cS;obtain rfl:=abe.open cU;exact go 2 ⟨hE 3,ag 3 [4,5,6] (hE 3)<|aQ 7 rfl<|gR 3 [] [[iI 0,vN,iI 0,iI 0,vN]] aH (fun eV cV=>⟨hE 3,aQ 8 rfl<|gR 3 [0] [] cV (fun eX cW=>⟨hE 3,ag 1 [9] (hE 3)<|aD<|gx 1 ⟨_,ak,zz bp,a0,a3,a4,a5,a6,true,fK,az.sub,cW.sel [3,2,0],h⟩⟩)⟩)⟩
   ·refine opQ (i:=7) rfl<|gR 3 [] [[iI 0,vN,iI 0,iI 0,vN]] aH (fun eY a7=>wB (fwOf (is:=[2,3]) a7 az.sub rfl) (fun cY=>aQ 3 rfl ?_));rcases W:mget qI l O with _|⟨a0,a3,a4,a5,a6⟩
    ·have h:=abB W h;exact lkN (kv:=kI) (q:=qI) (R:=(VAgg<|abe ak)) (xs:=O) (k:=l) (a7.entAt (i:=1) rfl).1 aic (aax Tyk3) keI aq4 bq rfl rfl W<|go 2 ⟨hE 3,ag 3 [4,5,6] (hE 3)<|aQ 8 rfl<|gR 3 [0] [] a7 (fun cZ bJ=>⟨hE 3,ag 1 [9] (hE 3)<|aD<|gx 1 ⟨_,ak,zz bp,0,false,0,0,false,false,fK,az.sub,bJ.sel [3,2,0],h⟩⟩)⟩
    ·have h:=abA W h;refine lkS (kv:=kI) (q:=qI) (R:=(VAgg<|abe ak)) (xs:=O) (k:=l) (a7.entAt (i:=1) rfl).1 aic (aax Tyk3) keI bq rfl rfl W (fun c2 bK=>?_);obtain⟨c4,rfl,bL⟩:=bK;obtain rfl:=abe.open bL;exact go 2 ⟨hE 3,ag 3 [4,5,6] (hE 3)<|aQ 8 rfl<|gR 3 [0] [] a7 (fun c5 bM=>⟨hE 3,ag 1 [9] (hE 3)<|aD<|gx 1 ⟨_,ak,zz bp,a0,a3,a4,a5,a6,true,fK,az.sub,bM.sel [3,2,0],h⟩⟩)⟩
  ·refine opQ (i:=7) rfl<|gR 3 [] [[iI 0,vN,iI 0,iI 0,vN]] bo (fun eZ br=>wB (fq [1,2] br) (fun e0=>aQ 0 rfl<|cB h (fun _ c7=>(aqZ k) c7 (hG.mono kr)<|pt br) ?_));rintro O _ e1⟨bu,e3,e4,e5,rfl,bv,aA⟩ h;have c8:=ca bv br;have a8:=c8.lowerm_ (i:=0) rfl br.size;refine go 2<|wB (fwOf (is:=[2,3]) a8 bv.sub rfl) (fun cY=>aQ 3 rfl ?_);rcases W:mget qI l O with _|⟨a0,a3,a4,a5,a6⟩
   ·have h:=abB W h;exact lkN (kv:=kI) (q:=qI) (R:=(VAgg<|abe bu)) (xs:=O) (k:=l) (a8.entAt (i:=0) rfl).1 aic (aax Tyk3) keI aq4 aA rfl rfl W<|go 2 ⟨hE 3,ag 3 [4,5,6] (hE 3)<|aQ 8 rfl<|gR 3 [1] [] a8 (fun cZ bJ=>⟨hE 3,ag 1 [9] (hE 3)<|aD<|gx 1 ⟨_,bu,zz bY.drew,0,false,0,0,false,false,fK,bv.sub,bJ.sel [3,2,1],h⟩⟩)⟩
   ·have h:=abA W h;refine lkS (kv:=kI) (q:=qI) (R:=(VAgg<|abe bu)) (xs:=O) (k:=l) (a8.entAt (i:=0) rfl).1 aic (aax Tyk3) keI aA rfl rfl W (fun c2 bK=>?_);obtain⟨c4,rfl,bL⟩:=bK;obtain rfl:=abe.open bL;exact go 2 ⟨hE 3,ag 3 [4,5,6] (hE 3)<|aQ 8 rfl<|gR 3 [1] [] a8 (fun c5 bM=>⟨hE 3,ag 1 [9] (hE 3)<|aD<|gx 1 ⟨_,bu,zz bY.drew,a0,a3,a4,a5,a6,true,fK,bv.sub,bM.sel [3,2,1],h⟩⟩)⟩
 ·rintro _ e6⟨b0,aY,aZ,aB,aG,aw,ax,ay,bI,rfl,a,bw,h⟩;refine gd 1<|wk bw (fun j m=>∃b1 D al am an bP,j b1 [0,2,4,7] [(48,.bool bP)]∧KH.sub aY D∧m D [] [.box bs g #[iI al,iI am,.bool an] 96,.box (zz wi) (zz wi) (aS l J S N U V X v Y Z x ab ac y ad ae z af ai o aj) 62,.box (zz wi) aZ #[iI aB,.bool aG,iI aw,iI ax,.bool ay] 231]∧ads k F l J N v x y z o B aB aG aw ax ay al am an bP=some r_) ?_ ?_
  ·refine gd 4 (bO 21 h ?_ ?_)<;>intro _ h
   ·exact go 29 ⟨_,aY,bf,bg,bh,true,fK,kr,bw,h⟩
   ·refine go 5<|cB h (fun _ da=>(anQ k) da (hG.mono a)<|pt bw) ?_;rintro⟨⟨aI,aK,aL⟩,e7⟩ _ e8⟨bQ,rfl,d⟩ h;have u:=ca d bw;refine go 4 (bO 27 h ?_ ?_)<;>intro _ h
    ·exact go 23 ⟨_,bQ,aI,aK,aL,true,fK,d.sub,u,h⟩
    ·refine gP 8 [2,2] u (bO 31 h ?_ ?_)<;>intro _ h
     ·refine gP 21 [2,1] u (bO 44 h ?_ ?_)<;>intro _ h
      ·exact go 6 ⟨_,bQ,aI,aK,aL,true,fK,d.sub,u,h⟩
      ·refine gP 3 [0,1,11] u<|cB h (fun _ db=>(amV k) db (hG.mono<|a.trans d.sub) (aag.intro bi av (me bj<|a.trans d.sub) (ms bk<|a.trans d.sub) (ms bm<|a.trans d.sub) (ms bn<|a.trans d.sub)<|mc aX<|a.trans d.sub)<|pt u) ?_;rintro dc _ e9⟨dd,rfl,b2⟩ h;have de:=ca b2 u;exact go 5 ⟨_,dd,aI,aK,aL,!dc,fK,d.sub.trans b2.sub,de,h⟩
     ·refine gP 10 [4,2] u (bO 36 h ?_ ?_)<;>intro _ h
      ·refine gP 14 [2,1] u (bO 44 h ?_ ?_)<;>intro _ h
       ·exact go 6 ⟨_,bQ,aI,aK,aL,true,fK,d.sub,u,h⟩
       ·refine gP 3 [0,1,11] u<|cB h (fun _ df=>(amV k) df (hG.mono<|a.trans d.sub) (aag.intro bi av (me bj<|a.trans d.sub) (ms bk<|a.trans d.sub) (ms bm<|a.trans d.sub) (ms bn<|a.trans d.sub)<|mc aX<|a.trans d.sub)<|pt u) ?_;rintro dg _ fa⟨dh,rfl,b3⟩ h;have di:=ca b3 u;exact go 5 ⟨_,dh,aI,aK,aL,!dg,fK,d.sub.trans b3.sub,di,h⟩
      ·refine gP 12 [0,1,11] u<|cB h (fun _ dj=>(amV k) dj (hG.mono<|a.trans d.sub) (aag.intro bi av (me bj<|a.trans d.sub) (ms bk<|a.trans d.sub) (ms bm<|a.trans d.sub) (ms bn<|a.trans d.sub)<|mc aX<|a.trans d.sub)<|pt u) ?_;rintro dk _ fb⟨dl,rfl,b4⟩ h;have dm:=ca b4 u;exact go 5 ⟨_,dl,aI,aK,aL,!dk,fK,d.sub.trans b4.sub,dm,h⟩
  ·rintro _ fc⟨b1,D,al,am,an,bP,rfl,f,e,h⟩;refine bC 48 h ?_ ?_<;>intro _ h
   ·refine gd 8 ?_;cases oj h n;exact rt1 ⟨D,rfl,e.sel [0]⟩
   ·refine gD 12 [1,2] e<|wk e (fun j m=>∃b5 a9 bR,j b5 [0,2,4,7] [(90,.bool bR)]∧KH.sub D a9∧m a9 [] [.box bs g #[iI al,iI am,.bool an] 96,.box (zz wi) (zz wi) (aS l J S N U V X v Y Z x ab ac y ad ae z af ai o aj) 62,.box (zz wi) aZ #[iI aB,.bool aG,iI aw,iI ax,.bool ay] 231]∧abs k F l v x y z o B aw ax ay al am an bR=some r_) ?_ ?_
    ·refine gd 3 (bO 53 h ?_ ?_)<;>intro _ h
     ·refine gP 8 [0,3] e (bO 57 h ?_ ?_)<;>intro _ h
      ·exact go 36 ⟨_,D,true,fK,kr,e,h⟩
      ·refine gP 5 [1,2] e<|cB h (fun _ dn=>(aeQ k) dn (gm hG e) bi<|pt e) ?_;rintro fe _ ff⟨aM,rfl,G⟩ h;have p:=ca G e;refine go 6 (bO 64 h ?_ ?_)<;>intro _ h
       ·exact go 28 ⟨_,aM,true,fK,G.sub,p,h⟩
       ·refine go 6 (bO 67 h ?_ ?_)<;>intro _ h
        ·refine gP 10 [0,3] p (bO 73 h ?_ ?_)<;>intro _ h
         ·exact go 19 ⟨_,aM,true,fK,G.sub,p,h⟩
         ·refine gP 14 [3,2,1,3] p (bO 81 h ?_ ?_)<;>intro _ h
          ·exact go 11 ⟨_,aM,true,fK,G.sub,p,h⟩
          ·refine gP 6 [1,3] p (bO 84 h ?_ ?_)<;>intro _ h
           ·refine gP 5 [3,2] p<|cB h (fun _ dp=>(aeQ k) dp (gm hG p) av<|pt p) ?_;rintro dq _ fg⟨dr,rfl,b6⟩ h;have ds:=ca b6 p;exact go 7 ⟨_,dr,!dq,fK,G.sub.trans b6.sub,ds,h⟩
           ·exact go 9 ⟨_,aM,false,fK,G.sub,p,h⟩
        ·refine gP 21 [3,2,1,3] p (bO 81 h ?_ ?_)<;>intro _ h
         ·exact go 11 ⟨_,aM,true,fK,G.sub,p,h⟩
         ·refine gP 6 [1,3] p (bO 84 h ?_ ?_)<;>intro _ h
          ·refine gP 5 [3,2] p<|cB h (fun _ dt=>(aeQ k) dt (gm hG p) av<|pt p) ?_;rintro du _ fh⟨dv,rfl,b7⟩ h;have dw:=ca b7 p;exact go 7 ⟨_,dv,!du,fK,G.sub.trans b7.sub,dw,h⟩
          ·exact go 9 ⟨_,aM,false,fK,G.sub,p,h⟩
     ·refine go 17 (bO 67 h ?_ ?_)<;>intro _ h
      ·refine gP 10 [0,3] e (bO 73 h ?_ ?_)<;>intro _ h
       ·exact go 19 ⟨_,D,true,fK,kr,e,h⟩
       ·refine gP 14 [3,2,1,3] e (bO 81 h ?_ ?_)<;>intro _ h
        ·exact go 11 ⟨_,D,true,fK,kr,e,h⟩
        ·refine gP 6 [1,3] e (bO 84 h ?_ ?_)<;>intro _ h
         ·refine gP 5 [3,2] e<|cB h (fun _ dx=>(aeQ k) dx (gm hG e) av<|pt e) ?_;rintro dy _ fi⟨dz,rfl,b8⟩ h;have dA:=ca b8 e;exact go 7 ⟨_,dz,!dy,fK,b8.sub,dA,h⟩
         ·exact go 9 ⟨_,D,false,fK,kr,e,h⟩
      ·refine gP 21 [3,2,1,3] e (bO 81 h ?_ ?_)<;>intro _ h
       ·exact go 11 ⟨_,D,true,fK,kr,e,h⟩
       ·refine gP 6 [1,3] e (bO 84 h ?_ ?_)<;>intro _ h
        ·refine gP 5 [3,2] e<|cB h (fun _ dB=>(aeQ k) dB (gm hG e) av<|pt e) ?_;rintro dC _ fj⟨dD,rfl,b9⟩ h;have dE:=ca b9 e;exact go 7 ⟨_,dD,!dC,fK,b9.sub,dE,h⟩
        ·exact go 9 ⟨_,D,false,fK,kr,e,h⟩
    ·rintro _ fk⟨b5,a9,bR,rfl,s,ba,h⟩;refine bC 90 h ?_ ?_<;>intro _ h
     ·refine gd 8 ?_;cases oj h n;exact rt1 ⟨a9,rfl,ba.sel [0]⟩
     ·refine gd 4<|wk ba (fun j m=>∃cb aN bS,j cb [0,2,4] [(133,.bool bS)]∧KH.sub a9 aN∧m aN [] [.box bs g #[iI al,iI am,.bool an] 96,.box (zz wi) (zz wi) (aS l J S N U V X v Y Z x ab ac y ad ae z af ai o aj) 62]∧acj k F v x y z o B al am an bS=some r_) ?_ ?_
      ·refine gD 8 [6,2,2,3,3,3] ba<|cB h (fun _ dF=>(ab7 k) dF (gm hG ba)<|pt ba) ?_;rintro fl _ fm⟨ao,rfl,t⟩ h;have b:=ca t ba;refine go 2 (bO 100 h ?_ ?_)<;>intro _ h
       ·exact go 35 ⟨_,ao,true,fK,t.sub,b.sel [0,1],h⟩
       ·refine gP 8 [4,3] b (bO 104 h ?_ ?_)<;>intro _ h
        ·refine gP 12 [7,2] b (bO 111 h ?_ ?_)<;>intro _ h
         ·exact go 24 ⟨_,ao,true,fK,t.sub,b.sel [0,1],h⟩
         ·refine gP 8 [0,2] b (bO 115 h ?_ ?_)<;>intro _ h
          ·refine gP 12 [10,2] b (bO 122 h ?_ ?_)<;>intro _ h
           ·exact go 13 ⟨_,ao,true,fK,t.sub,b.sel [0,1],h⟩
           ·refine gP 8 [0,2] b (bO 126 h ?_ ?_)<;>intro _ h
            ·refine gP 7 [10,2] b<|cB h (fun _ dG=>(ab7 k) dG (gm hG b)<|pt b) ?_;rintro dH _ fn⟨dI,rfl,cc⟩ h;have dJ:=ca cc b;exact go 7 ⟨_,dI,!dH,fK,t.sub.trans cc.sub,dJ.sel [0,1],h⟩
            ·exact go 10 ⟨_,ao,false,fK,t.sub,b.sel [0,1],h⟩
          ·refine gP 16 [0,2] b (bO 126 h ?_ ?_)<;>intro _ h
           ·refine gP 7 [10,2] b<|cB h (fun _ dK=>(ab7 k) dK (gm hG b)<|pt b) ?_;rintro dL _ fo⟨dM,rfl,ce⟩ h;have dN:=ca ce b;exact go 7 ⟨_,dM,!dL,fK,t.sub.trans ce.sub,dN.sel [0,1],h⟩
           ·exact go 10 ⟨_,ao,false,fK,t.sub,b.sel [0,1],h⟩
        ·refine gP 16 [0,2] b (bO 115 h ?_ ?_)<;>intro _ h
         ·refine gP 12 [10,2] b (bO 122 h ?_ ?_)<;>intro _ h
          ·exact go 13 ⟨_,ao,true,fK,t.sub,b.sel [0,1],h⟩
          ·refine gP 8 [0,2] b (bO 126 h ?_ ?_)<;>intro _ h
           ·refine gP 7 [10,2] b<|cB h (fun _ dO=>(ab7 k) dO (gm hG b)<|pt b) ?_;rintro dP _ fp⟨dQ,rfl,cf⟩ h;have dR:=ca cf b;exact go 7 ⟨_,dQ,!dP,fK,t.sub.trans cf.sub,dR.sel [0,1],h⟩
           ·exact go 10 ⟨_,ao,false,fK,t.sub,b.sel [0,1],h⟩
         ·refine gP 16 [0,2] b (bO 126 h ?_ ?_)<;>intro _ h
          ·refine gP 7 [10,2] b<|cB h (fun _ dS=>(ab7 k) dS (gm hG b)<|pt b) ?_;rintro dT _ fs⟨dU,rfl,ch⟩ h;have dV:=ca ch b;exact go 7 ⟨_,dU,!dT,fK,t.sub.trans ch.sub,dV.sel [0,1],h⟩
          ·exact go 10 ⟨_,ao,false,fK,t.sub,b.sel [0,1],h⟩
      ·rintro _ ft⟨cb,aN,bS,rfl,C,bx,h⟩;refine bC 133 h ?_ ?_<;>intro _ h
       ·refine gd 8 ?_;cases oj h n;exact rt1 ⟨aN,rfl,bx.sel [0]⟩
       ·refine gD 13 [10,2] bx<|wl bx (fun j m g_=>∃ci ap aq,∃(aP:Nat),∃aT aU aV,g_=aq.length∧j ci [0,2,4,135,136] [(137,iI (aP:Int))]∧KH.sub aN ap∧m ap [] [.box bs g #[iI aT,iI aU,.bool aV] 96,.box (zz wi) (zz wi) (aS l J S N U V X v Y Z x ab ac y ad ae z af ai o aj) 62]∧o.drop aP=aq∧acd k F v x y z o B aq aP aT aU aV=some r_) o.length ?_ ?_
        ·exact⟨_,aN,o,0,al,am,an,rfl,fK,kr,bx,List.drop_zero,h⟩
        ·rintro _ _ cj⟨ci,ap,aq,aP,aT,aU,aV,rfl,rfl,A,aW,bb,h⟩;rcases aq with _|⟨⟨ck,cl,cm,cn,co⟩,aq⟩
         ·refine gd 2<|cNl bb<|go 9<|wk aW (fun j m=>∃cq bz bT bU bV bW,j cq [] [(6,.bool bT)]∧KH.sub ap bz∧m bz [] [.box bs g #[iI bU,iI bV,.bool bW] 96]∧ahU k F bT bU bV bW=some r_) ?_ ?_
          ·refine gD 5 [6,2] aW<|bar (r:=(w64<|B+1)) rfl rfl rfl<|cB h (fun _ dW=>(at8 k) dW (hG.mono<|(((a.trans f).trans s).trans C).trans A) (me bj<|(((a.trans f).trans s).trans C).trans A)<|pt aW) ?_;rintro⟨⟨dX,dY,dZ⟩,fu⟩ _ fv⟨d0,rfl,I⟩ h;have bB:=ca I aW;refine go 1 (bO 168 h ?_ ?_)<;>intro _ h
           ·refine gP 9 [7,2] bB<|bar (r:=(w64<|B+1)) rfl rfl rfl<|go 1<|cB h (fun _ d1=>IH156 d1 (hG.mono<|((((a.trans f).trans s).trans C).trans A).trans I.sub) (ms bk<|((((a.trans f).trans s).trans C).trans A).trans I.sub)<|pt bB) ?_;rintro⟨⟨d2,d3,d4⟩,fx⟩ _ fy⟨d5,rfl,ar⟩ h;have bD:=ca ar bB;refine go 2 (bO 176 h ?_ ?_)<;>intro _ h
            ·refine gP 9 [8,2] bD<|bar (r:=(w64<|B+1)) rfl rfl rfl<|go 1<|cB h (fun _ d6=>IH156 d6 (hG.mono<|(((((a.trans f).trans s).trans C).trans A).trans I.sub).trans ar.sub) (ms bm<|(((((a.trans f).trans s).trans C).trans A).trans I.sub).trans ar.sub)<|pt bD) ?_;rintro⟨⟨d7,d8,d9⟩,fz⟩ _ fA⟨ea,rfl,bd⟩ h;have bE:=ca bd bD;refine go 2 (bO 184 h ?_ ?_)<;>intro _ h
             ·refine gP 9 [9,2] bE<|bar (r:=(w64<|B+1)) rfl rfl rfl<|go 1<|cB h (fun _ ec=>IH156 ec (hG.mono<|((((((a.trans f).trans s).trans C).trans A).trans I.sub).trans ar.sub).trans bd.sub) (ms bn<|((((((a.trans f).trans s).trans C).trans A).trans I.sub).trans ar.sub).trans bd.sub)<|pt bE) ?_;rintro⟨⟨ed,ee,ef⟩,eg⟩ _ fB⟨eh,rfl,cr⟩ h;have ei:=ca cr bE;exact go 4 ⟨_,eh,eg,ed,ee,ef,fK,((I.sub.trans ar.sub).trans bd.sub).trans cr.sub,ei.sel [0],h⟩
             ·exact go 10 ⟨_,ea,false,d7,d8,d9,fK,(I.sub.trans ar.sub).trans bd.sub,bE.sel [0],h⟩
            ·exact go 18 ⟨_,d5,false,d2,d3,d4,fK,I.sub.trans ar.sub,bD.sel [0],h⟩
           ·exact go 26 ⟨_,d0,false,dX,dY,dZ,fK,I.sub,bB.sel [0],h⟩
          ·rintro _ fC⟨cq,bz,bT,bU,bV,bW,rfl,fD,ej,h⟩;refine gd 1 ?_;cases oj h n;exact rt1 ⟨bz,rfl,ej⟩
         ·refine gd 2<|cCl bb<|go 11<|eN aW (mc aX<|(((a.trans f).trans s).trans C).trans A) bb aar.open ?_;rintro fE fF fG fH fI fJ⟨cs,ct,cu,cw,rfl,cx,cy,cz⟩;refine gR 5 [0] [[iI 0,sE,iI 0,nS,nS]] aW (fun fL cA au=>wk au (fun j m=>∃cC be bF bG bH bX,j cC [0,2,4,135,136,137] [(160,.bool bX)]∧KH.sub ap be∧m be [] [.box bs g #[iI bF,iI bG,.bool bH] 96,.box (zz wi) (zz wi) (aS l J S N U V X v Y Z x ab ac y ad ae z af ai o aj) 62]∧ahx k F aP bF bG bH bX (acd k F v x y z o B aq)=some r_) ?_ ?_)
          ·refine gD 5 [0,1] au (bO 145 h ?_ ?_)<;>intro _ h
           ·refine gP 9 [10,3] au (bar (r:=(w64<|(o.length:Int) - 1)) rfl rfl rfl<|go 4<|bO 153 h ?_ ?_)<;>intro _ h
            ·exact go 9 ⟨_,ap,aT,aU,aV,true,fK,kr,au.sel [1,2],h⟩
            ·refine gP 7 [0,0,5] au<|bar (r:=(w64<|B+1)) rfl rfl rfl<|go 1 ?_;have cD:=p102 au;refine cB h (fun _ ek=>IH191 ek (hG.mono<|(((a.trans f).trans s).trans C).trans A) (aar.intro cx cy cz)<|pt cD) ?_;rintro⟨⟨el,em,eo⟩,ep⟩ _ fM⟨eq,rfl,cG⟩ h;have es:=ca cG cD;exact go 5 ⟨_,eq,el,em,eo,!ep,fK,cG.sub,es.sel [0,2],h⟩
           ·refine gP 15 [0,0,5] au<|bar (r:=(w64<|B+1)) rfl rfl rfl<|go 1 ?_;have cH:=p102 au;refine cB h (fun _ et=>IH191 et (hG.mono<|(((a.trans f).trans s).trans C).trans A) (aar.intro cx cy cz)<|pt cH) ?_;rintro⟨⟨eu,ew,ex⟩,ey⟩ _ fN⟨ez,rfl,cI⟩ h;have eC:=ca cI cH;exact go 5 ⟨_,ez,eu,ew,ex,!ey,fK,cI.sub,eC.sel [0,2],h⟩
          ·rintro _ fO⟨cC,be,bF,bG,bH,bX,rfl,eD,cJ,h⟩;refine bC 160 h ?_ ?_<;>intro _ h
           ·refine gd 12 ?_;cases oj h n;exact rt1 ⟨be,rfl,cJ.sel [0]⟩
           ·exact gd 5<|iCl bb ((mc aX<|(((a.trans f).trans s).trans C).trans A).len)<|go 3 ⟨_,Nat.lt_succ_self _,_,be,aq,aP+1,bF,bG,bH,rfl,fK,A.trans eD,cJ,aac bb,h⟩
theorem aq5(k:Nat)(F:ach)(IH156:acR F.f156)(IH177:adc F.f177)(IH191:ada F.f191):ada (aiU k F):=by
 intro K wi g bs x y z ar bn J bo bp bq br h hG au av;obtain⟨r_,n,h⟩:=rz h;obtain⟨o,N,O,A,B⟩:=ar;obtain⟨S,U,V,W,rfl,ai,aw,ax⟩:=aar.open au;refine en 80 Tryz.func191 rfl ?_;unfold aiU at h;refine gI 8 [] [] av (fun aj ay=>mkm ay (fun bu az=>mup_ (kv:=kI) (q:=qI) (R:=VInt) (xs:=([]:List (Int×Int))) (k:=1) (u:=1) (uv:=iI 1) (i:=0) (.inl rfl) az rfl aik (aax Tyk3) keI (akt (kv:=kI) (R:=VInt)) rfl rfl rfl rfl (fun bv bw bx aA aB=>mup_ (kv:=kI) (q:=qI) (R:=VInt) (k:=2) (u:=2) (uv:=iI 2) (i:=0) (.inl rfl) aA rfl aik (aax Tyk3) keI aB rfl rfl rfl rfl (fun bz bB bD aG aH=>mup_ (kv:=kI) (q:=qI) (R:=VInt) (k:=3) (u:=1) (uv:=iI 1) (i:=0) (.inl rfl) aG rfl aik (aax Tyk3) keI aH rfl rfl rfl rfl (fun aI aK aL aM aN=>?_)))));have aP:=aM;refine mup_ (kv:=kI) (q:=qI) (R:=VInt) (k:=4) (u:=0) (uv:=iI 0) (i:=0) (.inl rfl) aP rfl aik (aax Tyk3) keI aN rfl rfl rfl rfl (fun aT aU aV p ak=>gP 9 [0,2] p ?_);rcases C:mget qI o (mput qI 4 0 (mput qI 3 1 (mput qI 2 2 (mput qI 1 1 ([]:List (Int×Int)))))) with _|bE
 ·have h:=abB C h;refine lkN (kv:=kI) (q:=qI) (R:=VInt) (xs:=(mput qI 4 0<|mput qI 3 1<|mput qI 2 2<|mput qI 1 1 ([]:List (Int×Int)))) (k:=o) (p.entAt (i:=0) rfl).1 aik (aax Tyk3) keI Tyz3 ak rfl rfl C<|go 67 ?_;cases oj h n;exact rt1 ⟨K,rfl,p.sel [2]⟩
 ·have h:=abA C h;refine lkS (kv:=kI) (q:=qI) (R:=VInt) (xs:=(mput qI 4 0<|mput qI 3 1<|mput qI 2 2<|mput qI 1 1 ([]:List (Int×Int)))) (k:=o) (p.entAt (i:=0) rfl).1 aik (aax Tyk3) keI ak rfl rfl C (fun bF aW=>?_);obtain rfl:=aW;refine go 8<|wk p (fun j m=>∃al s X Y Z ab,j al [0,2,4] [(65,.bool ab)]∧KH.sub K s∧m s [] [.box bs g #[iI X,iI Y,.bool Z] 96,.box (zz wi) (zz wi) (aC' o N O S A U V B W) 84]∧aci k F A B J X Y Z ab=some r_) ?_ ?_
  ·refine gd 9 ?_;have am:=p201 p;refine cB h (fun _ aX=>(anQ k) aX (hG.mono kr)<|pt am) ?_;rintro⟨⟨d,e,f⟩,bG⟩ _ bH⟨l,rfl,b⟩ h;have a:=ca b am;refine go 4 (bO 27 h ?_ ?_)<;>intro _ h
   ·exact go 40 ⟨_,l,d,e,f,true,fK,b.sub,a.sel [0,2],h⟩
   ·refine gP 8 [2,3] a (bO 31 h ?_ ?_)<;>intro _ h
    ·refine gP 14 [2,1] a (bO 39 h ?_ ?_)<;>intro _ h
     ·exact go 28 ⟨_,l,d,e,f,true,fK,b.sub,a.sel [0,2],h⟩
     ·refine gP 12 [3,3] a (bO 46 h ?_ ?_)<;>intro _ h
      ·exact go 21 ⟨_,l,d,e,f,true,fK,b.sub,a.sel [0,2],h⟩
      ·refine gP 16 [1,3,0,3] a (bO 55 h ?_ ?_)<;>intro _ h
       ·exact go 12 ⟨_,l,d,e,f,true,fK,b.sub,a.sel [0,2],h⟩
       ·refine gP 8 [1,3] a (bO 59 h ?_ ?_)<;>intro _ h
        ·refine gP 5 [1,3] a<|cB h (fun _ aY=>(aeQ k) aY (gm hG b) ai<|pt a) ?_;rintro aZ _ bI⟨a0,rfl,an⟩ h;have a3:=ca an a;exact go 7 ⟨_,a0,d,e,f,!aZ,fK,b.sub.trans an.sub,a3.sel [0,2],h⟩
        ·exact go 9 ⟨_,l,d,e,f,false,fK,b.sub,a.sel [0,2],h⟩
    ·refine gP 21 [3,3] a (bO 46 h ?_ ?_)<;>intro _ h
     ·exact go 21 ⟨_,l,d,e,f,true,fK,b.sub,a.sel [0,2],h⟩
     ·refine gP 16 [1,3,0,3] a (bO 55 h ?_ ?_)<;>intro _ h
      ·exact go 12 ⟨_,l,d,e,f,true,fK,b.sub,a.sel [0,2],h⟩
      ·refine gP 8 [1,3] a (bO 59 h ?_ ?_)<;>intro _ h
       ·refine gP 5 [1,3] a<|cB h (fun _ a4=>(aeQ k) a4 (gm hG b) ai<|pt a) ?_;rintro a5 _ bJ⟨a6,rfl,ao⟩ h;have a7:=ca ao a;exact go 7 ⟨_,a6,d,e,f,!a5,fK,b.sub.trans ao.sub,a7.sel [0,2],h⟩
       ·exact go 9 ⟨_,l,d,e,f,false,fK,b.sub,a.sel [0,2],h⟩
  ·rintro _ bK⟨al,s,X,Y,Z,ab,rfl,D,t,h⟩;refine bC 65 h ?_ ?_<;>intro _ h
   ·refine gd 8 ?_;cases oj h n;exact rt1 ⟨s,rfl,t.sel [0]⟩
   ·refine gd 3<|wk t (fun j m=>∃ap G ac ad ae af,j ap [] [(6,.bool ac)]∧KH.sub s G∧m G [] [.box bs g #[iI ad,iI ae,.bool af] 96]∧am6 k F ac ad ae af=some r_) ?_ ?_
    ·refine gD 5 [3,2] t<|bar (r:=(w64<|J+1)) rfl rfl rfl<|cB h (fun _ a8=>(at8 k) a8 (hG.mono D) (me aw D)<|pt t) ?_;rintro⟨⟨a9,ba,bb⟩,bL⟩ _ bM⟨bd,rfl,v⟩ h;have I:=ca v t;refine go 1 (bO 72 h ?_ ?_)<;>intro _ h
     ·refine gP 9 [4,2] I<|bar (r:=(w64<|J+1)) rfl rfl rfl<|go 1<|cB h (fun _ be=>IH156 be (hG.mono<|D.trans v.sub) (ms ax<|D.trans v.sub)<|pt I) ?_;rintro⟨⟨bf,bg,bh⟩,bi⟩ _ bP⟨bj,rfl,aq⟩ h;have bk:=ca aq I;exact go 4 ⟨_,bj,bi,bf,bg,bh,fK,v.sub.trans aq.sub,bk.sel [0],h⟩
     ·exact go 10 ⟨_,bd,false,a9,ba,bb,fK,v.sub,I.sel [0],h⟩
    ·rintro _ bQ⟨ap,G,ac,ad,ae,af,rfl,bR,bm,h⟩;refine gd 1 ?_;cases oj h n;exact rt1 ⟨G,rfl,bm⟩
theorem ahH(k0:Nat) : ∀k,acR (abl k0 k).f156∧adc (abl k0 k).f177∧ada (abl k0 k).f191:=by
 intro k;induction k with
 | zero=>exact⟨by simp[acR,abl],by simp[adc,abl],by simp[ada,abl]⟩
 | succ k ih=>exact⟨apu k0 (abl k0 k) ih.1 ih.2.1 ih.2.2,aqo k0 (abl k0 k) ih.1 ih.2.1 ih.2.2,aq5 k0 (abl k0 k) ih.1 ih.2.1 ih.2.2⟩
theorem auk(k:Nat):acR (f156 k):=(ahH k k).1
theorem ayl(k:Nat):adc (f177 k):=(ahH k k).2.1
theorem ayC(k:Nat):ada (f191 k):=(ahH k k).2.2
theorem avx(k:Nat):arg (f128 k):=by
 intro K wi g bs av aw ax aZ bJ bK bL bM bP h hG a0 a2;obtain⟨r_,n,h⟩:=rz h;obtain⟨ao⟩:=aZ;obtain⟨bQ,c1,rfl,ay⟩:=aad.open a0;refine en 87 Tryz.func128 rfl ?_;unfold f128 at h;refine gI 12 [0,1] [] a2 (fun bR az=>cB h (fun _ a3=>(ab7 k) a3 (hG.mono kr)<|pt az) ?_);rintro bS _ bT⟨ap,rfl,e⟩ h;have O:=ca e az;refine go 3 (bC 13 h ?_ ?_)<;>intro _ h
 ·refine gd 8 ?_;cases oj h n;exact rt1 ⟨ap,rfl,O.sel [1]⟩
 ·refine gD 13 [0,1] O<|wl O (fun j m g_=>∃aA A i,∃(q:Nat),∃S U V,g_=i.length∧j aA [0,15,16] [(17,iI (q:Int))]∧KH.sub ap A∧m A [] [.box bs g #[iI S,iI U,.bool V] 96]∧ao.drop q=i∧abp k i q S U V=some r_) ao.length ?_ ?_
  ·exact⟨_,ap,ao,0,av,aw,ax,rfl,fK,kr,O.sel [1],List.drop_zero,h⟩
  ·rintro _ _ W⟨aA,A,i,q,S,U,V,rfl,rfl,f,aq,D,h⟩;rcases i with _|⟨⟨X,r,Y,Z,ab,y⟩,i⟩
   ·refine gd 2<|cNl D<|go 15 ?_;cases oj h n;exact rt1 ⟨A,rfl,aq⟩
   ·refine gd 2<|cCl D<|go 10<|eN aq (mf ay<|e.sub.trans f) D aak.open ?_;rintro bU bV bW bX bY bZ⟨ac,ad,ae,af,rfl,a4,aB,a5⟩;refine gR 5 [0] [[sE,nS,iI 0,vN,iI 0,nS]] aq (fun b0 a6 aG=>wk aG (fun j m=>∃aH B s t u ar,j aH [0,6,15,16,17] [(62,.bool ar)]∧KH.sub A B∧m B [] [.box bs g #[iI s,iI t,.bool u] 96,.box (zz wi) (zz W) (aF X ac r ad Y Z ab ae y af) 52]∧acq k q r y s t u ar (abp k i)=some r_) ?_ ?_)
    ·refine gd 2 ?_;have aI:=p10 aG;refine cB h (fun _ a7=>(anQ k) a7 (gm hG aI)<|pt aI) ?_;rintro⟨⟨l,o,p⟩,b1⟩ _ b2⟨a8,rfl,b⟩ h;have ai:=ca b aI;refine go 2 (bO 24 h ?_ ?_)<;>intro _ h
     ·exact go 40 ⟨_,a8,l,o,p,true,fK,b.sub,ai,h⟩
     ·refine gP 5 [0,2] ai<|cB h (fun _ a9=>(aeQ k) a9 (gm hG ai) a4<|pt ai) ?_;rintro b3 _ b4⟨G,rfl,d⟩ h;have a:=ca d ai;refine go 4 (bO 30 h ?_ ?_)<;>intro _ h
      ·exact go 34 ⟨_,G,l,o,p,true,fK,b.sub.trans d.sub,a,h⟩
      ·refine gP 10 [1,2] a (bO 36 h ?_ ?_)<;>intro _ h
       ·exact go 28 ⟨_,G,l,o,p,true,fK,b.sub.trans d.sub,a,h⟩
       ·refine gP 8 [4,2] a (bO 40 h ?_ ?_)<;>intro _ h
        ·refine gP 14 [2,1] a (bO 48 h ?_ ?_)<;>intro _ h
         ·exact go 16 ⟨_,G,l,o,p,true,fK,b.sub.trans d.sub,a,h⟩
         ·refine gP 6 [3,2] a (bO 51 h ?_ ?_)<;>intro _ h
          ·refine gP 10 [2,2] a (bO 57 h ?_ ?_)<;>intro _ h
           ·exact go 7 ⟨_,G,l,o,p,true,fK,b.sub.trans d.sub,a,h⟩
           ·refine gP 5 [2,2] a<|cB h (fun _ ba=>(ab7 k) ba (gm hG a)<|pt a) ?_;rintro bb _ b5⟨bd,rfl,aK⟩ h;have be:=ca aK a;exact go 5 ⟨_,bd,l,o,p,!bb,fK,(b.sub.trans d.sub).trans aK.sub,be,h⟩
          ·refine gP 12 [2,2] a<|cB h (fun _ bf=>(ab7 k) bf (gm hG a)<|pt a) ?_;rintro bg _ b6⟨bh,rfl,aL⟩ h;have bi:=ca aL a;exact go 5 ⟨_,bh,l,o,p,!bg,fK,(b.sub.trans d.sub).trans aL.sub,bi,h⟩
        ·refine gP 15 [3,2] a (bO 51 h ?_ ?_)<;>intro _ h
         ·refine gP 10 [2,2] a (bO 57 h ?_ ?_)<;>intro _ h
          ·exact go 7 ⟨_,G,l,o,p,true,fK,b.sub.trans d.sub,a,h⟩
          ·refine gP 5 [2,2] a<|cB h (fun _ bj=>(ab7 k) bj (gm hG a)<|pt a) ?_;rintro bk _ b7⟨bm,rfl,aM⟩ h;have bn:=ca aM a;exact go 5 ⟨_,bm,l,o,p,!bk,fK,(b.sub.trans d.sub).trans aM.sub,bn,h⟩
         ·refine gP 12 [2,2] a<|cB h (fun _ bo=>(ab7 k) bo (gm hG a)<|pt a) ?_;rintro bp _ b8⟨bq,rfl,aN⟩ h;have br:=ca aN a;exact go 5 ⟨_,bq,l,o,p,!bp,fK,(b.sub.trans d.sub).trans aN.sub,br,h⟩
    ·rintro _ b9⟨aH,B,s,t,u,ar,rfl,z,aj,h⟩;refine bC 62 h ?_ ?_<;>intro _ h
     ·refine gd 13 ?_;cases oj h n;exact rt1 ⟨B,rfl,aj.sel [0]⟩
     ·refine gD 13 [1,2] aj<|wl aj (fun j m g_=>∃aP ak v,∃(C:Nat),g_=v.length∧j aP [0,6,15,16,17,64,65] [(66,iI (C:Int))]∧KH.sub B ak∧m ak [] [.box bs g #[iI s,iI t,.bool u] 96,.box (zz wi) (zz W) (aF X ac r ad Y Z ab ae y af) 52]∧r.drop C=v∧acG k q y s t u (abp k i) v C=some r_) r.length ?_ ?_
      ·exact⟨_,B,r,0,rfl,fK,kr,aj,List.drop_zero,h⟩
      ·rintro _ _ cb⟨aP,ak,v,C,rfl,rfl,x,I,J,h⟩;rcases v with _|⟨⟨cc,ce⟩,v⟩
       ·refine gd 2<|cNl J<|gP 14 [5,2] I<|cB h (fun _ bu=>(auk k) bu (hG.mono<|((e.sub.trans f).trans z).trans x) (ms a5<|z.trans x)<|pt I) ?_;rintro⟨⟨bv,bw,bx⟩,cf⟩ _ ch⟨aT,rfl,aU⟩ h;have aV:=ca aU I;refine go 3 (bC 85 h ?_ ?_)<;>intro _ h
        ·refine gd 12 ?_;cases oj h n;exact rt1 ⟨aT,rfl,aV.sel [0]⟩
        ·exact gd 5<|iCl D ((mf ay<|e.sub.trans f).len)<|go 3 ⟨_,Nat.lt_succ_self _,_,aT,i,q+1,bv,bw,bx,rfl,fK,((f.trans z).trans x).trans aU.sub,aV.sel [0],aac D,h⟩
       ·refine gd 2<|cCl J<|go 10<|eN I (mp aB<|z.trans x) J aaz.open ?_;rintro ci cj ck cl cm cn⟨rfl,bz⟩;refine gR 4 [0] [[sE,iI 0]] I (fun co cq al=>wk al (fun j m=>∃aW N au,j aW [0,6,15,16,17,64,65,66] [(79,.bool au)]∧KH.sub ak N∧m N [] [.box bs g #[iI s,iI t,.bool u] 96,.box (zz wi) (zz W) (aF X ac r ad Y Z ab ae y af) 52]∧ajY k s t u C au (acG k q y s t u (abp k i) v)=some r_) ?_ ?_)
        ·refine gD 3 [0,1] al<|cB h (fun _ bB=>(aeQ k) bB (gm hG al) bz<|pt al) ?_;rintro cr _ cs⟨bD,rfl,am⟩ h;have an:=ca am al;refine go 2 (bO 74 h ?_ ?_)<;>intro _ h
         ·exact go 7 ⟨_,bD,true,fK,am.sub,an.sel [1,2],h⟩
         ·refine gP 5 [1,1] an<|cB h (fun _ bE=>(ab7 k) bE (gm hG an)<|pt an) ?_;rintro bF _ ct⟨bG,rfl,aX⟩ h;have bH:=ca aX an;exact go 5 ⟨_,bG,!bF,fK,am.sub.trans aX.sub,bH.sel [1,2],h⟩
        ·rintro _ cu⟨aW,N,au,rfl,bI,aY,h⟩;refine bC 79 h ?_ ?_<;>intro _ h
         ·refine gd 17 ?_;cases oj h n;exact rt1 ⟨N,rfl,aY.sel [0]⟩
         ·exact gd 5<|iCl J ((mp aB<|z.trans x).len)<|go 3 ⟨_,Nat.lt_succ_self _,_,N,v,C+1,rfl,fK,x.trans bI,aY,aac J,h⟩
theorem atU(k:Nat):an7 (f99 k):=by
 intro K wi d p a q h hG e f;obtain⟨Z,n,h⟩:=rz h;obtain⟨r⟩:=d;obtain⟨s,c1,rfl,g⟩:=aad.open e;refine en 10 Tryz.func99 rfl ?_;unfold f99 at h;refine gI 9 [] [] f (fun t i=>bld (cells:=#[iI 0,iI 0,.bool a]) (vs:=[(2,.bool a)]) rfl (fun w=>by kernel_rfl)<|gR 7 [0,0,1,1] [[iI 0,iI 0,vN]] i (fun u v b=>cB h (fun _ j=>(avx k) j (hG.mono kr) (aad.intro g)<|pt b) ?_));rintro⟨⟨x,y,z⟩,A⟩ _ B⟨l,rfl,m⟩ h;have o:=ca m b;refine go 4 ?_;cases oj h n;exact rt1 ⟨l,rfl,o.sel []⟩
theorem awS(k:Nat):atf (f70 k):=by
 intro K wi l G r_ h hG m o;obtain⟨I⟩:=l;obtain⟨J,c1,rfl,f⟩:=aad.open m;refine en 8 Tryz.func70 rfl ?_;unfold f70 at h;refine gI 9 [0,1,1] [[nS]] o (fun N O g=>cB h (fun _ p=>(atU k) p (hG.mono kr) (aad.intro f)<|pt g) ?_);rintro S _ U⟨V,rfl,a⟩ h;have b:=ca a g;refine cX h (fun _ q=>(adf k) q (gm hG a)<|pt b) ?_ ?_
 ·rintro _ _ W⟨X,rfl,rfl,d⟩ h;have e:=ca d b;refine gP 5 [0,1,1] e<|cB h (fun _ r=>(avI k) r (hG.mono<|a.sub.trans d.sub) (aad.intro<|mf f<|a.sub.trans d.sub)<|pt e) ?_;rintro⟨i⟩ _ Y⟨s,Z,rfl,t,u⟩ h;have v:=ca t e;obtain⟨x,y,rfl,z⟩:=aad.open u;exact gR 4 [0] [] v (fun ab j=>retP<|adq rfl (rNl 0 j rfl) ⟨aaa.mk i,s,[sl x i y],(oi h).symm,rfl,j.sel [],aad.intro z⟩)
 ·rintro _ _ ac⟨A,B,rfl,rfl,C⟩ h;have D:=ca C b;exact pX<|panE<|.inr ⟨_,rfl,A,B,(oi h).symm,rfl,D.sel []⟩
theorem amS(k:Nat):ai1 (afB k):=by
 intro K wi g bs e f i gA bsA sA_0 AsA_0 csA_0 Z h hG b hsA_0 a;refine en 4 Tryz.func69 rfl ?_;unfold afB at h;refine gD 2 [0,0,1] a<|cX h (fun _ j=>(awS k) j (hG.mono kr) (aad.intro b)<|pt a) ?_ ?_
 ·rintro _ _ z⟨⟨l⟩,m,A,rfl,rfl,d,o⟩ h;have p:=ca d a;obtain⟨q,r,rfl,s⟩:=aad.open o;exact gR 2 [1] [] p (fun B t=>retP<|end0 rfl ⟨e,l,m,f,i,q,r,(oi h).symm,rfl,t,mf b d.sub,s⟩)
 ·rintro _ _ C⟨u,v,rfl,rfl,x⟩ h;have y:=ca x a;exact pX<|panE<|.inr ⟨_,rfl,u,v,(oi h).symm,rfl,y.sel [0,1]⟩
theorem am4(k:Nat):afN (agS k):=by
 unfold afN;intro K w g bs s_0 As_0 cs_0 gA bsA sA_0 AsA_0 csA_0 oz_0 ozA_0 or0 h hG hs_0 hsA_0 S0;unfold agS at h;obtain⟨r_,hr_⟩ : ∃r_,r_=afB k (aaa.mk s_0) (aaa.mk sA_0):=⟨_,rfl⟩;rcases r_ with _|r_
 ·rw[←hr_] at h;cases h
 refine (anR (R:=fun w K_ H_=>∃(uz_0:List aab) (uzA_0:List aab) (uAz_0:Option Addr) (ucz_0:Nat) (uAzA_0:Option Addr) (uczA_0:Nat),r_=.ok (aaa.mk uz_0,aaa.mk uzA_0)∧H_=[.box bs g #[.slice uAz_0 uz_0.length ucz_0] 24,.box bsA gA #[.slice uAzA_0 uzA_0.length uczA_0] 24]∧tF K_ uAz_0 ucz_0 uz_0∧tF K_ uAzA_0 uczA_0 uzA_0) (R':=fun c_ K_ H_=>r_=.error c_∧H_=[.box bs g #[.slice As_0 s_0.length cs_0] 24,.box bsA gA #[.slice AsA_0 sA_0.length csA_0] 24]) ax0 S0 (fun w1 S1 hle=>((amS k) hr_.symm hG hs_0 hsA_0 S1).mono ?_)).mono ?_
 ·rintro e_ w_ (⟨v_,rfl,uz_0,uzA_0,K_,uAz_0,ucz_0,uAzA_0,uczA_0,q1,q2,T_,k0,k1⟩ |⟨v_,rfl,c_,K_,q1,q2,T_⟩)
  ·exact .inl ⟨v_,rfl,K_,_,T_,uz_0,uzA_0,uAz_0,ucz_0,uAzA_0,uczA_0,q1,rfl,k0,k1⟩
  ·exact .inr ⟨v_,rfl,c_,K_,_,q2,T_,q1,rfl⟩
 ·rintro e_ w_⟨v_,rfl,⟨w1,K_,H_,hle,rfl,T_,uz_0,uzA_0,uAz_0,ucz_0,uAzA_0,uczA_0,rfl,rfl,k0,k1⟩ |⟨c_,K_,H_,rfl,T_,rfl,rfl⟩⟩
  ·rw[←hr_] at h;cases h;exact⟨_,rfl,K_,uAz_0,ucz_0,uAzA_0,uczA_0,rfl,T_,k0,k1⟩
  ·rw[←hr_] at h;cases h;exact⟨_,rfl,K_,_,_,_,_,rfl,T_,hs_0.mono T_.sub (fun _ _ h=>aak.mono T_.sub h),hsA_0.mono T_.sub (fun _ _ h=>aak.mono T_.sub h)⟩
theorem awJ(k:Nat):asW (f46 k):=by
 intro K wi e y z A h hG f g;obtain⟨Z,n,h⟩:=rz h;obtain⟨i⟩:=e;obtain⟨j,c1,rfl,l⟩:=aad.open f;refine en 8 Tryz.func46 rfl ?_;unfold f46 at h;refine gI 9 [] [[nS]] g (fun a m o=>mkf (us:=[]) (vs:=[pp (zz wi) 0,pp (zz a) 0]) rfl rfl ?_);have b:=p10 o;refine cB h (fun _ p=>(am4 k) p (hG.mono kr) l (RSl.nil _ _ _ _ _ _)<|pt b) ?_;rintro⟨⟨B⟩,⟨q⟩,C⟩ _ D⟨r,G,I,s,t,rfl,u,J,v⟩ h;have x:=ca u b;refine gR 12 [0,1,1,1] [] x (fun N d=>?_);cases oj h n;exact aby rfl (rNl 1 d rfl) (resT rfl) ⟨r,[sl s q t],rfl,d.sel [],aad.intro v⟩
theorem amm(k:Nat):aj3 (agV k):=by
 intro K wi a f g bs i j l m o p q r s t u h hG b v x y d;obtain⟨Z,n,h⟩:=rz h;obtain⟨z,A,B,C,D,G⟩:=a;obtain⟨I,J,N,O,rfl,S,U,V⟩:=aak.open b;refine en 9 Tryz.func103 rfl ?_;unfold agV at h;refine gI 17 [0,2,0,1] [] d (fun W e=>?_);cases oj h n;exact rt1 ⟨K,rfl,e.sel [1]⟩
theorem amY(k:Nat):akh (agX k):=by
 intro K wi l ab ac g bs u v ad ae x y z A af ai aj h hG o B C D p;obtain⟨r_,n,h⟩:=rz h;refine en 19 Tryz.func132 rfl ?_;unfold agX at h;refine gd 14<|wl p (fun j m g_=>∃q f a,∃(d:Nat),g_=a.length∧j q [0,1,7] [(8,iI (d:Int))]∧KH.sub K f∧m f [0] []∧l.drop d=a∧ac9 k u v x y z A a d=some r_) l.length ?_ ?_
 ·exact⟨_,K,l,0,rfl,fK,kr,p,List.drop_zero,h⟩
 ·rintro _ _ ak⟨q,f,a,d,rfl,rfl,b,i,e,h⟩;rcases a with _|⟨⟨G,I,J,N,O,S⟩,a⟩
  ·refine gd 2<|cNl e<|go 15 ?_;cases oj h n;exact rt1 ⟨f,rfl,i⟩
  ·refine gd 2<|cCl e<|go 19<|eN i (mf o b) e aak.open ?_;rintro al am an ao ap U⟨V,W,X,Y,rfl,aq,ar,au⟩;obtain⟨av,Z,h⟩:=ob h;refine clV (caps:=#[pp g 0]) (vs:=[.agg (aF G V I W J N O X S Y),pp g 0]) rfl axz rfl ((amm k) Z (hG.mono b) U B (mp C b) (ms D b)<|pt i) ?_;rintro _ aw⟨r,rfl,s⟩;have t:=ca s i;refine go 2 (bC 16 h ?_ ?_)<;>intro _ h
   ·refine gd 13 ?_;cases oj h n;exact rt1 ⟨r,rfl,t⟩
   ·exact gd 5<|iCl e ((mf o b).len)<|go 3 ⟨_,Nat.lt_succ_self _,_,r,a,d+1,rfl,fK,b.trans s.sub,t,aac e,h⟩
theorem amZ(k:Nat):afm (aez k):=by
 intro K wi p q r g bs s t u v x y z A B C b h hG d e f i a;obtain⟨Z,n,h⟩:=rz h;refine en 9 Tryz.func102 rfl ?_;unfold aez at h;refine gd 9<|cB h (fun _ j=>(amY k) j (hG.mono kr) d e f i<|pt a) ?_;rintro b _ D⟨l,rfl,m⟩ h;have o:=ca m a;refine go 5 ?_;cases oj h n;exact rt1 ⟨l,rfl,o⟩
theorem amH(k:Nat):arL (f160 k):=by
 intro K wi g bs br G I J N O S U V W X Y Z ab ac ad ae af r ai aj ak al l am an h hG ao ap aq ar au av z A hbr aw s;obtain⟨n,o,h⟩:=rz h;refine en 28 Tryz.func160 rfl ?_;unfold f160 at h;refine gD 18 [8,1] s<|wl s (fun j m g_=>∃x a,∃(e:Nat),g_=a.length∧j x [1,13,14] [(15,iI (e:Int))]∧m K [0,2,1] []∧r.drop e=a∧ahO k l a e=some n) r.length ?_ ?_
 ·exact⟨_,r,0,rfl,fK,s.sel [0,2,1],List.drop_zero,h⟩
 ·rintro _ _ ax⟨x,a,e,rfl,rfl,d,f,h⟩;rcases a with _|⟨t,a⟩
  ·refine gd 2<|cNl f<|go 16 ?_;cases oj h o;exact rt2 ⟨K,rfl,d.sel [0,2,1]⟩
  ·refine gd 2<|cCl f<|go 10 ?_;obtain⟨B,m89,C,ay,y,u⟩:=atN (d.entAt (i:=1) rfl) z (aaB f);refine iNl 173 1 C f<|ld1 (v:=.map (some m89.1)) atF rfl (u _<|d.entAt (i:=1) rfl).1<|go 7 ?_;rcases p:mget seq l t with _|az
   ·have h:=abB p h;exact lkN (kv:=kS) (q:=seq) (R:=VInt) (xs:=t) (k:=l) (u _<|d.entAt (i:=1) rfl).2 apP (ahq Tyt9) keS Tyz3 y rfl rfl p<|go 17<|iCl f A<|go 3 ⟨_,Nat.lt_succ_self _,_,a,e+1,rfl,fK,d,aac f,h⟩
   ·have h:=abA p h;refine lkS (kv:=kS) (q:=seq) (R:=VInt) (xs:=t) (k:=l) (u _<|d.entAt (i:=1) rfl).2 apP (ahq Tyt9) keS y rfl rfl p (fun aA D=>?_);obtain rfl:=D;refine go 26 ?_;cases oj h o;exact rt2 ⟨K,rfl,d.sel [0,2,1]⟩
theorem ahE(k:Nat):apt (f133 k):=by
 intro K wi g bs br l m p s t y z A B C D G I d J N ak a f j ab O e n h hG al am an ao ap aw ac aq hbr ar ad;refine en 47 Tryz.func133 rfl ?_;unfold f133 at h;refine gd 9<|cB h (fun _ ax=>(amH k) ax (hG.mono kr) al am an ao ap aw ac aq (Nat.le_trans hbr ad.size) ar<|pt ad) ?_;rintro⟨a3,a4⟩ _ a5⟨a6,rfl,S⟩ h;have ae:=ca S ad;refine go 11<|cX h (fun _ ay=>(adf k) ay (gm hG S)<|pt ae) ?_ ?_
 ·rintro _ _ a7⟨af,rfl,rfl,V⟩ h;have az:=ca V ae;refine gR 21 [7,1,7,1,9] [] az (fun a8 aA=>aJ (hbase:=hbr) h 2 0 aA rfl rfl (ap.mono (fun _ _ h=>h)) ⟨rfl,ar⟩ ?_);rintro W X ai aB aG aH aI h;have aK:=p123 aG;refine gR 6 [7,0] [] aK (fun a9 aL=>rB [14] aL (fun aj Y=>ah 9 [0,1,2,8,3,1,4,5,6,8,7,1,8] Y<|kA 9 (w64<|(a.length:Int) - 1) rfl Y ?_));obtain⟨U,Z,h⟩:=ob h;obtain⟨au,m51,aM,aN,aP,aT⟩:=atN (aj.entAt (i:=2) rfl) (StkR.mono (fun _ _ h=>h) ac) (aay Z).1;refine kK 10 (.pointer<|some ⟨au,0+(w64<|(a.length:Int) - 1).toNat*1,none⟩) rfl (fun w=>ahI (b:=au) (o:=0) (i:=(w64<|(a.length:Int) - 1)) ahX ann rfl aM rfl (aay Z).2.1 (aay Z).2.2) Y<|tT 11 (.map<|some m51.1) [[14,11]] rfl (fq [0,1,2] aj) (fun w hF=>acE (v:=.map (some m51.1)) atF rfl (aT _<|hF.entAt (i:=2) rfl).1)<|ah 2 [12,13] Y<|aQ 14 rfl<|updM (kv:=kS) (q:=seq) (R:=VInt) (xs:=a) (x:=U) (k:=e) (u:=(d.length:Int)) (uv:=iI (d.length:Int)) (i:=2) (.inr rfl) aj rfl (StkR.mono (fun _ _ h=>h) ac) (aay Z).1 aN aP apP (ahq Tyt9) keS rfl rfl rfl rfl (fun av aU aV aW=>?_);have aX:SR K af wi aU [.box bs g #[sl m l p,.string s,sl y t z,iI A,.bool B,iI C,sl G D I,sl J d N,sl f a j,iI O] 176,eW br J d N 9 1 ak,eK br f a j 173 ab] [.box bs g #[sl m l p,.string s,sl y t z,iI A,.bool B,iI C,sl G D I,.slice W (d++[e]).length X,.slice f (a.set (w64 ((a.length:Int) - 1)).toNat (mput seq e (d.length:Int) U)).length j,iI O] 176,.row br (.slice W (d++[e]).length X) 9 1 (d++[e]).length ai,.stk br (.slice f (a.set (w64 ((a.length:Int) - 1)).toNat (mput seq e (d.length:Int) U)).length j) 173 (a.set (w64 ((a.length:Int) - 1)).toNat (mput seq e (d.length:Int) U)).length av]:=by simpa only[List.length_set,List.eraseIdx_zero,List.eraseIdx_cons_succ,List.tail_cons,List.set_cons_succ,List.set_cons_zero,List.nil_append,List.cons_append] using aV
  exact go 2 ⟨hE 14,aD<|gx 8<|retP<|rt1 ⟨l,s,t,A,B,C,D,d++[e],a.set (w64<|(a.length:Int) - 1).toNat<|mput seq e (d.length:Int) U,O,(d.length:Int),af,m,p,y,z,G,I,W,X,ai,f,j,av,(oi h).symm,rfl,aX,mf al<|S.sub.trans V.sub,am,mp an<|S.sub.trans V.sub,ms ao<|S.sub.trans V.sub,aH,aav aI,aW,adJ aq⟩⟩
 ·rintro _ _ ba⟨aY,aZ,rfl,rfl,a0⟩ h;have a2:=ca a0 ae;exact pX<|panE<|.inr ⟨_,rfl,aY,aZ,(oi h).symm,rfl,a2.sel []⟩
theorem amA(k:Nat):ajT (agY k):=by
 intro K wi J az gr bsr g bs br m o p q r s t u v x y z A a d e B b f i C D r_ h hG N O S U V W X Y Z hbr ab;obtain⟨ac,ad,ae,af,ai⟩:=J;obtain⟨aj,ak,rfl,al,aA⟩:=aai.open N;refine en 19 Tryz.func179 rfl ?_;unfold agY at h;refine gI 14 [0,1] [] ab (fun am j=>bC 8 h ?_ ?_)<;>intro _ h
 ·exact gd 8<|retP<|rt1 ⟨0,K,(oi h).symm,rfl,j.sel [1,2,3,4]⟩
 ·refine gD 8 [2,2,1] j ?_;have G:=alF j;refine cB h (fun _ an=>(amH k) an (hG.mono kr) O S U V W X Y Z (Nat.le_trans hbr j.size) al<|pt G) ?_;rintro⟨ao,aB⟩ _ aG⟨aH,rfl,I⟩ h;have l:=ca I G;refine go 10<|cX h (fun _ ap=>(adf k) ap (gm hG I)<|pt l) ?_ ?_
  ·rintro _ _ aI⟨aq,rfl,rfl,ar⟩ h;have au:=ca ar l;exact go 9<|retP<|rt1 ⟨ao,aq,(oi h).symm,rfl,au.sel [4,0,1,2]⟩
  ·rintro _ _ aK⟨av,aw,rfl,rfl,ax⟩ h;have ay:=ca ax l;exact pX<|panE<|.inr ⟨_,rfl,av,aw,(oi h).symm,rfl,ay.sel []⟩
theorem ajM(k:Nat)(F:acQ)(IH1015988:abN F.f1015988)(IH1017888:abO F.f1017888):abN (agf k F):=by
 intro K wi Y bh bi gr bsr g bs br r I J s t N O u v x y S U a e f V b l o W z r_ h hG ak aI aK aL aM aN aP aT aU hbr aV;refine en 22 Tryz.func159 rfl ?_;unfold agf at h;refine gd 19 ?_;have al:=aV.row_ (zz wi) 35 5;refine wl al (fun j m g_=>∃am A p,∃(B:Nat),∃d C D X,g_=p.length∧j am [1,8,9] [(5,sl C d D),(10,iI (B:Int))]∧KH.sub K A∧m A [1,0,2,3] [eW (zz wi) C d D 35 5 X]∧Y.drop B=p∧Reps (aai A) 5 d X∧d.length*64≤mB∧ab3 k F r s t u v x y a b z p B d=some r_) Y.length ?_ ?_
 ·exact⟨_,K,Y,0,([]:LE),none,0,[],rfl,fK,kr,al.sel [2,1,3,4,0],List.drop_zero,abo (R:=(aai K)) (size:=5),(by simp),h⟩
 ·rintro _ _ an⟨am,A,p,B,d,C,D,X,rfl,rfl,q,Z,G,ao,aW,h⟩;rcases p with _|⟨⟨ap,aq,ar,au,av⟩,p⟩
  ·refine gd 2<|cNl G<|go 16 ?_;obtain⟨aX,aY,bj,aZ⟩:=abD (i:=4) (bytes:=64) (R:=fun K=>(aai K)) Z rfl (Nat.le_refl _) ao aW (fun hs=>(fun _ _ h=>aai.mono hs h));exact retP<|rt1 ⟨d,aX,C,D,(oi h).symm,rfl,aY.sel [1,0,2,3],aZ⟩
  ·refine gd 2<|cCl G<|go 10<|eN Z (me ak q) G aai.open ?_;rintro bk bm bn bo bp bq⟨aw,ax,rfl,a1,a2⟩;refine gR 8 [0,0,0,5] [[iI 0,iI 0,sE,iI 0,nS]] Z (fun bu a3 ay=>?_);have ab:=av9 ay;refine cX h (fun _ a4=>IH1017888 a4 (hG.mono q) (aai.intro a1 a2) (mf aI q) aK (mp aL q) (ms aM q) (aN.mono (fun _ _ h=>h)) aP (StkR.mono (fun _ _ h=>h) aT) aU (Nat.le_trans hbr ay.size)<|pt ab) ?_ ?_
   ·rintro _ _ bv⟨⟨ac,ad,ae,af,ai⟩,az,bw,rfl,rfl,aj,aA⟩ h;have a5:=ca aj ab;obtain⟨bx,bz,rfl,bB,bD⟩:=aai.open aA;refine gR 1 [35] [] a5 (fun bE a6=>aJ h 6 0 a6 rfl rfl (ao.mono (fun _ _ h=>aai.mono aj.sub h)) aA ?_);rintro aB aG aH a7 a8 a9 ba h;have bb:=ajJ a8;exact go 5<|iCl G ((me ak q).len)<|go 3 ⟨_,Nat.lt_succ_self _,_,az,p,B+1,d++[(aah.mk ac ad ae af ai)],aB,aG,aH,rfl,fK,q.trans aj.sub,bb.sel [1,0,2,3,5],aac G,a9,aav ba,h⟩
   ·rintro _ _ bF⟨bd,be,rfl,rfl,bf⟩ h;have bg:=ca bf ab;exact pX<|panE<|.inr ⟨_,rfl,bd,be,(oi h).symm,rfl,bg.sel []⟩
theorem ajy(k:Nat)(F:acQ)(IH1015988:abN F.f1015988)(IH1017888:abO F.f1017888):abO (adK k F):=by
 intro K wi an aU gr bsr g bs br s t u v x y z A B C D G I a e f J b i j N O r_ h hG ao S U V W X Y Z ab hbr ap;obtain⟨l,m,o,ac,aq⟩:=an;obtain⟨ar,au,rfl,ad,av⟩:=aai.open ao;refine en 15 Tryz.func178 rfl ?_;unfold adK at h;refine gI 11 [4,2] [[iI 0,iI 0,sE,iI 0,nS]] ap (fun aw ax ae=>?_);have q:=avn ae;refine cX h (fun _ ay=>IH1015988 ay (hG.mono kr) av S U V W X Y Z ab (Nat.le_trans hbr ae.size)<|pt q) ?_ ?_
 ·rintro _ _ aV⟨r,aW,af,ai,rfl,rfl,d,aj⟩ h;have az:=ca d q;refine gR 8 [4,5,0,5,5] [] az (fun aX p=>?_);obtain⟨aY,aA,h⟩:=ob h;refine clP (caps:=#[pp gr 0]) (vs:=[.agg (aE l m o ac af r ai),pp gr 0]) rfl awt rfl ((amA k) aA (gm hG d) (aai.intro ad aj) (mf S d.sub) U (mp V d.sub) (ms W d.sub) (X.mono (fun _ _ h=>h)) Y (StkR.mono (fun _ _ h=>h) Z) ab (Nat.le_trans hbr p.size)<|pt p) ?_ ?_
  ·rintro _ aZ⟨ak,aB,rfl,rfl,al⟩;have aG:=ca al p;exact gR 11 [3,5,0,5,5,4] [] aG (fun a1 a2 am=>retP<|adq rfl (rNl 4 am rfl) ⟨aah.mk l m o ak r,aB,vE l m o ak af r ai,(oi h).symm,rfl,am.sel [0,1,2,3],aai.intro ad<|me aj al.sub⟩)
  ·rintro _ a3⟨aH,aI,rfl,rfl,aK⟩;have aL:=ca aK p;exact pX<|panE<|.inr ⟨_,rfl,aH,aI,(oi h).symm,rfl,aL.sel []⟩
 ·rintro _ _ a4⟨aM,aN,rfl,rfl,aP⟩ h;have aT:=ca aP q;exact pX<|panE<|.inr ⟨_,rfl,aM,aN,(oi h).symm,rfl,aT.sel []⟩
theorem afs(k0:Nat) : ∀k,abN (aaV k0 k).f1015988∧abO (aaV k0 k).f1017888:=by
 intro k;induction k with
 | zero=>exact⟨by simp[abN,aaV],by simp[abO,aaV]⟩
 | succ k ih=>exact⟨ajM k0 (aaV k0 k) ih.1 ih.2,ajy k0 (aaV k0 k) ih.1 ih.2⟩
theorem amT(k:Nat):abN (f1015988 k):=(afs k k).1
theorem avK(k:Nat):abO (f1017888 k):=(afs k k).2
theorem aqm(k:Nat):arv (f161 k):=by
 intro K wi g bs br C D G I J N O S U V W X Y Z ab ac ad ae af ai aj ak al am an r_ h hG b d e f i j l m hbr o a;refine en 8 Tryz.func161 rfl ?_;unfold f161 at h;refine gI 9 [] [] a (fun ao a=>mkf (us:=[]) (vs:=[pp (zz wi) 0]) rfl rfl<|cX h (fun _ p=>(amT k) p (hG.mono kr) o b d e f i j l m (Nat.le_trans hbr a.size)<|pt a) ?_ ?_)
 ·rintro _ _ ap⟨q,r,s,t,rfl,rfl,u,v⟩ h;have x:=ca u a;exact go 4<|retP<|rt1 ⟨q,r,s,t,(oi h).symm,rfl,x.sel [1,2,3],v⟩
 ·rintro _ _ aq⟨y,z,rfl,rfl,A⟩ h;have B:=ca A a;exact pX<|panE<|.inr ⟨_,rfl,y,z,(oi h).symm,rfl,B.sel []⟩
theorem am1(k:Nat):ajn (agT k):=by
 intro K wi a j gr bsr g bs l m o p q r s t u v x y z A B C D G I J N O h hG b S U V W X Y Z d;obtain⟨r_,n,h⟩:=rz h;obtain⟨ab,ac,ad,ae,af,ai⟩:=a;obtain⟨aj,ak,al,am,rfl,an,ao,ap⟩:=aak.open b;refine en 11 Tryz.func180 rfl ?_;unfold agT at h;refine gI 7 [] [] d (fun aq e=>rB [] e (fun f i=>ah 8 [0,0,1,1,2,2,3,4,3,5,3,6,7] i<|aD<|gx 2 ?_));cases oj h n;exact rt1 ⟨K,rfl,f.sel [1,2]⟩
theorem amG(k:Nat):aj5 (agP k):=by
 intro K wi i aA aB gr bsr g bs l o p q r s t A B u C D v G I x J N y O S aG h hG U ac ad ae af ai aj ak V;obtain⟨r_,n,h⟩:=rz h;refine en 19 Tryz.func132 rfl ?_;unfold agP at h;refine gd 14<|wl V (fun j m g_=>∃W d b,∃(e:Nat),g_=b.length∧j W [0,1,7] [(8,iI (e:Int))]∧KH.sub K d∧m d [1,0] []∧i.drop e=b∧ac5 k l o p q r s t u v x y b e=some r_) i.length ?_ ?_
 ·exact⟨_,K,i,0,rfl,fK,kr,V.sel [1,0],List.drop_zero,h⟩
 ·rintro _ _ al⟨W,d,b,e,rfl,rfl,a,z,f,h⟩;rcases b with _|⟨⟨am,an,ao,ap,aq,ar⟩,b⟩
  ·refine gd 2<|cNl f<|go 15 ?_;cases oj h n;exact rt1 ⟨d,rfl,z.sel [1,0]⟩
  ·refine gd 2<|cCl f<|go 19<|eN z (mf U a) f aak.open ?_;rintro aH aI aK aL aM au⟨av,aw,ax,ay,rfl,aN,aP,aT⟩;have X:=p10 z;obtain⟨aU,az,h⟩:=ob h;refine clV (caps:=#[pp gr 0]) (vs:=[.agg (aF am av an aw ao ap aq ax ar ay),pp gr 0]) rfl axp rfl ((am1 k) az (hG.mono a) au ac ad (me ae a) (ms af a) (ms ai a) (ms aj a) (mc ak a)<|pt X) ?_;rintro _ aV⟨Y,rfl,Z⟩;have ab:=ca Z X;refine go 2 (bC 16 h ?_ ?_)<;>intro _ h
   ·refine gd 13 ?_;cases oj h n;exact rt1 ⟨Y,rfl,ab⟩
   ·exact gd 5<|iCl f ((mf U a).len)<|go 3 ⟨_,Nat.lt_succ_self _,_,Y,b,e+1,rfl,fK,a.trans Z.sub,ab.sel [1,0],aac f,h⟩
theorem auZ(k:Nat):aqy (f163 k):=by
 intro K wi g bs br p q r s t u v x y z A B C f j l D i m o G I gA bsA sA_0 sA_1 sA_2 sA_3 sA_4 sA_5 sA_6 AsA_6 csA_6 sA_7 AsA_7 csA_7 sA_8 AsA_8 csA_8 sA_9 AsA_9 csA_9 sA_10 AsA_10 csA_10 r_ h hG J Z ab ac ad ae af ai hbr hsA_1 hsA_3 hsA_6 hsA_7 hsA_8 hsA_9 hsA_10 N;refine en 47 Tryz.func163 rfl ?_;unfold f163 at h;refine gI 12 [0,0,2] [] N (fun aj N=>mkf (us:=[]) (vs:=[pp (zz wi) 0]) rfl rfl ?_);have W:=atO N;refine cB h (fun _ ak=>(amG k) ak (hG.mono kr) J hsA_1 hsA_3 hsA_6 hsA_7 hsA_8 hsA_9 hsA_10<|pt W) ?_;rintro al _ aP⟨aT,rfl,a⟩ h;have O:=ca a W;refine go 7<|cX h (fun _ am=>(adf k) am (gm hG a)<|pt O) ?_ ?_
 ·rintro _ _ aU⟨aV,rfl,rfl,b⟩ h;have S:=ca b O;refine gP 10 [0,0,3] S ?_;obtain⟨⟨aW,aX,aY,aZ,a0,a1⟩,an,h⟩:=ob h;refine eG S (mf J<|a.sub.trans b.sub) an aak.open ?_;rintro a2 a3 a4 a5 a6 a7⟨a8,a9,ba,bb,rfl,bd,be,bf⟩;refine gR 5 [0] [[sE,nS,iI 0,vN,iI 0,nS]] S (fun bg bh ao=>rB [] ao (fun U ap=>ah 8 [0,3,1,1,2,2,3,4,0,5,3,6,7] ap<|aQ 8 rfl<|cX h (fun _ aq=>(adf k) aq (gm hG U)<|pt U) ?_ ?_))
  ·rintro _ _ bi⟨bj,rfl,rfl,d⟩ h;have X:=ca d U;refine go 2<|wB (fwOf (is:=[0,1,2,3,4,5]) X d.sub rfl) (fun bk=>aD<|gx 2<|rB [] X (fun V ar=>ah 9 [0,1,1,1,2,3,2,4,5,6,6,3,7,8] ar<|aQ 9 rfl<|cX h (fun _ au=>(adf k) au (gm hG V)<|pt V) ?_ ?_))
   ·rintro _ _ bm⟨av,rfl,rfl,e⟩ h;have Y:=ca e V;exact go 2<|wB (fwOf (is:=[0,1,2,3,4,5]) Y e.sub rfl) (fun bn=>aD<|gY 8 [2,4,2] [] Y (fun bo aw=>retP<|end0 rfl ⟨p,s,t,x,y,z,A,f,i,I,sA_0,sA_1,sA_2,sA_3,al,sA_5,sA_6,sA_7,sA_8,sA_9,sA_10,av,q,r,u,v,B,C,j,l,D,m,o,G,AsA_6,csA_6,AsA_7,csA_7,AsA_8,csA_8,AsA_9,csA_9,AsA_10,csA_10,(oi h).symm,rfl,aw.sel [3,4,5,2],mf J<|((a.sub.trans b.sub).trans d.sub).trans e.sub,Z,mp ab<|((a.sub.trans b.sub).trans d.sub).trans e.sub,ms ac<|((a.sub.trans b.sub).trans d.sub).trans e.sub,ad.mono (fun _ _ h=>h),ae,StkR.mono (fun _ _ h=>h) af,ai,hsA_1,hsA_3,me hsA_6<|((a.sub.trans b.sub).trans d.sub).trans e.sub,ms hsA_7<|((a.sub.trans b.sub).trans d.sub).trans e.sub,ms hsA_8<|((a.sub.trans b.sub).trans d.sub).trans e.sub,ms hsA_9<|((a.sub.trans b.sub).trans d.sub).trans e.sub,mc hsA_10<|((a.sub.trans b.sub).trans d.sub).trans e.sub⟩))
   ·rintro _ _ bp⟨ax,ay,rfl,rfl,az⟩ h;have aA:=ca az V;exact pX<|panE<|.inr ⟨_,rfl,ax,ay,(oi h).symm,rfl,aA.sel []⟩
  ·rintro _ _ bq⟨aB,aG,rfl,rfl,aH⟩ h;have aI:=ca aH U;exact pX<|panE<|.inr ⟨_,rfl,aB,aG,(oi h).symm,rfl,aI.sel []⟩
 ·rintro _ _ bu⟨aK,aL,rfl,rfl,aM⟩ h;have aN:=ca aM O;exact pX<|panE<|.inr ⟨_,rfl,aK,aL,(oi h).symm,rfl,aN.sel []⟩
end Go.Proofs.YtphdlngnegjgcaaGreatDoor
