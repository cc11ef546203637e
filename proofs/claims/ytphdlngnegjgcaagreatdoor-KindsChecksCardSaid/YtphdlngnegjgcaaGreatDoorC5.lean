/- Words of the proof, part 5; nothing is claimed here. -/
import Derived.Test.YtphdlngnegjgcaaGreatDoorC4
import Derived.ProofKit
set_option linter.unusedVariables false
set_option linter.unusedSimpArgs false
set_option maxRecDepth 100000
set_option maxHeartbeats 20000000
namespace Go.Proofs.YtphdlngnegjgcaaGreatDoor
open Go
theorem ax0(k:Nat):ar5 (f85 k):=by
 intro K wi bD dr ds h hG bE bF;obtain⟨n,o,h⟩:=rz h;obtain⟨g⟩:=bD;obtain⟨u,c1,rfl,a3⟩:=aad.open bE;refine en 126 Tryz.func85 rfl ?_;unfold f85 at h;refine gI 8 [] [[iI 0,iI 0,vN]] bF (λr s bG=>bld (cells:=#[iI 0,iI 0,vN]) (vs:=[]) rfl (λw=>by kernel_rfl)<|gR 4 [] [] bG (λdt ad=>wk ad (λj m=>∃a4 af aq ar au,j a4 [1,2,3] []/\KH.sub K af/\m af [] [.box (zz wi) (zz wi) #[sl u g c1] 24,.box (zz wi) (zz r) #[iI 0,iI 0,vN] 104,.box (zz wi) (zz s) #[iI aq,iI ar,.bool au] 104]/\an4 k g aq ar au=some n) ?_ ?_))
 ·refine gD 7 [0,3] ad (bO 14 h ?_ ?_)<;>intro _ h
  ·refine gP 9 [0,3] ad<|cB h (λ_ bH=>(aam k) bH (hG.mono kr)<|pt ad) ?_;rintro⟨bI,bJ,bK⟩ _ du⟨bL,rfl,a5⟩ h;have bM:=ca a5 ad;exact go 2 ⟨_,bL,bI,bJ,bK,fK,a5.sub,bM.sel [2,1,0],h⟩
  ·refine go 5<|cB h (λ_ bP=>(aam k) bP (hG.mono kr)<|pt ad) ?_;rintro⟨bQ,bR,bS⟩ _ dv⟨bT,rfl,a6⟩ h;have bU:=ca a6 ad;exact go 2 ⟨_,bT,bQ,bR,bS,fK,a6.sub,bU.sel [2,1,0],h⟩
 ·rintro _ dw⟨a4,af,aq,ar,au,rfl,f,aU,h⟩;refine wk aU (λj m=>∃a7 av aw ax ay,j a7 [2,3] []/\KH.sub af av/\m av [] [.box (zz wi) (zz r) #[iI 0,iI 0,vN] 104,.box (zz wi) (zz s) #[iI aw,iI ax,.bool ay] 104]/\aoQ k aw ax ay=some n) ?_ ?_
  ·refine gd 6<|wl aU (λj m g_=>∃a8 ai x,∃(z:Nat),∃aj ak al,g_=x.length/\j a8 [1,2,3] [(4,iI (z:Int))]/\KH.sub af ai/\m ai [] [.box (zz wi) (zz wi) #[sl u g c1] 24,.box (zz wi) (zz r) #[iI 0,iI 0,vN] 104,.box (zz wi) (zz s) #[iI aj,iI ak,.bool al] 104]/\g.drop z=x/\abU k x z aj ak al=some n) g.length ?_ ?_
   ·exact⟨_,af,g,0,aq,ar,au,rfl,fK,kr,aU,List.drop_zero,h⟩
   ·rintro _ _ A⟨a8,ai,x,z,aj,ak,al,rfl,rfl,d,W,ap,h⟩;rcases x with _|⟨⟨B,p,C,D,G,q⟩,x⟩
    ·exact gD 7 [0,1] W<|cNl ap<|go 15 ⟨_,ai,aj,ak,al,fK,d,W.sel [1,2],h⟩
    ·refine gD 7 [0,1] W (cCl ap<|gP 14 [2,3] W<|bC 32 h ?_ ?_)<;>intro _ h
     ·refine gD 10 [0,1] W<|eN W (mf a3<|f.trans d) ap aak.open ?_;rintro dx dy dz dA dB dC⟨I,J,N,O,rfl,bV,a9,bW⟩;refine gR 7 [0] [[sE,nS,iI 0,vN,iI 0,nS]] W (λdD bX bY=>?_);have ba:=ayk bY;refine cB h (λ_ bZ=>(ajV k) bZ (gm hG ba)<|pt ba) ?_;rintro⟨dE,dF,dG⟩ _ dH⟨b0,rfl,e⟩ h;have az:=ca e ba;refine go 2<|wk az (λj m=>∃bb am aA aB aG,j bb [1,2,3,4,5] []/\KH.sub b0 am/\m am [] [.box (zz wi) (zz wi) #[sl u g c1] 24,.box (zz wi) (zz r) #[iI 0,iI 0,vN] 104,.box (zz wi) (zz s) #[iI aA,iI aB,.bool aG] 104,.box (zz wi) (zz A) (aF B I p J C D G N q O) 52]/\afC k z p q aA aB aG (abU k x)=some n) ?_ ?_
      ·refine gD 4 [0,2] az<|cB h (λ_ b1=>(acQ k) b1 (gm hG az) bV<|pt az) ?_;rintro dI _ dJ⟨dK,rfl,l⟩ h;have a:=ca l az;refine go 1 (bO 46 h ?_ ?_)<;>intro _ h
       ·refine gP 10 [1,2] a (bO 52 h ?_ ?_)<;>intro _ h
        ·refine gP 8 [2,2] a (bO 57 h ?_ ?_)<;>intro _ h
         ·refine gP 8 [2,2] a (bO 62 h ?_ ?_)<;>intro _ h
          ·refine gP 8 [3,2] a (bO 66 h ?_ ?_)<;>intro _ h
           ·refine gP 14 [4,2] a<|cB h (λ_ b2=>(aam k) b2 (gm hG a)<|pt a) ?_;rintro⟨b3,b4,b5⟩ _ dL⟨b6,rfl,bd⟩ h;have b7:=ca bd a;exact go 2 ⟨_,b6,b3,b4,b5,fK,l.sub.trans bd.sub,b7.sel [2,3,0,1],h⟩
           ·refine gP 10 [2,2] a (bO 72 h ?_ ?_)<;>intro _ h
            ·refine gP 7 [4,2] a<|cB h (λ_ b8=>(aam k) b8 (gm hG a)<|pt a) ?_;rintro⟨b9,cb,cc⟩ _ dM⟨ce,rfl,be⟩ h;have cf:=ca be a;exact go 2 ⟨_,ce,b9,cb,cc,fK,l.sub.trans be.sub,cf.sel [2,3,0,1],h⟩
            ·refine go 4<|cB h (λ_ ch=>(aam k) ch (gm hG a)<|pt a) ?_;rintro⟨ci,cj,ck⟩ _ dN⟨cl,rfl,bf⟩ h;have cm:=ca bf a;exact go 2 ⟨_,cl,ci,cj,ck,fK,l.sub.trans bf.sub,cm.sel [2,3,0,1],h⟩
          ·refine go 14<|cB h (λ_ cn=>(aam k) cn (gm hG a)<|pt a) ?_;rintro⟨co,cq,cr⟩ _ dO⟨cs,rfl,bg⟩ h;have ct:=ca bg a;exact go 2 ⟨_,cs,co,cq,cr,fK,l.sub.trans bg.sub,ct.sel [2,3,0,1],h⟩
         ·refine go 19<|cB h (λ_ cu=>(aam k) cu (gm hG a)<|pt a) ?_;rintro⟨cw,cx,cy⟩ _ dP⟨cz,rfl,bh⟩ h;have cA:=ca bh a;exact go 2 ⟨_,cz,cw,cx,cy,fK,l.sub.trans bh.sub,cA.sel [2,3,0,1],h⟩
        ·refine go 24<|cB h (λ_ cC=>(aam k) cC (gm hG a)<|pt a) ?_;rintro⟨cD,cG,cH⟩ _ dQ⟨cI,rfl,bi⟩ h;have cJ:=ca bi a;exact go 2 ⟨_,cI,cD,cG,cH,fK,l.sub.trans bi.sub,cJ.sel [2,3,0,1],h⟩
       ·refine go 30<|cB h (λ_ cK=>(aam k) cK (gm hG a)<|pt a) ?_;rintro⟨cL,cM,cN⟩ _ dR⟨cO,rfl,bj⟩ h;have cP:=ca bj a;exact go 2 ⟨_,cO,cL,cM,cN,fK,l.sub.trans bj.sub,cP.sel [2,3,0,1],h⟩
      ·rintro _ dS⟨bb,am,aA,aB,aG,rfl,S,aV,h⟩;refine wk aV (λj m=>∃bk aH aI aK aL,j bk [1,2,3,4,5] []/\KH.sub am aH/\m aH [] [.box (zz wi) (zz wi) #[sl u g c1] 24,.box (zz wi) (zz r) #[iI 0,iI 0,vN] 104,.box (zz wi) (zz s) #[iI aI,iI aK,.bool aL] 104,.box (zz wi) (zz A) (aF B I p J C D G N q O) 52]/\agR k z q aI aK aL (abU k x)=some n) ?_ ?_
       ·refine gd 6<|wl aV (λj m g_=>∃bm an X,∃(t:Nat),∃Y Z ab,g_=X.length/\j bm [1,2,3,4,5] [(6,iI (t:Int))]/\KH.sub am an/\m an [] [.box (zz wi) (zz wi) #[sl u g c1] 24,.box (zz wi) (zz r) #[iI 0,iI 0,vN] 104,.box (zz wi) (zz s) #[iI Y,iI Z,.bool ab] 104,.box (zz wi) (zz A) (aF B I p J C D G N q O) 52]/\p.drop t=X/\afP k z q (abU k x) X t Y Z ab=some n) p.length ?_ ?_
        ·exact⟨_,am,p,0,aA,aB,aG,rfl,fK,kr,aV,List.drop_zero,h⟩
        ·rintro _ _ dT⟨bm,an,X,t,Y,Z,ab,rfl,rfl,U,y,ac,h⟩;rcases X with _|⟨⟨cQ,bn⟩,X⟩
         ·exact gD 7 [1,4] y<|cNl ac<|go 15 ⟨_,an,Y,Z,ab,fK,U,y,h⟩
         ·refine gD 7 [1,4] y (cCl ac<|gP 14 [2,3] y<|bC 89 h ?_ ?_)<;>intro _ h
          ·refine gd 3<|wk y (λj m=>∃bo aM aN aP aT,j bo [1,2,3,4,5,6] []/\KH.sub an aM/\m aM [] [.box (zz wi) (zz wi) #[sl u g c1] 24,.box (zz wi) (zz r) #[iI 0,iI 0,vN] 104,.box (zz wi) (zz s) #[iI aN,iI aP,.bool aT] 104,.box (zz wi) (zz A) (aF B I p J C D G N q O) 52]/\alZ k t aN aP aT (afP k z q (abU k x) X)=some n) ?_ ?_
           ·refine gD 6 [1,4] y ?_;obtain⟨aW,ao,dU,aX,dV,aY,cR⟩:=((mp a9 ((e.sub.trans S).trans U))).row.at_ (aaC ac);obtain⟨rfl,cS⟩:=aaw.open cR;refine iNl 70 2 aX ac<|fd (ao+t*2+0) aqt rfl<|ld1 (v:=.string cQ) Tya9 rfl (y.cell<|kr.cell<|aY 0 _ rfl)<|cB h (λ_ cU=>(acQ k) cU (gm hG y) cS<|pt y) ?_;rintro dW _ aZ⟨a1,rfl,V⟩ h;have ae:=ca V y;refine go 1 (bO 100 h ?_ ?_)<;>intro _ h
            ·refine gP 7 [1,4] ae (iNl 70 2 aX ac<|go 1<|fd (ao+t*2+1) ajQ rfl<|go 1<|ld1 (v:=iI bn) Tya3 rfl (ae.cell<|V.sub.cell<|aY 1 _ rfl)<|go 4<|bO 109 h ?_ ?_)<;>intro _ h
             ·refine gP 7 [1,4] ae<|iNl 70 2 aX ac<|go 1<|fd (ao+t*2+1) ajQ rfl<|go 1<|ld1 (v:=iI bn) Tya3 rfl (ae.cell<|V.sub.cell<|aY 1 _ rfl)<|go 3 ?_;have bp:=atM ae;refine cB h (λ_ cV=>(aam k) cV (hG.mono<|((((f.trans d).trans e.sub).trans S).trans U).trans V.sub)<|pt bp) ?_;rintro⟨cW,cY,cZ⟩ _ dX⟨c2,rfl,bq⟩ h;have c3:=ca bq bp;exact go 3 ⟨_,c2,cW,cY,cZ,fK,V.sub.trans bq.sub,c3.sel [1,2,0,3],h⟩
             ·refine go 8 ?_;have br:=atM ae;refine cB h (λ_ c4=>(aam k) c4 (hG.mono<|((((f.trans d).trans e.sub).trans S).trans U).trans V.sub)<|pt br) ?_;rintro⟨c5,c6,c7⟩ _ dY⟨c8,rfl,bs⟩ h;have c9:=ca bs br;exact go 3 ⟨_,c8,c5,c6,c7,fK,V.sub.trans bs.sub,c9.sel [1,2,0,3],h⟩
            ·refine go 17 ?_;have bu:=atM ae;refine cB h (λ_ da=>(aam k) da (hG.mono<|((((f.trans d).trans e.sub).trans S).trans U).trans V.sub)<|pt bu) ?_;rintro⟨db,dc,dd⟩ _ dZ⟨de,rfl,bv⟩ h;have df:=ca bv bu;exact go 3 ⟨_,de,db,dc,dd,fK,V.sub.trans bv.sub,df.sel [1,2,0,3],h⟩
           ·rintro _ d0⟨bo,aM,aN,aP,aT,rfl,dg,dh,h⟩;exact gd 2<|iCl ac ((mp a9<|(e.sub.trans S).trans U).len)<|go 3 ⟨_,Nat.lt_succ_self _,_,aM,X,t+1,aN,aP,aT,rfl,fK,U.trans dg,dh,aac ac,h⟩
          ·exact gd 6 ⟨_,an,Y,Z,ab,fK,U,y,h⟩
       ·rintro _ di⟨bk,aH,aI,aK,aL,rfl,a2,bw,h⟩;refine gD 4 [5,4] bw ?_;have bx:=atM bw;refine cB h (λ_ dj=>(av0 k) dj (hG.mono<|(((f.trans d).trans e.sub).trans S).trans a2) (ms bW<|(e.sub.trans S).trans a2)<|pt bx) ?_;rintro⟨dk,dl,dm⟩ _ d1⟨dn,rfl,bz⟩ h;have dp:=ca bz bx;exact go 5<|iCl ap ((mf a3<|f.trans d).len)<|go 3 ⟨_,Nat.lt_succ_self _,_,dn,x,z+1,dk,dl,dm,rfl,fK,(((d.trans e.sub).trans S).trans a2).trans bz.sub,dp.sel [1,2,0],aac ap,h⟩
     ·exact gd 6 ⟨_,ai,aj,ak,al,fK,d,W.sel [1,2],h⟩
  ·rintro _ d2⟨a7,av,aw,ax,ay,rfl,d3,dq,h⟩;refine gI 9 [0,1,3,0] [] dq (λd4 bB=>?_);cases oj h o;exact adq rfl (rNl 0 bB rfl) ⟨av,[iI aw,iI ax,.bool ay],rfl,bB.sel [],.mk⟩
theorem atZ(k:Nat):atI (f59 k):=by
 intro K wi d r s h hG e f;obtain⟨Z,n,h⟩:=rz h;obtain⟨t⟩:=d;obtain⟨x,c1,rfl,g⟩:=aad.open e;refine en 7 Tryz.func59 rfl ?_;unfold f59 at h;refine gI 9 [0,0,1] [] f (λy a=>cB h (λ_ i=>(ax0 k) i (hG.mono kr) (aad.intro g)<|pt a) ?_);rintro⟨j,l,b⟩ _ z⟨m,A,rfl,o,p⟩ h;have q:=ca o a;obtain rfl:=adk.open p;refine fva (v:=.agg #[iI j,iI l,.bool b]) (u:=.bool b) rfl (λw=>by kernel_rfl)<|go 5 ?_;cases oj h n;exact rt1 ⟨m,rfl,q.sel []⟩
theorem axb(k:Nat):asu (f37 k):=by
 intro K wi o z A h hG p q;obtain⟨Z,n,h⟩:=rz h;obtain⟨B⟩:=o;obtain⟨C,c1,rfl,r⟩:=aad.open p;refine en 12 Tryz.func37 rfl ?_;unfold f37 at h;refine gI 6 [] [] q (λD a=>wk a (λj m=>∃f b d,j f [] [(2,.bool d)]/\KH.sub K b/\m b [] []/\anD k d=some Z) ?_ ?_)
 ·refine gD 6 [0,1] a (bO 7 h ?_ ?_)<;>intro _ h
  ·refine gP 3 [0,0,1] a<|cB h (λ_ s=>(at5 k) s (hG.mono kr) (aad.intro r)<|pt a) ?_;rintro⟨G⟩ _ I⟨J,N,rfl,e,g⟩ h;have i:=ca e a;obtain⟨O,S,rfl,U⟩:=aad.open g;refine go 1<|cB h (λ_ t=>(atZ k) t (gm hG e) g<|pt i) ?_;rintro u _ V⟨v,rfl,l⟩ h;have x:=ca l i;exact go 4 ⟨_,v,u,fK,e.sub.trans l.sub,x.sel [],h⟩
  ·exact go 7 ⟨_,K,false,fK,kr,a.sel [],h⟩
 ·rintro _ W⟨f,b,d,rfl,X,y,h⟩;refine gd 1 ?_;cases oj h n;exact rt1 ⟨b,rfl,y⟩
theorem aqv(k:Nat):asw (f60 k):=by
 intro K wi g A B s C h hG l D p;obtain⟨n,o,h⟩:=rz h;refine en 20 Tryz.func60 rfl ?_;unfold f60 at h;refine gd 12<|wl p (λj m g_=>∃q a,∃(d:Nat),g_=a.length/\j q [0,1] [(5,iI (d:Int))]/\m K [] []/\g.drop d=a/\aeo k s a d=some n) g.length ?_ ?_
 ·exact⟨_,g,0,rfl,fK,p,List.drop_zero,h⟩
 ·rintro _ _ G⟨q,a,d,rfl,rfl,f,e,h⟩;rcases a with _|⟨⟨t,I,J,N,O,S⟩,a⟩
  ·refine gd 6<|cNl e<|go 14 ?_;cases oj h o;exact rt1 ⟨K,rfl,f⟩
  ·refine gd 6<|cCl e<|go 11 ?_;obtain⟨u,r,U,x,V,y,z⟩:=(l).row.at_ (aaC e);obtain⟨W,X,Y,Z,rfl,ab,ac,ad⟩:=aak.open z;refine iNl 52 6 x e (fd (r+d*6+0) arH rfl<|ld1 (v:=.string t) Tya9 rfl (f.cell<|kr.cell<|y 0 _ rfl)<|go 4<|bC 18 h ?_ ?_)<;>intro _ h
   ·refine gd 13 ?_;cases oj h o;exact rt1 ⟨K,rfl,f⟩
   ·exact gd 6<|iCl e ((l).len)<|go 3 ⟨_,Nat.lt_succ_self _,_,a,d+1,rfl,fK,f,aac e,h⟩
theorem ams(k:Nat):ar3 (f119 k):=by
 intro K wi g bs br aj z A ak al B C am an ao ap D G aq I J N p O S U ar au av aA aB aG aH aI aK aL aM aN aP aT aU h hG V W X Y s Z t u hbr aV ab;obtain⟨r_,n,h⟩:=rz h;refine en 37 Tryz.func119 rfl ?_;unfold f119 at h;refine gd 12<|wl ab (λj m g_=>∃ac e,∃(a:Nat),g_=e.length/\j ac [0,1] [(5,iI (a:Int))]/\m K [0,1,2] []/\p.drop a=e/\afY k aj ak al am an ao ap aq p ar au av e a=some r_) p.length ?_ ?_
 ·exact⟨_,p,0,rfl,fK,ab,List.drop_zero,h⟩
 ·rintro _ _ aW⟨ac,e,a,rfl,rfl,q,f,h⟩;rcases e with _|⟨l,e⟩
  ·refine gD 9 [8,1] q<|cNl f<|go 14 ?_;cases oj h n;exact rt1 ⟨K,z,A,B,C,D,G,I,J,N,O,S,U,rfl,q,V,W,X,Y,s,Z,t,u⟩
  ·refine gD 9 [8,1] q<|cCl f<|go 8<|rB [] q (λd r=>ah 9 [0,1,2,7,3,1,4,5,6,8,7,1,8] r ?_);obtain⟨x,aX,ad,aY,aw,ae⟩:=afW (d.entAt (i:=2) rfl) t (aaC f);obtain rfl:=aw;refine kK 9 (pp x<|0+a*1) rfl (λw=>alf (b:=x) (o:=0) (i:=a) ae1 Tys3 rfl ad rfl<|abb f) r<|tT 10 (iI l) [] rfl (fq [0,1,2] d) (λw hF=>acY (v:=iI l) Tya3 rfl<|ae _ (hF.entAt (i:=2) rfl) 0 _ rfl) ?_;obtain⟨af,y,h⟩:=ob h;obtain⟨ai,aZ,ax,a0,ay,az⟩:=afW (d.entAt (i:=1) rfl) s (aaA y).1;obtain⟨rfl,a2⟩:=ay;refine kGl 9 1 11 rfl ax y r (tT 12 (.string af) [] rfl (fq [0,1,2] d) (λw hF=>acY (v:=.string af) Tya9 rfl<|az _ (hF.entAt (i:=1) rfl) 0 _ rfl)<|ah 2 [13,14] r<|aD<|gx 1<|bC 29 h ?_ ?_)<;>intro _ h
   ·refine gD 8 [8,1] d<|iNl 3 1 ad f<|ld1 (v:=iI l) Tya3 rfl (ae _ (d.entAt (i:=2) rfl) 0 _ rfl)<|go 9 ?_;cases oj h n;exact rt1 ⟨K,z,A,B,C,D,G,I,J,N,O,S,U,rfl,d,V,W,X,Y,s,Z,t,u⟩
   ·exact gd 6<|iCl f u<|go 3 ⟨_,Nat.lt_succ_self _,_,e,a+1,rfl,fK,d,aac f,h⟩
theorem ad5(k:Nat):as4 (f88 k):=by
 intro K wi g bs br N d e O S f i U V W X l o Y p q r Z s t u ab v ae ac af ai aj ak al am an ao ap aq ar h hG x y z A B C D G hbr a;obtain⟨r_,n,h⟩:=rz h;refine en 19 Tryz.func88 rfl ?_;unfold f88 at h;refine wk a (λj m=>∃I b,j I [0,2] [(14,.bool b)]/\m K [0,1,2] []/\anP k N O S U V W X Y Z ab v ac b=some r_) ?_ ?_
 ·refine gd 4 (bO 8 h ?_ ?_)<;>intro _ h
  ·exact gP 13 [10,1] a ⟨_,v==0,fK,a,h⟩
  ·exact go 8 ⟨_,false,fK,a,h⟩
 ·rintro _ au⟨I,b,rfl,J,h⟩;refine bC 14 h ?_ ?_<;>intro _ h
  ·refine gI 8 [10,0] [] J (λav ad=>?_);cases oj h n;exact end0 rfl ⟨K,d,e,f,i,l,o,p,q,r,s,t,u,rfl,ad,x,y,z,A,B,C,D,G⟩
  ·refine gd 2 ?_;cases oj h n;exact end0 rfl ⟨K,d,e,f,i,l,o,p,q,r,s,t,u,rfl,J,x,y,z,A,B,C,D,G⟩
theorem apw(k:Nat):atE (f86 k):=by
 intro K wi g bs br D G I J N O S U V W X Y Z b f i ab d j l ac ad ae m bu bv bw bx bz bB bD bE bF bG bH bI h hG aA aB aG aH aI aK aL aM hbr af o;obtain⟨r_,n,h⟩:=rz h;refine en 42 Tryz.func86 rfl ?_;unfold f86 at h;refine gd 10<|cB h (λ_ aN=>(ams k) aN (hG.mono kr) aA aB aG aH aI aK aL aM (Nat.le_trans hbr o.size) af<|pt o) ?_;rintro⟨⟨bJ,⟨bK,bL,bM,bP,bQ,bR⟩,bS,bT,bU,bV⟩,bW⟩ _ bX⟨bY,bZ,b0,b1,b2,b3,b4,b5,b6,b7,b8,b9,cb,rfl,ai,aP,aT,aU,aV,aW,aX,aY,aZ⟩ h;have p:=ca ai o;refine go 1<|cB h (λ_ a0=>(ad5 k) a0 (gm hG ai) aP aT aU aV aW aX aY aZ (Nat.le_trans hbr p.size)<|pt p) ?_;rintro⟨aj,⟨ak,al,am,an,ao,ap⟩,a,e,aq,ar⟩ _ cc⟨q,r,s,t,u,v,x,au,av,ce,y,z,a2,rfl,a3,a4,a5,a6,a7,a8,cf,a9,ch⟩ h;have aw:=ca a3 p;refine gP 13 [7,1] aw<|rB [] aw (λba bb=>ah 10 [0,1,2,7,3,1,4,5,6,8,7,1,8,9] bb<|aD<|gY 8 [9] [] ba (λci bd=>aJ (hbase:=hbr) h 2 0 bd rfl rfl a8 ⟨rfl,af⟩ ?_));rintro A B C be bf bg bh h;have bi:=p123 bf;refine gR 3 [3] [] bi (λcj bj=>aJ (hbase:=hbr) h 3 0 bj rfl rfl a9 rfl ?_);rintro ax ay az bk bm bn bo h;have bp:=p123 bm;refine gR 15 [7,0,8,0] [] bp (λck cl bq=>?_);cases oj h n;exact rt1 ⟨q,r,s,t,u,v,x,A,B,C,ax,ay,az,rfl,bq,a4,a5,a6,a7,bg,aav bh,bn,aav bo⟩
theorem arX(k:Nat)(F:ahw)(IH143:adE F.f143)(IH170:adD F.f170):adE (arj k F):=by
 intro K wi g bs br az aA aB aG aH aI aK aL aM aN aP aT aU q Y Z aV r ab ac aW aX aY ad ce cf ch ci cj ck cl cm cn co cq cr cs ct h hG bG bH bI bJ bK bL bM bP hbr aZ bQ;obtain⟨r_,n,h⟩:=rz h;refine en 23 Tryz.func143 rfl ?_;unfold arj at h;refine gd 17 ?_;have a0:=bQ.row_ (zz wi) 35 5;refine wl a0 (λj m g_=>∃a2 a d,∃(l:Nat),∃s t u v x y z ae af ai A B C e D G I f J N O aj ak b S U al,g_=d.length/\j a2 [0,1] [(5,sl S b U),(6,iI (l:Int))]/\KH.sub K a/\m a [] [.box bs g #[sl t s u,.string v,sl y x z,iI ae,.bool af,iI ai,sl B A C,sl D e G,sl J f N,iI aj,iI ak] 109,eW br D e G 9 1 I,eW br J f N 3 1 O,eW (zz wi) S b U 35 5 al]/\ad.drop l=d/\tF a t u s/\v.size<=mB/\tP a y z x/\tS a B C A/\Reps RStr 1 e I/\e.length*16<=mB/\Reps (RInt .i64) 1 f O/\f.length*8<=mB/\Reps (aai a) 5 b al/\b.length*64<=mB/\ae4 k F d l s v x ae af ai A e f aj ak b=some r_) ad.length ?_ ?_
 ·exact⟨_,K,ad,0,az,aA,aB,aG,aH,aI,aK,aL,aM,aN,aP,aT,aU,q,Y,Z,aV,r,ab,ac,aW,aX,aY,([]:LE),none,0,[],rfl,fK,kr,a0.sel [1,2,3,0],List.drop_zero,bG,bH,bI,bJ,bK,bL,bM,bP,abm (R:=(aai K)) (size:=5),(by simp),h⟩
 ·rintro _ _ cu⟨a2,a,d,l,s,t,u,v,x,y,z,ae,af,ai,A,B,C,e,D,G,I,f,J,N,O,aj,ak,b,S,U,hh⟩;obtain⟨al,rfl,rfl,V,o,p,a3,a4,a5,a6,a7,a8,a9,ba,bb,bR,h⟩:=hh;rcases d with _|⟨⟨cw,cx,cy,cz,cA⟩,d⟩
  ·refine gd 6<|cNl p<|go 15 ?_;obtain⟨bS,bT,am,bU⟩:=abD (i:=3) (bytes:=64) (R:=λK=>(aai K)) o rfl (Nat.le_refl _) bb bR (λhs=>(λ_ _ h=>aai.mono hs h));cases oj h n;exact rt1 ⟨bS,t,u,y,z,B,C,D,G,I,J,N,O,S,U,rfl,bT,mf a3 am,a4,mp a5 am,ms a6 am,a7.mono (λ_ _ h=>h),a8,a9.mono (λ_ _ h=>h),ba,bU⟩
  ·refine gd 6<|cCl p<|go 12<|eN o (me aZ V) p aai.open ?_;rintro cC cD cG cH cI bV⟨cJ,cK,rfl,cL,cM⟩;refine cB h (λ_ bW=>IH170 bW (hG.mono V) a3 a4 a5 a6 a7 a8 a9 ba (Nat.le_trans hbr o.size) bV<|pt o) ?_;rintro⟨⟨bd,⟨be,bf,bg,bh,bi,bj⟩,W,X,bk,bm⟩,⟨an,ao,ap,aq,ar⟩⟩ _ cN⟨bn,bo,bp,bq,bu,bv,bw,au,av,bx,aw,ax,bz,cO,rfl,ay,bX,bY,bZ,b0,b1,b2,b3,b4,bB⟩ h;have b5:=ca ay o;obtain⟨cP,cQ,rfl,cR,cS⟩:=aai.open bB;refine gR 1 [35] [] b5 (λcU b6=>aJ h 4 0 b6 rfl rfl (bb.mono (λ_ _ h=>aai.mono ay.sub h)) bB ?_);rintro bD bE bF b7 b8 b9 cb h;have cc:=ajP b8;exact go 6<|iCl p ((me aZ V).len)<|go 3 ⟨_,Nat.lt_succ_self _,_,bn,d,l+1,bd,bo,bp,be,bf,bq,bu,bg,bh,bi,bj,bv,bw,W,au,av,bx,X,aw,ax,bz,bk,bm,b++[(aah.mk an ao ap aq ar)],bD,bE,bF,rfl,fK,V.trans ay.sub,cc,aac p,bX,bY,bZ,b0,b1,b2,b3,b4,b9,aav cb,h⟩
theorem aqe(k:Nat)(F:ahw)(IH143:adE F.f143)(IH170:adD F.f170):adD (ala k F):=by
 intro K wi g bs br G I J N O S U V W X Y Z ab a i l ac b o p ad ae af a4 cL cM cN cO cP cQ cR cS cU cV cW cY cZ h hG aI aK aL aM aN aP aT aU hbr a5 a6;obtain⟨r_,n,h⟩:=rz h;obtain⟨r,s,t,aV,ai⟩:=a4;obtain⟨ay,az,rfl,aW,a7⟩:=aai.open a5;refine en 24 Tryz.func170 rfl ?_;unfold ala at h;refine gI 6 [] [[iI 0,iI 0,sE,iI 0,nS]] a6 (λaA a8 q=>wk q (λj m=>∃aX d u aj ak v x al am an ao ap y aq ar e z A au f B C av aw ax D,j aX [0,3,4] []/\KH.sub K d/\m d [] [.box bs g #[sl aj u ak,.string v,sl al x am,iI an,.bool ao,iI ap,sl aq y ar,sl z e A,sl B f C,iI aw,iI ax] 109,.box (zz wi) (zz wi) (aE r s t D ay ai az) 35,.box (zz wi) (zz aA) zE.toArray 35,eW br z e A 9 1 au,eW br B f C 3 1 av]/\tF d aj ak u/\v.size<=mB/\tP d al am x/\tS d aq ar y/\Reps RStr 1 e au/\e.length*16<=mB/\Reps (RInt .i64) 1 f av/\f.length*8<=mB/\ajn k F r s t ai u v x an ao ap y e f aw ax D=some r_) ?_ ?_)
 ·refine gD 7 [0,2] q (bC 7 h ?_ ?_)<;>intro _ h
  ·refine gD 6 [2,2] q ?_;have aY:=alg q;refine cB h (λ_ a9=>(ams k) a9 (hG.mono kr) aI aK aL aM aN aP aT aU (Nat.le_trans hbr q.size) aW<|pt aY) ?_;rintro⟨⟨c3,⟨c4,c5,c6,c7,c8,c9⟩,da,db,dc,dd⟩,ba⟩ _ de⟨df,dg,dh,di,dj,dk,dl,dm,dn,dp,dq,dr,ds,rfl,aB,bb,bd,be,bf,bg,bh,bi,bj⟩ h;have bk:=ca aB aY;refine gR 9 [3,4,3,5] [] bk (λdt aG=>cB h (λ_ bm=>(ad5 k) bm (gm hG aB) bb bd be bf bg bh bi bj (Nat.le_trans hbr aG.size)<|pt aG) ?_);rintro⟨bn,⟨bo,bp,bq,bu,bv,bw⟩,bx,bz,bB,bD⟩ _ du⟨bE,bF,bG,bH,bI,bJ,bK,bL,bM,bP,bQ,bR,bS,rfl,aZ,bT,bU,bV,bW,bX,bY,bZ,b0⟩ h;have b1:=ca aZ aG;exact go 2 ⟨_,bE,bn,bF,bG,bo,bp,bH,bI,bq,bu,bv,bw,bJ,bK,bx,bL,bM,bP,bz,bQ,bR,bS,bB,bD,ba,fK,aB.sub.trans aZ.sub,b1.sel [0,4,3,1,2],bT,bU,bV,bW,bX,bY,bZ,b0,h⟩
  ·exact gd 3 ⟨_,K,G,I,J,N,O,S,U,V,W,X,Y,Z,ab,a,i,l,ac,b,o,p,ad,ae,af,aV,fK,kr,q.sel [2,1,0,3,4],aI,aK,aL,aM,aN,aP,aT,aU,h⟩
 ·rintro _ b2⟨aX,d,u,aj,ak,v,x,al,am,an,ao,ap,y,aq,ar,e,z,A,au,f,B,C,av,aw,ax,D,rfl,a0,aH,b3,hh⟩;obtain⟨b4,b5,b6,b7,b8,b9,cb,h⟩:=hh;refine gD 5 [4,2] aH ?_;have a2:=abY aH;refine cB h (λ_ cc=>IH143 cc (hG.mono a0) b3 b4 b5 b6 b7 b8 b9 cb (Nat.le_trans hbr aH.size) (me a7 a0)<|pt a2) ?_;rintro⟨⟨dv,⟨dw,dx,dy,dz,dA,dB⟩,dC,dD,dE,dF⟩,ce⟩ _ dG⟨cf,ch,ci,cj,ck,cl,cm,cn,co,cq,cr,cs,ct,cu,cw,rfl,cx,cy,cz,cA,cC,cD,cG,cH,cI,cJ⟩ h;have cK:=ca cx a2;refine gR 11 [4,3,0,3,5,4] [] cK (λdH dI a3=>?_);cases oj h n;exact adq rfl (rNl 4 a3 rfl) ⟨cf,ch,ci,cj,ck,cl,cm,cn,co,cq,cr,cs,ct,vE r s t D cu ce cw,rfl,a3.sel [0,1,2],cy,cz,cA,cC,cD,cG,cH,cI,aai.intro aW cJ⟩
theorem al3(k0:Nat) : ∀k,adE (adc k0 k).f143/\adD (adc k0 k).f170:=by
 intro k;induction k with
 | zero=>exact⟨by simp[adE,adc],by simp[adD,adc]⟩
 | succ k ih=>exact⟨arX k0 (adc k0 k) ih.1 ih.2,aqe k0 (adc k0 k) ih.1 ih.2⟩
theorem arD(k:Nat):adE (f143 k):=(al3 k k).1
theorem ayv(k:Nat):adD (f170 k):=(al3 k k).2
theorem avV(k:Nat):arv (f144 k):=by
 intro K wi g bs br q r s t u x y z A B C D G a f j I d l m J N O a7 cu cw cx cy cz cA cC cD cG cH cI cJ cK h hG S ai aj ak al am an ao hbr a8 a9;obtain⟨n,o,h⟩:=rz h;obtain⟨ap,aq,ar,au,av,aw,ax,ay,az,aA,aB⟩:=a7;obtain⟨aG,aH,aI,aK,aL,aM,aN,aP,aT,aU,rfl,cL,ba,cM,cN,cO,cP,cQ⟩:=aag.open a8;refine en 47 Tryz.func144 rfl ?_;unfold f144 at h;refine gI 7 [] [] a9 (λcR bb=>rB [] bb (λaV bd=>ah 6 [0,1,2,0,3,2,4,3,5,1] bd<|aQ 6 rfl<|cB h (λ_ be=>(aqv k) be (hG.mono kr) S ba<|pt aV) ?_));rintro p _ aW⟨aX,rfl,e⟩ h;have U:=ca e aV;refine go 2 (wB (fwOf (is:=[0,1,2,3]) U e.sub rfl) (λbf=>ah 1 [7] bf<|aD<|gx 8<|bC 14 h ?_ ?_))<;>intro _ h
 ·refine gd 4 ?_;have aY:=aw7 U;refine cB h (λ_ bg=>(ad5 k) bg (gm hG e) (mf S e.sub) ai (mp aj e.sub) (ms ak e.sub) (al.mono (λ_ _ h=>h)) am (an.mono (λ_ _ h=>h)) ao (Nat.le_trans hbr U.size)<|pt aY) ?_;rintro⟨cS,⟨cU,cV,cW,cY,cZ,c2⟩,c4,c5,c7,c8⟩ _ da⟨bh,bi,bj,bk,bm,bn,bo,bp,bq,bu,bv,bw,bx,rfl,bz,bB,bD,bE,bF,bG,bH,bI,bJ⟩ h;have bK:=ca bz aY;refine go 9 ?_;cases oj h o;exact rt1 ⟨bh,bi,bj,bk,bm,bn,bo,bp,bq,bu,bv,bw,bx,rfl,bK.sel [0,1,2],bB,bD,bE,bF,bG,bH,bI,bJ⟩
 ·refine gd 4<|rB [13] U (λab V=>ah 6 [0,1,2,3,0,4,2,5] V ?_);obtain⟨⟨db,dc,dd,aZ,de,df⟩,ac,h⟩:=ob h;obtain⟨ad,W,dg,bL,dh,bM,bP⟩:=((mf S e.sub)).row.at_ (aaA ac).1;obtain⟨di,dj,dk,dl,rfl,dm,dn,dp⟩:=aak.open bP;refine kGl 52 6 6 rfl bL ac V<|kK 7 (pp ad<|W+p.toNat*6+3) rfl (λw=>ae6 (o':=W+p.toNat*6+3) ao8 rfl rfl) V<|tT 8 (.bool aZ) [[13,12,8]] rfl (fq [0,1,2,3] ab) (λw hF=>acY (v:=.bool aZ) Tya4 rfl<|hF.cell<|kr.cell<|bM 3 _ rfl)<|ah 4 [9,0,10,1,11,12] V<|aQ 13 rfl ?_;have a0:=aw7 ab;refine cB h (λ_ bQ=>(ad5 k) bQ (gm hG e) (mf S e.sub) ai (mp aj e.sub) (ms ak e.sub) (al.mono (λ_ _ h=>h)) am (an.mono (λ_ _ h=>h)) ao (Nat.le_trans hbr ab.size)<|pt a0) ?_;rintro⟨dq,⟨dr,ds,dt,du,dv,dw⟩,dx,dy,dz,dA⟩ _ dB⟨dC,dD,dE,dF,dG,dH,dI,dJ,dK,dL,dM,dN,dO,rfl,a2,a3,bR,bS,bT,bU,bV,bW,bX⟩ h;have bY:=ca a2 a0;refine go 2 ⟨hE 13,aD<|gx 2<|rB [14] bY (λX Y=>ah 9 [0,1,6,2,4,3,4,5,6,0,7,1,8] Y ?_)⟩;obtain⟨⟨dP,a4,dQ,dR,dS,dT⟩,ae,h⟩:=ob h;obtain⟨af,Z,dU,bZ,dV,b0,b1⟩:=(a3).row.at_ (aaA ae).1;obtain⟨a5,a6,dW,dX,rfl,dY,dZ,d0⟩:=aak.open b1;refine kGl 52 6 9 rfl bZ ae Y<|kK 10 (pp af<|Z+p.toNat*6+1) rfl (λw=>ae6 (o':=Z+p.toNat*6+1) ajM rfl rfl) Y<|tT 11 (sl a5 a4 a6) [[14,13,12,11]] rfl (fq [0,1,2,3] X) (λw hF=>acY (v:=sl a5 a4 a6) ato rfl<|hF.cell<|kr.cell<|b0 1 _ rfl)<|ah 2 [12,13] Y<|aQ 14 rfl<|cB h (λ_ b2=>(ad5 k) b2 (hG.mono<|e.sub.trans a2.sub) a3 bR bS bT bU bV bW bX (Nat.le_trans hbr X.size)<|pt X) ?_;rintro⟨d1,⟨d2,d3,d4,d5,d6,d7⟩,d8,d9,ea,ec⟩ _ ed⟨b3,b4,b5,b6,b7,b8,b9,cb,cc,ce,cf,ch,ci,rfl,cj,ck,cl,cm,cn,co,cq,cr,cs⟩ h;have ct:=ca cj X;refine go 2 ⟨hE 14,aD<|gx 8 ?_⟩;cases oj h o;exact rt1 ⟨b3,b4,b5,b6,b7,b8,b9,cb,cc,ce,cf,ch,ci,rfl,ct.sel [0,1,2],ck,cl,cm,cn,co,cq,cr,cs⟩
theorem avH(k:Nat):apV (f145 k):=by
 intro K wi b s h hG a;obtain⟨y,z,h⟩:=rz h;refine en 13 Tryz.func145 rfl ?_;unfold f145 at h;refine gd 12<|wk a (λj m=>∃e d,j e [] [(4,.bool d)]/\m K [] []/\adu k d=some y) ?_ ?_
 ·refine gd 6 (bC 4 h ?_ ?_)<;>intro g h
  ·exact gd 3<|lX 4 g.symm ⟨_,b==1,fK,a,h⟩
  ·refine gd 7 (bC 4 h ?_ ?_)<;>intro i h
   ·exact gd 3<|lX 4 i.symm ⟨_,b==3,fK,a,h⟩
   ·refine gd 7 (bC 4 h ?_ ?_)<;>intro l h
    ·exact gd 3<|lX 4 l.symm ⟨_,b==4,fK,a,h⟩
    ·refine gd 7 (bC 4 h ?_ ?_)<;>intro o h
     ·exact gd 3<|lX 4 o.symm ⟨_,b==5,fK,a,h⟩
     ·refine gd 7 (bC 4 h ?_ ?_)<;>intro p h
      ·exact gd 3<|lX 4 p.symm ⟨_,b==6,fK,a,h⟩
      ·refine gd 7 (bC 4 h ?_ ?_)<;>intro q h
       ·exact gd 3<|lX 4 q.symm ⟨_,b==7,fK,a,h⟩
       ·refine gd 7 (bC 4 h ?_ ?_)<;>intro r h
        ·exact gd 3<|lX 4 r.symm ⟨_,b==8,fK,a,h⟩
        ·exact gd 6 ⟨_,b==9,fK,a,h⟩
 ·rintro _ t⟨e,d,rfl,f,h⟩;refine bC 4 h ?_ ?_<;>intro _ h
  ·refine gd 9 ?_;cases oj h z;exact rt1 ⟨K,rfl,f⟩
  ·refine gd 10 ?_;cases oj h z;exact rt1 ⟨K,rfl,f⟩
theorem atf(k:Nat)(F:aek)(IH87:adm F.f87)(IH120:acA F.f120)(IH146:acz F.f146)(IH147:acx F.f147):adm (arq k F):=by
 intro K wi g bs br aU aV aW aX aY aZ a0 a3 a4 a5 a6 a7 a8 s ae af a9 d ai aj ba ak bb al cS cU t cV cW cY cZ c2 c3 c4 c5 c6 c7 c8 c9 h hG bU bV bW bX bY bZ b0 b1 hbr bd u;obtain⟨r_,n,h⟩:=rz h;refine en 58 Tryz.func87 rfl ?_;unfold arq at h;refine gD 23 [8,1,9,1] u<|bar (r:=(w64<|ak+t)) rfl rfl rfl<|gR 17 [9,0] [] u (λda u=>?_);have be:=u.row_ (zz wi) 62 11;refine wl be (λj m g_=>∃bf a f,∃(p:Nat),∃v x y z A B C am an ao D G I l J N O e S U V W ap b X Y aq,g_=f.length/\j bf [0,1,2,7] [(8,sl X b Y),(9,iI (p:Int))]/\KH.sub K a/\m a [] [.box bs g #[sl x v y,.string z,sl B A C,iI am,.bool an,iI ao,sl G D I,sl J l N,sl S e U,iI W,iI ap] 109,eW br J l N 9 1 O,eW br S e U 3 1 V,eW (zz wi) X b Y 62 11 aq]/\al.drop p=f/\tF a x y v/\z.size<=mB/\tP a B C A/\tS a G I D/\Reps RStr 1 l O/\l.length*16<=mB/\Reps (RInt .i64) 1 e V/\e.length*8<=mB/\Reps (aag a) 11 b aq/\b.length*184<=mB/\aiu k F d t f p v z A am an ao D l e W ap b=some r_) al.length ?_ ?_
 ·exact⟨_,K,al,0,aU,aV,aW,aX,aY,aZ,a0,a3,a4,a5,a6,a7,a8,s,ae,af,a9,d,ai,aj,ba,w64<|ak+t,bb,([]:LS),none,0,[],rfl,fK,kr,be.sel [1,2,3,0],List.drop_zero,bU,bV,bW,bX,bY,bZ,b0,b1,abm (R:=(aag K)) (size:=11),(by simp),h⟩
 ·rintro _ _ db⟨bf,a,f,p,v,x,y,z,A,B,C,am,an,ao,D,G,I,l,J,N,O,e,S,U,V,W,ap,b,X,Y,hh⟩;obtain⟨aq,rfl,rfl,Z,o,q,bg,bh,bi,bj,bk,bm,ar,bn,bo,b2,h⟩:=hh;rcases f with _|⟨⟨b3,b4,b5,b6,b7,b8,b9,cb,cc,ce,cf⟩,f⟩
  ·refine gd 6<|cNl q<|gP 16 [9,1] o<|bar (r:=(w64<|W - t)) rfl rfl rfl<|gR 13 [9,0,8,1] [] o (λdc bp=>?_);obtain⟨ab,h⟩:=aaR h;refine slH (m:=(e.take (d.length:Int).toNat).length) ae1 Tys3 rfl rfl ab.1 (Int.le_trans ab.2<|Int.ofNat_le.2<|arr (i:=2) bp rfl) (afK ab) (have ch:=bp.cut_ (i:=2) (m:=(d.length:Int).toNat) rfl ar (by have:=ab.2;omega);(gR 12 [8,0] [] ch (λdd ci=>?_)));obtain⟨cj,ck,au,cl⟩:=abD (i:=3) (bytes:=184) (R:=λK=>(aag K)) ci rfl (Nat.le_refl _) bo b2 (λhs=>(λ_ _ h=>aag.mono hs h));cases oj h n;exact rt1 ⟨cj,x,y,B,C,G,I,J,N,O,S,U,V.take<|(d.length:Int).toNat*1,X,Y,rfl,ck,mf bg au,bh,mp bi au,ms bj au,bk.mono (λ_ _ h=>h),bm,(Reps.take ar _).mono (λ_ _ h=>h),adI bn,cl⟩
  ·refine gd 6<|cCl q<|go 12<|eN o (ms bd Z) q aag.open ?_;rintro de df dg dh di cm⟨cn,co,cq,cr,cs,ct,cu,cw,cx,cy,rfl,dj,dk,dl,dm,dn,dp,dq⟩;obtain⟨⟨⟨bq,⟨bu,bv,bw,bx,bz,bB⟩,ac,ad,bD,bE⟩,⟨av,aw,ax,ay,az,aA,aB,aG,aH,aI,aK⟩⟩,cz,h⟩:=ob h;refine cv ([pp g 0,.agg (aS b3 b4 b5 b6 b7 b8 cn b9 co cq cb cr cs cc ct cu ce cw cx cf cy)]) awM (IH120 cz (hG.mono Z) bg bh bi bj bk bm ar bn (Nat.le_trans hbr o.size) cm<|pt o) ?_;rintro _ dr⟨bF,bG,bH,bI,bJ,bK,bL,aL,aM,bM,aN,aP,bP,ds,rfl,aT,cA,cC,cD,cG,cH,cI,cJ,cK,bQ⟩;have cL:=ca aT o;obtain⟨dt,du,dv,dw,dx,dy,dz,dA,dB,dC,rfl,dD,dE,dF,dG,dH,dI,dJ⟩:=aag.open bQ;refine gR 1 [62] [] cL (λdK cM=>aJ h 4 0 cM rfl rfl (bo.mono (λ_ _ h=>aag.mono aT.sub h)) bQ ?_);rintro bR bS bT cN cO cP cQ h;have cR:=ajP cO;exact go 6<|iCl q ((ms bd Z).len)<|go 3 ⟨_,Nat.lt_succ_self _,_,bF,f,p+1,bq,bG,bH,bu,bv,bI,bJ,bw,bx,bz,bB,bK,bL,ac,aL,aM,bM,ad,aN,aP,bP,bD,bE,b++[(aae.mk av aw ax ay az aA aB aG aH aI aK)],bR,bS,bT,rfl,fK,Z.trans aT.sub,cR,aac q,cA,cC,cD,cG,cH,cI,cJ,cK,cP,aav cQ,h⟩
theorem aoR(k:Nat)(F:aek)(IH87:adm F.f87)(IH120:acA F.f120)(IH146:acz F.f146)(IH147:acx F.f147):acA (ali k F):=by
 intro K wi g bs br ap aq ar au av aw ax ay az aA aB aG aH e t u aI f v x aK aL aM ge sj sk sm sn so sp sq ss st su sv sw sx h hG gf gg gh gi gj gk gl gn hbr gp gq;obtain⟨r_,n,h⟩:=rz h;obtain⟨y,D,bM,J,et,G,gr,I,s,q,p⟩:=ge;obtain⟨gs,gt,ac,ad,N,O,z,A,B,C,rfl,bP,eu,gu,a9,a7,ba,a8⟩:=aag.open gp;refine en 186 Tryz.func120 rfl ?_;unfold ali at h;refine gI 11 [6,2] [[iI 0,sE,iI 0,sE,iI 0,iI 0,nS,nS,nS,nS,nS]] gq (λaf gv ew=>?_);have ex:=alg ew;refine cB h (λ_ gw=>(arD k) gw (hG.mono kr) gf gg gh gi gj gk gl gn (Nat.le_trans hbr ew.size) gu<|pt ex) ?_;rintro⟨⟨gy,⟨gz,gA,gB,gF,gG,gH⟩,gJ,gK,gL,gM⟩,U⟩ _ sy⟨ey,gN,gQ,gT,gU,gV,gW,gZ,g0,g1,g2,g3,g4,ai,aj,rfl,a,ez,eC,eD,eF,eH,eI,eJ,eL,eM⟩ h;have g5:=ca a ex;refine gR 4 [6,4] [] g5 (λsz bQ=>wk bQ (λj m=>∃eO bn bz b3 b4 bB bD b5 b6 bR bS bT bE b7 b8 a5 bF bG b9 a6 bH bI cb bU bV S,j eO [0,3,4] []/\KH.sub ey bn/\m bn [] [.box bs g #[sl b3 bz b4,.string bB,sl b5 bD b6,iI bR,.bool bS,iI bT,sl b7 bE b8,sl bF a5 bG,sl bH a6 bI,iI bU,iI bV] 109,.box (zz wi) (zz wi) (aS y D bM J S G ai U aj ac I ad N s O z q A B p C) 62,.box (zz wi) (zz af) zS.toArray 62,eW br bF a5 bG 9 1 b9,eW br bH a6 bI 3 1 cb]/\tF bn b3 b4 bz/\bB.size<=mB/\tP bn b5 b6 bD/\tS bn b7 b8 bE/\Reps RStr 1 a5 b9/\a5.length*16<=mB/\Reps (RInt .i64) 1 a6 cb/\a6.length*8<=mB/\agb k F y D bM J G I s q p U bz bB bD bR bS bT bE a5 a6 bU bV S=some r_) ?_ ?_)
 ·refine gD 7 [3,5] bQ (bC 14 h ?_ ?_)<;>intro _ h
  ·refine gD 4 [0,4,11] bQ<|cB h (λ_ g6=>(avV k) g6 (gm hG a) ez eC eD eF eH eI eJ eL (Nat.le_trans hbr bQ.size) (aag.intro bP eu eM (ms a9 a.sub) (ms a7 a.sub) (ms ba a.sub)<|mc a8 a.sub)<|pt bQ) ?_;rintro⟨⟨g7,⟨g8,g9,ha,hb,hc,hd⟩,he,hf,hg,hi⟩,hj⟩ _ sA⟨hk,hl,hm,hn,ho,hp,hq,hr,ht,hu,hv,hw,hx,rfl,eP,hy,hz,hA,hB,hC,hD,hF,hH⟩ h;have hI:=ca eP bQ;exact gR 4 [4,4] [] hI (λsB hJ=>⟨_,hk,g7,hl,hm,g8,g9,hn,ho,ha,hb,hc,hd,hp,hq,he,hr,ht,hu,hf,hv,hw,hx,hg,hi,hj,fK,eP.sub,hJ.sel [0,4,3,1,2],hy,hz,hA,hB,hC,hD,hF,hH,h⟩)
  ·exact gd 3 ⟨_,ey,gy,gN,gQ,gz,gA,gT,gU,gB,gF,gG,gH,gV,gW,gJ,gZ,g0,g1,gK,g2,g3,g4,gL,gM,et,fK,kr,bQ.sel [0,4,3,1,2],ez,eC,eD,eF,eH,eI,eJ,eL,h⟩
 ·rintro _ sC⟨eO,bn,bz,b3,b4,bB,bD,b5,b6,bR,bS,bT,bE,b7,b8,a5,bF,bG,b9,a6,bH,bI,cb,bU,bV,S,rfl,b,cw,eQ,hh⟩;obtain⟨eR,eS,eT,eU,eV,eX,eY,h⟩:=hh;refine wk cw (λj m=>∃eZ ae ak aW aX al am aY aZ aN aP aT an a0 a2 l X Y a3 o Z ab a4 aU aV V,j eZ [0,3,4] []/\KH.sub bn ae/\m ae [] [.box bs g #[sl aW ak aX,.string al,sl aY am aZ,iI aN,.bool aP,iI aT,sl a0 an a2,sl X l Y,sl Z o ab,iI aU,iI aV] 109,.box (zz wi) (zz wi) (aS y D V J S G ai U aj ac I ad N s O z q A B p C) 62,.box (zz wi) (zz af) zS.toArray 62,eW br X l Y 9 1 a3,eW br Z o ab 3 1 a4]/\tF ae aW aX ak/\al.size<=mB/\tP ae aY aZ am/\tS ae a0 a2 an/\Reps RStr 1 l a3/\l.length*16<=mB/\Reps (RInt .i64) 1 o a4/\o.length*8<=mB/\adT k F y D J G I s q p U S ak al am aN aP aT an l o aU aV V=some r_) ?_ ?_
  ·refine wk cw (λj m=>∃e0 cx d2,j e0 [0,3,4] [(26,.bool d2)]/\KH.sub bn cx/\m cx [] [.box bs g #[sl b3 bz b4,.string bB,sl b5 bD b6,iI bR,.bool bS,iI bT,sl b7 bE b8,sl bF a5 bG,sl bH a6 bI,iI bU,iI bV] 109,.box (zz wi) (zz wi) (aS y D bM J S G ai U aj ac I ad N s O z q A B p C) 62,.box (zz wi) (zz af) zS.toArray 62,eW br bF a5 bG 9 1 b9,eW br bH a6 bI 3 1 cb]/\ahv k F y D bM J G I s q p U bz bB bD bR bS bT bE a5 a6 bU bV S d2=some r_) ?_ ?_
   ·refine gD 3 [0,2] cw<|cB h (λ_ hK=>(avH k) hK (gm hG cw)<|pt cw) ?_;rintro sD _ sF⟨e1,rfl,d3⟩ h;have d4:=ca d3 cw;refine go 1 (bO 22 h ?_ ?_)<;>intro _ h
    ·exact gP 9 [1,2] d4 ⟨_,e1,!seq D ⟨#[]⟩,fK,d3.sub,d4,h⟩
    ·exact go 6 ⟨_,e1,false,fK,d3.sub,d4,h⟩
   ·rintro _ hL⟨e0,cx,d2,rfl,bx,dk,h⟩;refine bC 26 h ?_ ?_<;>intro _ h
    ·refine gD 5 [1,2] dk ?_;have e3:=abY dk;refine cB h (λ_ hM=>(apw k) hM (hG.mono<|(a.sub.trans b).trans bx) (mf eQ bx) eR (mp eS bx) (ms eT bx) (eU.mono (λ_ _ h=>h)) eV (eX.mono (λ_ _ h=>h)) eY (Nat.le_trans hbr dk.size) bP<|pt e3) ?_;rintro⟨⟨hN,⟨hO,hP,hQ,hR,hS,hT⟩,hU,hV,hW,hX⟩,hY⟩ _ sG⟨hZ,h0,h1,h2,h3,h4,h5,h6,h7,h8,h9,ia,ib,rfl,e4,ic,id,ie,ig,ih,ii,ij,ik⟩ h;have il:=ca e4 e3;exact gR 4 [2,3] [] il (λsH im=>⟨_,hZ,hN,h0,h1,hO,hP,h2,h3,hQ,hR,hS,hT,h4,h5,hU,h6,h7,h8,hV,h9,ia,ib,hW,hX,hY,fK,bx.trans e4.sub,im.sel [0,3,4,1,2],ic,id,ie,ig,ih,ii,ij,ik,h⟩)
    ·exact gd 3 ⟨_,cx,bz,b3,b4,bB,bD,b5,b6,bR,bS,bT,bE,b7,b8,a5,bF,bG,b9,a6,bH,bI,cb,bU,bV,bM,fK,bx,dk,mf eQ bx,eR,mp eS bx,ms eT bx,eU.mono (λ_ _ h=>h),eV,eX.mono (λ_ _ h=>h),eY,h⟩
  ·rintro _ io⟨eZ,ae,ak,aW,aX,al,am,aY,aZ,aN,aP,aT,an,a0,a2,l,X,Y,a3,o,Z,ab,a4,aU,aV,V,rfl,d,bJ,bd,hh⟩;obtain⟨be,bf,bg,bh,bi,bj,bk,h⟩:=hh;refine wk bJ (λj m=>∃e5 ao dl cy dm dn cz dp dq cA dr ds cC dt du dv dw dx dy dz dA dB d5 d6 d7 dC dD dE bW dF dG dH bX dI dJ dK d8 d9,j e5 [3,4] []/\KH.sub ae ao/\m ao [] [.box (zz wi) (zz wi) (aS y D dl J S G ai U aj dm cy dn dp cz dq dr cA ds dt cC du) 62,.box (zz wi) (zz af) zS.toArray 62,.box bs g #[sl dw dv dx,.string dy,sl dA dz dB,iI d5,.bool d6,iI d7,sl dD dC dE,sl dF bW dG,sl dI bX dJ,iI d8,iI d9] 109,eW br dF bW dG 9 1 dH,eW br dI bX dJ 3 1 dK]/\tS ao dm dn cy/\tS ao dp dq cz/\tS ao dr ds cA/\tC ao dt du cC/\tF ao dw dx dv/\dy.size<=mB/\tP ao dA dB dz/\tS ao dD dE dC/\Reps RStr 1 bW dH/\bW.length*16<=mB/\Reps (RInt .i64) 1 bX dK/\bX.length*8<=mB/\abW k F y D J G U S dl cy cz cA cC dv dy dz d5 d6 d7 dC bW bX d8 d9=some r_) ?_ ?_
   ·refine gD 13 [0,2] bJ (bC 44 h ?_ ?_)<;>intro _ h
    ·refine gD 6 [1,2] bJ ?_;have e6:=abY bJ;refine cB h (λ_ ip=>(ams k) ip (hG.mono<|(a.sub.trans b).trans d) bd be bf bg bh bi bj bk (Nat.le_trans hbr bJ.size) bP<|pt e6) ?_;rintro⟨⟨sK,⟨sL,sM,sN,sO,sP,sQ⟩,sR,sS,sT,sU⟩,iq⟩ _ sV⟨sW,sX,sY,sZ,s0,s1,s2,s3,s4,s5,s6,s7,s8,rfl,bY,ir,it,iu,iv,iw,ix,iy,iz⟩ h;have iA:=ca bY e6;refine gR 9 [2,3,2,4] [] iA (λs9 ea=>cB h (λ_ iB=>(ad5 k) iB (hG.mono<|((a.sub.trans b).trans d).trans bY.sub) ir it iu iv iw ix iy iz (Nat.le_trans hbr ea.size)<|pt ea) ?_);rintro⟨iC,⟨iD,iE,iF,iG,iH,iJ⟩,iK,iL,iM,iN⟩ _ ta⟨iO,iP,iQ,iR,iS,iT,iU,iV,iW,iX,iY,iZ,i0,rfl,cc,i1,i2,i3,i4,i5,i6,i7,i8⟩ h;have i9:=ca cc ea;exact go 3 ⟨_,iO,iq,I,ac,ad,s,N,O,q,z,A,p,B,C,iC,iP,iQ,iD,iE,iR,iS,iF,iG,iH,iJ,iT,iU,iK,iV,iW,iX,iL,iY,iZ,i0,iM,iN,fK,bY.sub.trans cc.sub,i9.sel [3,4,0,1,2],ms a9<|(((a.sub.trans b).trans d).trans bY.sub).trans cc.sub,ms a7<|(((a.sub.trans b).trans d).trans bY.sub).trans cc.sub,ms ba<|(((a.sub.trans b).trans d).trans bY.sub).trans cc.sub,mc a8<|(((a.sub.trans b).trans d).trans bY.sub).trans cc.sub,i1,i2,i3,i4,i5,i6,i7,i8,h⟩
    ·refine gd 1<|wk bJ (λj m=>∃e7 ec,j e7 [0,3,4,33] [(56,.bool ec)]/\m ae [] [.box bs g #[sl aW ak aX,.string al,sl aY am aZ,iI aN,.bool aP,iI aT,sl a0 an a2,sl X l Y,sl Z o ab,iI aU,iI aV] 109,.box (zz wi) (zz wi) (aS y D V J S G ai U aj ac I ad N s O z q A B p C) 62,.box (zz wi) (zz af) zS.toArray 62,eW br X l Y 9 1 a3,eW br Z o ab 3 1 a4]/\agv k F y D J G I s q p U S ak al am aN aP aT an l o aU aV V ec=some r_) ?_ ?_
     ·refine gd 6 (bC 56 h ?_ ?_)<;>intro ja h
      ·exact gd 3<|lX 56 ja.symm ⟨_,y==18,fK,bJ,h⟩
      ·exact gd 6 ⟨_,y==19,fK,bJ,h⟩
     ·rintro _ bu⟨e7,ec,rfl,W,h⟩;refine bC 56 h ?_ ?_<;>intro _ h
      ·refine gD 8 [9,1] W ?_;have e8:=abY W;refine cB h (λ_ jb=>(ad5 k) jb (hG.mono<|(a.sub.trans b).trans d) bd be bf bg bh bi bj bk (Nat.le_trans hbr W.size)<|pt e8) ?_;rintro⟨jc,⟨jd,je,jf,jg,jh,ji⟩,jj,jk,jl,jm⟩ _ tb⟨jn,jo,jp,jq,jr,js,jt,ju,jv,jw,jx,jy,jz,rfl,ce,jA,jB,jC,jD,jE,jF,jG,jH⟩ h;have jI:=ca ce e8;exact go 3 ⟨_,jn,V,I,ac,ad,s,N,O,q,z,A,p,B,C,jc,jo,jp,jd,je,jq,jr,jf,jg,jh,ji,js,jt,jj,ju,jv,jw,jk,jx,jy,jz,jl,jm,fK,ce.sub,jI.sel [3,4,0,1,2],ms a9<|((a.sub.trans b).trans d).trans ce.sub,ms a7<|((a.sub.trans b).trans d).trans ce.sub,ms ba<|((a.sub.trans b).trans d).trans ce.sub,mc a8<|((a.sub.trans b).trans d).trans ce.sub,jA,jB,jC,jD,jE,jF,jG,jH,h⟩
      ·refine gd 7 (bC 66 h ?_ ?_)<;>intro _ h
       ·refine gD 7 [5,2] W (bO 72 h ?_ ?_)<;>intro _ h
        ·refine go 6 ?_;have e9:=abY W;refine cB h (λ_ jK=>(ad5 k) jK (hG.mono<|(a.sub.trans b).trans d) bd be bf bg bh bi bj bk (Nat.le_trans hbr W.size)<|pt e9) ?_;rintro⟨jL,⟨jM,jN,jO,jP,jQ,jR⟩,jS,jT,jU,jV⟩ _ tc⟨jW,jX,jY,jZ,j0,j1,j2,j3,j4,j5,j6,j7,j8,rfl,cf,j9,ka,kb,kc,kd,ke,kf,kg⟩ h;have kh:=ca cf e9;exact go 3 ⟨_,jW,V,I,ac,ad,s,N,O,q,z,A,p,B,C,jL,jX,jY,jM,jN,jZ,j0,jO,jP,jQ,jR,j1,j2,jS,j3,j4,j5,jT,j6,j7,j8,jU,jV,fK,cf.sub,kh.sel [3,4,0,1,2],ms a9<|((a.sub.trans b).trans d).trans cf.sub,ms a7<|((a.sub.trans b).trans d).trans cf.sub,ms ba<|((a.sub.trans b).trans d).trans cf.sub,mc a8<|((a.sub.trans b).trans d).trans cf.sub,j9,ka,kb,kc,kd,ke,kf,kg,h⟩
        ·refine gP 11 [9,1] W ?_;have fa:=abY W;refine cB h (λ_ ki=>(ad5 k) ki (hG.mono<|(a.sub.trans b).trans d) bd be bf bg bh bi bj bk (Nat.le_trans hbr W.size)<|pt fa) ?_;rintro⟨kj,⟨kk,kl,km,kn,ko,kq⟩,ks,kt,ku,kv⟩ _ td⟨kw,kx,ky,kz,kB,kD,kJ,kO,kP,kQ,kR,kT,kU,rfl,ch,kV,kW,kX,kY,kZ,k0,k1,k2⟩ h;have k3:=ca ch fa;exact go 3 ⟨_,kw,V,I,ac,ad,s,N,O,q,z,A,p,B,C,kj,kx,ky,kk,kl,kz,kB,km,kn,ko,kq,kD,kJ,ks,kO,kP,kQ,kt,kR,kT,kU,ku,kv,fK,ch.sub,k3.sel [3,4,0,1,2],ms a9<|((a.sub.trans b).trans d).trans ch.sub,ms a7<|((a.sub.trans b).trans d).trans ch.sub,ms ba<|((a.sub.trans b).trans d).trans ch.sub,mc a8<|((a.sub.trans b).trans d).trans ch.sub,kV,kW,kX,kY,kZ,k0,k1,k2,h⟩
       ·refine gd 7 (bC 80 h ?_ ?_)<;>intro _ h
        ·refine gD 8 [1,4,1] W ?_;have fb:=abY W;refine cB h (λ_ k4=>(ad5 k) k4 (hG.mono<|(a.sub.trans b).trans d) bd be bf bg bh bi bj bk (Nat.le_trans hbr W.size)<|pt fb) ?_;rintro⟨k5,⟨k6,k7,k8,k9,la,lc⟩,ld,lf,lg,lh⟩ _ te⟨li,lj,lk,ll,lm,ln,lo,lp,lq,lr,ls,lu,lv,rfl,ci,lw,lx,ly,lz,lB,lE,lF,lG⟩ h;have lH:=ca ci fb;exact go 3 ⟨_,li,V,I,ac,ad,s,N,O,q,z,A,p,B,C,k5,lj,lk,k6,k7,ll,lm,k8,k9,la,lc,ln,lo,ld,lp,lq,lr,lf,ls,lu,lv,lg,lh,fK,ci.sub,lH.sel [3,4,0,1,2],ms a9<|((a.sub.trans b).trans d).trans ci.sub,ms a7<|((a.sub.trans b).trans d).trans ci.sub,ms ba<|((a.sub.trans b).trans d).trans ci.sub,mc a8<|((a.sub.trans b).trans d).trans ci.sub,lw,lx,ly,lz,lB,lE,lF,lG,h⟩
        ·refine gd 7 (bC 89 h ?_ ?_)<;>intro _ h
         ·refine gd 1<|rB [12] W (λfc lI=>ah 12 [0,1,6,2,2,3,4,5,6,7,1,8,3,9,1,10,11] lI<|aQ 12 rfl ?_);have fe:=abY fc;refine cB h (λ_ lJ=>(ad5 k) lJ (hG.mono<|(a.sub.trans b).trans d) bd be bf bg bh bi bj bk (Nat.le_trans hbr fc.size)<|pt fe) ?_;rintro⟨lK,⟨lL,lM,lP,lQ,lR,lT⟩,lU,lV,lW,lY⟩ _ tg⟨lZ,l0,l2,l3,l4,l5,l6,l7,l8,l9,ma,mb,md,rfl,cj,mg,mh,mi,mj,ml,mm,mn,mo⟩ h;have mq:=ca cj fe;exact go 2 ⟨hE 12,aD<|gx 2 ⟨_,lZ,V,I,ac,ad,s,N,O,q,z,A,p,B,C,lK,l0,l2,lL,lM,l3,l4,lP,lQ,lR,lT,l5,l6,lU,l7,l8,l9,lV,ma,mb,md,lW,lY,fK,cj.sub,mq.sel [3,4,0,1,2],ms a9<|((a.sub.trans b).trans d).trans cj.sub,ms a7<|((a.sub.trans b).trans d).trans cj.sub,ms ba<|((a.sub.trans b).trans d).trans cj.sub,mc a8<|((a.sub.trans b).trans d).trans cj.sub,mg,mh,mi,mj,ml,mm,mn,mo,h⟩⟩
         ·refine gd 7 (bC 104 h ?_ ?_)<;>intro _ h
          ·refine gD 7 [1,2,7,2] W ?_;have ff:=abY W;refine cB h (λ_ mr=>IH146 mr (hG.mono<|(a.sub.trans b).trans d) bd be bf bg bh bi bj bk (Nat.le_trans hbr W.size) bP (ms a9<|(a.sub.trans b).trans d)<|pt ff) ?_;rintro⟨⟨mt,⟨mu,mw,mx,my,mz,mA⟩,mC,mD,mE,mF⟩,mG,mH⟩ _ th⟨mJ,mK,mL,mM,mN,mO,mP,mQ,mR,mS,mT,mU,mV,mW,mX,rfl,cD,mY,mZ,m0,m4,m5,m6,m7,m8,m9⟩ h;have na:=ca cD ff;exact gR 10 [2,3,7,3] [] na (λti tj nb=>⟨_,mJ,mG,mH,mW,mX,s,N,O,q,z,A,p,B,C,mt,mK,mL,mu,mw,mM,mN,mx,my,mz,mA,mO,mP,mC,mQ,mR,mS,mD,mT,mU,mV,mE,mF,fK,cD.sub,nb.sel [3,4,0,1,2],m9,ms a7<|((a.sub.trans b).trans d).trans cD.sub,ms ba<|((a.sub.trans b).trans d).trans cD.sub,mc a8<|((a.sub.trans b).trans d).trans cD.sub,mY,mZ,m0,m4,m5,m6,m7,m8,h⟩)
          ·refine gd 7 (bC 117 h ?_ ?_)<;>intro _ h
           ·refine gD 7 [1,2,7,2] W ?_;have fg:=abY W;refine cB h (λ_ nc=>IH146 nc (hG.mono<|(a.sub.trans b).trans d) bd be bf bg bh bi bj bk (Nat.le_trans hbr W.size) bP (ms a9<|(a.sub.trans b).trans d)<|pt fg) ?_;rintro⟨⟨nd,⟨ne,nf,ng,nh,ni,nj⟩,nk,nl,nm,nn⟩,np,nq⟩ _ tl⟨nr,ns,nt,nu,nv,nw,nx,ny,nz,nA,nB,nC,nD,nF,nG,rfl,cG,nH,nI,nJ,nK,nL,nM,nN,nO,nP⟩ h;have nQ:=ca cG fg;exact gR 10 [2,3,7,3] [] nQ (λtm tn nT=>⟨_,nr,np,nq,nF,nG,s,N,O,q,z,A,p,B,C,nd,ns,nt,ne,nf,nu,nv,ng,nh,ni,nj,nw,nx,nk,ny,nz,nA,nl,nB,nC,nD,nm,nn,fK,cG.sub,nT.sel [3,4,0,1,2],nP,ms a7<|((a.sub.trans b).trans d).trans cG.sub,ms ba<|((a.sub.trans b).trans d).trans cG.sub,mc a8<|((a.sub.trans b).trans d).trans cG.sub,nH,nI,nJ,nK,nL,nM,nN,nO,h⟩)
           ·refine gd 7 (bC 130 h ?_ ?_)<;>intro _ h
            ·refine gD 5 [7,2] W ?_;have fh:=abY W;refine cB h (λ_ nV=>IH87 nV (hG.mono<|(a.sub.trans b).trans d) bd be bf bg bh bi bj bk (Nat.le_trans hbr W.size) (ms a9<|(a.sub.trans b).trans d)<|pt fh) ?_;rintro⟨⟨nW,⟨nX,nY,nZ,n2,n3,n4⟩,n5,n6,n7,n8⟩,n9⟩ _ tp⟨oa,oc,od,oe,og,oh,ol,om,oo,op,oq,os,ot,ov,ow,rfl,cH,ox,oy,oz,oA,oB,oC,oD,oE,oF⟩ h;have oG:=ca cH fh;exact gR 5 [7,3] [] oG (λtq oH=>⟨_,oa,V,n9,ov,ow,s,N,O,q,z,A,p,B,C,nW,oc,od,nX,nY,oe,og,nZ,n2,n3,n4,oh,ol,n5,om,oo,op,n6,oq,os,ot,n7,n8,fK,cH.sub,oH.sel [3,4,0,1,2],oF,ms a7<|((a.sub.trans b).trans d).trans cH.sub,ms ba<|((a.sub.trans b).trans d).trans cH.sub,mc a8<|((a.sub.trans b).trans d).trans cH.sub,ox,oy,oz,oA,oB,oC,oD,oE,h⟩)
            ·refine gd 7 (bC 137 h ?_ ?_)<;>intro _ h
             ·refine gD 6 [7,2] W ?_;have fi:=abY W;refine cB h (λ_ oI=>IH87 oI (hG.mono<|(a.sub.trans b).trans d) bd be bf bg bh bi bj bk (Nat.le_trans hbr W.size) (ms a9<|(a.sub.trans b).trans d)<|pt fi) ?_;rintro⟨⟨oJ,⟨oK,oL,oM,oN,oO,oP⟩,oQ,oR,oS,oT⟩,dL⟩ _ tr⟨fj,oU,oV,oW,oX,oY,oZ,o2,o3,o4,o5,o6,o7,ed,ee,rfl,bK,fk,fl,fm,fn,fo,fp,fs,ft,o8⟩ h;have o9:=ca bK fi;refine gR 4 [7,3] [] o9 (λts bZ=>wk bZ (λj m=>∃fu bm cI dM dN cJ cK dO dP dQ dR dS cL dT dU bv cM cN dV bw cO cP dW dX dY cQ ck cR cS,j fu [0,3,4] []/\KH.sub fj bm/\m bm [] [.box bs g #[sl dM cI dN,.string cJ,sl dO cK dP,iI dQ,.bool dR,iI dS,sl dT cL dU,sl cM bv cN,sl cO bw cP,iI dX,iI dY] 109,.box (zz wi) (zz wi) (aS y D cQ J S G ai U aj ed dL ee cR ck cS z q A B p C) 62,.box (zz wi) (zz af) zS.toArray 62,eW br cM bv cN 9 1 dV,eW br cO bw cP 3 1 dW]/\tF bm dM dN cI/\cJ.size<=mB/\tP bm dO dP cK/\tS bm dT dU cL/\Reps RStr 1 bv dV/\bv.length*16<=mB/\Reps (RInt .i64) 1 bw dW/\bw.length*8<=mB/\tS bm cR cS ck/\ajN k F y D J G q p U S dL cI cJ cK dQ dR dS cL bv bw dX dY cQ ck=some r_) ?_ ?_)
              ·refine gD 4 [5,4] bZ (bdv (r:=(G.tmod 2)) rfl rfl (by decide) rfl<|go 3<|bC 147 h ?_ ?_)<;>intro _ h
               ·refine gD 7 [1,4,8,4] bZ<|cB h (λ_ pa=>IH146 pa (hG.mono<|((a.sub.trans b).trans d).trans bK.sub) fk fl fm fn fo fp fs ft (Nat.le_trans hbr bZ.size) bP (ms a7<|((a.sub.trans b).trans d).trans bK.sub)<|pt bZ) ?_;rintro⟨⟨pb,⟨pc,pd,pe,pf,pg,ph⟩,pi,pj,pk,pl⟩,pm,pn⟩ _ tt⟨po,pq,pr,ps,pu,pv,pw,px,py,pz,pA,pB,pC,pD,pE,rfl,fv,pF,pG,pH,pI,pJ,pK,pL,pM,pN⟩ h;have pO:=ca fv bZ;exact gR 9 [2,3,8,3] [] pO (λtu tv pP=>⟨_,po,pb,pq,pr,pc,pd,ps,pu,pe,pf,pg,ph,pv,pw,pi,px,py,pz,pj,pA,pB,pC,pk,pl,pm,pn,pD,pE,fK,fv.sub,pP.sel [0,3,4,1,2],pF,pG,pH,pI,pJ,pK,pL,pM,pN,h⟩)
               ·exact gd 3 ⟨_,fj,oJ,oU,oV,oK,oL,oW,oX,oM,oN,oO,oP,oY,oZ,oQ,o2,o3,o4,oR,o5,o6,o7,oS,oT,V,s,N,O,fK,kr,bZ.sel [0,3,4,1,2],fk,fl,fm,fn,fo,fp,fs,ft,ms a7<|((a.sub.trans b).trans d).trans bK.sub,h⟩
              ·rintro _ pQ⟨fu,bm,cI,dM,dN,cJ,cK,dO,dP,dQ,dR,dS,cL,dT,dU,bv,cM,cN,dV,bw,cO,cP,dW,dX,dY,cQ,ck,cR,cS,rfl,hh⟩;obtain⟨cU,ef,pR,pS,pT,pU,pV,pW,pY,pZ,p0,h⟩:=hh;refine gD 4 [9,2] ef ?_;have fx:=abY ef;refine cB h (λ_ p1=>IH87 p1 (hG.mono<|(((a.sub.trans b).trans d).trans bK.sub).trans cU) pR pS pT pU pV pW pY pZ (Nat.le_trans hbr ef.size) (ms ba<|(((a.sub.trans b).trans d).trans bK.sub).trans cU)<|pt fx) ?_;rintro⟨⟨p2,⟨p3,p4,p5,p6,p7,p8⟩,p9,qa,qb,qc⟩,qd⟩ _ tw⟨qe,qf,qg,qh,qi,qj,qk,ql,qm,qn,qo,qp,qq,qr,qs,rfl,cV,qt,qu,qv,qw,qx,qy,qz,qA,qB⟩ h;have qC:=ca cV fx;exact gR 5 [9,3] [] qC (λtx qD=>⟨_,qe,cQ,dL,ed,ee,ck,cR,cS,qd,qr,qs,p,B,C,p2,qf,qg,p3,p4,qh,qi,p5,p6,p7,p8,qj,qk,p9,ql,qm,qn,qa,qo,qp,qq,qb,qc,fK,(bK.sub.trans cU).trans cV.sub,qD.sel [3,4,0,1,2],ms o8<|cU.trans cV.sub,ms p0 cV.sub,qB,mc a8<|((((a.sub.trans b).trans d).trans bK.sub).trans cU).trans cV.sub,qt,qu,qv,qw,qx,qy,qz,qA,h⟩)
             ·refine gd 7 (bC 164 h ?_ ?_)<;>intro _ h
              ·refine gd 13 ?_;have fy:=W.row_ (zz wi) 84 5;refine wl fy (λj m g_=>∃fz bo b0,∃(cW:Nat),∃cl cY cZ cm cn c2 c4 c5 c7 c8 co da db bp cq cr dc bq cs ct dd de df bb dg dh dZ,g_=b0.length/\j fz [0,3,4] [(5,sl dg bb dh),(6,iI (cW:Int))]/\KH.sub ae bo/\m bo [] [.box bs g #[sl cY cl cZ,.string cm,sl c2 cn c4,iI c5,.bool c7,iI c8,sl da co db,sl cq bp cr,sl cs bq ct,iI de,iI df] 109,.box (zz wi) (zz wi) (aS y D V J S G ai U aj ac I ad N s O z q A B p C) 62,.box (zz wi) (zz af) zS.toArray 62,eW br cq bp cr 9 1 dc,eW br cs bq ct 3 1 dd,eW (zz wi) dg bb dh 84 5 dZ]/\p.drop cW=b0/\tF bo cY cZ cl/\cm.size<=mB/\tP bo c2 c4 cn/\tS bo da db co/\Reps RStr 1 bp dc/\bp.length*16<=mB/\Reps (RInt .i64) 1 bq dd/\bq.length*8<=mB/\Reps (aaq bo) 5 bb dZ/\bb.length*80<=mB/\ahf k F y D J G I s q U S V b0 cW cl cm cn c5 c7 c8 co bp bq de df bb=some r_) p.length ?_ ?_
               ·exact⟨_,ae,p,0,ak,aW,aX,al,am,aY,aZ,aN,aP,aT,an,a0,a2,l,X,Y,a3,o,Z,ab,a4,aU,aV,([]:LC),none,0,[],rfl,fK,kr,fy.sel [1,2,3,4,5,0],List.drop_zero,bd,be,bf,bg,bh,bi,bj,bk,abm (R:=(aaq ae)) (size:=5),(by simp),h⟩
               ·rintro _ _ qE⟨fz,bo,b0,cW,cl,cY,cZ,cm,cn,c2,c4,c5,c7,c8,co,da,db,bp,cq,cr,dc,bq,cs,ct,dd,de,df,bb,dg,dh,hh⟩;obtain⟨dZ,rfl,rfl,bL,b1,di,fA,fB,fC,fD,fE,fF,fG,fH,fI,qF,h⟩:=hh;rcases b0 with _|⟨⟨ty,tz,tA,tB,tD⟩,b0⟩
                ·refine gD 7 [10,2] b1<|cNl di<|gR 15 [10,1] [] b1 (λtG qG=>?_);obtain⟨qH,qJ,b2,qK⟩:=abD (i:=5) (bytes:=80) (R:=λK=>(aaq K)) qG rfl (Nat.le_refl _) fI qF (λhs=>(λ_ _ h=>aaq.mono hs h));exact⟨_,qH,V,I,ac,ad,s,N,O,q,z,A,bb,dg,dh,cl,cY,cZ,cm,cn,c2,c4,c5,c7,c8,co,da,db,bp,cq,cr,dc,bq,cs,ct,dd,de,df,fK,bL.trans b2,qJ.sel [1,2,0,3,4],ms a9<|(((a.sub.trans b).trans d).trans bL).trans b2,ms a7<|(((a.sub.trans b).trans d).trans bL).trans b2,ms ba<|(((a.sub.trans b).trans d).trans bL).trans b2,qK,mf fA b2,fB,mp fC b2,ms fD b2,fE.mono (λ_ _ h=>h),fF,fG.mono (λ_ _ h=>h),fH,h⟩
                ·refine gD 7 [10,2] b1<|cCl di<|gP 13 [10,2] b1<|eN b1 (mc a8<|((a.sub.trans b).trans d).trans bL) di aaq.open ?_;rintro tH tI tJ tK tM qL⟨tN,tO,tQ,tR,rfl,tU,tV,tW⟩;have fJ:=awd b1;refine cB h (λ_ qM=>IH147 qM (hG.mono<|((a.sub.trans b).trans d).trans bL) fA fB fC fD fE fF fG fH (Nat.le_trans hbr b1.size) qL<|pt fJ) ?_;rintro⟨⟨fL,⟨fM,fN,fO,fP,fQ,fS⟩,d0,d1,fT,fU⟩,⟨eg,eh,ei,ej,ek⟩⟩ _ tX⟨fV,fW,fX,fY,fZ,f0,f1,el,em,f2,eo,ep,f4,tY,rfl,eq,qN,qP,qQ,qR,qS,qT,qU,qV,f5⟩ h;have qW:=ca eq fJ;obtain⟨tZ,t0,t1,t2,rfl,t3,t4,t5⟩:=aaq.open f5;refine gR 1 [84] [] qW (λt6 qX=>aJ h 6 0 qX rfl rfl (fI.mono (λ_ _ h=>aaq.mono eq.sub h)) f5 ?_);rintro f6 f7 ga qY qZ q0 q1 h;have q2:=aje qZ;exact go 6<|iCl di ((mc a8<|((a.sub.trans b).trans d).trans bL).len)<|go 3 ⟨_,Nat.lt_succ_self _,_,fV,b0,cW+1,fL,fW,fX,fM,fN,fY,fZ,fO,fP,fQ,fS,f0,f1,d0,el,em,f2,d1,eo,ep,f4,fT,fU,bb++[(aap.mk eg eh ei ej ek)],f6,f7,ga,rfl,fK,bL.trans eq.sub,q2.sel [0,3,4,1,2,5],aac di,qN,qP,qQ,qR,qS,qT,qU,qV,q0,aav q1,h⟩
              ·refine gD 6 [7,2] W ?_;have gb:=abY W;refine cB h (λ_ q3=>IH87 q3 (hG.mono<|(a.sub.trans b).trans d) bd be bf bg bh bi bj bk (Nat.le_trans hbr W.size) (ms a9<|(a.sub.trans b).trans d)<|pt gb) ?_;rintro⟨⟨t7,⟨t8,t9,ua,ub,uc,ud⟩,ue,uf,ug,uh⟩,q4⟩ _ ui⟨uj,uk,ul,um,un,uo,up,uq,ur,us,ut,uu,uv,q5,q6,rfl,cu,q7,q8,q9,ra,rb,rc,rd,re,rf⟩ h;have rg:=ca cu gb;refine gR 8 [7,3,8,4] [] rg (λuw es=>cB h (λ_ rh=>IH87 rh (hG.mono<|((a.sub.trans b).trans d).trans cu.sub) q7 q8 q9 ra rb rc rd re (Nat.le_trans hbr es.size) (ms a7<|((a.sub.trans b).trans d).trans cu.sub)<|pt es) ?_);rintro⟨⟨ri,⟨rj,rk,rl,rm,ro,rp⟩,rq,rr,rs,rt⟩,ru⟩ _ ux⟨rv,rw,rx,ry,rC,rD,rF,rG,rH,rI,rJ,rK,rM,rN,rO,rfl,dj,rQ,rR,rT,rV,rW,rX,rY,r1,r2⟩ h;have r3:=ca dj es;exact gR 5 [8,3] [] r3 (λuy r4=>⟨_,rv,V,q4,q5,q6,ru,rN,rO,q,z,A,p,B,C,ri,rw,rx,rj,rk,ry,rC,rl,rm,ro,rp,rD,rF,rq,rG,rH,rI,rr,rJ,rK,rM,rs,rt,fK,cu.sub.trans dj.sub,r4.sel [3,4,0,1,2],ms rf dj.sub,r2,ms ba<|(((a.sub.trans b).trans d).trans cu.sub).trans dj.sub,mc a8<|(((a.sub.trans b).trans d).trans cu.sub).trans dj.sub,rQ,rR,rT,rV,rW,rX,rY,r1,h⟩)
   ·rintro _ uz⟨e5,ao,dl,cy,dm,dn,cz,dp,dq,cA,dr,ds,cC,dt,du,dv,dw,dx,dy,dz,dA,dB,d5,d6,d7,dC,dD,dE,bW,dF,hh⟩;obtain⟨dG,dH,bX,dI,dJ,dK,d8,d9,rfl,r5,r6,r7,r8,r9,sa,sb,sc,sd,se,sf,sg,sh,si,h⟩:=hh;refine gI 7 [0,0,11,1] [] r6 (λuA gc=>?_);cases oj h n;exact adq rfl (rNl 1 gc rfl) ⟨ao,dw,dx,dA,dB,dD,dE,dF,dG,dH,dI,dJ,dK,vS y D dl J S G ai U aj dm cy dn dp cz dq dr cA ds dt cC du,rfl,gc.sel [2,3,4],sb,sc,sd,se,sf,sg,sh,si,aag.intro bP eu (me eM<|(b.trans d).trans r5) r7 r8 r9 sa⟩
theorem apm(k:Nat)(F:aek)(IH87:adm F.f87)(IH120:acA F.f120)(IH146:acz F.f146)(IH147:acx F.f147):acz (aln k F):=by
 intro K wi g bs br aK aL aM aN aP aT aU aV aW aX aY aZ a0 a4 a5 a6 a7 d a8 a9 ba bb bd o p q r s be bf bg bh bi bj bk bm bn bo bp bq t h hG u v x y z A B C hbr D G a;obtain⟨r_,n,h⟩:=rz h;refine en 36 Tryz.func146 rfl ?_;unfold aln at h;refine gD 20 [8,1] a ?_;obtain⟨⟨⟨bu,⟨bv,bw,bx,bz,bB,bD⟩,bE,bF,bG,bH⟩,t⟩,I,h⟩:=ob h;refine cv ([pp g 0,.string o]) ayx ((apw k) I (hG.mono kr) u v x y z A B C (Nat.le_trans hbr a.size) D<|pt a) ?_;rintro _ bI⟨bJ,bK,bL,bM,bP,bQ,bR,bS,bT,bU,bV,bW,bX,rfl,e,J,N,O,S,U,V,W,X⟩;have f:=ca e a;refine go 8 ?_;obtain⟨⟨⟨bY,⟨bZ,b0,b1,b2,b3,b4⟩,b5,Y,b6,b7⟩,b8⟩,Z,h⟩:=ob h;refine cv ([pp g 0,sl q p r,iI s]) ayC (IH87 Z (gm hG e) J N O S U V W X (Nat.le_trans hbr f.size) (ms G e.sub)<|pt f) ?_;rintro _ b9⟨ab,ac,ad,ae,af,ai,aj,ak,al,am,an,ao,ap,aq,ar,rfl,au,av,aw,ax,ay,az,aA,l,aB,aG⟩;have j:=ca au f;refine gP 11 [8,1] j ?_;obtain⟨b,h⟩:=aaR h;refine slH (m:=(Y.take (d.length:Int).toNat).length) ae1 Tys3 rfl rfl b.1 (Int.le_trans b.2<|Int.ofNat_le.2<|arr (i:=2) j rfl) (afK b) (have aH:=j.cut_ (i:=2) (m:=(d.length:Int).toNat) rfl l (by have:=b.2;omega);(gR 14 [8,0] [] aH (λcb aI=>?_)));cases oj h n;exact rt2 ⟨ab,ac,ad,ae,af,ai,aj,ak,al,am,an,ao,ap.take<|(d.length:Int).toNat*1,aq,ar,rfl,aI,av,aw,ax,ay,az,aA,Reps.take l _,adI aB,aG⟩
theorem aqz(k:Nat)(F:aek)(IH87:adm F.f87)(IH120:acA F.f120)(IH146:acz F.f146)(IH147:acx F.f147):acx (alC k F):=by
 intro K wi g bs br q r s t u v x y z A B C D b f i G d j l I J N ap b0 b1 b2 b3 b4 b5 b6 b7 b8 b9 cb cc ce h hG aq ar au av aw ax ay az hbr aA aB;obtain⟨r_,n,h⟩:=rz h;obtain⟨m,o,O,aG,aH⟩:=ap;obtain⟨aI,aK,aL,aM,rfl,p,aN,S⟩:=aaq.open aA;refine en 31 Tryz.func147 rfl ?_;unfold alC at h;refine gI 11 [3,2] [[iI 0,sE,iI 0,nS,nS]] aB (λaP aT U=>?_);have V:=alg U;refine cB h (λ_ aU=>(arD k) aU (hG.mono kr) aq ar au av aw ax ay az (Nat.le_trans hbr U.size) aN<|pt V) ?_;rintro⟨⟨cf,⟨ch,ci,cj,ck,cl,cm⟩,cn,co,cq,cr⟩,W⟩ _ cs⟨ct,cu,cw,cx,cy,cz,cA,cC,cD,cG,cH,cI,cJ,X,Y,rfl,e,Z,ab,ac,ad,ae,af,ai,aj,ak⟩ h;have aV:=ca e V;refine gR 12 [3,4,0,5] [] aV (λcK a=>bC 12 h ?_ ?_)<;>intro _ h
 ·refine gD 8 [1,5,4,5] a<|cB h (λ_ aW=>IH146 aW (gm hG e) Z ab ac ad ae af ai aj (Nat.le_trans hbr a.size) p (ms S e.sub)<|pt a) ?_;rintro⟨⟨cL,⟨cM,cN,cO,cP,cQ,cR⟩,cS,cU,cV,cW⟩,aX,aY⟩ _ cY⟨aZ,a0,a2,a3,a4,a5,a6,a7,a8,a9,ba,bb,bd,be,bf,rfl,al,bg,bh,bi,bj,bk,bm,bn,bo,bp⟩ h;have bq:=ca al a;refine gR 17 [2,4,4,4,0,4,5,3] [] bq (λcZ c3 c4 am=>?_);cases oj h n;exact adq rfl (rNl 3 am rfl) ⟨aZ,a0,a2,a3,a4,a5,a6,a7,a8,a9,ba,bb,bd,vC m o aX X W Y be aY bf,rfl,am.sel [0,1,2],bg,bh,bi,bj,bk,bm,bn,bo,aaq.intro p (me ak al.sub) bp⟩
 ·refine gD 8 [4,5] a<|cB h (λ_ bu=>IH87 bu (gm hG e) Z ab ac ad ae af ai aj (Nat.le_trans hbr a.size) (ms S e.sub)<|pt a) ?_;rintro⟨⟨c6,⟨c7,c8,c9,da,db,dc⟩,dd,de,df,dg⟩,bv⟩ _ dh⟨bw,bx,bz,bB,bD,bE,bF,bG,bH,bI,bJ,bK,bL,bM,bP,rfl,an,bQ,bR,bS,bT,bU,bV,bW,bX,bY⟩ h;have bZ:=ca an a;refine gR 11 [4,4,0,4,5,3] [] bZ (λdi dj ao=>?_);cases oj h n;exact adq rfl (rNl 3 ao rfl) ⟨bw,bx,bz,bB,bD,bE,bF,bG,bH,bI,bJ,bK,bL,vC m o O X W Y bM bv bP,rfl,ao.sel [0,1,2],bQ,bR,bS,bT,bU,bV,bW,bX,aaq.intro p (me ak an.sub) bY⟩
theorem ag0(k0:Nat) : ∀k,adm (abE k0 k).f87/\acA (abE k0 k).f120/\acz (abE k0 k).f146/\acx (abE k0 k).f147:=by
 intro k;induction k with
 | zero=>exact⟨by simp[adm,abE],by simp[acA,abE],by simp[acz,abE],by simp[acx,abE]⟩
 | succ k ih=>exact⟨atf k0 (abE k0 k) ih.1 ih.2.1 ih.2.2.1 ih.2.2.2,aoR k0 (abE k0 k) ih.1 ih.2.1 ih.2.2.1 ih.2.2.2,apm k0 (abE k0 k) ih.1 ih.2.1 ih.2.2.1 ih.2.2.2,aqz k0 (abE k0 k) ih.1 ih.2.1 ih.2.2.1 ih.2.2.2⟩
theorem axO(k:Nat):adm (f87 k):=(ag0 k k).1
theorem ayr(k:Nat):acA (f120 k):=(ag0 k k).2.1
theorem ayJ(k:Nat):acz (f146 k):=(ag0 k k).2.2.1
theorem ayN(k:Nat):acx (f147 k):=(ag0 k k).2.2.2
theorem alo(k:Nat):asF (f61 k):=by
 intro K wi bd be bf cq dR dS dT h hG cr cs ct;obtain⟨n,o,h⟩:=rz h;obtain⟨l,e,p,q,J,z⟩:=cq;obtain⟨t,u,N,O,rfl,bg,Z,bn⟩:=aak.open cs;refine en 47 Tryz.func61 rfl ?_;unfold f61 at h;refine gI 11 [0,2,6] [[nS,sE,nS,iI 0,vN,iI 0,nS,nS,nS,iI 0,iI 0],[sE,nS,iI 0,vN,iI 0,nS]] ct (λaB aG bh cu=>bld (cells:=#[sl be bd bf,.string l,sl t e u,iI p,.bool q,iI J,sl N z O,nS,nS,iI 0,iI 0]) (vs:=[(0,sl be bd bf),(1,.agg<|aF l t e u p q J N z O)]) rfl (λw=>by kernel_rfl)<|gR 11 [] [] cu (λdU cw=>?_));have cx:=cw.row_ (zz wi) 9 1;have bo:=cx.row_ (zz wi) 3 1;refine wl bo (λj m g_=>∃bp f A,∃(B:Nat),∃S ab ac U V ad ae af ai aj W ak al a C D am d G I an ao ap,g_=A.length/\j bp [3,4,5,6] [(7,iI (B:Int))]/\KH.sub K f/\m f [] [.box (zz wi) (zz wi) (aF l t e u p q J N z O) 52,.box (zz wi) (zz aB) #[nS,sE,nS,iI 0,vN,iI 0,nS,nS,nS,iI 0,iI 0] 109,.box (zz wi) (zz aG) zF.toArray 52,.box (zz wi) (zz bh) #[sl ab S ac,.string U,sl ad V ae,iI af,.bool ai,iI aj,sl ak W al,sl C a D,sl G d I,iI ao,iI ap] 109,eW (zz wi) C a D 9 1 am,eW (zz wi) G d I 3 1 an]/\e.drop B=A/\tF f ab ac S/\U.size<=mB/\tP f ad ae V/\tS f ak al W/\Reps RStr 1 a am/\a.length*16<=mB/\Reps (RInt .i64) 1 d an/\d.length*8<=mB/\agF k l e p q z A B S U V af ai aj W a d ao ap=some n) e.length ?_ ?_
 ·exact⟨_,K,e,0,bd,be,bf,l,e,t,u,p,q,J,z,N,O,([]:LB),none,0,[],([]:List Int),none,0,[],0,0,rfl,fK,kr,bo.sel [5,4,3,2,1,0],List.drop_zero,cr,bg,Z,bn,abm (R:=RStr) (size:=1),(by simp),abm (R:=(RInt .i64)) (size:=1),(by simp),h⟩
 ·rintro _ _ bq⟨bp,f,A,B,S,ab,ac,U,V,ad,ae,af,ai,aj,W,ak,al,a,C,D,am,d,G,I,an,ao,ap,rfl,rfl,r,hh⟩;obtain⟨s,X,br,bs,bu,bv,bw,bx,bz,bB,h⟩:=hh;rcases A with _|⟨⟨cy,dV⟩,A⟩
  ·refine gD 7 [1,1] s<|cNl X<|gP 13 [5,1] s ?_;have bD:=amU s;refine cB h (λ_ cz=>(axO k) cz (hG.mono r) br bs bu bv bw bx bz bB (Nat.le_trans (Nat.le_refl _) s.size) (ms bn r)<|pt bD) ?_;rintro⟨⟨dW,⟨dX,dY,dZ,d0,d1,d2⟩,bE,d3,d4,d5⟩,bF⟩ _ d6⟨d7,d8,d9,ea,ec,ed,ee,ef,eg,eh,ei,ej,ek,bG,bH,rfl,aH,cA,cC,cD,cG,cH,cI,cJ,cK,bI⟩ h;have cL:=ca aH bD;refine gR 21 [5,3,7,1,4,3,4,4] [] cL (λel em bi=>cB h (λ_ cM=>(ad5 k) cM (hG.mono<|r.trans aH.sub) cA cC cD cG cH cI cJ cK (Nat.le_trans (Nat.le_refl _) bi.size)<|pt bi) ?_);rintro⟨bJ,⟨bK,bL,bM,bP,bQ,bR⟩,bS,bT,bU,bV⟩ _ eo⟨g,bW,bX,bY,bZ,b0,b1,b2,b3,b4,b5,b6,b7,rfl,aq,b8,b9,cb,cc,ce,cf,ch,ci⟩ h;have cj:=ca aq bi;refine go 2<|wk cj (λj m=>∃ck ar aI aK au av aL aM aN aP aT aw aU aV x aW aX bj y aY aZ bk a2 a3 ax ay a4 a5 a6 a7 a8 az a9 ba,j ck [4,5] []/\m g [] [.box (zz wi) (zz aB) #[sl aI ar aK,.string au,sl aL av aM,iI aN,.bool aP,iI aT,sl aU aw aV,sl aW x aX,sl aY y aZ,iI a2,iI a3] 109,.box (zz wi) (zz aG) (aF ax a4 ay a5 a6 a7 a8 a9 az ba) 52,eW (zz wi) aW x aX 9 1 bj,eW (zz wi) aY y aZ 3 1 bk]/\tF g aI aK ar/\au.size<=mB/\tP g aL aM av/\tS g aU aV aw/\Reps RStr 1 x bj/\x.length*16<=mB/\Reps (RInt .i64) 1 y bk/\y.length*8<=mB/\ax.size<=mB/\tP g a4 a5 ay/\tS g a9 ba az/\ar4 k ar au av aN aP aT aw x y a2 a3 ax ay a6 a7 a8 az=some n) ?_ ?_
   ·refine rB [4,5] cj (λbb cN=>ah 3 [0,1,2,0,0,11] cN<|an2 (i:=3) (j:=4) ?_ ?_)
    ·exact opQ (i:=3) rfl<|gP 3 [0,3,6] bb<|wB (fq [0,1,2,3,4,5] bb) (λep=>aQ 4 rfl<|gR 3 [4] [] bb (λeq cO=>⟨hE 4,aQ 5 rfl<|gR 3 [5] [] cO (λes cP=>⟨hE 5,aD<|gx 1 ⟨_,bJ,bW,bX,bK,bL,bY,bZ,bM,bP,bQ,bR,b0,b1,bS,b2,b3,b4,bT,b5,b6,b7,bU,bV,l,e,t,u,p,q,(bE.length:Int),bF,bG,bH,fK,cP.sel [4,5,1,2],b8,b9,cb,cc,ce,cf,ch,ci,bg,mp Z<|(r.trans aH.sub).trans aq.sub,ms bI aq.sub,h⟩⟩)⟩))
    ·exact opQ (i:=4) rfl<|gR 3 [4] [] bb (λet cl=>⟨hE 4,aQ 3 rfl<|gP 3 [0,3,6] cl ⟨hE 4,aQ 5 rfl<|gR 3 [5] [] cl (λeu cQ=>⟨hE 5,aD<|gx 1 ⟨_,bJ,bW,bX,bK,bL,bY,bZ,bM,bP,bQ,bR,b0,b1,bS,b2,b3,b4,bT,b5,b6,b7,bU,bV,l,e,t,u,p,q,(bE.length:Int),bF,bG,bH,fK,cQ.sel [4,5,1,2],b8,b9,cb,cc,ce,cf,ch,ci,bg,mp Z<|(r.trans aH.sub).trans aq.sub,ms bI aq.sub,h⟩⟩)⟩⟩)
   ·rintro _ ew⟨ck,ar,aI,aK,au,av,aL,aM,aN,aP,aT,aw,aU,aV,x,aW,aX,bj,y,aY,aZ,bk,a2,a3,ax,ay,a4,a5,a6,a7,hh⟩;obtain⟨a8,az,a9,ba,rfl,bm,cR,cS,cU,cV,cW,cY,cZ,c3,c4,c6,c7,h⟩:=hh;refine gd 1 ?_;obtain⟨ex,c8,aA,c9⟩:=abD (i:=2) (bytes:=16) (R:=λK=>RStr) bm rfl (Nat.le_refl _) cW cY (λhs=>(λ_ _ h=>h));obtain⟨da,db,Y,dc⟩:=abD (i:=2) (bytes:=8) (R:=λK=>(RInt .i64)) c8 rfl (Nat.le_refl _) (cZ.mono (λ_ _ h=>h)) c3 (λhs=>(λ_ _ h=>h));cases oj h o;exact abw rfl (rNl 0 bm rfl) (rNl 1 bm rfl) ⟨da,[sl aI ar aK,.string au,sl aL av aM,iI aN,.bool aP,iI aT,sl aU aw aV,sl aW x aX,sl aY y aZ,iI a2,iI a3],vF ax a4 ay a5 a6 a7 a8 a9 az ba,rfl,db.sel [],ack.intro (mf cR<|aA.trans Y) cS (mp cU<|aA.trans Y) (ms cV<|aA.trans Y) (c9.mono Y (λ_ _ h=>h)) dc,aak.intro c4 (mp c6<|aA.trans Y)<|ms c7<|aA.trans Y⟩
  ·refine gD 7 [1,1] s<|cCl X<|gP 12 [1,1] s ?_;obtain⟨dd,cm,ey,de,ez,df,dg⟩:=((mp Z r)).row.at_ (aaC X);obtain⟨rfl,dh⟩:=aaw.open dg;refine iNl 70 2 de X<|fd (cm+B*2+0) aqt rfl<|ld1 (v:=.string cy) Tya9 rfl (s.cell<|kr.cell<|df 0 _ rfl) ?_;have cn:=amU s;refine cB h (λ_ di=>(apw k) di (hG.mono r) br bs bu bv bw bx bz bB (Nat.le_trans (Nat.le_refl _) s.size) dh<|pt cn) ?_;rintro⟨⟨dj,⟨dk,dl,dm,dn,dp,dq⟩,dr,ds,dt,du⟩,eC⟩ _ eD⟨dv,dw,dx,dy,dz,dA,dB,dC,dD,dE,dF,dG,dH,rfl,co,dI,dJ,dK,dL,dM,dN,dO,dP⟩ h;have dQ:=ca co cn;exact go 5<|iCl X ((mp Z r).len)<|go 3 ⟨_,Nat.lt_succ_self _,_,dv,A,B+1,dj,dw,dx,dk,dl,dy,dz,dm,dn,dp,dq,dA,dB,dr,dC,dD,dE,ds,dF,dG,dH,dt,du,rfl,fK,r.trans co.sub,dQ.sel [3,4,5,0,1,2],aac X,dI,dJ,dK,dL,dM,dN,dO,dP,h⟩
theorem awF(k:Nat):as7 (f38 k):=by
 intro K wi dp d7 d8 d9 h hG dq dr;obtain⟨r_,n,h⟩:=rz h;obtain⟨q⟩:=dp;obtain⟨bg,c1,rfl,r⟩:=aad.open dq;refine en 91 Tryz.func38 rfl ?_;unfold f38 at h;refine gI 11 [0,1,1] [[nS]] dr (λa1 ea cH=>cB h (λ_ ds=>(atZ k) ds (hG.mono kr) (aad.intro r)<|pt cH) ?_);rintro ec _ ed⟨bT,rfl,a⟩ h;have bU:=ca a cH;refine go 3 (bC 13 h ?_ ?_)<;>intro _ h
 ·refine gd 3<|bld (cells:=#[nS]) (vs:=[]) rfl (λw=>by kernel_rfl)<|gR 6 [0] [] bU (λee cI=>?_);cases oj h n;exact abw rfl (rNl 0 cI rfl) (resT rfl) ⟨bT,[nS],rfl,cI.sel [],aad.intro<|RSl.nil _ _ _ _ _ _⟩
 ·refine gd 10<|wl bU (λj m g_=>∃cJ bV aq,∃(aj:Nat),g_=aq.length/\j cJ [1,2] [(4,iI (aj:Int))]/\KH.sub bT bV/\m bV [] [.box (zz wi) (zz wi) #[sl bg q c1] 24,.box (zz wi) (zz a1) #[nS] 24]/\q.drop aj=aq/\ahJ k q aq aj=some r_) q.length ?_ ?_
  ·exact⟨_,bT,q,0,rfl,fK,kr,bU.sel [1,0],List.drop_zero,h⟩
  ·rintro _ _ ef⟨cJ,bV,aq,aj,rfl,rfl,d,aL,aM,h⟩;rcases aq with _|⟨⟨cK,eg,eh,ei,ej,ek⟩,aq⟩
   ·refine gD 7 [0,1] aL<|cNl aM<|gP 12 [0,1] aL<|cB h (λ_ dt=>(aqv k) dt (hG.mono<|a.sub.trans d) (mf r<|a.sub.trans d) (by decide)<|pt aL) ?_;rintro bh _ bW⟨aN,rfl,p⟩ h;have al:=ca p aL;refine go 12 (bC 37 h ?_ ?_)<;>intro _ h
    ·refine gd 3<|bld (cells:=#[nS]) (vs:=[]) rfl (λw=>by kernel_rfl)<|gR 7 [1] [] al (λel cL=>?_);cases oj h n;exact abw rfl (rNl 1 cL rfl) (resT rfl) ⟨aN,[nS],rfl,cL.sel [],aad.intro<|RSl.nil _ _ _ _ _ _⟩
    ·refine gD 6 [0,1] al ?_;obtain⟨⟨em,du,eo,dv,ep,eq⟩,a2,h⟩:=ob h;obtain⟨cM,bi,es,cN,et,cO,dw⟩:=((mf r ((a.sub.trans d).trans p.sub))).row.at_ (aaA a2).1;obtain⟨dx,dy,eu,ew,rfl,ex,ey,ez⟩:=aak.open dw;refine iGl 52 6 cN a2 (fd (bi+bh.toNat*6+3) ao8 rfl<|ld1 (v:=.bool dv) Tya4 rfl (al.cell<|kr.cell<|cO 3 _ rfl)<|go 3<|bC 41 h ?_ ?_)<;>intro _ h
     ·refine gd 3<|bld (cells:=#[nS]) (vs:=[]) rfl (λw=>by kernel_rfl)<|gR 7 [1] [] al (λeC cP=>?_);cases oj h n;exact abw rfl (rNl 1 cP rfl) (resT rfl) ⟨aN,[nS],rfl,cP.sel [],aad.intro<|RSl.nil _ _ _ _ _ _⟩
     ·refine gD 6 [0,1] al (iGl 52 6 cN a2<|fd (bi+bh.toNat*6+1) ajM rfl<|ld1 (v:=sl dx du dy) ato rfl (al.cell<|kr.cell<|cO 1 _ rfl)<|go 5<|bC 49 h ?_ ?_)<;>intro _ h
      ·refine gd 3<|bld (cells:=#[nS]) (vs:=[]) rfl (λw=>by kernel_rfl)<|gR 7 [1] [] al (λeD cQ=>?_);cases oj h n;exact abw rfl (rNl 1 cQ rfl) (resT rfl) ⟨aN,[nS],rfl,cQ.sel [],aad.intro<|RSl.nil _ _ _ _ _ _⟩
      ·refine gI 16 [] [[nS]] al (λeF dz=>?_);have cR:=dz.row_ (zz wi) 52 6;refine wl cR (λj m g_=>∃cS a3 am,∃(aP:Nat),∃l ar au bj,g_=am.length/\j cS [1,2,6] [(7,iI (aP:Int))]/\KH.sub aN a3/\m a3 [] [.box (zz wi) (zz wi) #[sl bg q c1] 24,.box (zz wi) (zz a1) #[nS] 24,.box (zz wi) (zz bW) #[sl ar l au] 24,eW (zz wi) ar l au 52 6 bj]/\q.drop aP=am/\Reps (aak a3) 6 l bj/\l.length*88<=mB/\agE k q am aP l=some r_) q.length ?_ ?_
       ·exact⟨_,aN,q,0,([]:LF),none,0,[],rfl,fK,kr,cR.sel [2,3,1,0],List.drop_zero,abm (R:=(aak aN)) (size:=6),(by simp),h⟩
       ·rintro _ _ bk⟨cS,a3,am,aP,l,ar,au,bj,rfl,rfl,s,a4,a5,cU,dA,h⟩;rcases am with _|⟨⟨eH,eI,eJ,eL,eM,eO⟩,am⟩
        ·refine gD 7 [0,1] a4<|cNl a5<|gR 16 [0,2,1,1] [] a4 (λeP cV=>?_);obtain⟨dB,dC,eQ,dD⟩:=abD (i:=3) (bytes:=88) (R:=λK=>(aak K)) cV rfl (Nat.le_refl _) cU dA (λhs=>(λ_ _ h=>aak.mono hs h));cases oj h n;exact abw rfl (rNl 1 cV rfl) (resT rfl) ⟨dB,[sl ar l au],rfl,dC.sel [],aad.intro dD⟩
        ·refine gD 7 [0,1] a4<|cCl a5<|go 7<|wk a4 (λj m=>∃cW e bm bn bo bp bq br bs bu bX bY bZ bv bw bx bz bB bD bE bF bG b0 aT bH an ao bI bJ av aw ax ap bK bL,j cW [1,2,6,7] [(8,pp bm 0),(9,pp bH 0)]/\KH.sub a3 e/\m e [] [.box (zz wi) (zz wi) #[sl bg q c1] 24,.box (zz wi) (zz a1) #[nS] 24,.box (zz wi) (zz bW) #[sl ar l au] 24,.box (zz wi) bm #[sl bo bn bp,.string bq,sl bs br bu,iI bX,.bool bY,iI bZ,sl bw bv bx,sl bB bz bD,sl bF bE bG,iI b0,iI aT] 109,.box (zz wi) bH (aF an bI ao bJ av aw ax bK ap bL) 52,eW (zz wi) ar l au 52 6 bj]/\tF e bo bp bn/\bq.size<=mB/\tP e bs bu br/\tS e bw bx bv/\RSl BA RStr 1 16 e bB bD bz/\RSl Int (RInt .i64) 1 8 e bF bG bE/\an.size<=mB/\tP e bI bJ ao/\tS e bK bL ap/\arF k l aP aT an ao av aw ax ap (agE k q am)=some r_) ?_ ?_
         ·refine rB [] a4 (λbM cY=>ah 5 [0,0,1,1,2,0,3,1,4] cY<|eA 5 6 rfl rfl cY (mf r<|((a.sub.trans d).trans p.sub).trans s) a5 aak.open ?_);rintro eR eS eT eU eV a6⟨eX,eY,eZ,e0,rfl,e1,e3,e4⟩;refine an3 (i:=7) (j:=11) (k:=12) ?_ ?_ ?_
          ·refine opQ (i:=7) rfl<|cB h (λ_ dE=>(alo k) dE (hG.mono<|((a.sub.trans d).trans p.sub).trans s) (mf r<|((a.sub.trans d).trans p.sub).trans s) a6<|pt bM) ?_;rintro⟨⟨z,⟨A,B,C,D,G,I⟩,J,N,O,S⟩,⟨U,V,W,X,Y,Z⟩⟩ _ cZ⟨c2,e5,e6,rfl,u,dF,dG⟩ h;have b1:=ca u bM;obtain⟨c3,c4,c5,c6,aU,aV,ab,ac,ad,ae,rfl,c7,c8,c9,aW,af,ai⟩:=ack.open dF;obtain⟨da,db,aX,aY,rfl,dc,dd,aZ⟩:=aak.open dG;refine go 2<|wB (fwOf (is:=[0,1,2,3]) b1 u.sub rfl) (λdH=>ah 3 [8,9,10] dH<|an2 (i:=11) (j:=12) ?_ ?_)
           ·exact opQ (i:=11) rfl<|gR 3 [] [[nS,sE,nS,iI 0,vN,iI 0,nS,nS,nS,iI 0,iI 0]] b1 (λb2 a7=>wB (fwOf (is:=[1,2,3,4]) a7 u.sub rfl) (λa8=>aQ 12 rfl<|gR 3 [] [[sE,nS,iI 0,vN,iI 0,nS]] a7 (λb3 x=>wB (fwOf (is:=[2,3,4,5]) x u.sub rfl) (λay=>aQ 13 rfl<|gR 3 [1] [] x (λa9 f=>wB (fwOf (is:=[2,3,4,5]) f u.sub rfl) (λba=>aQ 14 rfl<|gR 3 [0] [] f (λbb g=>wB (fwOf (is:=[2,3,4,5]) g u.sub rfl) (λbd=>aD<|gx 1 ⟨_,c2,zz cZ,z,c3,c4,A,B,c5,c6,C,D,G,I,aU,aV,J,ab,ac,N,ad,ae,O,S,zz b2,U,V,da,db,W,X,Y,Z,aX,aY,fK,u.sub,g.sel [2,3,4,1,0,5],c7,c8,c9,aW,af,ai,dc,dd,aZ,h⟩))))))))
           ·exact opQ (i:=12) rfl<|gR 3 [] [[sE,nS,iI 0,vN,iI 0,nS]] b1 (λb2 a7=>wB (fwOf (is:=[1,2,3,4]) a7 u.sub rfl) (λa8=>aQ 11 rfl<|gR 3 [] [[nS,sE,nS,iI 0,vN,iI 0,nS,nS,nS,iI 0,iI 0]] a7 (λb3 x=>wB (fwOf (is:=[2,3,4,5]) x u.sub rfl) (λay=>aQ 13 rfl<|gR 3 [0] [] x (λa9 f=>wB (fwOf (is:=[2,3,4,5]) f u.sub rfl) (λba=>aQ 14 rfl<|gR 3 [1] [] f (λbb g=>wB (fwOf (is:=[2,3,4,5]) g u.sub rfl) (λbd=>aD<|gx 1 ⟨_,c2,zz b2,z,c3,c4,A,B,c5,c6,C,D,G,I,aU,aV,J,ab,ac,N,ad,ae,O,S,zz cZ,U,V,da,db,W,X,Y,Z,aX,aY,fK,u.sub,g.sel [2,3,4,0,1,5],c7,c8,c9,aW,af,ai,dc,dd,aZ,h⟩))))))))
          ·refine opQ (i:=11) rfl<|gR 3 [] [[nS,sE,nS,iI 0,vN,iI 0,nS,nS,nS,iI 0,iI 0]] bM (λb4 ak=>wB (fq [1,2,3,4] ak) (λdI=>an2 (i:=7) (j:=12) ?_ ?_))
           ·refine opQ (i:=7) rfl<|cB h (λ_ b5=>(alo k) b5 (hG.mono<|((a.sub.trans d).trans p.sub).trans s) (mf r<|((a.sub.trans d).trans p.sub).trans s) a6<|pt ak) ?_;rintro⟨⟨z,⟨A,B,C,D,G,I⟩,J,N,O,S⟩,⟨U,V,W,X,Y,Z⟩⟩ _ b6⟨b7,dJ,dK,rfl,t,b8,b9⟩ h;have be:=ca t ak;obtain⟨cb,cc,aU,aV,ab,ac,ad,ae,az,aA,rfl,ce,cf,aW,af,ai,aB⟩:=ack.open b8;obtain⟨aX,aY,aG,aH,rfl,ch,aZ,aI⟩:=aak.open b9;exact go 2<|wB (fwOf (is:=[1,2,3,4]) be t.sub rfl) (λa8=>ah 3 [8,9,10] a8<|aQ 12 rfl<|gR 3 [] [[sE,nS,iI 0,vN,iI 0,nS]] be (λb3 x=>wB (fwOf (is:=[2,3,4,5]) x t.sub rfl) (λay=>aQ 13 rfl<|gR 3 [1] [] x (λa9 f=>wB (fwOf (is:=[2,3,4,5]) f t.sub rfl) (λba=>aQ 14 rfl<|gR 3 [0] [] f (λbb g=>wB (fwOf (is:=[2,3,4,5]) g t.sub rfl) (λbd=>aD<|gx 1 ⟨_,b7,zz bk.drew,z,cb,cc,A,B,aU,aV,C,D,G,I,ab,ac,J,ad,ae,N,az,aA,O,S,zz b6,U,V,aX,aY,W,X,Y,Z,aG,aH,fK,t.sub,g.sel [2,3,4,1,0,5],ce,cf,aW,af,ai,aB,ch,aZ,aI,h⟩)))))))
           ·refine opQ (i:=12) rfl<|gR 3 [] [[sE,nS,iI 0,vN,iI 0,nS]] ak (λdL aK=>wB (fq [2,3,4,5] aK) (λdM=>aQ 7 rfl<|cB h (λ_ ci=>(alo k) ci (hG.mono<|((a.sub.trans d).trans p.sub).trans s) (mf r<|((a.sub.trans d).trans p.sub).trans s) a6<|pt aK) ?_));rintro⟨⟨z,⟨A,B,C,D,G,I⟩,J,N,O,S⟩,⟨U,V,W,X,Y,Z⟩⟩ _ dN⟨cj,dO,dP,rfl,y,ck,cl⟩ h;have bf:=ca y aK;obtain⟨cm,cn,ab,ac,ad,ae,az,aA,co,cq,rfl,cr,cs,af,ai,aB,ct⟩:=ack.open ck;obtain⟨aG,aH,cu,cw,rfl,cx,aI,cy⟩:=aak.open cl;exact go 2<|wB (fwOf (is:=[2,3,4,5]) bf y.sub rfl) (λay=>ah 3 [8,9,10] ay<|aQ 13 rfl<|gR 3 [1] [] bf (λa9 f=>wB (fwOf (is:=[2,3,4,5]) f y.sub rfl) (λba=>aQ 14 rfl<|gR 3 [0] [] f (λbb g=>wB (fwOf (is:=[2,3,4,5]) g y.sub rfl) (λbd=>aD<|gx 1 ⟨_,cj,zz bk.drew,z,cm,cn,A,B,ab,ac,C,D,G,I,ad,ae,J,az,aA,N,co,cq,O,S,zz b4,U,V,aG,aH,W,X,Y,Z,cu,cw,fK,y.sub,g.sel [2,3,4,1,0,5],cr,cs,af,ai,aB,ct,cx,aI,cy,h⟩)))))
          ·refine opQ (i:=12) rfl<|gR 3 [] [[sE,nS,iI 0,vN,iI 0,nS]] bM (λb4 ak=>wB (fq [1,2,3,4] ak) (λdI=>an2 (i:=7) (j:=11) ?_ ?_))
           ·refine opQ (i:=7) rfl<|cB h (λ_ b5=>(alo k) b5 (hG.mono<|((a.sub.trans d).trans p.sub).trans s) (mf r<|((a.sub.trans d).trans p.sub).trans s) a6<|pt ak) ?_;rintro⟨⟨z,⟨A,B,C,D,G,I⟩,J,N,O,S⟩,⟨U,V,W,X,Y,Z⟩⟩ _ b6⟨b7,dJ,dK,rfl,t,b8,b9⟩ h;have be:=ca t ak;obtain⟨cb,cc,aU,aV,ab,ac,ad,ae,az,aA,rfl,ce,cf,aW,af,ai,aB⟩:=ack.open b8;obtain⟨aX,aY,aG,aH,rfl,ch,aZ,aI⟩:=aak.open b9;exact go 2<|wB (fwOf (is:=[1,2,3,4]) be t.sub rfl) (λa8=>ah 3 [8,9,10] a8<|aQ 11 rfl<|gR 3 [] [[nS,sE,nS,iI 0,vN,iI 0,nS,nS,nS,iI 0,iI 0]] be (λb3 x=>wB (fwOf (is:=[2,3,4,5]) x t.sub rfl) (λay=>aQ 13 rfl<|gR 3 [0] [] x (λa9 f=>wB (fwOf (is:=[2,3,4,5]) f t.sub rfl) (λba=>aQ 14 rfl<|gR 3 [1] [] f (λbb g=>wB (fwOf (is:=[2,3,4,5]) g t.sub rfl) (λbd=>aD<|gx 1 ⟨_,b7,zz b6,z,cb,cc,A,B,aU,aV,C,D,G,I,ab,ac,J,ad,ae,N,az,aA,O,S,zz bk.drew,U,V,aX,aY,W,X,Y,Z,aG,aH,fK,t.sub,g.sel [2,3,4,0,1,5],ce,cf,aW,af,ai,aB,ch,aZ,aI,h⟩)))))))
           ·refine opQ (i:=11) rfl<|gR 3 [] [[nS,sE,nS,iI 0,vN,iI 0,nS,nS,nS,iI 0,iI 0]] ak (λdL aK=>wB (fq [2,3,4,5] aK) (λdM=>aQ 7 rfl<|cB h (λ_ ci=>(alo k) ci (hG.mono<|((a.sub.trans d).trans p.sub).trans s) (mf r<|((a.sub.trans d).trans p.sub).trans s) a6<|pt aK) ?_));rintro⟨⟨z,⟨A,B,C,D,G,I⟩,J,N,O,S⟩,⟨U,V,W,X,Y,Z⟩⟩ _ dN⟨cj,dO,dP,rfl,y,ck,cl⟩ h;have bf:=ca y aK;obtain⟨cm,cn,ab,ac,ad,ae,az,aA,co,cq,rfl,cr,cs,af,ai,aB,ct⟩:=ack.open ck;obtain⟨aG,aH,cu,cw,rfl,cx,aI,cy⟩:=aak.open cl;exact go 2<|wB (fwOf (is:=[2,3,4,5]) bf y.sub rfl) (λay=>ah 3 [8,9,10] ay<|aQ 13 rfl<|gR 3 [0] [] bf (λa9 f=>wB (fwOf (is:=[2,3,4,5]) f y.sub rfl) (λba=>aQ 14 rfl<|gR 3 [1] [] f (λbb g=>wB (fwOf (is:=[2,3,4,5]) g y.sub rfl) (λbd=>aD<|gx 1 ⟨_,cj,zz b4,z,cm,cn,A,B,ab,ac,C,D,G,I,ad,ae,J,az,aA,N,co,cq,O,S,zz bk.drew,U,V,aG,aH,W,X,Y,Z,cu,cw,fK,y.sub,g.sel [2,3,4,0,1,5],cr,cs,af,ai,aB,ct,cx,aI,cy,h⟩)))))
         ·rintro _ e7⟨cW,e,bm,bn,bo,bp,bq,br,bs,bu,bX,bY,bZ,bv,bw,bx,bz,bB,bD,bE,bF,bG,b0,aT,bH,an,ao,bI,bJ,av,hh⟩;obtain⟨aw,ax,ap,bK,bL,rfl,de,bP,e8,e9,fa,fb,fc,fe,dQ,dR,dS,h⟩:=hh;refine gD 8 [10,4] bP (bC 79 h ?_ ?_)<;>intro _ h
          ·refine gd 1<|wk bP (λj m=>∃df cz,j df [2] [(3,iI cz)]/\m e [] [.box (zz wi) (zz a1) #[nS] 24]/\apu k cz=some r_) ?_ ?_
           ·refine rB [3] bP (λbQ dg=>kK 0 (.agg #[nS]) rfl (λw=>afg (cells:=#[nS]) (vs:=[]) rfl (λw=>by kernel_rfl)) dg<|ah 1 [1,10] dg<|an2 (i:=2) (j:=3) ?_ ?_)
            ·exact opQ (i:=2) rfl<|gP 3 [4] bQ<|wB (fq [0,1,2,3,4,5] bQ) (λff=>aQ 3 rfl<|gR 3 [1] [] bQ (λfg dT=>⟨hE 3,ag 1 [4] (hE 3)<|aD<|gx 1 ⟨_,aT,fK,dT.sel [1],h⟩⟩))
            ·exact opQ (i:=3) rfl<|gR 3 [1] [] bQ (λfh dh=>⟨hE 3,aQ 2 rfl<|gP 3 [4] dh ⟨hE 3,ag 1 [4] (hE 3)<|aD<|gx 1 ⟨_,aT,fK,dh.sel [1],h⟩⟩⟩)
           ·rintro _ fi⟨df,cz,rfl,di,h⟩;refine gd 7 ?_;cases oj h n;exact abw rfl (rNl 0 di rfl) (resT rfl) ⟨e,[nS],rfl,di.sel [],aad.intro<|RSl.nil _ _ _ _ _ _⟩
          ·refine gI 14 [0,3,0,4,6,52] [] bP (λfj dU=>aJ h 6 0 dU rfl rfl (cU.mono (λ_ _ h=>aak.mono de h)) (aak.intro dQ dR dS) ?_);rintro dj dk dl dV dW dX dY h;have dZ:=aje dW;exact gR 7 [0,2] [] dZ (λfk d0=>iCl a5 ((mf r<|((a.sub.trans d).trans p.sub).trans s).len)<|go 3 ⟨_,Nat.lt_succ_self _,_,e,am,aP+1,l++[(aab.mk an ao av aw ax ap)],dj,dk,dl,rfl,fK,s.trans de,d0.sel [0,1,2,5],aac a5,dX,aav dY,h⟩)
   ·refine gD 7 [0,1] aL<|cCl aM<|go 8<|rB [] aL (λcA bR=>ah 5 [0,0,1,1,2,0,3,1,4] bR ?_);obtain⟨cC,bS,fl,d1,fm,d2,d3⟩:=((mf r (a.sub.trans d))).row.at_ (aaC aM);obtain⟨fn,fo,fp,fs,rfl,d4,ft,fu⟩:=aak.open d3;refine kK 5 (pp cC<|bS+aj*6) rfl (λw=>alf (b:=cC) (o:=bS) (i:=aj) atn asx rfl d1 rfl<|abb aM) bR<|kK 6 (pp cC<|bS+aj*6+0) rfl (λw=>ae6 (o':=bS+aj*6+0) arH rfl rfl) bR<|tT 7 (.string cK) [] rfl (fq [0,1] cA) (λw hF=>acY (v:=.string cK) Tya9 rfl<|hF.cell<|kr.cell<|d2 0 _ rfl)<|ah 1 [9] bR<|aQ 8 rfl<|cB h (λ_ d5=>(aqv k) d5 (hG.mono<|a.sub.trans d) (mf r<|a.sub.trans d) d4<|pt cA) ?_;rintro fv _ fx⟨dm,rfl,cD⟩ h;have cG:=ca cD cA;refine go 2 (wB (fwOf (is:=[0,1]) cG cD.sub rfl) (λd6=>ah 1 [10] d6<|aD<|gx 1<|bC 32 h ?_ ?_))<;>intro _ h
    ·refine gd 3<|bld (cells:=#[nS]) (vs:=[]) rfl (λw=>by kernel_rfl)<|gR 10 [1] [] cG (λfy dn=>?_);cases oj h n;exact abw rfl (rNl 1 dn rfl) (resT rfl) ⟨dm,[nS],rfl,dn.sel [],aad.intro<|RSl.nil _ _ _ _ _ _⟩
    ·exact gd 6<|iCl aM ((mf r<|a.sub.trans d).len)<|go 3 ⟨_,Nat.lt_succ_self _,_,dm,aq,aj+1,rfl,fK,d.trans cD.sub,cG,aac aM,h⟩
theorem aw1(k:Nat):ar7 (f16 k):=by
 intro K wi m D G I h hG o p;obtain⟨r_,n,h⟩:=rz h;obtain⟨J⟩:=m;obtain⟨N,c1,rfl,d⟩:=aad.open o;refine en 13 Tryz.func16 rfl ?_;unfold f16 at h;refine gI 11 [0,1,1] [[nS]] p (λO S e=>cB h (λ_ q=>(axb k) q (hG.mono kr) (aad.intro d)<|pt e) ?_);rintro U _ V⟨r,rfl,a⟩ h;have b:=ca a e;refine go 3 (bC 6 h ?_ ?_)<;>intro _ h
 ·refine gd 3<|bld (cells:=#[nS]) (vs:=[]) rfl (λw=>by kernel_rfl)<|gR 6 [0] [] b (λW f=>?_);cases oj h n;exact abw rfl (rNl 0 f rfl) (resT rfl) ⟨r,[nS],rfl,f.sel [],aad.intro<|RSl.nil _ _ _ _ _ _⟩
 ·refine gD 6 [0,1,1] b<|cB h (λ_ s=>(at5 k) s (gm hG a) (aad.intro<|mf d a.sub)<|pt b) ?_;rintro⟨X⟩ _ Y⟨Z,ab,rfl,g,i⟩ h;have j:=ca g b;obtain⟨ac,ad,rfl,ae⟩:=aad.open i;refine cB h (λ_ t=>(awF k) t (gm hG j) i<|pt j) ?_;rintro⟨⟨u⟩,af⟩ _ ai⟨v,aj,rfl,x,y⟩ h;have z:=ca x j;obtain⟨A,B,rfl,C⟩:=aad.open y;refine gR 7 [0] [] z (λak l=>?_);cases oj h n;exact abw rfl (rNl 0 l rfl) (resT rfl) ⟨v,[sl A u B],rfl,l.sel [],aad.intro C⟩
theorem ar8(k:Nat)(F:aig)(IH66:afN F.f66):afN (av1 k F):=by
 intro K wi aq bi bj bk h hG ax ay;obtain⟨n,o,h⟩:=rz h;refine en 64 Tryz.func66 rfl ?_;unfold av1 at h;refine gd 12<|wl ay (λj m g_=>∃az d a,∃(e:Nat),g_=a.length/\j az [0] [(3,iI (e:Int))]/\KH.sub K d/\m d [] []/\aq.drop e=a/\acI k F a e=some n) aq.length ?_ ?_
 ·exact⟨_,K,aq,0,rfl,fK,kr,ay,List.drop_zero,h⟩
 ·rintro _ _ N⟨az,d,a,e,rfl,rfl,l,O,C,h⟩;rcases a with _|⟨⟨t,S,U,V,W,D,X,u,x,y,f⟩,a⟩
  ·refine gd 6<|cNl C<|go 14 ?_;cases oj h o;exact rt1 ⟨d,rfl,O⟩
  ·refine gd 6<|cCl C<|go 5<|wk O (λj m=>∃aA Y,j aA [0,3] []/\KH.sub d Y/\m Y [] []/\anr k F e (acI k F a)=some n) ?_ ?_
   ·refine gd 5<|eN O (ms ax l) C aag.open ?_;rintro bm bn bo bp bq br⟨Z,ab,ac,ad,ae,af,ai,aj,ak,al,rfl,bs,bu,bv,aU,aV,aW,aB⟩;refine gR 5 [0] [[iI 0,sE,iI 0,sE,iI 0,iI 0,nS,nS,nS,nS,nS]] O (λbw bx p=>wk p (λj m=>∃aG ar,j aG [0,3,4] [(28,.bool ar)]/\m d [] [.box (zz wi) (zz N) (aS t S U V W D Z X ab ac u ad ae x af ai y aj ak f al) 62]/\ai6 k F e t u x y f ar (acI k F a)=some n) ?_ ?_)
    ·refine gD 5 [0,1] p (bO 19 h ?_ ?_)<;>intro _ h
     ·exact go 11 ⟨_,true,fK,p,h⟩
     ·refine gP 8 [0,1] p (bO 23 h ?_ ?_)<;>intro _ h
      ·exact gP 11 [5,1] p ⟨_,D==1,fK,p,h⟩
      ·exact go 8 ⟨_,false,fK,p,h⟩
    ·rintro _ bz⟨aG,ar,rfl,z,h⟩;refine bC 28 h ?_ ?_<;>intro _ h
     ·refine gd 13 ?_;cases oj h o;exact rt1 ⟨d,rfl,z.sel []⟩
     ·refine gd 4<|wk z (λj m=>∃aH au,j aH [0,3,4] [(36,.bool au)]/\m d [] [.box (zz wi) (zz N) (aS t S U V W D Z X ab ac u ad ae x af ai y aj ak f al) 62]/\alX k F e u x y f au (acI k F a)=some n) ?_ ?_
      ·refine gD 5 [0,1] z (bO 32 h ?_ ?_)<;>intro _ h
       ·exact go 6 ⟨_,true,fK,z,h⟩
       ·exact gP 9 [0,1] z ⟨_,t==28,fK,z,h⟩
      ·rintro _ bB⟨aH,au,rfl,G,h⟩;refine bC 36 h ?_ ?_<;>intro _ h
       ·exact gd 5 ⟨_,d,fK,kr,G.sel [],h⟩
       ·refine gd 4<|wk G (λj m=>∃aI A av,j aI [0,3,4] [(49,.bool av)]/\KH.sub d A/\m A [] [.box (zz wi) (zz N) (aS t S U V W D Z X ab ac u ad ae x af ai y aj ak f al) 62]/\aiq k F e f av (acI k F a)=some n) ?_ ?_
        ·refine gD 3 [7,1] G<|cB h (λ_ aX=>IH66 aX (hG.mono l) aU<|pt G) ?_;rintro bD _ bE⟨aY,rfl,g⟩ h;have am:=ca g G;refine go 1 (bO 40 h ?_ ?_)<;>intro _ h
         ·exact go 11 ⟨_,aY,true,fK,g.sub,am,h⟩
         ·refine gP 5 [8,1] am<|cB h (λ_ aZ=>IH66 aZ (hG.mono<|l.trans g.sub) (ms aV g.sub)<|pt am) ?_;rintro bF _ bG⟨a1,rfl,I⟩ h;have an:=ca I am;refine go 2 (bO 45 h ?_ ?_)<;>intro _ h
          ·exact go 6 ⟨_,a1,true,fK,g.sub.trans I.sub,an,h⟩
          ·refine gP 5 [9,1] an<|cB h (λ_ a2=>IH66 a2 (hG.mono<|(l.trans g.sub).trans I.sub) (ms aW<|g.sub.trans I.sub)<|pt an) ?_;rintro a3 _ bH⟨a4,rfl,aK⟩ h;have a5:=ca aK an;exact go 3 ⟨_,a4,a3,fK,(g.sub.trans I.sub).trans aK.sub,a5,h⟩
        ·rintro _ bI⟨aI,A,av,rfl,ao,aw,h⟩;refine bC 49 h ?_ ?_<;>intro _ h
         ·refine gd 13 ?_;cases oj h o;exact rt1 ⟨A,rfl,aw.sel []⟩
         ·refine gd 9<|wl aw (λj m g_=>∃aL ap q,∃(r:Nat),g_=q.length/\j aL [0,3,4] [(5,iI (r:Int))]/\KH.sub A ap/\m ap [] [.box (zz wi) (zz N) (aS t S U V W D Z X ab ac u ad ae x af ai y aj ak f al) 62]/\f.drop r=q/\amf k F e (acI k F a) q r=some n) f.length ?_ ?_
          ·exact⟨_,A,f,0,rfl,fK,kr,aw,List.drop_zero,h⟩
          ·rintro _ _ bJ⟨aL,ap,q,r,rfl,rfl,J,s,B,h⟩;rcases q with _|⟨⟨bK,bL,bM,bP,a6⟩,q⟩
           ·exact gD 7 [10,1] s<|cNl B<|go 9 ⟨_,ap,fK,ao.trans J,s.sel [],h⟩
           ·refine gD 7 [10,1] s<|cCl B<|gP 12 [10,1] s ?_;obtain⟨a7,aM,bQ,a8,bR,a9,ba⟩:=((mc aB (ao.trans J))).row.at_ (aaC B);obtain⟨bS,bT,bb,bd,rfl,bU,bV,be⟩:=aaq.open ba;refine iNl 84 5 a8 B<|fd (aM+r*5+4) amm rfl<|ld1 (v:=sl bb a6 bd) aoA rfl (s.cell<|kr.cell<|a9 4 _ rfl)<|cB h (λ_ bf=>IH66 bf (gm hG s) be<|pt s) ?_;rintro bW _ bX⟨aN,rfl,aP⟩ h;have aT:=ca aP s;refine go 2 (bC 63 h ?_ ?_)<;>intro _ h
            ·refine gd 16 ?_;cases oj h o;exact rt1 ⟨aN,rfl,aT.sel []⟩
            ·exact gd 6<|iCl B ((mc aB<|ao.trans J).len)<|go 3 ⟨_,Nat.lt_succ_self _,_,aN,q,r+1,rfl,fK,J.trans aP.sub,aT,aac B,h⟩
   ·rintro _ bY⟨aA,Y,rfl,bg,bh,h⟩;exact gd 2<|iCl C ((ms ax l).len)<|go 3 ⟨_,Nat.lt_succ_self _,_,Y,a,e+1,rfl,fK,l.trans bg,bh,aac C,h⟩
theorem asC(k0:Nat) : ∀k,afN (amS k0 k).f66:=by
 intro k;induction k with
 | zero=>simp[afN,amS]
 | succ k ih=>exact ar8 k0 (amS k0 k) ih
theorem aw6(k:Nat):afN (f66 k):=(asC k k)
theorem asf(k:Nat)(F:afc)(IH21:aeC F.f21)(IH41:aeM F.f41):aeC (auF k F):=by
 intro K wi i v x y h hG l o;obtain⟨r_,n,h⟩:=rz h;refine en 15 Tryz.func21 rfl ?_;unfold auF at h;refine gd 12<|wl o (λj m g_=>∃p e a,∃(b:Nat),g_=a.length/\j p [0] [(3,iI (b:Int))]/\KH.sub K e/\m e [] []/\i.drop b=a/\akW k F a b=some r_) i.length ?_ ?_
 ·exact⟨_,K,i,0,rfl,fK,kr,o,List.drop_zero,h⟩
 ·rintro _ _ z⟨p,e,a,b,rfl,rfl,f,g,d,h⟩;rcases a with _|⟨⟨A,B,C,D,G,I,J,N,O,S,U⟩,a⟩
  ·refine gd 6<|cNl d<|go 14 ?_;cases oj h n;exact rt1 ⟨e,rfl,g⟩
  ·refine gd 6<|cCl d<|go 11<|eN g (ms l f) d aag.open ?_;rintro V W X Y Z t⟨ab,ac,ad,ae,af,ai,aj,ak,al,am,rfl,an,ao,ap,aq,ar,au,av⟩;refine cB h (λ_ u=>IH41 u (hG.mono f) t<|pt g) ?_;rintro aw _ ax⟨q,rfl,r⟩ h;have s:=ca r g;refine go 2 (bC 14 h ?_ ?_)<;>intro _ h
   ·refine gd 12 ?_;cases oj h n;exact rt1 ⟨q,rfl,s⟩
   ·exact gd 6<|iCl d ((ms l f).len)<|go 3 ⟨_,Nat.lt_succ_self _,_,q,a,b+1,rfl,fK,f.trans r.sub,s,aac d,h⟩
theorem ats(k:Nat)(F:afc)(IH21:aeC F.f21)(IH41:aeM F.f41):aeM (aqG k F):=by
 intro K wi a3 b0 b1 h hG a4 a5;obtain⟨n,o,h⟩:=rz h;obtain⟨e,ab,ac,ad,ae,l,N,A,B,C,g⟩:=a3;obtain⟨af,ai,aj,ak,al,am,an,ao,ap,aq,rfl,b2,b3,a6,D,ar,a7,az⟩:=aag.open a4;refine en 98 Tryz.func41 rfl ?_;unfold aqG at h;refine gI 14 [0,1] [] a5 (λb4 G=>wk G (λj m=>∃aA au,j aA [1,5] [(6,.bool au)]/\m K [] [.box (zz wi) (zz wi) (aS e ab ac ad ae l af N ai aj A ak al B am an C ao ap g aq) 62]/\ahT k F e l N A B C g au=some n) ?_ ?_)
 ·refine gd 6 (bC 6 h ?_ ?_)<;>intro a8 h
  ·exact gd 3<|lX 6 a8.symm ⟨_,e==17,fK,G,h⟩
  ·refine gd 7 (bC 6 h ?_ ?_)<;>intro a9 h
   ·exact gd 3<|lX 6 a9.symm ⟨_,e==15,fK,G,h⟩
   ·refine gd 7 (bC 6 h ?_ ?_)<;>intro ba h
    ·exact gd 3<|lX 6 ba.symm ⟨_,e==18,fK,G,h⟩
    ·exact gd 6 ⟨_,e==19,fK,G,h⟩
 ·rintro _ b5⟨aA,au,rfl,a,h⟩;refine bC 6 h ?_ ?_<;>intro _ h
  ·refine gd 9 ?_;cases oj h o;exact rt1 ⟨K,rfl,a.sel []⟩
  ·refine gd 7 (bC 11 h ?_ ?_)<;>intro _ h
   ·refine gd 1<|wk a (λj m=>∃aB O av,j aB [] [(2,.bool av)]/\KH.sub K O/\m O [] []/\ale k F av=some n) ?_ ?_
    ·refine gD 5 [5,1] a (bO 16 h ?_ ?_)<;>intro _ h
     ·refine gP 5 [7,1] a<|cB h (λ_ bb=>IH21 bb (hG.mono kr) D<|pt a) ?_;rintro b6 _ b7⟨bd,rfl,I⟩ h;have S:=ca I a;refine go 2 (bO 21 h ?_ ?_)<;>intro _ h
      ·refine gP 5 [8,1] S<|cB h (λ_ be=>IH21 be (gm hG I) (ms ar I.sub)<|pt S) ?_;rintro bf _ b8⟨bg,rfl,aG⟩ h;have bh:=ca aG S;exact go 4 ⟨_,bg,bf,fK,I.sub.trans aG.sub,bh.sel [],h⟩
      ·exact go 7 ⟨_,bd,false,fK,I.sub,S.sel [],h⟩
     ·exact go 12 ⟨_,K,false,fK,kr,a.sel [],h⟩
    ·rintro _ b9⟨aB,O,av,rfl,cb,bi,h⟩;refine gd 3 ?_;cases oj h o;exact rt1 ⟨O,rfl,bi⟩
   ·refine gd 7 (bC 26 h ?_ ?_)<;>intro _ h
    ·refine gd 1<|wk a (λj m=>∃aH U aw,j aH [] [(2,.bool aw)]/\KH.sub K U/\m U [] []/\alz k F aw=some n) ?_ ?_
     ·refine gD 3 [6,1] a ?_;obtain⟨⟨bj,bk,cc,ce,cf⟩,J,h⟩:=ob h;obtain⟨aI,V,ch,aK,ci,aL,bm⟩:=(a6).row.at_ (aaA J).1;obtain⟨cj,ck,rfl,cl,cm⟩:=aai.open bm;refine iGl 35 5 aK J (fd (V+(0:Int).toNat*5+0) arn rfl<|ld1 (v:=iI bj) Tya3 rfl (a.cell<|kr.cell<|aL 0 _ rfl)<|go 2<|bO 34 h ?_ ?_)<;>intro _ h
      ·refine gP 5 [6,1] a (iGl 35 5 aK J<|go 1<|fd (V+(0:Int).toNat*5+1) aqx rfl<|go 1<|ld1 (v:=iI bk) Tya3 rfl (a.cell<|kr.cell<|aL 1 _ rfl)<|go 4<|bO 42 h ?_ ?_)<;>intro _ h
       ·refine gP 5 [7,1] a<|cB h (λ_ bn=>(aw6 k) bn (hG.mono kr) D<|pt a) ?_;rintro bo _ cn⟨bp,rfl,aM⟩ h;have bq:=ca aM a;exact go 6 ⟨_,bp,!bo,fK,aM.sub,bq.sel [],h⟩
       ·exact go 8 ⟨_,K,false,fK,kr,a.sel [],h⟩
      ·exact go 16 ⟨_,K,false,fK,kr,a.sel [],h⟩
     ·rintro _ co⟨aH,U,aw,rfl,cq,br,h⟩;refine gd 3 ?_;cases oj h o;exact rt1 ⟨U,rfl,br⟩
    ·refine gd 1<|wk a (λj m=>∃aN ax,j aN [1,5] [(48,.bool ax)]/\m K [] [.box (zz wi) (zz wi) (aS e ab ac ad ae l af N ai aj A ak al B am an C ao ap g aq) 62]/\ai2 k F e l A B C g ax=some n) ?_ ?_
     ·refine gd 6 (bC 48 h ?_ ?_)<;>intro bs h
      ·exact gd 3<|lX 48 bs.symm ⟨_,e==23,fK,a,h⟩
      ·refine gd 7 (bC 48 h ?_ ?_)<;>intro bu h
       ·exact gd 3<|lX 48 bu.symm ⟨_,e==25,fK,a,h⟩
       ·exact gd 6 ⟨_,e==26,fK,a,h⟩
     ·rintro _ cr⟨aN,ax,rfl,d,h⟩;refine bC 48 h ?_ ?_<;>intro _ h
      ·refine gD 5 [7,1] d<|cB h (λ_ bv=>IH21 bv (hG.mono kr) D<|pt d) ?_;rintro cs _ ct⟨bw,rfl,bx⟩ h;have bz:=ca bx d;refine go 6 ?_;cases oj h o;exact rt1 ⟨bw,rfl,bz.sel []⟩
      ·refine gd 7 (bC 55 h ?_ ?_)<;>intro _ h
       ·refine gd 1<|wk d (λj m=>∃aP W ay,j aP [] [(2,.bool ay)]/\KH.sub K W/\m W [] []/\afB k F ay=some n) ?_ ?_
        ·refine gD 5 [5,1] d (bO 60 h ?_ ?_)<;>intro _ h
         ·refine gP 5 [9,1] d<|cB h (λ_ bB=>IH21 bB (hG.mono kr) a7<|pt d) ?_;rintro cu _ cw⟨bD,rfl,f⟩ h;have X:=ca f d;refine go 2 (bO 65 h ?_ ?_)<;>intro _ h
          ·exact go 18 ⟨_,bD,true,fK,f.sub,X.sel [],h⟩
          ·refine gP 5 [7,1] X<|cB h (λ_ bE=>IH21 bE (gm hG f) (ms D f.sub)<|pt X) ?_;rintro cx _ cy⟨aT,rfl,t⟩ h;have u:=ca t X;refine go 2 (bO 69 h ?_ ?_)<;>intro _ h
           ·refine gP 5 [5,1] u (bdv (r:=(l.tmod 2)) rfl rfl (by decide) rfl<|go 4<|bO 74 h ?_ ?_)<;>intro _ h
            ·exact go 11 ⟨_,aT,true,fK,f.sub.trans t.sub,u.sel [],h⟩
            ·refine gP 5 [8,1] u<|cB h (λ_ bF=>IH21 bF (hG.mono<|f.sub.trans t.sub) (ms ar<|f.sub.trans t.sub)<|pt u) ?_;rintro bG _ cz⟨bH,rfl,aU⟩ h;have bI:=ca aU u;exact go 8 ⟨_,bH,bG,fK,(f.sub.trans t.sub).trans aU.sub,bI.sel [],h⟩
           ·exact go 15 ⟨_,aT,false,fK,f.sub.trans t.sub,u.sel [],h⟩
         ·refine gP 10 [7,1] d<|cB h (λ_ bJ=>IH21 bJ (hG.mono kr) D<|pt d) ?_;rintro cA _ cC⟨aV,rfl,x⟩ h;have y:=ca x d;refine go 2 (bO 69 h ?_ ?_)<;>intro _ h
          ·refine gP 5 [5,1] y (bdv (r:=(l.tmod 2)) rfl rfl (by decide) rfl<|go 4<|bO 74 h ?_ ?_)<;>intro _ h
           ·exact go 11 ⟨_,aV,true,fK,x.sub,y.sel [],h⟩
           ·refine gP 5 [8,1] y<|cB h (λ_ bK=>IH21 bK (gm hG x) (ms ar x.sub)<|pt y) ?_;rintro bL _ cD⟨bM,rfl,aW⟩ h;have bP:=ca aW y;exact go 8 ⟨_,bM,bL,fK,x.sub.trans aW.sub,bP.sel [],h⟩
          ·exact go 15 ⟨_,aV,false,fK,x.sub,y.sel [],h⟩
        ·rintro _ cG⟨aP,W,ay,rfl,cH,bQ,h⟩;refine gd 3 ?_;cases oj h o;exact rt1 ⟨W,rfl,bQ⟩
       ·refine gd 7 (bC 81 h ?_ ?_)<;>intro _ h
        ·refine gd 8<|wl d (λj m g_=>∃aX Y p,∃(q:Nat),g_=p.length/\j aX [1] [(3,iI (q:Int))]/\KH.sub K Y/\m Y [] [.box (zz wi) (zz wi) (aS e ab ac ad ae l af N ai aj A ak al B am an C ao ap g aq) 62]/\g.drop q=p/\amd k F p q=some n) g.length ?_ ?_
         ·exact⟨_,K,g,0,rfl,fK,kr,d,List.drop_zero,h⟩
         ·rintro _ _ cI⟨aX,Y,p,q,rfl,rfl,Z,s,z,h⟩;rcases p with _|⟨⟨cJ,cK,cL,cM,bR⟩,p⟩
          ·refine gD 7 [10,1] s<|cNl z<|go 16 ?_;cases oj h o;exact rt1 ⟨Y,rfl,s.sel []⟩
          ·refine gD 7 [10,1] s<|cCl z<|gP 12 [10,1] s ?_;obtain⟨bS,aY,cN,bT,cO,bU,bV⟩:=((mc az Z)).row.at_ (aaC z);obtain⟨cP,cQ,bW,bX,rfl,cR,cS,bY⟩:=aaq.open bV;refine iNl 84 5 bT z<|fd (aY+q*5+4) amm rfl<|ld1 (v:=sl bW bR bX) aoA rfl (s.cell<|kr.cell<|bU 4 _ rfl)<|cB h (λ_ bZ=>IH21 bZ (hG.mono Z) bY<|pt s) ?_;rintro cU _ cV⟨aZ,rfl,a1⟩ h;have a2:=ca a1 s;refine go 3 (bC 97 h ?_ ?_)<;>intro _ h
           ·refine gd 14 ?_;cases oj h o;exact rt1 ⟨aZ,rfl,a2.sel []⟩
           ·exact gd 6<|iCl z ((mc az Z).len)<|go 3 ⟨_,Nat.lt_succ_self _,_,aZ,p,q+1,rfl,fK,Z.trans a1.sub,a2,aac z,h⟩
        ·refine gd 10 ?_;cases oj h o;exact rt1 ⟨K,rfl,d.sel []⟩
theorem ans(k0:Nat) : ∀k,aeC (afz k0 k).f21/\aeM (afz k0 k).f41:=by
 intro k;induction k with
 | zero=>exact⟨by simp[aeC,afz],by simp[aeM,afz]⟩
 | succ k ih=>exact⟨asf k0 (afz k0 k) ih.1 ih.2,ats k0 (afz k0 k) ih.1 ih.2⟩
theorem axd(k:Nat):aeC (f21 k):=(ans k k).1
theorem azk(k:Nat):aeM (f41 k):=(ans k k).2
theorem anO(k:Nat):atr (f49 k):=by
 intro K wi g bs br t f j u x l m y z A B q r a d e I C D s ak al am an ao ap aq ar au h hG U V W X N Y hbr J;obtain⟨n,o,h⟩:=rz h;refine en 13 Tryz.func49 rfl ?_;unfold f49 at h;refine gD 7 [7,1] J ?_;obtain⟨Z,G,h⟩:=ob h;obtain⟨ab,av,O,aw,ac,ax⟩:=afW (J.entAt (i:=1) rfl) N (aaA G).1;obtain rfl:=ac;refine iGl 3 1 O G ?_;have ad:SR K K wi wi [.box bs g #[sl f t j,.string u,sl l x m,iI y,.bool z,iI A,sl q B r,sl d a e,.bool C] 90,eW br d a e 3 1 I] [.box bs g #[sl f t j,.string u,sl l x m,iI y,.bool z,iI A,sl q B r,sl d a e,.bool C] 90,eW br d a e 3 1 I]:=id J;refine stR (R:=(RInt .i64)) (i:=1) (off:=0) (p:=Z) (p':=s) (v:=iI s) ad rfl N (aaA G).1 Tys3 O rfl rfl rfl rfl (by decide) (λcs_ h_=>by cases h_;rfl) (λS ae af ai=>?_);have aj:SR K K wi ae [.box bs g #[sl f t j,.string u,sl l x m,iI y,.bool z,iI A,sl q B r,sl d a e,.bool C] 90,eW br d a e 3 1 I] [.box bs g #[sl f t j,.string u,sl l x m,iI y,.bool z,iI A,sl q B r,.slice d (a.set D.toNat s).length e,.bool C] 90,.row br (.slice d (a.set D.toNat s).length e) 3 1 (a.set D.toNat s).length S]:=by simpa only[List.length_set,List.eraseIdx_zero,List.eraseIdx_cons_succ,List.tail_cons,List.set_cons_succ,List.set_cons_zero,List.nil_append,List.cons_append] using af
 refine go 1 ?_;cases oj h o;exact end0 rfl ⟨K,f,j,l,m,q,r,d,e,S,rfl,aj,U,V,W,X,ai,adJ Y⟩
theorem auM(k:Nat):aoY (f107 k):=by
 intro K wi g bs br U l p V W q s J X Y Z t u z d f x ab bR dd de df dg dh di dj dk dl dm dn dp h hG A C D G B I hbr bS bT;obtain⟨n,o,h⟩:=rz h;obtain⟨a,az,af,aA,y,aB,aG,aH,aI,aK,aL⟩:=bR;obtain⟨aM,aN,aP,aT,aU,aV,aW,aX,aY,aZ,rfl,dq,dr,ds,dt,du,dv,dw⟩:=aag.open bS;refine en 93 Tryz.func107 rfl ?_;unfold f107 at h;refine gI 21 [0,1] [] bT (λbU ai=>bC 10 h ?_ ?_)<;>intro _ h
 ·refine gd 2<|rB [] ai (λa0 bq=>ah 6 [0,1,2,7,3,2,4,2,5,1] bq ?_);obtain⟨am,a2,h⟩:=ob h;obtain⟨bu,dx,bV,dy,bW,bX⟩:=afW (a0.entAt (i:=2) rfl) B (aaA a2).1;obtain rfl:=bW;refine kGl 3 1 6 rfl bV a2 bq<|tT 7 (iI am) [] rfl (fq [0,1,2] a0) (λw hF=>acY (v:=iI am) Tya3 rfl<|bX _ (hF.entAt (i:=2) rfl) 0 _ rfl)<|aQ 8 rfl<|gR 3 [3] [] a0 (λdz bv=>wB (fq [1,2,3] bv) (λbY=>ah 2 [9,10] bY<|aD<|gx 4 ?_));obtain⟨bZ,b0,a3,b1⟩:=fzi 0 [am] bv rfl;cases oj h o;exact rt2 ⟨bZ,l,p,q,s,t,u,d,f,x,some ⟨zz bU.drew,0,none⟩,1,rfl,b0.sel [1,2],mf A a3,C,mp D a3,ms G a3,B.mono (λ_ _ h=>h),I,b1⟩
 ·refine gd 1<|wk ai (λj m=>∃bw a4,j bw [0,3,9] [(21,.bool a4)]/\m K [0,1] [.box (zz wi) (zz wi) (aS a az af aA y aB aM aG aN aP aH aT aU aI aV aW aK aX aY aL aZ) 62]/\aef k U V W J X Y Z z ab a y a4=some n) ?_ ?_
  ·refine gd 6 (bC 21 h ?_ ?_)<;>intro b2 h
   ·exact gd 3<|lX 21 b2.symm ⟨_,a==3,fK,ai.sel [1,2,0],h⟩
   ·refine gd 7 (bC 21 h ?_ ?_)<;>intro b3 h
    ·exact gd 3<|lX 21 b3.symm ⟨_,a==4,fK,ai.sel [1,2,0],h⟩
    ·exact gd 6 ⟨_,a==28,fK,ai.sel [1,2,0],h⟩
  ·rintro _ dA⟨bw,a4,rfl,an,h⟩;refine bC 21 h ?_ ?_<;>intro _ h
   ·refine gd 13 ?_;have bx:=an.row_ (zz wi) 3 1;refine wl bx (λj m g_=>∃bz N ao ap a5 O,j bz [0,3] [(6,sl ao N ap),(7,iI O)]/\m K [0,1] [.box (zz wi) (zz wi) (aS a az af aA y aB aM aG aN aP aH aT aU aI aV aW aK aX aY aL aZ) 62,eW (zz wi) ao N ap 3 1 a5]/\Reps (RInt .i64) 1 N a5/\N.length*8<=mB/\ahk k U V W J X Y Z z ab y g_ N O=some n) k ?_ ?_
    ·exact⟨_,([]:List Int),none,0,[],0,fK,bx.sel [1,2,3,0],abm (R:=(RInt .i64)) (size:=1),(by simp),h⟩
    ·rintro g_ _ dB⟨bz,N,ao,ap,a5,O,rfl,b4,bB,b5,h⟩;rcases g_ with _|j1502
     ·cases h
     ·refine gd 2<|rB [] b4 (λa6 aq=>ah 7 [0,1,2,3,0,4,1,5,4,6,3] aq ?_);obtain⟨⟨dC,ar,dD,dE,dF,dG⟩,aj,h⟩:=ob h;obtain⟨ad,ac,dH,bD,dI,bE,b6⟩:=(A).row.at_ (aaA aj).1;obtain⟨au,av,dJ,dK,rfl,dL,b7,dM⟩:=aak.open b6;refine kGl 52 6 7 rfl bD aj aq (kK 8 (pp ad<|ac+y.toNat*6+1) rfl (λw=>ae6 (o':=ac+y.toNat*6+1) ajM rfl rfl) aq<|tT 9 (sl au ar av) [] rfl (fq [0,1,2,3] a6) (λw hF=>acY (v:=sl au ar av) ato rfl<|hF.cell<|kr.cell<|bE 1 _ rfl)<|ah 2 [10,11] aq<|aD<|gx 1<|bC 36 h ?_ ?_)<;>intro _ h
      ·refine gd 5<|rB [15] a6 (λa7 ae=>ah 7 [0,1,2,3,0,4,1,5,4,6,3] ae<|kGl 52 6 7 rfl bD aj ae<|kK 8 (pp ad<|ac+y.toNat*6+1) rfl (λw=>ae6 (o':=ac+y.toNat*6+1) ajM rfl rfl) ae<|tT 9 (sl au ar av) [[15,14,13,12,11,9]] rfl (fq [0,1,2,3] a7) (λw hF=>acY (v:=sl au ar av) ato rfl<|hF.cell<|kr.cell<|bE 1 _ rfl)<|ah 1 [10] ae ?_);obtain⟨⟨dN,ak⟩,a8,h⟩:=ob h;obtain⟨a9,aw,dO,b8,dP,b9,cb⟩:=(b7).row.at_ (aaA a8).1;obtain⟨rfl,dQ⟩:=aaw.open cb;refine kGl 70 2 11 rfl b8 a8 ae<|kK 12 (pp a9<|aw+O.toNat*2+1) rfl (λw=>ae6 (o':=aw+O.toNat*2+1) ajQ rfl rfl) ae<|tT 13 (iI ak) [[15,14,13]] rfl (fq [0,1,2,3] a7) (λw hF=>acY (v:=iI ak) Tya3 rfl<|hF.cell<|kr.cell<|b9 1 _ rfl)<|aQ 14 rfl<|gR 3 [3] [] a7 (λdR bF=>wB (fq [1,2,3,4] bF) (λdS=>aQ 15 rfl<|aJ h 4 0 bF rfl rfl bB rfl ?_));rintro bG bH bI cc ce cf ch h;have ci:=ajP ce;exact go 2 ⟨hE 15,ag 1 [16] (hE 15)<|aD<|gx 4<|bar (r:=(w64<|O+1)) rfl rfl rfl<|go 3 ⟨_,Nat.lt_succ_self _,_,N++[ak],bG,bH,bI,w64<|O+1,fK,ci,cf,aav ch,h⟩⟩
      ·refine gd 16 ?_;obtain⟨cj,ck,ba,cl⟩:=abD (i:=3) (bytes:=8) (R:=λK=>(RInt .i64)) a6 rfl (Nat.le_refl _) bB b5 (λhs=>(λ_ _ h=>h));cases oj h o;exact rt2 ⟨cj,l,p,q,s,t,u,d,f,x,ao,ap,rfl,ck.sel [0,1],mf A ba,C,mp D ba,ms G ba,B.mono (λ_ _ h=>h),I,cl⟩
   ·refine gd 1<|wk an (λj m=>∃bJ bb,j bJ [0,9] [(56,.bool bb)]/\m K [0,1] []/\akC k U V W J X Y Z z ab a bb=some n) ?_ ?_
    ·refine gd 6 (bC 56 h ?_ ?_)<;>intro cm h
     ·exact gd 3<|lX 56 cm.symm ⟨_,a==5,fK,an.sel [0,1],h⟩
     ·exact gd 6 ⟨_,a==16,fK,an.sel [0,1],h⟩
    ·rintro _ cn⟨bJ,bb,rfl,ax,h⟩;refine bC 56 h ?_ ?_<;>intro _ h
     ·refine gI 11 [3] [] ax (λdT co=>?_);obtain⟨cq,cr,bd,cs⟩:=fzi 0 [5] co rfl;cases oj h o;exact rt2 ⟨cq,l,p,q,s,t,u,d,f,x,some ⟨zz cn,0,none⟩,1,rfl,cr,mf A bd,C,mp D bd,ms G bd,B.mono (λ_ _ h=>h),I,cs⟩
     ·refine gd 1<|wk ax (λj m=>∃bK be,j bK [0,9] [(60,.bool be)]/\m K [0,1] []/\ajI k U V W J X Y Z z ab a be=some n) ?_ ?_
      ·refine gd 6 (bC 60 h ?_ ?_)<;>intro ct h
       ·exact gd 3<|lX 60 ct.symm ⟨_,a==6,fK,ax,h⟩
       ·exact gd 6 ⟨_,a==11,fK,ax,h⟩
      ·rintro _ bL⟨bK,be,rfl,S,h⟩;refine bC 60 h ?_ ?_<;>intro _ h
       ·refine gI 11 [3] [] S (λdU cu=>?_);obtain⟨cw,cx,bf,cy⟩:=fzi 0 [4] cu rfl;cases oj h o;exact rt2 ⟨cw,l,p,q,s,t,u,d,f,x,some ⟨zz bL,0,none⟩,1,rfl,cx,mf A bf,C,mp D bf,ms G bf,B.mono (λ_ _ h=>h),I,cy⟩
       ·refine gd 7 (bC 64 h ?_ ?_)<;>intro _ h
        ·refine gd 3<|bsl (e:=3) (cells:=#[iI 4,iI 1]) (vs:=[(0,iI 4),(1,iI 1)]) S rfl (λw=>by kernel_rfl) (λdV cz=>go 7 ?_);obtain⟨cA,cC,bg,cD⟩:=fzi 0 [4,1] cz rfl;cases oj h o;exact rt2 ⟨cA,l,p,q,s,t,u,d,f,x,some ⟨zz bL,0,none⟩,2,rfl,cC,mf A bg,C,mp D bg,ms G bg,B.mono (λ_ _ h=>h),I,cD⟩
        ·refine gd 1<|wk S (λj m=>∃bM bh,j bM [0,9] [(67,.bool bh)]/\m K [0,1] []/\ael k U V W J X Y Z z ab a bh=some n) ?_ ?_
         ·refine gd 6 (bC 67 h ?_ ?_)<;>intro cG h
          ·exact gd 3<|lX 67 cG.symm ⟨_,a==12,fK,S,h⟩
          ·refine gd 7 (bC 67 h ?_ ?_)<;>intro cH h
           ·exact gd 3<|lX 67 cH.symm ⟨_,a==7,fK,S,h⟩
           ·refine gd 7 (bC 67 h ?_ ?_)<;>intro cI h
            ·exact gd 3<|lX 67 cI.symm ⟨_,a==8,fK,S,h⟩
            ·refine gd 7 (bC 67 h ?_ ?_)<;>intro cJ h
             ·exact gd 3<|lX 67 cJ.symm ⟨_,a==25,fK,S,h⟩
             ·refine gd 7 (bC 67 h ?_ ?_)<;>intro cK h
              ·exact gd 3<|lX 67 cK.symm ⟨_,a==29,fK,S,h⟩
              ·exact gd 6 ⟨_,a==22,fK,S,h⟩
         ·rintro _ bP⟨bM,bh,rfl,al,h⟩;refine bC 67 h ?_ ?_<;>intro _ h
          ·refine gI 11 [3] [] al (λdW cL=>?_);obtain⟨cM,cN,bi,cO⟩:=fzi 0 [1] cL rfl;cases oj h o;exact rt2 ⟨cM,l,p,q,s,t,u,d,f,x,some ⟨zz bP,0,none⟩,1,rfl,cN,mf A bi,C,mp D bi,ms G bi,B.mono (λ_ _ h=>h),I,cO⟩
          ·refine gd 7 (bC 75 h ?_ ?_)<;>intro _ h
           ·refine gI 11 [3] [] al (λdX cP=>?_);obtain⟨cQ,cR,bj,cS⟩:=fzi 0 [3] cP rfl;cases oj h o;exact rt2 ⟨cQ,l,p,q,s,t,u,d,f,x,some ⟨zz bP,0,none⟩,1,rfl,cR,mf A bj,C,mp D bj,ms G bj,B.mono (λ_ _ h=>h),I,cS⟩
           ·refine gd 1<|wk al (λj m=>∃bQ bk,j bQ [0,9] [(78,.bool bk)]/\m K [0,1] []/\akP k U V W J X Y Z z ab a bk=some n) ?_ ?_
            ·refine gd 6 (bC 78 h ?_ ?_)<;>intro cU h
             ·exact gd 3<|lX 78 cU.symm ⟨_,a==20,fK,al,h⟩
             ·exact gd 6 ⟨_,a==21,fK,al,h⟩
            ·rintro _ bm⟨bQ,bk,rfl,ay,h⟩;refine bC 78 h ?_ ?_<;>intro _ h
             ·refine gI 11 [3] [] ay (λdY cV=>?_);obtain⟨cW,cY,bn,cZ⟩:=fzi 0 [2] cV rfl;cases oj h o;exact rt2 ⟨cW,l,p,q,s,t,u,d,f,x,some ⟨zz bm,0,none⟩,1,rfl,cY,mf A bn,C,mp D bn,ms G bn,B.mono (λ_ _ h=>h),I,cZ⟩
             ·refine gd 7 (bC 82 h ?_ ?_)<;>intro _ h
              ·refine gI 11 [3] [] ay (λdZ c2=>?_);obtain⟨c4,c5,bo,c7⟩:=fzi 0 [6] c2 rfl;cases oj h o;exact rt2 ⟨c4,l,p,q,s,t,u,d,f,x,some ⟨zz bm,0,none⟩,1,rfl,c5,mf A bo,C,mp D bo,ms G bo,B.mono (λ_ _ h=>h),I,c7⟩
              ·refine gd 7 (bC 85 h ?_ ?_)<;>intro _ h
               ·refine gI 16 [1,3,1,3] [] ay (λd0 c8=>?_);obtain⟨da,db,bp,dc⟩:=fzi 0 [J] c8 rfl;cases oj h o;exact rt2 ⟨da,l,p,q,s,t,u,d,f,x,some ⟨zz bm,0,none⟩,1,rfl,db,mf A bp,C,mp D bp,ms G bp,B.mono (λ_ _ h=>h),I,dc⟩
               ·refine gd 11 ?_;cases oj h o;exact rt2 ⟨K,l,p,q,s,t,u,d,f,x,none,0,rfl,ay,A,C,D,G,B,I,RSl.nil _ _ _ _ _ _⟩
theorem axS(k:Nat):atj (f36 k):=by
 intro K wi d a G I h hG i;obtain⟨Z,n,h⟩:=rz h;refine en 60 Tryz.func36 rfl ?_;unfold f36 at h;refine gd 6<|wk i (λj m=>∃t l,j t [0,1] [(13,.bool l)]/\m K [] []/\ann k d a l=some Z) ?_ ?_
 ·refine gd 5 (bO 10 h ?_ ?_)<;>intro _ h
  ·exact go 5 ⟨_,true,fK,i,h⟩
  ·exact go 7 ⟨_,a==(-1),fK,i,h⟩
 ·rintro _ J⟨t,l,rfl,e,h⟩;refine bC 13 h ?_ ?_<;>intro _ h
  ·refine gd 8 ?_;cases oj h n;exact rt1 ⟨K,rfl,e⟩
  ·refine gd 3<|wk e (λj m=>∃u,j u [] []/\m K [] []/\ak8 k=some Z) ?_ ?_
   ·refine gd 1<|wk e (λj m=>∃v o,j v [0,1] [(14,.bool o)]/\m K [] []/\aoa k d a o=some Z) ?_ ?_
    ·refine gd 4 (bO 17 h ?_ ?_)<;>intro _ h
     ·exact go 10 ⟨_,true,fK,e,h⟩
     ·refine go 6 (bO 21 h ?_ ?_)<;>intro _ h
      ·exact go 6 ⟨_,true,fK,e,h⟩
      ·exact go 8 ⟨_,d==8,fK,e,h⟩
    ·rintro _ N⟨v,o,rfl,f,h⟩;refine bC 14 h ?_ ?_<;>intro _ h
     ·refine gd 7 (bC 26 h ?_ ?_)<;>intro _ h
      ·refine gd 9 ?_;cases oj h n;exact rt1 ⟨K,rfl,f⟩
      ·exact gd 4 ⟨_,fK,f,h⟩
     ·refine gd 1<|wk f (λj m=>∃x p,j x [0,1] [(27,.bool p)]/\m K [] []/\arS k d a p=some Z) ?_ ?_
      ·refine gd 4 (bO 30 h ?_ ?_)<;>intro _ h
       ·exact go 6 ⟨_,true,fK,f,h⟩
       ·exact go 8 ⟨_,d==10,fK,f,h⟩
      ·rintro _ O⟨x,p,rfl,g,h⟩;refine bC 27 h ?_ ?_<;>intro _ h
       ·refine gd 9 ?_;cases oj h n;exact rt1 ⟨K,rfl,g⟩
       ·refine gd 1<|wk g (λj m=>∃y q,j y [0,1] [(34,.bool q)]/\m K [] []/\ap2 k d a q=some Z) ?_ ?_
        ·refine gd 4 (bO 37 h ?_ ?_)<;>intro _ h
         ·exact go 8 ⟨_,decide<|d<=14,fK,g,h⟩
         ·exact go 6 ⟨_,false,fK,g,h⟩
        ·rintro _ S⟨y,q,rfl,b,h⟩;refine bC 34 h ?_ ?_<;>intro _ h
         ·refine gd 1<|wk b (λj m=>∃z r,j z [] [(46,.bool r)]/\m K [] []/\aqO k r=some Z) ?_ ?_
          ·refine gd 4 (bO 43 h ?_ ?_)<;>intro _ h
           ·exact go 5 ⟨_,true,fK,b,h⟩
           ·exact go 7 ⟨_,a==3,fK,b,h⟩
          ·rintro _ U⟨z,r,rfl,A,h⟩;refine bC 46 h ?_ ?_<;>intro _ h
           ·refine gd 9 ?_;cases oj h n;exact rt1 ⟨K,rfl,A⟩
           ·exact gd 4 ⟨_,fK,A,h⟩
         ·refine gd 8 (bC 47 h ?_ ?_)<;>intro _ h
          ·refine gd 1<|wk b (λj m=>∃B s,j B [1] [(55,.bool s)]/\m K [] []/\aqV k a s=some Z) ?_ ?_
           ·refine gd 4 (bO 52 h ?_ ?_)<;>intro _ h
            ·exact go 5 ⟨_,true,fK,b,h⟩
            ·exact go 7 ⟨_,a==3,fK,b,h⟩
           ·rintro _ V⟨B,s,rfl,C,h⟩;refine bC 55 h ?_ ?_<;>intro _ h
            ·refine gd 10 ?_;cases oj h n;exact rt1 ⟨K,rfl,C⟩
            ·exact gd 4 ⟨_,fK,C,h⟩
          ·refine gd 8 (bC 57 h ?_ ?_)<;>intro _ h
           ·refine gd 9 ?_;cases oj h n;exact rt1 ⟨K,rfl,b⟩
           ·exact gd 4 ⟨_,fK,b,h⟩
   ·rintro _ W⟨u,rfl,D,h⟩;refine gd 6 ?_;cases oj h n;exact rt1 ⟨K,rfl,D⟩
theorem aty(k:Nat)(F:atB)(IH15:afJ F.f15):afJ (apL k F):=by
 intro K wi A ap aq ar au av h hG B f C;obtain⟨n,o,h⟩:=rz h;obtain⟨r,D,G,s,I⟩:=A;obtain⟨J,N,rfl,aw,t⟩:=aai.open B;refine en 44 Tryz.func15 rfl ?_;unfold apL at h;refine gI 20 [0,1] [] C (λax a=>bC 9 h ?_ ?_)<;>intro _ h
 ·refine gd 9 ?_;cases oj h o;exact rt1 ⟨K,rfl,a.sel []⟩
 ·refine gd 7 (bC 11 h ?_ ?_)<;>intro _ h
  ·refine gd 9 ?_;cases oj h o;exact rt1 ⟨K,rfl,a.sel []⟩
  ·refine gd 7 (bC 13 h ?_ ?_)<;>intro _ h
   ·refine gd 9 ?_;cases oj h o;exact rt1 ⟨K,rfl,a.sel []⟩
   ·refine gd 7 (bC 15 h ?_ ?_)<;>intro _ h
    ·refine gD 6 [3,1] a ?_;obtain⟨O,g,h⟩:=ob h;obtain⟨S,U,ay,V,az,W,X⟩:=(f).row.at_ (aaA g).1;obtain rfl:=X;refine iGl 3 1 V g<|ld1 (v:=iI O) Tya3 rfl (a.cell<|kr.cell<|W 0 _ rfl)<|go 6 ?_;cases oj h o;exact rt1 ⟨K,rfl,a.sel []⟩
    ·refine gD 8 [4,1] a ?_;obtain⟨⟨aA,aB,aG,aH,aI⟩,Y,h⟩:=ob h;refine eG a t Y aai.open ?_;rintro aK aL aM aN aP Z⟨aT,aU,rfl,aV,aW⟩;refine go 1<|cB h (λ_ ab=>IH15 ab (hG.mono kr) Z f<|pt a) ?_;rintro u _ aX⟨x,rfl,e⟩ h;have d:=ca e a;refine go 9<|wk d (λj m=>∃y l p,j y [2,5] [(6,iI p)]/\KH.sub x l/\m l [] [.box (zz wi) (zz wi) (aE r D G s J I N) 35]/\anN k F r u p=some n) ?_ ?_
     ·refine gD 8 [4,1] d (bC 32 h ?_ ?_)<;>intro _ h
      ·refine gD 4 [4,1] d ?_;obtain⟨⟨aY,aZ,a2,a3,a4⟩,ac,h⟩:=ob h;refine eG d (me t e.sub) ac aai.open ?_;rintro a5 a6 a7 a8 a9 ad⟨ba,bb,rfl,bd,be⟩;refine go 1<|cB h (λ_ ae=>IH15 ae (gm hG e) ad (f.mono e.sub (λ_ _ h=>h))<|pt d) ?_;rintro af _ bf⟨ai,rfl,z⟩ h;have aj:=ca z d;exact go 3 ⟨_,ai,af,fK,z.sub,aj,h⟩
      ·exact gd 3 ⟨_,x,u,fK,kr,d,h⟩
     ·rintro _ bg⟨y,l,p,rfl,ak,q,h⟩;refine gD 6 [0,1] q<|cB h (λ_ al=>(axS k) al (gm hG q)<|pt q) ?_;rintro bh _ bi⟨am,rfl,an⟩ h;have ao:=ca an q;refine go 4 ?_;cases oj h o;exact rt1 ⟨am,rfl,ao.sel []⟩
theorem atH(k0:Nat) : ∀k,afJ (amu k0 k).f15:=by
 intro k;induction k with
 | zero=>simp[afJ,amu]
 | succ k ih=>exact aty k0 (amu k0 k) ih
theorem ao1(k:Nat):afJ (f15 k):=(atH k k)
theorem arC(k:Nat):arx (f108 k):=by
 intro K wi g bs br S f j U V l m W X Y Z o p ab q r s ac y ad ae af ai aj ak al am an ao ap h hG t u v x b d hbr z A;obtain⟨r_,n,h⟩:=rz h;obtain⟨aq,ar,au,av,aw⟩:=y;obtain⟨ax,ay,rfl,B,C⟩:=aai.open z;refine en 17 Tryz.func108 rfl ?_;unfold f108 at h;refine gI 6 [] [] A (λaz D=>rB [] D (λa G=>ah 6 [0,0,0,5,1,2,3,7,4,2,6] G<|aQ 5 rfl<|cB h (λ_ I=>(ao1 k) I (hG.mono<|KW.sub a.le) (aai.intro B<|me C<|KW.sub a.le) (ad0 (a.entAt (i:=2) rfl) b d)<|Sx.all _) ?_));rintro aA _ aB⟨aG,rfl,J⟩ h;have e:=a.lend J;refine go 2 (wB (fq [0,1,2] e) (λN=>ah 1 [7] N<|aD<|gx 1<|bC 13 h ?_ ?_))<;>intro _ h
 ·refine gI 7 [8,1] [] e (λaH O=>?_);cases oj h n;exact end0 rfl ⟨K,f,j,l,m,o,p,q,r,s,rfl,O.sel [1,2],t,u,v,x,b,d⟩
 ·refine gd 2 ?_;cases oj h n;exact end0 rfl ⟨K,f,j,l,m,o,p,q,r,s,rfl,e.sel [1,2],t,u,v,x,b,d⟩
theorem amq(k:Nat):ard (f109 k):=by
 intro K wi g bs br aj f j ak al l m am an ao ap p q aq r s t ar U au av aw ax ay az aA aB aG aH aI h hG a u x y d e hbr V W;obtain⟨n,o,h⟩:=rz h;obtain⟨aK,aL,aM,aN,A,aP,aT,aU,aV,aW,aX⟩:=U;obtain⟨aY,aZ,a0,a2,a3,a4,a5,a6,a7,a8,rfl,a9,ba,X,bb,bd,be,bf⟩:=aag.open V;refine en 37 Tryz.func109 rfl ?_;unfold f109 at h;refine gI 20 [0,1] [] W (λbg z=>bC 7 h ?_ ?_)<;>intro _ h
 ·refine gd 2<|rB [] z (λB G=>ah 2 [0,6,1,1] G ?_);obtain⟨⟨bh,bi,bj,bk,bm⟩,Y,h⟩:=ob h;refine eB 2 3 rfl rfl G X Y aai.open ?_;rintro bn bo bp bq bu Z⟨bv,bw,rfl,bx,bz⟩;refine ah 4 [4,5,6,7,7,2] G<|aQ 8 rfl<|cB h (λ_ ab=>(ao1 k) ab (hG.mono<|KW.sub B.le) (aai.mono (KW.sub B.le) Z) (ad0 (B.entAt (i:=2) rfl) d e)<|Sx.all _) ?_;rintro bB _ bD⟨bE,rfl,ac⟩ h;have N:=B.lend ac;refine go 2<|wB (fq [0,1,2] N) (λad=>ah 1 [9] ad<|aD<|gx 4 ?_);cases oj h o;exact rt1 ⟨K,f,j,l,m,p,q,r,s,t,rfl,N.sel [1,2],a,u,x,y,d,e⟩
 ·refine gd 7 (bC 18 h ?_ ?_)<;>intro _ h
  ·refine gd 2<|rB [] z (λO C=>ah 6 [0,1,2,0,3,2,4,4,5,1] C ?_);obtain⟨⟨bF,bG,S,bH,bI,bJ⟩,I,h⟩:=ob h;obtain⟨J,D,bK,ae,bL,af,ai⟩:=(a).row.at_ (aaA I).1;obtain⟨bM,bP,bQ,bR,rfl,bS,bT,bU⟩:=aak.open ai;refine kGl 52 6 6 rfl ae I C<|kK 7 (pp J<|D+A.toNat*6+2) rfl (λw=>ae6 (o':=D+A.toNat*6+2) ara rfl rfl) C<|tT 8 (iI S) [] rfl (fq [0,1,2] O) (λw hF=>acY (v:=iI S) Tya3 rfl<|hF.cell<|kr.cell<|af 2 _ rfl)<|ah 1 [9] C<|aD<|gx 4 ?_;cases oj h o;exact rt1 ⟨K,f,j,l,m,p,q,r,s,t,rfl,O.sel [1,2],a,u,x,y,d,e⟩
  ·refine gd 7 (bC 29 h ?_ ?_)<;>intro _ h
   ·refine gd 9 ?_;cases oj h o;exact rt1 ⟨K,f,j,l,m,p,q,r,s,t,rfl,z.sel [1,2],a,u,x,y,d,e⟩
   ·refine gd 7 (bC 31 h ?_ ?_)<;>intro _ h
    ·refine gd 9 ?_;cases oj h o;exact rt1 ⟨K,f,j,l,m,p,q,r,s,t,rfl,z.sel [1,2],a,u,x,y,d,e⟩
    ·refine gd 7 (bC 33 h ?_ ?_)<;>intro _ h
     ·refine gd 9 ?_;cases oj h o;exact rt1 ⟨K,f,j,l,m,p,q,r,s,t,rfl,z.sel [1,2],a,u,x,y,d,e⟩
     ·refine gd 7 (bC 35 h ?_ ?_)<;>intro _ h
      ·refine gd 9 ?_;cases oj h o;exact rt1 ⟨K,f,j,l,m,p,q,r,s,t,rfl,z.sel [1,2],a,u,x,y,d,e⟩
      ·refine gd 10 ?_;cases oj h o;exact rt1 ⟨K,f,j,l,m,p,q,r,s,t,rfl,z.sel [1,2],a,u,x,y,d,e⟩
theorem as6(k:Nat)(F:acC)(IH50:adU F.f50)(IH74:adX F.f74)(IH110:acT F.f110):adU (av3 k F):=by
 intro K wi g bs br ac ad ae af ai aj ak al am an ao ap aq ar au av aw ax C bh bi bj bk bm bn bo bp bq bu bv h hG ay az aA aB aG aH hbr X Y;obtain⟨r_,n,h⟩:=rz h;refine en 24 Tryz.func50 rfl ?_;unfold av3 at h;refine gd 6<|wl Y (λj m g_=>∃Z a b,∃(f:Nat),∃x i l y z o p D G I A q r d s t u J,g_=b.length/\j Z [0,1] [(4,iI (f:Int))]/\KH.sub K a/\m a [] [.box bs g #[sl i x l,.string y,sl o z p,iI D,.bool G,iI I,sl q A r,sl s d t,.bool J] 90,eW br s d t 3 1 u]/\C.drop f=b/\tF a i l x/\y.size<=mB/\tP a o p z/\tS a q r A/\Reps (RInt .i64) 1 d u/\d.length*8<=mB/\aiD k F b f x y z D G I A d J=some r_) C.length ?_ ?_
 ·exact⟨_,K,C,0,ac,ad,ae,af,ai,aj,ak,al,am,an,ao,ap,aq,ar,au,av,aw,ax,rfl,fK,kr,Y,List.drop_zero,ay,az,aA,aB,aG,aH,h⟩
 ·rintro _ _ bw⟨Z,a,b,f,x,i,l,y,z,o,p,D,G,I,A,q,r,d,s,t,u,J,rfl,rfl,B,e,v,N,O,S,U,V,W,h⟩;rcases b with _|⟨⟨bx,bz,bB,bD,bE,bF,bG,bH,bI,bJ,bK⟩,b⟩
  ·refine gd 6<|cNl v<|go 14 ?_;cases oj h n;exact end0 rfl ⟨a,i,l,o,p,q,r,s,t,u,rfl,e,N,O,S,U,V,W⟩
  ·refine gd 6 (cCl v<|gP 14 [8,1] e<|bC 15 h ?_ ?_)<;>intro _ h
   ·refine gd 9<|eN e (ms X B) v aag.open ?_;rintro bL bM bP bQ bR aI⟨bS,bT,bU,bV,bW,bX,bY,bZ,b0,b1,rfl,b2,b3,b4,b5,b6,b7,b8⟩;refine cB h (λ_ aK=>IH74 aK (hG.mono B) N O S U V W (Nat.le_trans hbr e.size) aI<|pt e) ?_;rintro⟨aL,⟨aM,aN,aP,aT,aU,aV⟩,aW,aX⟩ _ b9⟨aY,aZ,a0,a2,a3,a4,a5,a6,a7,a8,rfl,ab,a9,ba,bb,bd,be,bf⟩ h;have bg:=ca ab e;exact go 5<|iCl v ((ms X B).len)<|go 3 ⟨_,Nat.lt_succ_self _,_,aY,b,f+1,aL,aZ,a0,aM,aN,a2,a3,aP,aT,aU,aV,a4,a5,aW,a6,a7,a8,aX,rfl,fK,B.trans ab.sub,bg,aac v,a9,ba,bb,bd,be,bf,h⟩
   ·refine gd 5 ?_;cases oj h n;exact end0 rfl ⟨a,i,l,o,p,q,r,s,t,u,rfl,e,N,O,S,U,V,W⟩
theorem atF(k:Nat)(F:acC)(IH50:adU F.f50)(IH74:adX F.f74)(IH110:acT F.f110):adX (ao7 k F):=by
 intro K wi g bs br aA aB aG aH aI aK aL aM aN aP aT aU aV l D G aW aX fM kW kX kY kZ k0 k1 k2 k3 k4 k5 h hG fN fO fP fQ fS fT hbr fU fV;obtain⟨r_,n,h⟩:=rz h;obtain⟨s,y,z,A,p,B,q,x,t,u,f⟩:=fM;obtain⟨I,J,N,O,S,U,V,W,X,Y,rfl,cU,cV,bq,bL,cc,ce,bM⟩:=aag.open fU;refine en 134 Tryz.func74 rfl ?_;unfold ao7 at h;refine gI 9 [0,0,11] [] fV (λfW es=>?_);have et:=p120 es;refine cB h (λ_ fX=>(auM k) fX (hG.mono kr) fN fO fP fQ fS fT (Nat.le_trans hbr es.size) (aag.intro cU cV bq bL cc ce bM)<|pt et) ?_;rintro⟨⟨fY,⟨fZ,f0,f1,f2,f4,f5⟩,f6,f7⟩,eu,ew⟩ _ k6⟨ex,ga,gb,gc,ge,gf,gg,gh,gi,gj,k7,k8,rfl,e,gk,gl,gn,gp,gq,gr,gs⟩ h;have ey:=ca e et;refine go 14<|wl ey (λj m g_=>∃ez Z be,∃(bf:Nat),∃af aq ar ai aj au av al am an ak aw ax C ac ad ay bg,g_=be.length/\j ez [0,3,4,5] [(6,iI (bf:Int))]/\KH.sub ex Z/\m Z [] [.box bs g #[sl aq af ar,.string ai,sl au aj av,iI al,.bool am,iI an,sl aw ak ax,sl ac C ad,.bool bg] 90,.box (zz wi) (zz wi) (aS s y z A p B I q J N x O S t U V u W X f Y) 62,eW br ac C ad 3 1 ay]/\q.drop bf=be/\tF Z aq ar af/\ai.size<=mB/\tP Z au av aj/\tS Z aw ax ak/\Reps (RInt .i64) 1 C ay/\C.length*8<=mB/\ad6 k F s y z A p B q x t u f eu ew be bf af ai aj al am an ak C bg=some r_) q.length ?_ ?_
 ·exact⟨_,ex,q,0,fY,ga,gb,fZ,f0,gc,ge,f1,f2,f4,f5,gf,gg,f6,gh,gi,gj,f7,rfl,fK,kr,ey.sel [0,2,1],List.drop_zero,gk,gl,gn,gp,gq,gr,h⟩
 ·rintro _ _ gt⟨ez,Z,be,bf,af,aq,ar,ai,aj,au,av,al,am,an,ak,aw,ax,C,ac,ad,ay,bg,rfl,rfl,a,bh,bP,bu,bQ,bR,bS,bv,bw,h⟩;rcases be with _|⟨⟨k9,la,lc,ld,lf⟩,be⟩
  ·refine gD 7 [6,2] bh<|cNl bP<|go 8<|wk bh (λj m=>∃eC cf,j eC [0,3] []/\m Z [] [.box bs g #[sl aq af ar,.string ai,sl au aj av,iI al,.bool am,iI an,sl aw ak ax,sl ac C ad,.bool cf] 90,.box (zz wi) (zz wi) (aS s y z A p B I q J N x O S t U V u W X f Y) 62,eW br ac C ad 3 1 ay]/\alb k F s y z A p B q x t u f af ai aj al am an ak C cf=some r_) ?_ ?_
   ·refine wk bh (λj m=>∃eD dN,j eD [0,3] [(61,.bool dN)]/\m Z [] [.box bs g #[sl aq af ar,.string ai,sl au aj av,iI al,.bool am,iI an,sl aw ak ax,sl ac C ad,.bool bg] 90,.box (zz wi) (zz wi) (aS s y z A p B I q J N x O S t U V u W X f Y) 62,eW br ac C ad 3 1 ay]/\al9 k F s y z A p B q x t u f af ai aj al am an ak C bg dN=some r_) ?_ ?_
    ·refine rB [] bh (λdO bT=>ah 4 [0,0,1,2,2,3] bT<|bA 50 h ?_ ?_)<;>intro _ h
     ·refine ah 6 [4,5,6,0,7,1,8,4,9,2] bT ?_;obtain⟨⟨lg,lh,dP,li,lj,lk⟩,dQ,h⟩:=ob h;obtain⟨dR,cW,ll,gu,lm,gv,gw⟩:=(bu).row.at_ (aaA dQ).1;obtain⟨ln,lo,lp,lq,rfl,lr,ls,lu⟩:=aak.open gw;exact tkPG (i:=10) (d:=50) (v:=pp dR (cW+p.toNat*6)) (L':=(lb 15 2047)) rfl (by kernel_rfl) (by kernel_rfl) (λ_ _ d _ _ h=>by cases d<;>exact h) rfl rfl (λw=>ahD (b:=dR) (o:=cW) (i:=p) atn asx rfl gu rfl (aaA dQ).2.1 (aaA dQ).2.2) (alr bT) rfl (tkPG (i:=11) (d:=50) (v:=pp dR (cW+p.toNat*6+2)) (L':=(lb 15 4095)) rfl (by kernel_rfl) (by kernel_rfl) (λ_ _ d _ _ h=>by cases d<;>exact h) rfl rfl (λw=>ae6 (o':=cW+p.toNat*6+2) ara rfl rfl) (alr bT) rfl (tkFG (i:=12) (d:=50) (v:=iI dP) (ps:=[]) (L':=(lb 15 8191)) rfl (by kernel_rfl) (by kernel_rfl) (by kernel_rfl) (by kernel_rfl) (λ_ _ d _ _ h=>by cases d<;>exact h) rfl rfl (fq [0,1,2] dO) (λw hF=>acY (v:=iI dP) Tya3 rfl<|hF.cell<|kr.cell<|gv 2 _ rfl) rfl (ah 2 [13,14] bT<|aD<|gx 1 ⟨_,decide<|dP>1,fK,dO,h⟩)))
     ·exact ah 11 [4,5,6,7,8,9,10,11,12,13,14] bT<|aD<|gx 1 ⟨_,false,fK,dO,h⟩
    ·rintro _ lv⟨eD,dN,rfl,eF,h⟩;refine bC 61 h ?_ ?_<;>intro _ h
     ·exact gI 8 [8,0] [] eF (λlw gy=>⟨_,true,fK,gy,h⟩)
     ·exact gd 3 ⟨_,bg,fK,eF,h⟩
   ·rintro _ gz⟨eC,cf,rfl,bi,h⟩;refine gD 9 [8,1] bi (bC 68 h ?_ ?_)<;>intro _ h
    ·refine gd 3 ?_;cases oj h n;exact ret0 rfl ⟨Z,aq,ar,au,av,aw,ax,ac,ad,ay,rfl,bi.sel [0,2],bu,bQ,bR,bS,bv,bw⟩
    ·refine gd 3<|wk bi (λj m=>∃eH ae a7 bx bz a8 a9 bB bD bj bk bm ba bE bF ab aY aZ bG bn,j eH [0,3] []/\KH.sub Z ae/\m ae [] [.box bs g #[sl bx a7 bz,.string a8,sl bB a9 bD,iI bj,.bool bk,iI bm,sl bE ba bF,sl aY ab aZ,.bool bn] 90,.box (zz wi) (zz wi) (aS s y z A p B I q J N x O S t U V u W X f Y) 62,eW br aY ab aZ 3 1 bG]/\tF ae bx bz a7/\a8.size<=mB/\tP ae bB bD a9/\tS ae bE bF ba/\Reps (RInt .i64) 1 ab bG/\ab.length*8<=mB/\aia k F s y z A p B q x t u f a7 a8 a9 bj bk bm ba ab bn=some r_) ?_ ?_
     ·refine gD 7 [0,2] bi (bC 71 h ?_ ?_)<;>intro _ h
      ·refine gD 5 [7,2] bi ?_;have eI:SR K Z wi gz [.box bs g #[sl aB aA aG,.string aH,sl aK aI aL,iI aM,.bool aN,iI aP,sl aU aT aV,sl D l G,.bool aX] 90,eW br D l G 3 1 aW] [.box bs g #[sl aq af ar,.string ai,sl au aj av,iI al,.bool am,iI an,sl aw ak ax,sl ac C ad,.bool cf] 90,eW br ac C ad 3 1 ay,.box (zz wi) (zz wi) (aS s y z A p B I q J N x O S t U V u W X f Y) 62]:=bi.sel [0,2,1];refine cB h (λ_ gA=>IH50 gA (hG.mono<|e.sub.trans a) bu bQ bR bS bv bw (Nat.le_trans hbr bi.size) (ms bL<|e.sub.trans a)<|pt eI) ?_;rintro⟨gB,⟨gF,gG,gH,gJ,gK,gL⟩,gM,gN⟩ _ lx⟨gQ,gT,gU,gV,gW,gZ,g0,g1,g2,g3,rfl,eJ,g4,g5,g6,g7,g8,g9⟩ h;have ha:=ca eJ eI;exact go 2 ⟨_,gQ,gB,gT,gU,gF,gG,gV,gW,gH,gJ,gK,gL,gZ,g0,gM,g1,g2,g3,gN,fK,eJ.sub,ha.sel [0,2,1],g4,g5,g6,g7,g8,g9,h⟩
      ·exact gd 3 ⟨_,Z,af,aq,ar,ai,aj,au,av,al,am,an,ak,aw,ax,C,ac,ad,ay,cf,fK,kr,bi,bu,bQ,bR,bS,bv,bw,h⟩
     ·rintro _ ly⟨eH,ae,a7,bx,bz,a8,a9,bB,bD,bj,bk,bm,ba,bE,bF,ab,aY,aZ,bG,bn,rfl,r,bU,dS,dT,dU,dV,dW,dX,h⟩;refine wk bU (λj m=>∃eL ao bV ch ci bW bX cj ck cl cm cn bY co cq az bZ b0 cr cs,j eL [0,3] []/\KH.sub ae ao/\m ao [] [.box bs g #[sl ch bV ci,.string bW,sl cj bX ck,iI cl,.bool cm,iI cn,sl co bY cq,sl bZ az b0,.bool cs] 90,.box (zz wi) (zz wi) (aS s y z A p B I q J N x O S t U V u W X f Y) 62,eW br bZ az b0 3 1 cr]/\tF ao ch ci bV/\bW.size<=mB/\tP ao cj ck bX/\tS ao co cq bY/\Reps (RInt .i64) 1 az cr/\az.length*8<=mB/\agO k F s x t u f bV bW bX cl cm cn bY az cs=some r_) ?_ ?_
      ·refine wk bU (λj m=>∃eM dY,j eM [0,3] [(83,.bool dY)]/\m ae [] [.box bs g #[sl bx a7 bz,.string a8,sl bB a9 bD,iI bj,.bool bk,iI bm,sl bE ba bF,sl aY ab aZ,.bool bn] 90,.box (zz wi) (zz wi) (aS s y z A p B I q J N x O S t U V u W X f Y) 62,eW br aY ab aZ 3 1 bG]/\alj k F s y z A p B q x t u f a7 a8 a9 bj bk bm ba ab bn dY=some r_) ?_ ?_
       ·refine gD 5 [1,2] bU (bO 79 h ?_ ?_)<;>intro _ h
        ·exact gP 9 [0,2] bU ⟨_,s != 2,fK,bU,h⟩
        ·exact go 6 ⟨_,false,fK,bU,h⟩
       ·rintro _ eO⟨eM,dY,rfl,dZ,h⟩;refine bC 83 h ?_ ?_<;>intro _ h
        ·refine gd 1<|wk dZ (λj m=>∃eP a0 ct cY cZ cu cw c2 c4 c5 c7 c8 cx da db a2 cy cz dc dd,j eP [0,3] []/\KH.sub ae a0/\m a0 [] [.box bs g #[sl cY ct cZ,.string cu,sl c2 cw c4,iI c5,.bool c7,iI c8,sl da cx db,sl cy a2 cz,.bool dd] 90,.box (zz wi) (zz wi) (aS s y z A p B I q J N x O S t U V u W X f Y) 62,eW br cy a2 cz 3 1 dc]/\tF a0 cY cZ ct/\cu.size<=mB/\tP a0 c2 c4 cw/\tS a0 da db cx/\Reps (RInt .i64) 1 a2 dc/\a2.length*8<=mB/\anY k F s y z A p B q x t u f ct cu cw c5 c7 c8 cx a2 dd=some r_) ?_ ?_
         ·refine rB [5,6] dZ (λb1 hb=>ah 4 [0,1,2,3,4,0,1,11] hb<|an2 (i:=2) (j:=5) ?_ ?_)
          ·refine opQ (i:=2) rfl<|gP 3 [2] b1<|wB (fq [0,1,2] b1) (λlz=>aQ 5 rfl ?_);have eQ:SR K ae wi eO.drew [.box bs g #[sl aB aA aG,.string aH,sl aK aI aL,iI aM,.bool aN,iI aP,sl aU aT aV,sl D l G,.bool aX] 90,eW br D l G 3 1 aW] [.box bs g #[sl bx a7 bz,.string a8,sl bB a9 bD,iI bj,.bool bk,iI bm,sl bE ba bF,sl aY ab aZ,.bool bn] 90,eW br aY ab aZ 3 1 bG,.box (zz wi) (zz wi) (aS s y z A p B I q J N x O S t U V u W X f Y) 62]:=b1.sel [0,2,1];refine cB h (λ_ hc=>(amq k) hc (hG.mono<|(e.sub.trans a).trans r) dS dT dU dV dW dX (Nat.le_trans hbr b1.size) (aag.intro cU cV (me bq<|(e.sub.trans a).trans r) (ms bL<|(e.sub.trans a).trans r) (ms cc<|(e.sub.trans a).trans r) (ms ce<|(e.sub.trans a).trans r)<|mc bM<|(e.sub.trans a).trans r)<|pt eQ) ?_;rintro⟨⟨hd,⟨he,hf,hg,hh,hi,hj⟩,hk,hl⟩,hm⟩ _ lB⟨lE,lF,lG,lH,lI,lJ,lK,lL,lM,lP,rfl,d0,hn,ho,hp,hq,hr,hs⟩ h;have d1:=ca d0 eQ;refine go 2 ⟨hE 5,aQ 6 rfl<|cB h (λ_ ht=>(anO k) ht (hG.mono<|((e.sub.trans a).trans r).trans d0.sub) hn ho hp hq hr hs (Nat.le_trans hbr d1.size)<|pt d1) ?_⟩;rintro⟨d2,⟨d3,d4,d5,d6,d7,d8⟩,d9,ea⟩ _ lQ⟨hu,hv,hw,hx,hy,hz,hA,hB,hC,hD,rfl,eR,hH,hI,hJ,hK,hL,hM⟩ h;have hN:=ca eR d1;exact go 2 ⟨hE 6,aD<|gx 1 ⟨_,hu,d2,hv,hw,d3,d4,hx,hy,d5,d6,d7,d8,hz,hA,d9,hB,hC,hD,ea,fK,d0.sub.trans eR.sub,hN.sel [0,2,1],hH,hI,hJ,hK,hL,hM,h⟩⟩
          ·refine opQ (i:=5) rfl ?_;have eS:SR K ae wi eO.drew [.box bs g #[sl aB aA aG,.string aH,sl aK aI aL,iI aM,.bool aN,iI aP,sl aU aT aV,sl D l G,.bool aX] 90,eW br D l G 3 1 aW] [.box bs g #[sl bx a7 bz,.string a8,sl bB a9 bD,iI bj,.bool bk,iI bm,sl bE ba bF,sl aY ab aZ,.bool bn] 90,eW br aY ab aZ 3 1 bG,.box (zz wi) (zz wi) (aS s y z A p B I q J N x O S t U V u W X f Y) 62]:=b1.sel [0,2,1];refine cB h (λ_ hO=>(amq k) hO (hG.mono<|(e.sub.trans a).trans r) dS dT dU dV dW dX (Nat.le_trans hbr b1.size) (aag.intro cU cV (me bq<|(e.sub.trans a).trans r) (ms bL<|(e.sub.trans a).trans r) (ms cc<|(e.sub.trans a).trans r) (ms ce<|(e.sub.trans a).trans r)<|mc bM<|(e.sub.trans a).trans r)<|pt eS) ?_;rintro⟨⟨hd,⟨he,hf,hg,hh,hi,hj⟩,hk,hl⟩,hm⟩ _ lR⟨lT,lU,lV,lW,lY,lZ,l0,l2,l3,l4,rfl,ec,hP,hQ,hR,hS,hT,hU⟩ h;have de:=ca ec eS;refine go 2 ⟨hE 5,aQ 2 rfl<|gP 3 [3] de ⟨hE 5,aQ 6 rfl<|cB h (λ_ hV=>(anO k) hV (hG.mono<|((e.sub.trans a).trans r).trans ec.sub) hP hQ hR hS hT hU (Nat.le_trans hbr de.size)<|pt de) ?_⟩⟩;rintro⟨d2,⟨d3,d4,d5,d6,d7,d8⟩,d9,ea⟩ _ l5⟨hW,hX,hY,hZ,h0,h1,h2,h3,h4,h5,rfl,eT,h6,h7,h8,h9,ia,ib⟩ h;have ic:=ca eT de;exact go 2 ⟨hE 6,aD<|gx 1 ⟨_,hW,d2,hX,hY,d3,d4,hZ,h0,d5,d6,d7,d8,h1,h2,d9,h3,h4,h5,ea,fK,ec.sub.trans eT.sub,ic.sel [0,2,1],h6,h7,h8,h9,ia,ib,h⟩⟩
         ·rintro _ id⟨eP,a0,ct,cY,cZ,cu,cw,c2,c4,c5,c7,c8,cx,da,db,a2,cy,cz,dc,dd,rfl,bo,ed,ie,ig,ih,ii,ij,ik,h⟩;refine gD 4 [0,1,11] ed ?_;have eU:SR K a0 wi id [.box bs g #[sl aB aA aG,.string aH,sl aK aI aL,iI aM,.bool aN,iI aP,sl aU aT aV,sl D l G,.bool aX] 90,eW br D l G 3 1 aW] [.box bs g #[sl cY ct cZ,.string cu,sl c2 cw c4,iI c5,.bool c7,iI c8,sl da cx db,sl cy a2 cz,.bool dd] 90,eW br cy a2 cz 3 1 dc,.box (zz wi) (zz wi) (aS s y z A p B I q J N x O S t U V u W X f Y) 62]:=ed.sel [0,2,1];refine cB h (λ_ il=>(amq k) il (hG.mono<|((e.sub.trans a).trans r).trans bo) ie ig ih ii ij ik (Nat.le_trans hbr ed.size) (aag.intro cU cV (me bq<|((e.sub.trans a).trans r).trans bo) (ms bL<|((e.sub.trans a).trans r).trans bo) (ms cc<|((e.sub.trans a).trans r).trans bo) (ms ce<|((e.sub.trans a).trans r).trans bo)<|mc bM<|((e.sub.trans a).trans r).trans bo)<|pt eU) ?_;rintro⟨⟨eV,⟨eX,eY,eZ,e0,e1,e3⟩,e4,im⟩,l6⟩ _ l7⟨e5,e6,e7,e8,e9,fa,fb,fc,fe,ff,rfl,ee,fg,fh,fi,fj,fk,fl⟩ h;have fm:=ca ee eU;refine go 3 (bC 94 h ?_ ?_)<;>intro _ h
          ·exact gI 8 [8,0] [] fm (λl8 io=>⟨_,e5,eV,e6,e7,eX,eY,e8,e9,eZ,e0,e1,e3,fa,fb,e4,fc,fe,ff,true,fK,bo.trans ee.sub,io.sel [0,2,1],fg,fh,fi,fj,fk,fl,h⟩)
          ·exact gd 3 ⟨_,e5,eV,e6,e7,eX,eY,e8,e9,eZ,e0,e1,e3,fa,fb,e4,fc,fe,ff,im,fK,bo.trans ee.sub,fm.sel [0,2,1],fg,fh,fi,fj,fk,fl,h⟩
        ·exact gd 3 ⟨_,ae,a7,bx,bz,a8,a9,bB,bD,bj,bk,bm,ba,bE,bF,ab,aY,aZ,bG,bn,fK,kr,dZ,dS,dT,dU,dV,dW,dX,h⟩
      ·rintro _ ip⟨eL,ao,bV,ch,ci,bW,bX,cj,ck,cl,cm,cn,bY,co,cq,az,bZ,b0,cr,cs,rfl,bb,b2,fn,fo,fp,fs,ft,fu,h⟩;refine wk b2 (λj m=>∃fv a3 cA df dg cC cD dh di dj dk dl cG dm dn a4 cH cI dp dq,j fv [0,3] []/\KH.sub ao a3/\m a3 [] [.box bs g #[sl df cA dg,.string cC,sl dh cD di,iI dj,.bool dk,iI dl,sl dm cG dn,sl cH a4 cI,.bool dq] 90,.box (zz wi) (zz wi) (aS s y z A p B I q J N x O S t U V u W X f Y) 62,eW br cH a4 cI 3 1 dp]/\tF a3 df dg cA/\cC.size<=mB/\tP a3 dh di cD/\tS a3 dm dn cG/\Reps (RInt .i64) 1 a4 dp/\a4.length*8<=mB/\ahI k F t u f cA cC cD dj dk dl cG a4 dq=some r_) ?_ ?_
       ·refine gD 7 [0,2] b2 (bC 100 h ?_ ?_)<;>intro _ h
        ·refine gD 5 [7,2] b2 ?_;have fx:SR K ao wi ip [.box bs g #[sl aB aA aG,.string aH,sl aK aI aL,iI aM,.bool aN,iI aP,sl aU aT aV,sl D l G,.bool aX] 90,eW br D l G 3 1 aW] [.box bs g #[sl ch bV ci,.string bW,sl cj bX ck,iI cl,.bool cm,iI cn,sl co bY cq,sl bZ az b0,.bool cs] 90,eW br bZ az b0 3 1 cr,.box (zz wi) (zz wi) (aS s y z A p B I q J N x O S t U V u W X f Y) 62]:=b2.sel [0,2,1];refine cB h (λ_ iq=>IH50 iq (hG.mono<|((e.sub.trans a).trans r).trans bb) fn fo fp fs ft fu (Nat.le_trans hbr b2.size) (ms bL<|((e.sub.trans a).trans r).trans bb)<|pt fx) ?_;rintro⟨ir,⟨it,iu,iv,iw,ix,iy⟩,iz,iA⟩ _ l9⟨iB,iC,iD,iE,iF,iG,iH,iJ,iK,iL,rfl,fy,iM,iN,iO,iP,iQ,iR⟩ h;have iS:=ca fy fx;exact go 2 ⟨_,iB,ir,iC,iD,it,iu,iE,iF,iv,iw,ix,iy,iG,iH,iz,iJ,iK,iL,iA,fK,fy.sub,iS.sel [0,2,1],iM,iN,iO,iP,iQ,iR,h⟩
        ·exact gd 3 ⟨_,ao,bV,ch,ci,bW,bX,cj,ck,cl,cm,cn,bY,co,cq,az,bZ,b0,cr,cs,fK,kr,b2,fn,fo,fp,fs,ft,fu,h⟩
       ·rintro _ iT⟨fv,a3,cA,df,dg,cC,cD,dh,di,dj,dk,dl,cG,dm,dn,a4,cH,cI,dp,dq,rfl,bH,ef,iU,iV,iW,iX,iY,iZ,h⟩;refine gD 5 [8,2] ef ?_;have fz:SR K a3 wi iT [.box bs g #[sl aB aA aG,.string aH,sl aK aI aL,iI aM,.bool aN,iI aP,sl aU aT aV,sl D l G,.bool aX] 90,eW br D l G 3 1 aW] [.box bs g #[sl df cA dg,.string cC,sl dh cD di,iI dj,.bool dk,iI dl,sl dm cG dn,sl cH a4 cI,.bool dq] 90,eW br cH a4 cI 3 1 dp,.box (zz wi) (zz wi) (aS s y z A p B I q J N x O S t U V u W X f Y) 62]:=ef.sel [0,2,1];refine cB h (λ_ i0=>IH50 i0 (hG.mono<|(((e.sub.trans a).trans r).trans bb).trans bH) iU iV iW iX iY iZ (Nat.le_trans hbr ef.size) (ms cc<|(((e.sub.trans a).trans r).trans bb).trans bH)<|pt fz) ?_;rintro⟨ma,⟨mb,md,mg,mh,mi,mj⟩,mk,ml⟩ _ mm⟨mn,mo,mq,mr,mt,mu,mw,mx,my,mz,rfl,b3,i1,i2,i3,i4,i5,i6⟩ h;have dr:=ca b3 fz;refine gP 7 [9,3] dr<|cB h (λ_ i7=>IH50 i7 (hG.mono<|((((e.sub.trans a).trans r).trans bb).trans bH).trans b3.sub) i1 i2 i3 i4 i5 i6 (Nat.le_trans hbr dr.size) (ms ce<|((((e.sub.trans a).trans r).trans bb).trans bH).trans b3.sub)<|pt dr) ?_;rintro⟨i8,⟨i9,ja,jb,jc,jd,je⟩,jf,jg⟩ _ mA⟨fA,jh,ji,jj,jk,jl,jm,jn,jo,jp,rfl,ds,jq,jr,js,jt,ju,jv⟩ h;have fB:=ca ds dr;refine go 8<|wl fB (λj m g_=>∃fC ap bI,∃(cJ:Nat),∃cK b4 b5 cL cM b6 b7 dt du dv cN b8 b9 a5 bJ bK cb dw,g_=bI.length/\j fC [0,3] [(7,iI (cJ:Int))]/\KH.sub fA ap/\m ap [] [.box bs g #[sl b4 cK b5,.string cL,sl b6 cM b7,iI dt,.bool du,iI dv,sl b8 cN b9,sl bJ a5 bK,.bool dw] 90,.box (zz wi) (zz wi) (aS s y z A p B I q J N x O S t U V u W X f Y) 62,eW br bJ a5 bK 3 1 cb]/\f.drop cJ=bI/\tF ap b4 b5 cK/\cL.size<=mB/\tP ap b6 b7 cM/\tS ap b8 b9 cN/\Reps (RInt .i64) 1 a5 cb/\a5.length*8<=mB/\ah4 k F bI cJ cK cL cM dt du dv cN a5 dw=some r_) f.length ?_ ?_
        ·exact⟨_,fA,f,0,i8,jh,ji,i9,ja,jj,jk,jb,jc,jd,je,jl,jm,jf,jn,jo,jp,jg,rfl,fK,kr,fB.sel [0,2,1],List.drop_zero,jq,jr,js,jt,ju,jv,h⟩
        ·rintro _ _ jw⟨fC,ap,bI,cJ,cK,b4,b5,cL,cM,b6,b7,dt,du,dv,cN,b8,b9,a5,bJ,bK,cb,dw,rfl,rfl,dx,bd,cO,eg,eh,ei,ej,ek,el,h⟩;rcases bI with _|⟨⟨mC,mD,mE,mF,mG⟩,bI⟩
         ·refine gD 7 [10,2] bd<|cNl cO<|go 14 ?_;cases oj h n;exact end0 rfl ⟨ap,b4,b5,b6,b7,b8,b9,bJ,bK,cb,rfl,bd.sel [0,2],eg,eh,ei,ej,ek,el⟩
         ·refine gD 7 [10,2] bd (cCl cO<|gP 14 [8,1] bd<|bC 124 h ?_ ?_)<;>intro _ h
          ·refine gD 10 [10,2] bd<|eN bd (mc bM<|((((((e.sub.trans a).trans r).trans bb).trans bH).trans b3.sub).trans ds.sub).trans dx) cO aaq.open ?_;rintro mH mJ mK mL mM jx⟨mN,mO,mP,mQ,rfl,mR,mS,mT⟩;have fD:SR K ap wi jw [.box bs g #[sl aB aA aG,.string aH,sl aK aI aL,iI aM,.bool aN,iI aP,sl aU aT aV,sl D l G,.bool aX] 90,eW br D l G 3 1 aW] [.box bs g #[sl b4 cK b5,.string cL,sl b6 cM b7,iI dt,.bool du,iI dv,sl b8 cN b9,sl bJ a5 bK,.bool dw] 90,eW br bJ a5 bK 3 1 cb,.box (zz wi) (zz wi) (aS s y z A p B I q J N x O S t U V u W X f Y) 62]:=bd.sel [0,2,1];refine cB h (λ_ jy=>IH110 jy (hG.mono<|((((((e.sub.trans a).trans r).trans bb).trans bH).trans b3.sub).trans ds.sub).trans dx) eg eh ei ej ek el (Nat.le_trans hbr bd.size) jx<|pt fD) ?_;rintro⟨jz,⟨jA,jB,jC,jD,jE,jF⟩,jG,jH⟩ _ mU⟨jI,jK,jL,jM,jN,jO,jP,jQ,jR,jS,rfl,fE,jT,jU,jV,jW,jX,jY⟩ h;have jZ:=ca fE fD;exact go 5<|iCl cO ((mc bM<|((((((e.sub.trans a).trans r).trans bb).trans bH).trans b3.sub).trans ds.sub).trans dx).len)<|go 3 ⟨_,Nat.lt_succ_self _,_,jI,bI,cJ+1,jz,jK,jL,jA,jB,jM,jN,jC,jD,jE,jF,jO,jP,jG,jQ,jR,jS,jH,rfl,fK,dx.trans fE.sub,jZ.sel [0,2,1],aac cO,jT,jU,jV,jW,jX,jY,h⟩
          ·refine gd 5 ?_;cases oj h n;exact end0 rfl ⟨ap,b4,b5,b6,b7,b8,b9,bJ,bK,cb,rfl,bd.sel [0,2],eg,eh,ei,ej,ek,el⟩
  ·refine gD 7 [6,2] bh<|cCl bP<|go 5<|wk bh (λj m=>∃fF a6 cP dy dz cQ cR dA dB dC dD dE cS dF dG bp dH dI dJ dK,j fF [0,3,4,5,6] []/\KH.sub Z a6/\m a6 [] [.box bs g #[sl dy cP dz,.string cQ,sl dA cR dB,iI dC,.bool dD,iI dE,sl dF cS dG,sl dH bp dI,.bool dK] 90,.box (zz wi) (zz wi) (aS s y z A p B I q J N x O S t U V u W X f Y) 62,eW br dH bp dI 3 1 dJ]/\tF a6 dy dz cP/\cQ.size<=mB/\tP a6 dA dB cR/\tS a6 dF dG cS/\Reps (RInt .i64) 1 bp dJ/\bp.length*8<=mB/\anI k F bf cP cQ cR dC dD dE cS bp dK (ad6 k F s y z A p B q x t u f eu ew be)=some r_) ?_ ?_
   ·refine gd 6 (bC 21 h ?_ ?_)<;>intro _ h
    ·refine gd 1<|rB [10] bh (λem dL=>ah 4 [0,1,6,2,2,3] dL<|eA 4 5 rfl rfl dL (me bq<|e.sub.trans a) bP aai.open ?_);rintro mV mW mX mY mZ j0⟨m0,m4,rfl,m5,m6⟩;refine ah 2 [6,7] dL ?_;obtain⟨fG,eo,h⟩:=ob h;obtain⟨fH,fI,m7,j1,m8,j2,j3⟩:=((gs.mono a (λ_ _ h=>h))).row.at_ (aaA eo).1;obtain rfl:=j3;refine kGl 3 1 8 rfl j1 eo dL<|tT 9 (iI fG) [[10,9]] rfl (fq [0,1,2] em) (λw hF=>acY (v:=iI fG) Tya3 rfl<|hF.cell<|kr.cell<|j2 0 _ rfl)<|aQ 10 rfl ?_;have fJ:SR K Z wi gt.drew [.box bs g #[sl aB aA aG,.string aH,sl aK aI aL,iI aM,.bool aN,iI aP,sl aU aT aV,sl D l G,.bool aX] 90,eW br D l G 3 1 aW] [.box bs g #[sl aq af ar,.string ai,sl au aj av,iI al,.bool am,iI an,sl aw ak ax,sl ac C ad,.bool bg] 90,eW br ac C ad 3 1 ay,.box (zz wi) (zz wi) (aS s y z A p B I q J N x O S t U V u W X f Y) 62]:=em.sel [0,2,1];refine cB h (λ_ j4=>(arC k) j4 (hG.mono<|e.sub.trans a) bu bQ bR bS bv bw (Nat.le_trans hbr em.size) j0<|pt fJ) ?_;rintro⟨j5,⟨j6,j7,j8,j9,ka,kb⟩,kc,kd⟩ _ m9⟨ke,kf,kg,kh,ki,kj,kk,kl,km,kn,rfl,fL,ko,kq,ks,kt,ku,kv⟩ h;have kw:=ca fL fJ;exact go 2 ⟨hE 10,aD<|gx 2 ⟨_,ke,j5,kf,kg,j6,j7,kh,ki,j8,j9,ka,kb,kj,kk,kc,kl,km,kn,kd,fK,fL.sub,kw.sel [0,2,1],ko,kq,ks,kt,ku,kv,h⟩⟩
    ·refine gd 2<|rB [] bh (λdM ep=>ah 3 [0,6,1,2,2] ep<|eA 3 4 rfl rfl ep (me bq<|e.sub.trans a) bP aai.open ?_);rintro na nb nc nd ne kx⟨nf,ng,rfl,nh,ni⟩;refine ah 4 [5,6,7,7,8,1] ep<|aQ 9 rfl<|cB h (λ_ ky=>(ao1 k) ky (hG.mono<|(e.sub.trans a).trans<|KW.sub dM.le) (aai.mono (KW.sub dM.le) kx) (ad0 (dM.entAt (i:=2) rfl) bv bw)<|Sx.all _) ?_;rintro nj _ nk⟨nl,rfl,kz⟩ h;have eq:=dM.lend kz;refine go 2 (wB (fq [0,1,2] eq) (λkB=>ah 1 [10] kB<|aD<|gx 1<|bC 43 h ?_ ?_))<;>intro _ h
     ·exact gI 9 [8,0] [] eq (λnm kD=>⟨_,Z,af,aq,ar,ai,aj,au,av,al,am,an,ak,aw,ax,C,ac,ad,ay,true,fK,kr,kD,bu,bQ,bR,bS,bv,bw,h⟩)
     ·exact gd 4 ⟨_,Z,af,aq,ar,ai,aj,au,av,al,am,an,ak,aw,ax,C,ac,ad,ay,bg,fK,kr,eq,bu,bQ,bR,bS,bv,bw,h⟩
   ·rintro _ nn⟨fF,a6,cP,dy,dz,cQ,cR,dA,dB,dC,dD,dE,cS,dF,dG,bp,dH,dI,dJ,dK,rfl,kJ,kO,kP,kQ,kR,kT,kU,kV,h⟩;exact gd 2<|iCl bP ((me bq<|e.sub.trans a).len)<|go 3 ⟨_,Nat.lt_succ_self _,_,a6,be,bf+1,cP,dy,dz,cQ,cR,dA,dB,dC,dD,dE,cS,dF,dG,bp,dH,dI,dJ,dK,rfl,fK,a.trans kJ,kO,aac bP,kP,kQ,kR,kT,kU,kV,h⟩
theorem aqD(k:Nat)(F:acC)(IH50:adU F.f50)(IH74:adX F.f74)(IH110:acT F.f110):acT (alP k F):=by
 intro K wi g bs br ao aL aM ap aq aN aP ar au av aw aT aU f C D aV ax bJ dH dI dJ dK dL dM dN dO dP dQ h hG bK bL bM bP bQ bR hbr bS bT;obtain⟨n,o,h⟩:=rz h;obtain⟨x,U,y,l,r⟩:=bJ;obtain⟨V,W,X,Y,rfl,dR,bn,bU⟩:=aaq.open bS;refine en 40 Tryz.func110 rfl ?_;unfold alP at h;refine gI 7 [] [] bT (λbV bW=>bsl (e:=3) (cells:=#[iI 4,iI 1]) (vs:=[(0,iI 4),(1,iI 1)]) bW rfl (λw=>by kernel_rfl) (λbX bY=>?_));obtain⟨bo,aW,s,bZ⟩:=fzi 0 [4,1] bY rfl;refine go 3<|wk aW (λj m=>∃bp Z ay ba bb,j bp [0,3] [(4,sl ba ay bb)]/\KH.sub bo Z/\m Z [0,1] [.box (zz wi) (zz wi) (aC' x U y V l W X r Y) 84]/\RSl Int (RInt .i64) 1 8 Z ba bb ay/\akz k F ao ap aq ar au av aw f ax x y l r ay=some n) ?_ ?_
 ·refine gD 7 [0,1] aW (bC 9 h ?_ ?_)<;>intro _ h
  ·refine gI 3 [3] [] aW (λdS b0=>?_);obtain⟨b1,b2,b3,b4⟩:=fzi 0 [1] b0 rfl;exact go 3 ⟨_,b1,[1],some ⟨zz bX,0,none⟩,1,fK,b3,b2.sel [1,2,0],b4,h⟩
  ·exact gd 3 ⟨_,bo,[4,1],some ⟨zz bV,0,none⟩,2,fK,kr,aW.sel [1,2,0],bZ,h⟩
 ·rintro _ dT⟨bp,Z,ay,ba,bb,rfl,t,bq,b5,h⟩;refine gd 7<|wl bq (λj m g_=>∃bu d G,∃(I:Nat),∃J ab ac N O ad ae af ai aj S ak al a z A am an,g_=G.length/\j bu [0,3,4] [(5,iI (I:Int))]/\KH.sub Z d/\m d [] [.box bs g #[sl ab J ac,.string N,sl ad O ae,iI af,.bool ai,iI aj,sl ak S al,sl z a A,.bool an] 90,.box (zz wi) (zz wi) (aC' x U y V l W X r Y) 84,eW br z a A 3 1 am]/\l.drop I=G/\tF d ab ac J/\N.size<=mB/\tP d ad ae O/\tS d ak al S/\Reps (RInt .i64) 1 a am/\a.length*8<=mB/\aeY k F x y r ay G I J N O af ai aj S a an=some n) l.length ?_ ?_
  ·exact⟨_,Z,l,0,ao,aL,aM,ap,aq,aN,aP,ar,au,av,aw,aT,aU,f,C,D,aV,ax,rfl,fK,kr,bq.sel [0,2,1],List.drop_zero,mf bK<|s.trans t,bL,mp bM<|s.trans t,ms bP<|s.trans t,bQ.mono (λ_ _ h=>h),bR,h⟩
  ·rintro _ _ bv⟨bu,d,G,I,J,ab,ac,N,O,ad,ae,af,ai,aj,S,ak,al,a,z,A,am,an,rfl,rfl,B,u,az,bd,be,bf,bg,bh,bi,h⟩;rcases G with _|⟨⟨dU,dV,dW,dX,dY⟩,G⟩
   ·refine gD 7 [3,2] u<|cNl az<|go 8<|wk u (λj m=>∃bw p aA aX aY aB aG aZ a0 a2 a3 a4 aH a5 a6 q aI aK a7 a8,j bw [0,3] []/\KH.sub d p/\m p [] [.box bs g #[sl aX aA aY,.string aB,sl aZ aG a0,iI a2,.bool a3,iI a4,sl a5 aH a6,sl aI q aK,.bool a8] 90,.box (zz wi) (zz wi) (aC' x U y V l W X r Y) 84,eW br aI q aK 3 1 a7]/\tF p aX aY aA/\aB.size<=mB/\tP p aZ a0 aG/\tS p a5 a6 aH/\Reps (RInt .i64) 1 q a7/\q.length*8<=mB/\aff k F r aA aB aG a2 a3 a4 aH q a8=some n) ?_ ?_
    ·refine gD 7 [0,2] u (bC 31 h ?_ ?_)<;>intro _ h
     ·refine gD 5 [2,2] u ?_;have bx:SR K d wi bv [.box bs g #[sl aL ao aM,.string ap,sl aN aq aP,iI ar,.bool au,iI av,sl aT aw aU,sl C f D,.bool ax] 90,eW br C f D 3 1 aV] [.box bs g #[sl ab J ac,.string N,sl ad O ae,iI af,.bool ai,iI aj,sl ak S al,sl z a A,.bool an] 90,eW br z a A 3 1 am,.box (zz wi) (zz wi) (aC' x U y V l W X r Y) 84]:=u.sel [0,2,1];refine cB h (λ_ b6=>(anO k) b6 (hG.mono<|(s.trans t).trans B) bd be bf bg bh bi (Nat.le_trans hbr u.size)<|pt bx) ?_;rintro⟨b7,⟨b8,b9,cb,cc,ce,cf⟩,ch,ci⟩ _ dZ⟨cj,ck,cl,cm,cn,co,cq,cr,cs,ct,rfl,bz,cu,cw,cx,cy,cz,cA⟩ h;have cC:=ca bz bx;exact go 2 ⟨_,cj,b7,ck,cl,b8,b9,cm,cn,cb,cc,ce,cf,co,cq,ch,cr,cs,ct,ci,fK,bz.sub,cC.sel [0,2,1],cu,cw,cx,cy,cz,cA,h⟩
     ·exact gd 3 ⟨_,d,J,ab,ac,N,O,ad,ae,af,ai,aj,S,ak,al,a,z,A,am,an,fK,kr,u,bd,be,bf,bg,bh,bi,h⟩
    ·rintro _ cD⟨bw,p,aA,aX,aY,aB,aG,aZ,a0,a2,a3,a4,aH,a5,a6,q,aI,aK,a7,a8,rfl,bB,bj,cG,cH,cI,cJ,cK,cL,h⟩;refine gD 4 [4,2] bj ?_;have bD:SR K p wi cD [.box bs g #[sl aL ao aM,.string ap,sl aN aq aP,iI ar,.bool au,iI av,sl aT aw aU,sl C f D,.bool ax] 90,eW br C f D 3 1 aV] [.box bs g #[sl aX aA aY,.string aB,sl aZ aG a0,iI a2,.bool a3,iI a4,sl a5 aH a6,sl aI q aK,.bool a8] 90,eW br aI q aK 3 1 a7,.box (zz wi) (zz wi) (aC' x U y V l W X r Y) 84]:=bj.sel [0,2,1];refine cB h (λ_ cM=>IH50 cM (hG.mono<|((s.trans t).trans B).trans bB) cG cH cI cJ cK cL (Nat.le_trans hbr bj.size) (ms bU<|((s.trans t).trans B).trans bB)<|pt bD) ?_;rintro⟨d0,⟨d1,d2,d3,d4,d5,d6⟩,d7,d8⟩ _ d9⟨cN,cO,cP,cQ,cR,cS,cU,cV,cW,cY,rfl,cZ,c3,c4,c6,c7,c8,c9⟩ h;have da:=ca cZ bD;refine go 1 ?_;cases oj h o;exact end0 rfl ⟨cN,cO,cP,cQ,cR,cS,cU,cV,cW,cY,rfl,da.sel [0,1],c3,c4,c6,c7,c8,c9⟩
   ·refine gD 7 [3,2] u<|cCl az<|go 7<|rB [10] u (λbk a9=>ah 4 [0,1,3,2,2,3] a9<|eA 4 5 rfl rfl a9 (me bn<|(s.trans t).trans B) az aai.open ?_);rintro ea ec ed ee ef db⟨eg,eh,rfl,ei,ej⟩;refine ah 2 [6,7] a9 ?_;obtain⟨bE,bm,h⟩:=ob h;obtain⟨bF,bG,ek,dc,el,dd,de⟩:=((b5.mono B (λ_ _ h=>h))).row.at_ (aaA bm).1;obtain rfl:=de;refine kGl 3 1 8 rfl dc bm a9<|tT 9 (iI bE) [[10,9]] rfl (fq [0,1,2] bk) (λw hF=>acY (v:=iI bE) Tya3 rfl<|hF.cell<|kr.cell<|dd 0 _ rfl)<|aQ 10 rfl ?_;have bH:SR K d wi bv.drew [.box bs g #[sl aL ao aM,.string ap,sl aN aq aP,iI ar,.bool au,iI av,sl aT aw aU,sl C f D,.bool ax] 90,eW br C f D 3 1 aV] [.box bs g #[sl ab J ac,.string N,sl ad O ae,iI af,.bool ai,iI aj,sl ak S al,sl z a A,.bool an] 90,eW br z a A 3 1 am,.box (zz wi) (zz wi) (aC' x U y V l W X r Y) 84]:=bk.sel [0,2,1];refine cB h (λ_ df=>(arC k) df (hG.mono<|(s.trans t).trans B) bd be bf bg bh bi (Nat.le_trans hbr bk.size) db<|pt bH) ?_;rintro⟨dg,⟨dh,di,dj,dk,dl,dm⟩,dn,dp⟩ _ em⟨dq,dr,ds,dt,du,dv,dw,dx,dy,dz,rfl,bI,dA,dB,dC,dD,dE,dF⟩ h;have dG:=ca bI bH;exact go 2 ⟨hE 10,aD<|gx 4<|iCl az ((me bn<|(s.trans t).trans B).len)<|go 3 ⟨_,Nat.lt_succ_self _,_,dq,G,I+1,dg,dr,ds,dh,di,dt,du,dj,dk,dl,dm,dv,dw,dn,dx,dy,dz,dp,rfl,fK,B.trans bI.sub,dG.sel [0,2,1],aac az,dA,dB,dC,dD,dE,dF,h⟩⟩
theorem akv(k0:Nat) : ∀k,adU (ade k0 k).f50/\adX (ade k0 k).f74/\acT (ade k0 k).f110:=by
 intro k;induction k with
 | zero=>exact⟨by simp[adU,ade],by simp[adX,ade],by simp[acT,ade]⟩
 | succ k ih=>exact⟨as6 k0 (ade k0 k) ih.1 ih.2.1 ih.2.2,atF k0 (ade k0 k) ih.1 ih.2.1 ih.2.2,aqD k0 (ade k0 k) ih.1 ih.2.1 ih.2.2⟩
theorem aw5(k:Nat):adU (f50 k):=(akv k k).1
theorem azi(k:Nat):adX (f74 k):=(akv k k).2.1
theorem ayl(k:Nat):acT (f110 k):=(akv k k).2.2
theorem ayf(k:Nat):asJ (f27 k):=by
 intro K wi af ai aj aY ci cj ck h hG aZ a2 a3;obtain⟨n,o,h⟩:=rz h;obtain⟨s,f,l,t,a,p⟩:=aY;obtain⟨u,x,y,z,rfl,a4,ao,ap⟩:=aak.open a2;refine en 52 Tryz.func27 rfl ?_;unfold f27 at h;refine gI 8 [] [] a3 (λak a5=>rB [] a5 (λa6 a7=>ah 4 [0,1,0,0,6,2,4,3,1] a7<|aQ 4 rfl ?_));obtain⟨az,h⟩:=aaR h;refine mkS (m:=a) ae1 Tyi3 rfl rfl a6 az (by decide) (λa8 al aA a9=>go 2<|wB (fq [1] aA) (λba=>kK 5 (.agg #[sl ai af aj,.string s,sl u f x,iI l,.bool t,iI a,sl y p z,.slice (some ⟨zz ak.drew,0,none⟩) (List.replicate a.toNat (0:Int)).length a.toNat,vN]) rfl (λw=>afg (cells:=#[sl ai af aj,.string s,sl u f x,iI l,.bool t,iI a,sl y p z,.slice (some ⟨zz ak.drew,0,none⟩) (List.replicate a.toNat (0:Int)).length a.toNat,vN]) (vs:=[(0,sl ai af aj),(1,.agg<|aF s u f x l t a y p z),(2,.slice (some ⟨zz ak.drew,0,none⟩) (List.replicate a.toNat (0:Int)).length a.toNat)]) rfl (λw=>by kernel_rfl)) ba<|aQ 6 rfl<|gR 3 [] [] aA (λcl aq=>wB (fq [2] aq) (λbb=>ah 1 [7] bb<|aD<|gx 8<|wl aq (λj m g_=>∃aB e A,∃(B:Nat),∃G S U I J V W X Y Z N ab ac d C D ad ae,g_=A.length/\j aB [3,6] [(7,iI (B:Int))]/\KH.sub K e/\m e [] [.box (zz wi) (zz wi) (aF s u f x l t a y p z) 52,.box (zz wi) (zz al) #[sl S G U,.string I,sl V J W,iI X,.bool Y,iI Z,sl ab N ac,sl C d D,.bool ae] 90,eW (zz wi) C d D 3 1 ad]/\f.drop B=A/\tF e S U G/\I.size<=mB/\tP e V W J/\tS e ab ac N/\Reps (RInt .i64) 1 d ad/\d.length*8<=mB/\aht k l p A B G I J X Y Z N d ae=some n) f.length ?_ ?_))))
 ·exact⟨_,K,f,0,af,ai,aj,s,f,u,x,l,t,a,p,y,z,List.replicate a.toNat (0:Int),some ⟨zz ak.drew,0,none⟩,a.toNat,a8,false,rfl,fK,kr,aq.sel [2,0,1],List.drop_zero,aZ,a4,ao,ap,a9,aqp az,h⟩
 ·rintro _ _ aG⟨aB,e,A,B,G,S,U,I,J,V,W,X,Y,Z,N,ab,ac,d,C,D,ad,ae,rfl,rfl,q,g,O,aH,aI,aK,aL,aM,aN,h⟩;rcases A with _|⟨⟨cm,bd⟩,A⟩
  ·refine gD 7 [1,1] g<|cNl O<|gP 13 [5,1] g ?_;have aP:=p120 g;refine cB h (λ_ be=>(aw5 k) be (hG.mono q) aH aI aK aL aM aN (Nat.le_trans (Nat.le_refl _) g.size) (ms ap q)<|pt aP) ?_;rintro⟨bf,⟨bg,bh,bi,bj,bk,bm⟩,am,bn⟩ _ cn⟨ar,bo,bp,bq,br,bs,bu,au,av,bv,rfl,aw,co,cq,cr,cs,bw,bx⟩ h;have r:=ca aw aP;refine gP 11 [8,1] r (bC 38 h ?_ ?_)<;>intro _ h
   ·refine gd 9 ?_;cases oj h o;exact rt2 ⟨ar,none,0,rfl,r.sel [],RSl.nil _ _ _ _ _ _⟩
   ·refine gd 4<|wk r (λj m=>∃aT an ax,j aT [6] [(47,.bool ax)]/\KH.sub ar an/\m an [] [.box (zz wi) (zz al) #[sl bo bf bp,.string bg,sl bq bh br,iI bi,.bool bj,iI bk,sl bs bm bu,sl au am av,.bool bn] 90,eW (zz wi) au am av 3 1 bv]/\an0 k am ax=some n) ?_ ?_
    ·refine gD 5 [2,3] r (bO 42 h ?_ ?_)<;>intro _ h
     ·refine gP 5 [5,3] r<|cB h (λ_ bz=>(axd k) bz (hG.mono<|q.trans aw.sub) (ms ap<|q.trans aw.sub)<|pt r) ?_;rintro bB _ ct⟨bD,rfl,aU⟩ h;have bE:=ca aU r;exact go 5 ⟨_,bD,!bB,fK,aU.sub,bE.sel [0,1],h⟩
     ·exact go 7 ⟨_,ar,false,fK,kr,r.sel [0,1],h⟩
    ·rintro _ cu⟨aT,an,ax,rfl,cw,ay,h⟩;refine bC 47 h ?_ ?_<;>intro _ h
     ·refine gd 9 ?_;cases oj h o;exact rt2 ⟨an,none,0,rfl,ay.sel [],RSl.nil _ _ _ _ _ _⟩
     ·refine gD 14 [7,1] ay ?_;obtain⟨bF,bG,cx,bH⟩:=abD (i:=1) (bytes:=8) (R:=λK=>(RInt .i64)) ay rfl (Nat.le_refl _) (bw.mono (λ_ _ h=>h)) bx (λhs=>(λ_ _ h=>h));cases oj h o;exact rt2 ⟨bF,au,av,rfl,bG.sel [],bH⟩
  ·refine gD 7 [1,1] g<|cCl O<|gP 13 [1,1] g ?_;obtain⟨bI,aV,cy,bJ,cz,bK,bL⟩:=((mp ao q)).row.at_ (aaC O);obtain⟨rfl,cA⟩:=aaw.open bL;refine iNl 70 2 bJ O<|fd (aV+B*2+1) ajQ rfl<|ld1 (v:=iI bd) Tya3 rfl (g.cell<|kr.cell<|bK 1 _ rfl) ?_;have aW:=p120 g;refine cB h (λ_ bM=>(anO k) bM (hG.mono q) aH aI aK aL aM aN (Nat.le_trans (Nat.le_refl _) g.size)<|pt aW) ?_;rintro⟨bP,⟨bQ,bR,bS,bT,bU,bV⟩,bW,bX⟩ _ cC⟨bY,bZ,b0,b1,b2,b3,b4,b5,b6,b7,rfl,aX,b8,b9,cb,cc,ce,cf⟩ h;have ch:=ca aX aW;exact go 5<|iCl O ((mp ao q).len)<|go 3 ⟨_,Nat.lt_succ_self _,_,bY,A,B+1,bP,bZ,b0,bQ,bR,b1,b2,bS,bT,bU,bV,b3,b4,bW,b5,b6,b7,bX,rfl,fK,q.trans aX.sub,ch.sel [2,0,1],aac O,b8,b9,cb,cc,ce,cf,h⟩
theorem ax2(k:Nat):asn (f11 k):=by
 intro K wi G ab ac ad h hG I J;obtain⟨r_,n,h⟩:=rz h;obtain⟨ae⟩:=G;obtain⟨af,c1,rfl,N⟩:=aad.open I;refine en 41 Tryz.func11 rfl ?_;unfold f11 at h;refine gI 10 [0,1,1] [[nS]] J (λO ai s=>cB h (λ_ S=>(aw1 k) S (hG.mono kr) (aad.intro N)<|pt s) ?_);rintro⟨⟨b⟩,aj⟩ _ U⟨o,ak,rfl,t,V⟩ h;have W:=ca t s;obtain⟨u,v,rfl,g⟩:=aad.open V;refine gR 15 [0] [[nS]] W (λal am p=>bC 15 h ?_ ?_)<;>intro _ h
 ·refine gd 3<|bld (cells:=#[nS]) (vs:=[]) rfl (λw=>by kernel_rfl)<|gR 7 [1] [] p (λan x=>?_);cases oj h n;exact abw rfl (rNl 1 x rfl) (resT rfl) ⟨o,[nS],rfl,x.sel [],aad.intro<|RSl.nil _ _ _ _ _ _⟩
 ·refine gd 10<|wl p (λj m g_=>∃y i a,∃(e:Nat),g_=a.length/\j y [2,4] [(6,iI (e:Int))]/\KH.sub o i/\m i [] [.box (zz wi) (zz O) #[nS] 24,.box (zz wi) (zz U) #[sl u b v] 24]/\b.drop e=a/\alw k b a e=some r_) b.length ?_ ?_
  ·exact⟨_,o,b,0,rfl,fK,kr,p.sel [1,0],List.drop_zero,h⟩
  ·rintro _ _ ao⟨y,i,a,e,rfl,rfl,d,l,f,h⟩;rcases a with _|⟨⟨ap,aq,ar,au,av,aw⟩,a⟩
   ·refine gD 7 [0,2] l<|cNl f<|gR 16 [0,1,1,0] [] l (λax z=>?_);cases oj h n;exact abw rfl (rNl 0 z rfl) (resT rfl) ⟨i,[sl u b v],rfl,z.sel [],aad.intro<|mf g d⟩
   ·refine gD 7 [0,2] l<|cCl f<|go 8<|rB [] l (λA B=>ah 5 [0,0,1,2,2,0,3,2,4] B<|eA 5 6 rfl rfl B (mf g d) f aak.open ?_);rintro ay az aA aB aG X⟨aH,aI,aK,aL,rfl,aM,aN,aP⟩;refine aQ 7 rfl<|cB h (λ_ Y=>(ayf k) Y (hG.mono<|t.sub.trans d) (mf g d) X<|pt A) ?_;rintro⟨aT,aU⟩ _ aV⟨C,aW,aX,rfl,q,aY⟩ h;have r:=ca q A;refine go 2 (wB (fwOf (is:=[0,1]) r q.sub rfl) (λZ=>ah 5 [8,9,10,11,12] Z<|aD<|gx 7<|bC 37 h ?_ ?_))<;>intro _ h
    ·refine gd 3<|bld (cells:=#[nS]) (vs:=[]) rfl (λw=>by kernel_rfl)<|gR 11 [0] [] r (λaZ D=>?_);cases oj h n;exact abw rfl (rNl 0 D rfl) (resT rfl) ⟨C,[nS],rfl,D.sel [],aad.intro<|RSl.nil _ _ _ _ _ _⟩
    ·exact gd 6<|iCl f ((mf g d).len)<|go 3 ⟨_,Nat.lt_succ_self _,_,C,a,e+1,rfl,fK,d.trans q.sub,r,aac f,h⟩
theorem asM(k:Nat)(F:amR)(IH51:aeD F.f51)(IH75:aeO F.f75):aeD (apW k F):=by
 intro K wi i D G v I J N h hG q x l;obtain⟨r_,n,h⟩:=rz h;refine en 27 Tryz.func51 rfl ?_;unfold apW at h;refine gd 15 (bC 10 h ?_ ?_)<;>intro _ h
 ·refine gd 8 ?_;cases oj h n;exact rt1 ⟨K,rfl,l⟩
 ·refine gd 10<|wl l (λj m g_=>∃r f a,∃(b:Nat),g_=a.length/\j r [0,1] [(5,iI (b:Int))]/\KH.sub K f/\m f [] []/\i.drop b=a/\alH k F v a b=some r_) i.length ?_ ?_
  ·exact⟨_,K,i,0,rfl,fK,kr,l,List.drop_zero,h⟩
  ·rintro _ _ O⟨r,f,a,b,rfl,rfl,d,s,e,h⟩;rcases a with _|⟨⟨S,U,V,W,X⟩,a⟩
   ·refine gd 6<|cNl e<|go 14 ?_;cases oj h n;exact rt1 ⟨f,rfl,s⟩
   ·refine gd 6<|cCl e<|go 8<|rB [] s (λt g=>ah 2 [0,1] g<|eA 2 3 rfl rfl g (me q d) e aai.open ?_);rintro Y Z ab ac ad y⟨ae,af,rfl,ai,aj⟩;refine ah 2 [4,5] g ?_;obtain⟨⟨ak,al,am,an,ao⟩,z,h⟩:=ob h;refine eB 6 7 rfl rfl g (me x d) z aai.open ?_;rintro ap aq ar au av A⟨aw,ax,rfl,ay,az⟩;refine aQ 8 rfl<|cB h (λ_ B=>IH75 B (hG.mono d) y A<|pt t) ?_;rintro aA _ aB⟨u,rfl,o⟩ h;have p:=ca o t;refine go 2 (wB (fwOf (is:=[]) p o.sub rfl) (λC=>ah 1 [9] C<|aD<|gx 1<|bC 26 h ?_ ?_))<;>intro _ h
    ·refine gd 12 ?_;cases oj h n;exact rt1 ⟨u,rfl,p⟩
    ·exact gd 6<|iCl e ((me q d).len)<|go 3 ⟨_,Nat.lt_succ_self _,_,u,a,b+1,rfl,fK,d.trans o.sub,p,aac e,h⟩
theorem atJ(k:Nat)(F:amR)(IH51:aeD F.f51)(IH75:aeO F.f75):aeO (aqJ k F):=by
 intro K wi g y i z A h hG l o p;obtain⟨r_,n,h⟩:=rz h;obtain⟨B,C,D,G,I⟩:=g;obtain⟨J,N,rfl,O,q⟩:=aai.open l;obtain⟨S,U,V,W,X⟩:=i;obtain⟨Y,Z,rfl,ab,r⟩:=aai.open o;refine en 38 Tryz.func75 rfl ?_;unfold aqJ at h;refine gI 7 [] [] p (λac ad a=>wk a (λj m=>∃e b d,j e [] [(4,.bool d)]/\KH.sub K b/\m b [] []/\ahn k F d=some r_) ?_ ?_)
 ·refine gD 7 [0,2,0,1] a (bO 10 h ?_ ?_)<;>intro _ h
  ·refine gP 12 [1,2,1,1] a (bO 17 h ?_ ?_)<;>intro _ h
   ·refine gP 12 [2,2,2,1] a (bO 24 h ?_ ?_)<;>intro _ h
    ·refine gP 12 [3,2,3,1] a (bO 31 h ?_ ?_)<;>intro _ h
     ·refine gP 9 [4,2,4,1] a<|cB h (λ_ s=>IH51 s (hG.mono kr) q r<|pt a) ?_;rintro t _ ae⟨u,rfl,f⟩ h;have v:=ca f a;exact go 4 ⟨_,u,t,fK,f.sub,v.sel [],h⟩
     ·exact go 9 ⟨_,K,false,fK,kr,a.sel [],h⟩
    ·exact go 16 ⟨_,K,false,fK,kr,a.sel [],h⟩
   ·exact go 23 ⟨_,K,false,fK,kr,a.sel [],h⟩
  ·exact go 30 ⟨_,K,false,fK,kr,a.sel [],h⟩
 ·rintro _ af⟨e,b,d,rfl,ai,x,h⟩;refine gd 1 ?_;cases oj h n;exact rt1 ⟨b,rfl,x⟩
theorem ant(k0:Nat) : ∀k,aeD (aeX k0 k).f51/\aeO (aeX k0 k).f75:=by
 intro k;induction k with
 | zero=>exact⟨by simp[aeD,aeX],by simp[aeO,aeX]⟩
 | succ k ih=>exact⟨asM k0 (aeX k0 k) ih.1 ih.2,atJ k0 (aeX k0 k) ih.1 ih.2⟩
theorem aud(k:Nat):aeD (f51 k):=(ant k k).1
theorem azh(k:Nat):aeO (f75 k):=(ant k k).2
theorem asG(k:Nat)(F:ain)(IH28:afG F.f28):afG (apA k F):=by
 intro K wi bh ek el az em eo ep h hG bL dz bi;obtain⟨r_,n,h⟩:=rz h;refine en 161 Tryz.func28 rfl ?_;unfold apA at h;refine gd 15 (bC 15 h ?_ ?_)<;>intro _ h
 ·refine gd 8 ?_;cases oj h n;exact rt1 ⟨K,rfl,bi⟩
 ·refine gd 10<|wl bi (λj m g_=>∃bM a l,∃(o:Nat),g_=l.length/\j bM [0,1] [(5,iI (o:Int))]/\KH.sub K a/\m a [] []/\bh.drop o=l/\ad7 k F az l o=some r_) bh.length ?_ ?_
  ·exact⟨_,K,bh,0,rfl,fK,kr,bi,List.drop_zero,h⟩
  ·rintro _ _ bP⟨bM,a,l,o,rfl,rfl,q,bj,aL,h⟩;rcases l with _|⟨⟨bQ,bR,bS,bT,bU,bV,bW,bX,bY,bZ,b0⟩,l⟩
   ·refine gd 6<|cNl aL<|go 14 ?_;cases oj h n;exact rt1 ⟨a,rfl,bj⟩
   ·refine gd 6<|cCl aL<|go 7<|wk bj (λj m=>∃b1 J N z O A S U B V W r X Y s Z ab t ac ad e ae af ai aj C ak D al am G an ao u ap aq v ar au x av aw f ax ay,j b1 [0,1,5] [(6,pp J 0),(7,pp ai 0)]/\m a [] [.box (zz wi) J (aS N z O A S U V B W X r Y Z s ab ac t ad ae e af) 62,.box (zz wi) ai (aS aj C ak D al am an G ao ap u aq ar v au av x aw ax f ay) 62]/\z.size<=mB/\A.size<=mB/\tE a V W B/\tS a X Y r/\tS a Z ab s/\tS a ac ad t/\tC a ae af e/\C.size<=mB/\D.size<=mB/\tE a an ao G/\tS a ap aq u/\tS a ar au v/\tS a av aw x/\tC a ax ay f/\aqY k F o N z O A S U B r s t e aj C ak D al am G u v x f (ad7 k F az l)=some r_) ?_ ?_
    ·refine rB [] bj (λb2 a5=>ah 2 [0,1] a5<|eA 2 3 rfl rfl a5 (ms bL q) aL aag.open ?_);rintro eq es et eu ew ex⟨b3,b4,b5,b6,b7,b8,b9,cb,cc,ce,rfl,cf,ch,ci,cj,ck,cl,cm⟩;refine ah 2 [4,5] a5 ?_;obtain⟨⟨cn,co,cq,cr,cs,ct,cu,cw,cx,cy,cz⟩,dA,h⟩:=ob h;refine eB 6 7 rfl rfl a5 (ms dz q) dA aag.open ?_;rintro ey ez eC eD eF eH⟨cA,cC,cD,cG,cH,cI,cJ,cK,cL,cM,rfl,cN,cO,cP,cQ,cR,cS,cU⟩;refine an2 (i:=8) (j:=9) ?_ ?_
     ·exact opQ (i:=8) rfl<|gR 3 [] [[iI 0,sE,iI 0,sE,iI 0,iI 0,nS,nS,nS,nS,nS]] b2 (λbk aM=>wB (fq [] aM) (λdB=>aQ 9 rfl<|gR 3 [] [[iI 0,sE,iI 0,sE,iI 0,iI 0,nS,nS,nS,nS,nS]] aM (λdC aN=>wB (fq [] aN) (λdD=>aQ 10 rfl<|gR 3 [1] [] aN (λdE aP=>wB (fq [] aP) (λdF=>aQ 11 rfl<|gR 3 [0] [] aP (λdG aT=>wB (fq [] aT) (λdH=>aD<|gx 1 ⟨_,zz bP.drew,bQ,bR,bS,bT,bU,bV,bW,b3,b4,bX,b5,b6,bY,b7,b8,bZ,b9,cb,b0,cc,ce,zz bk,cn,co,cq,cr,cs,ct,cu,cA,cC,cw,cD,cG,cx,cH,cI,cy,cJ,cK,cz,cL,cM,fK,aT.sel [1,0],cf,ch,ci,cj,ck,cl,cm,cN,cO,cP,cQ,cR,cS,cU,h⟩))))))))
     ·exact opQ (i:=9) rfl<|gR 3 [] [[iI 0,sE,iI 0,sE,iI 0,iI 0,nS,nS,nS,nS,nS]] b2 (λbk aM=>wB (fq [] aM) (λdB=>aQ 8 rfl<|gR 3 [] [[iI 0,sE,iI 0,sE,iI 0,iI 0,nS,nS,nS,nS,nS]] aM (λdC aN=>wB (fq [] aN) (λdD=>aQ 10 rfl<|gR 3 [0] [] aN (λdE aP=>wB (fq [] aP) (λdF=>aQ 11 rfl<|gR 3 [1] [] aP (λdG aT=>wB (fq [] aT) (λdH=>aD<|gx 1 ⟨_,zz bk,bQ,bR,bS,bT,bU,bV,bW,b3,b4,bX,b5,b6,bY,b7,b8,bZ,b9,cb,b0,cc,ce,zz bP.drew,cn,co,cq,cr,cs,ct,cu,cA,cC,cw,cD,cG,cx,cH,cI,cy,cJ,cK,cz,cL,cM,fK,aT,cf,ch,ci,cj,ck,cl,cm,cN,cO,cP,cQ,cR,cS,cU,h⟩))))))))
    ·rintro _ eI⟨b1,J,N,z,O,A,S,U,B,V,W,r,X,Y,s,Z,ab,t,ac,ad,e,ae,af,ai,aj,C,ak,D,al,am,hh⟩;obtain⟨G,an,ao,u,ap,aq,v,ar,au,x,av,aw,f,ax,ay,rfl,d,eJ,eL,dI,dJ,dK,dL,cV,eM,eO,dM,dN,dO,dP,dQ,h⟩:=hh;refine gd 1<|wk d (λj m=>∃cW aU bm,j cW [0,1,5,6,7] [(77,.bool bm)]/\KH.sub a aU/\m aU [] [.box (zz wi) J (aS N z O A S U V B W X r Y Z s ab ac t ad ae e af) 62,.box (zz wi) ai (aS aj C ak D al am an G ao ap u aq ar v au av x aw ax f ay) 62]/\afv k F o r s t e u v x f bm (ad7 k F az l)=some r_) ?_ ?_
     ·refine gD 7 [0,1,0,2] d (bO 35 h ?_ ?_)<;>intro _ h
      ·exact go 44 ⟨_,a,true,fK,kr,d,h⟩
      ·refine gP 12 [1,1,1,2] d (bO 42 h ?_ ?_)<;>intro _ h
       ·exact go 37 ⟨_,a,true,fK,kr,d,h⟩
       ·refine gP 12 [2,1,2,2] d (bO 49 h ?_ ?_)<;>intro _ h
        ·exact go 30 ⟨_,a,true,fK,kr,d,h⟩
        ·refine gP 12 [3,1,3,2] d (bO 56 h ?_ ?_)<;>intro _ h
         ·exact go 23 ⟨_,a,true,fK,kr,d,h⟩
         ·refine gP 12 [4,1,4,2] d (bO 63 h ?_ ?_)<;>intro _ h
          ·exact go 16 ⟨_,a,true,fK,kr,d,h⟩
          ·refine gP 12 [5,1,5,2] d (bO 70 h ?_ ?_)<;>intro _ h
           ·exact go 9 ⟨_,a,true,fK,kr,d,h⟩
           ·refine gP 9 [6,1,6,2] d<|cB h (λ_ dR=>(aud k) dR (hG.mono q) dI dM<|pt d) ?_;rintro dS _ eP⟨dT,rfl,cY⟩ h;have dU:=ca cY d;exact go 5 ⟨_,dT,!dS,fK,cY.sub,dU,h⟩
     ·rintro _ eQ⟨cW,aU,bm,rfl,g,aV,h⟩;refine bC 77 h ?_ ?_<;>intro _ h
      ·refine gd 13 ?_;cases oj h n;exact rt1 ⟨aU,rfl,aV.sel []⟩
      ·refine gd 4<|wk aV (λj m=>∃cZ aH bn,j cZ [0,1,5,6,7] [(108,.bool bn)]/\KH.sub aU aH/\m aH [] [.box (zz wi) J (aS N z O A S U V B W X r Y Z s ab ac t ad ae e af) 62,.box (zz wi) ai (aS aj C ak D al am an G ao ap u aq ar v au av x aw ax f ay) 62]/\ai5 k F o e f bn (ad7 k F az l)=some r_) ?_ ?_
       ·refine gD 5 [7,1,7,2] aV<|cB h (λ_ dV=>IH28 dV (hG.mono<|q.trans g) (ms dJ g) (ms dN g)<|pt aV) ?_;rintro eR _ eS⟨dW,rfl,p⟩ h;have a6:=ca p aV;refine go 2 (bO 84 h ?_ ?_)<;>intro _ h
        ·exact go 26 ⟨_,dW,true,fK,p.sub,a6,h⟩
        ·refine gP 9 [8,1,8,2] a6<|cB h (λ_ dX=>IH28 dX (hG.mono<|(q.trans g).trans p.sub) (ms dK<|g.trans p.sub) (ms dO<|g.trans p.sub)<|pt a6) ?_;rintro eT _ eU⟨dY,rfl,aA⟩ h;have a7:=ca aA a6;refine go 4 (bO 92 h ?_ ?_)<;>intro _ h
         ·exact go 18 ⟨_,dY,true,fK,p.sub.trans aA.sub,a7,h⟩
         ·refine gP 9 [9,1,9,2] a7<|cB h (λ_ dZ=>IH28 dZ (hG.mono<|((q.trans g).trans p.sub).trans aA.sub) (ms dL<|(g.trans p.sub).trans aA.sub) (ms dP<|(g.trans p.sub).trans aA.sub)<|pt a7) ?_;rintro eV _ eX⟨c2,rfl,bo⟩ h;have bp:=ca bo a7;refine go 4 (bO 100 h ?_ ?_)<;>intro _ h
          ·exact go 10 ⟨_,c2,true,fK,(p.sub.trans aA.sub).trans bo.sub,bp,h⟩
          ·exact gP 17 [10,1,10,2] bp ⟨_,c2,(e.length:Int) != (f.length:Int),fK,(p.sub.trans aA.sub).trans bo.sub,bp,h⟩
       ·rintro _ eY⟨cZ,aH,bn,rfl,aI,bq,h⟩;refine bC 108 h ?_ ?_<;>intro _ h
        ·refine gd 13 ?_;cases oj h n;exact rt1 ⟨aH,rfl,bq.sel []⟩
        ·refine gd 9<|wl bq (λj m g_=>∃c3 b I,∃(aB:Nat),g_=I.length/\j c3 [0,1,5,6,7] [(8,iI (aB:Int))]/\KH.sub aH b/\m b [] [.box (zz wi) J (aS N z O A S U V B W X r Y Z s ab ac t ad ae e af) 62,.box (zz wi) ai (aS aj C ak D al am an G ao ap u aq ar v au av x aw ax f ay) 62]/\e.drop aB=I/\ahS k F o f (ad7 k F az l) I aB=some r_) e.length ?_ ?_
         ·exact⟨_,aH,e,0,rfl,fK,kr,bq,List.drop_zero,h⟩
         ·rintro _ _ c4⟨c3,b,I,aB,rfl,rfl,aG,aW,aX,h⟩;rcases I with _|⟨⟨c5,c6,c7,c8,c9⟩,I⟩
          ·exact gD 7 [10,1] aW<|cNl aX<|go 11<|iCl aL ((ms bL q).len)<|go 3 ⟨_,Nat.lt_succ_self _,_,b,l,o+1,rfl,fK,((q.trans g).trans aI).trans aG,aW.sel [],aac aL,h⟩
          ·refine gD 7 [10,1] aW<|cCl aX<|go 7<|wk aW (λj m=>∃da br bs a8 bu a9 bv bw ba bx bz bB bD bb bE bd bF bG be bH bI,j da [0,1,5,6,7,8] [(9,pp br 0),(10,pp bB 0)]/\m b [] [.box (zz wi) J (aS N z O A S U V B W X r Y Z s ab ac t ad ae e af) 62,.box (zz wi) ai (aS aj C ak D al am an G ao ap u aq ar v au av x aw ax f ay) 62,.box (zz wi) br (aC' bs a8 bu bv a9 bw bx ba bz) 84,.box (zz wi) bB (aC' bD bb bE bF bd bG bH be bI) 84]/\a8.size<=mB/\tE b bv bw a9/\tS b bx bz ba/\bb.size<=mB/\tE b bF bG bd/\tS b bH bI be/\aqS k F aB bs a8 bu a9 ba bD bb bE bd be (ahS k F o f (ad7 k F az l) I)=some r_) ?_ ?_
           ·refine rB [] aW (λdb bf=>ah 3 [0,10,1,1,2] bf<|eA 3 4 rfl rfl bf (mc cV<|(g.trans aI).trans aG) aX aaq.open ?_);rintro eZ e0 e1 e3 e4 e5⟨dc,dd,de,df,rfl,dg,dh,di⟩;refine ah 3 [5,10,6,2,7] bf ?_;obtain⟨⟨dj,dk,dl,dm,dn⟩,d0,h⟩:=ob h;refine eB 8 9 rfl rfl bf (mc dQ<|(g.trans aI).trans aG) d0 aaq.open ?_;rintro e6 e7 e8 e9 fa fb⟨dp,dq,dr,ds,rfl,dt,du,dv⟩;refine an2 (i:=10) (j:=11) ?_ ?_
            ·exact opQ (i:=10) rfl<|gR 3 [] [[iI 0,sE,iI 0,nS,nS]] db (λbJ aY=>wB (fq [1,2] aY) (λd1=>aQ 11 rfl<|gR 3 [] [[iI 0,sE,iI 0,nS,nS]] aY (λd2 aZ=>wB (fq [2,3] aZ) (λd3=>aQ 12 rfl<|gR 3 [1] [] aZ (λd4 a2=>wB (fq [2,3] a2) (λd5=>aQ 13 rfl<|gR 3 [0] [] a2 (λd6 a3=>wB (fq [2,3] a3) (λd7=>aD<|gx 1 ⟨_,zz c4.drew,c5,c6,c7,c8,dc,dd,c9,de,df,zz bJ,dj,dk,dl,dm,dp,dq,dn,dr,ds,fK,a3.sel [2,3,1,0],dg,dh,di,dt,du,dv,h⟩))))))))
            ·exact opQ (i:=11) rfl<|gR 3 [] [[iI 0,sE,iI 0,nS,nS]] db (λbJ aY=>wB (fq [1,2] aY) (λd1=>aQ 10 rfl<|gR 3 [] [[iI 0,sE,iI 0,nS,nS]] aY (λd2 aZ=>wB (fq [2,3] aZ) (λd3=>aQ 12 rfl<|gR 3 [0] [] aZ (λd4 a2=>wB (fq [2,3] a2) (λd5=>aQ 13 rfl<|gR 3 [1] [] a2 (λd6 a3=>wB (fq [2,3] a3) (λd7=>aD<|gx 1 ⟨_,zz bJ,c5,c6,c7,c8,dc,dd,c9,de,df,zz c4.drew,dj,dk,dl,dm,dp,dq,dn,dr,ds,fK,a3.sel [2,3,0,1],dg,dh,di,dt,du,dv,h⟩))))))))
           ·rintro _ fc⟨da,br,bs,a8,bu,a9,bv,bw,ba,bx,bz,bB,bD,bb,bE,bd,bF,bG,be,bH,bI,rfl,y,fe,d8,d9,ff,ea,ec,h⟩;refine wk y (λj m=>∃dw a4 bK,j dw [0,1,5,6,7,8] [(160,.bool bK)]/\KH.sub b a4/\m a4 [] [.box (zz wi) J (aS N z O A S U V B W X r Y Z s ab ac t ad ae e af) 62,.box (zz wi) ai (aS aj C ak D al am an G ao ap u aq ar v au av x aw ax f ay) 62]/\ahd k F aB bK (ahS k F o f (ad7 k F az l) I)=some r_) ?_ ?_
            ·refine gD 7 [0,3,0,4] y (bO 131 h ?_ ?_)<;>intro _ h
             ·exact go 31 ⟨_,b,true,fK,kr,y.sel [0,1],h⟩
             ·refine gP 12 [1,3,1,4] y (bO 138 h ?_ ?_)<;>intro _ h
              ·exact go 24 ⟨_,b,true,fK,kr,y.sel [0,1],h⟩
              ·refine gP 12 [2,3,2,4] y (bO 145 h ?_ ?_)<;>intro _ h
               ·exact go 17 ⟨_,b,true,fK,kr,y.sel [0,1],h⟩
               ·refine gP 9 [3,3,3,4] y<|cB h (λ_ ed=>(aud k) ed (gm hG y) d8 ea<|pt y) ?_;rintro fg _ fh⟨ee,rfl,aK⟩ h;have bg:=ca aK y;refine go 4 (bO 153 h ?_ ?_)<;>intro _ h
                ·exact go 9 ⟨_,ee,true,fK,aK.sub,bg.sel [0,1],h⟩
                ·refine gP 9 [4,3,4,4] bg<|cB h (λ_ ef=>IH28 ef (hG.mono<|(((q.trans g).trans aI).trans aG).trans aK.sub) (ms d9 aK.sub) (ms ec aK.sub)<|pt bg) ?_;rintro eg _ fi⟨eh,rfl,dx⟩ h;have ei:=ca dx bg;exact go 5 ⟨_,eh,!eg,fK,aK.sub.trans dx.sub,ei.sel [0,1],h⟩
            ·rintro _ fj⟨dw,a4,bK,rfl,ej,dy,h⟩;refine bC 160 h ?_ ?_<;>intro _ h
             ·refine gd 16 ?_;cases oj h n;exact rt1 ⟨a4,rfl,dy.sel []⟩
             ·exact gd 6<|iCl aX ((mc cV<|(g.trans aI).trans aG).len)<|go 3 ⟨_,Nat.lt_succ_self _,_,a4,I,aB+1,rfl,fK,aG.trans ej,dy,aac aX,h⟩
theorem ar9(k0:Nat) : ∀k,afG (ail k0 k).f28:=by
 intro k;induction k with
 | zero=>simp[afG,ail]
 | succ k ih=>exact asG k0 (ail k0 k) ih
theorem awK(k:Nat):afG (f28 k):=(ar9 k k)
theorem axJ(k:Nat):ate (f12 k):=by
 intro K wi bo bQ bp bR bS h hG bq br bs;obtain⟨r_,n,h⟩:=rz h;obtain⟨o⟩:=bo;obtain⟨ak,c1,rfl,ax⟩:=aad.open bq;obtain⟨f⟩:=bp;obtain⟨al,am,rfl,bu⟩:=aad.open br;refine en 94 Tryz.func12 rfl ?_;unfold f12 at h;refine gI 19 [0,2,0,1] [] bs (λan bT ar=>bC 15 h ?_ ?_)<;>intro _ h
 ·refine gd 8 ?_;cases oj h n;exact rt1 ⟨K,rfl,ar.sel []⟩
 ·refine gd 10<|wl ar (λj m g_=>∃ay a d,∃(g:Nat),g_=d.length/\j ay [2,3] [(5,iI (g:Int))]/\KH.sub K a/\m a [] [.box (zz wi) (zz wi) #[sl ak o c1] 24,.box (zz wi) (zz an) #[sl al f am] 24]/\o.drop g=d/\afU k f d g=some r_) o.length ?_ ?_
  ·exact⟨_,K,o,0,rfl,fK,kr,ar.sel [1,0],List.drop_zero,h⟩
  ·rintro _ _ az⟨ay,a,d,g,rfl,rfl,x,y,z,h⟩;rcases d with _|⟨⟨aA,aB,aG,aH,aI,aK⟩,d⟩
   ·refine gD 7 [0,1] y<|cNl z<|go 14 ?_;cases oj h n;exact rt1 ⟨a,rfl,y.sel []⟩
   ·refine gD 7 [0,1] y<|cCl z<|go 7<|wk y (λj m=>∃aL A s e B C D G I t J N O u l S U V W X v Y Z,j aL [2,3,5] [(6,pp A 0),(7,pp O 0)]/\m a [] [.box (zz wi) (zz wi) #[sl ak o c1] 24,.box (zz wi) (zz an) #[sl al f am] 24,.box (zz wi) A (aF s B e C D G I J t N) 52,.box (zz wi) O (aF u S l U V W X Y v Z) 52]/\s.size<=mB/\tP a B C e/\tS a J N t/\u.size<=mB/\tP a S U l/\tS a Y Z v/\apg k g s e D G I t u l V W X v (afU k f d)=some r_) ?_ ?_
    ·refine rB [] y (λaM ao=>ah 3 [0,0,1,1,2] ao<|eA 3 4 rfl rfl ao (mf ax x) z aak.open ?_);rintro bU bV bW bX bY bZ⟨aN,aP,aT,aU,rfl,aV,aW,aX⟩;refine ah 3 [5,0,6,2,7] ao ?_;obtain⟨⟨aY,aZ,a2,a3,a4,a5⟩,bv,h⟩:=ob h;refine eB 8 9 rfl rfl ao (mf bu x) bv aak.open ?_;rintro b0 b1 b2 b3 b4 b5⟨a6,a7,a8,a9,rfl,ba,bb,bd⟩;refine an2 (i:=10) (j:=11) ?_ ?_
     ·exact opQ (i:=10) rfl<|gR 3 [] [[sE,nS,iI 0,vN,iI 0,nS]] aM (λau ab=>wB (fq [1,2] ab) (λbw=>aQ 11 rfl<|gR 3 [] [[sE,nS,iI 0,vN,iI 0,nS]] ab (λbx ac=>wB (fq [2,3] ac) (λbz=>aQ 12 rfl<|gR 3 [1] [] ac (λbB ad=>wB (fq [2,3] ad) (λbD=>aQ 13 rfl<|gR 3 [0] [] ad (λbE ae=>wB (fq [2,3] ae) (λbF=>aD<|gx 1 ⟨_,zz az.drew,aA,aB,aN,aP,aG,aH,aI,aK,aT,aU,zz au,aY,aZ,a6,a7,a2,a3,a4,a5,a8,a9,fK,ae.sel [2,3,1,0],aV,aW,aX,ba,bb,bd,h⟩))))))))
     ·exact opQ (i:=11) rfl<|gR 3 [] [[sE,nS,iI 0,vN,iI 0,nS]] aM (λau ab=>wB (fq [1,2] ab) (λbw=>aQ 10 rfl<|gR 3 [] [[sE,nS,iI 0,vN,iI 0,nS]] ab (λbx ac=>wB (fq [2,3] ac) (λbz=>aQ 12 rfl<|gR 3 [0] [] ac (λbB ad=>wB (fq [2,3] ad) (λbD=>aQ 13 rfl<|gR 3 [1] [] ad (λbE ae=>wB (fq [2,3] ae) (λbF=>aD<|gx 1 ⟨_,zz au,aA,aB,aN,aP,aG,aH,aI,aK,aT,aU,zz az.drew,aY,aZ,a6,a7,a2,a3,a4,a5,a8,a9,fK,ae.sel [2,3,0,1],aV,aW,aX,ba,bb,bd,h⟩))))))))
    ·rintro _ b6⟨aL,A,s,e,B,C,D,G,I,t,J,N,O,u,l,S,U,V,W,X,v,Y,Z,rfl,b,b7,be,bG,b8,bH,bI,h⟩;refine gd 1<|wk b (λj m=>∃bf p av,j bf [2,3,5,6,7] [(75,.bool av)]/\KH.sub a p/\m p [] [.box (zz wi) (zz wi) #[sl ak o c1] 24,.box (zz wi) (zz an) #[sl al f am] 24,.box (zz wi) A (aF s B e C D G I J t N) 52,.box (zz wi) O (aF u S l U V W X Y v Z) 52]/\agP k g e l av (afU k f d)=some r_) ?_ ?_
     ·refine gD 7 [0,3,0,4] b (bO 38 h ?_ ?_)<;>intro _ h
      ·exact go 39 ⟨_,a,true,fK,kr,b,h⟩
      ·refine gP 16 [1,3,1,4] b (bO 47 h ?_ ?_)<;>intro _ h
       ·exact go 30 ⟨_,a,true,fK,kr,b,h⟩
       ·refine gP 12 [2,3,2,4] b (bO 54 h ?_ ?_)<;>intro _ h
        ·exact go 23 ⟨_,a,true,fK,kr,b,h⟩
        ·refine gP 12 [3,3,3,4] b (bO 61 h ?_ ?_)<;>intro _ h
         ·exact go 16 ⟨_,a,true,fK,kr,b,h⟩
         ·refine gP 12 [4,3,4,4] b (bO 68 h ?_ ?_)<;>intro _ h
          ·exact go 9 ⟨_,a,true,fK,kr,b,h⟩
          ·refine gP 9 [5,3,5,4] b<|cB h (λ_ bJ=>(awK k) bJ (hG.mono x) bG bI<|pt b) ?_;rintro bK _ b9⟨bL,rfl,bg⟩ h;have bM:=ca bg b;exact go 5 ⟨_,bL,!bK,fK,bg.sub,bM,h⟩
     ·rintro _ cb⟨bf,p,av,rfl,ap,aw,h⟩;refine bC 75 h ?_ ?_<;>intro _ h
      ·refine gd 13 ?_;cases oj h n;exact rt1 ⟨p,rfl,aw.sel []⟩
      ·refine gd 9<|wl aw (λj m g_=>∃bh q,∃(af:Nat),g_=q.length/\j bh [2,3,5,6,7] [(8,iI (af:Int))]/\m p [] [.box (zz wi) (zz wi) #[sl ak o c1] 24,.box (zz wi) (zz an) #[sl al f am] 24,.box (zz wi) A (aF s B e C D G I J t N) 52,.box (zz wi) O (aF u S l U V W X Y v Z) 52]/\e.drop af=q/\alL k g l (afU k f d) q af=some r_) e.length ?_ ?_
       ·exact⟨_,e,0,rfl,fK,aw,List.drop_zero,h⟩
       ·rintro _ _ cc⟨bh,q,af,rfl,rfl,aq,ai,h⟩;rcases q with _|⟨⟨bi,bj⟩,q⟩
        ·exact gD 7 [1,3] aq<|cNl ai<|go 11<|iCl z ((mf ax x).len)<|go 3 ⟨_,Nat.lt_succ_self _,_,p,d,g+1,rfl,fK,x.trans ap,aq.sel [0,1],aac z,h⟩
        ·refine gD 7 [1,3] aq<|cCl ai<|go 8<|rB [] aq (λbk aj=>ah 3 [0,1,1,3,2] aj<|eA 3 4 rfl rfl aj (mp be ap) ai aaw.open ?_);rintro ce cf ch ci cj ck⟨rfl,cl⟩;refine ah 3 [5,1,6,4,7] aj ?_;obtain⟨⟨bm,bn⟩,bP,h⟩:=ob h;refine eB 8 9 rfl rfl aj (mp bH ap) bP aaw.open ?_;rintro cm cn co cq cr cs⟨rfl,ct⟩;refine kK 10 (.bool<|!((seq bi bm&&bj==bn)==true)) rfl (λw=>ayM (r:=(!((seq bi bm&&bj==bn)==true))) (.of ayK) rfl rfl rfl) aj (aD<|gx 1<|bC 93 h ?_ ?_)<;>intro _ h
         ·refine gd 16 ?_;cases oj h n;exact rt1 ⟨p,rfl,bk.sel []⟩
         ·exact gd 6<|iCl ai ((mp be ap).len)<|go 3 ⟨_,Nat.lt_succ_self _,_,q,af+1,rfl,fK,bk,aac ai,h⟩
theorem asZ(k:Nat)(F:apy)(IH45:afD F.f45):afD (ars k F):=by
 intro K wi t ab ac x ad h hG y q;obtain⟨n,o,h⟩:=rz h;refine en 31 Tryz.func45 rfl ?_;unfold ars at h;refine gd 12 (bC 8 h ?_ ?_)<;>intro _ h
 ·refine gd 8 ?_;cases oj h o;exact rt1 ⟨K,rfl,q⟩
 ·refine gd 8<|wk q (λj m=>∃z s u,j z [] [(5,iI u)]/\KH.sub K s/\m s [] []/\apJ k F u=some n) ?_ ?_
  ·refine gd 6<|wl q (λj m g_=>∃A l d,∃(e:Nat),∃a,g_=d.length/\j A [0,1] [(5,iI a),(6,iI (e:Int))]/\KH.sub K l/\m l [] []/\t.drop e=d/\ak3 k F x d e a=some n) t.length ?_ ?_
   ·exact⟨_,K,t,0,0,rfl,fK,kr,q,List.drop_zero,h⟩
   ·rintro _ _ ae⟨A,l,d,e,a,rfl,rfl,f,p,g,h⟩;rcases d with _|⟨⟨af,ai,aj,ak,G⟩,d⟩
    ·exact gd 6<|cNl g<|go 12 ⟨_,l,a,fK,f,p,h⟩
    ·refine gd 6 (cCl g<|go 8<|bC 16 h ?_ ?_)<;>intro _ h
     ·refine gd 7<|bar (r:=(w64<|a+1)) rfl rfl rfl<|go 2 ?_;obtain⟨I,B,al,J,am,N,O⟩:=((me y f)).row.at_ (aaC g);obtain⟨S,U,rfl,an,V⟩:=aai.open O;refine iNl 35 5 J g<|fd (B+e*5+4) avR rfl<|ld1 (v:=sl S G U) axC rfl (p.cell<|kr.cell<|N 4 _ rfl)<|go 1<|bar (r:=(w64<|x+1)) rfl rfl rfl<|cB h (λ_ W=>IH45 W (hG.mono f) V<|pt p) ?_;rintro C _ ao⟨X,rfl,D⟩ h;have Y:=ca D p;exact bar (r:=(w64<|(w64<|a+1)+C)) rfl rfl rfl<|go 6<|iCl g ((me y f).len)<|go 3 ⟨_,Nat.lt_succ_self _,_,X,d,e+1,w64<|(w64<|a+1)+C,rfl,fK,f.trans D.sub,Y,aac g,h⟩
     ·exact gd 6 ⟨_,l,a,fK,f,p,h⟩
  ·rintro _ ap⟨z,s,u,rfl,aq,Z,h⟩;refine gd 7 ?_;cases oj h o;exact rt1 ⟨s,rfl,Z⟩
theorem asW(k0:Nat) : ∀k,afD (alW k0 k).f45:=by
 intro k;induction k with
 | zero=>simp[afD,alW]
 | succ k ih=>exact asZ k0 (alW k0 k) ih
theorem auc(k:Nat):afD (f45 k):=(asW k k)
theorem as2(k:Nat)(F:amj)(IH24:afE F.f24):afE (aqE k F):=by
 intro K wi af bK bL d bM h hG ar Y;obtain⟨n,r,h⟩:=rz h;refine en 85 Tryz.func24 rfl ?_;unfold aqE at h;refine gd 12 (bC 10 h ?_ ?_)<;>intro _ h
 ·refine gd 8 ?_;cases oj h r;exact rt1 ⟨K,rfl,Y⟩
 ·refine gd 8<|wk Y (λj m=>∃au Z ai,j au [] [(5,iI ai)]/\KH.sub K Z/\m Z [] []/\aqL k F ai=some n) ?_ ?_
  ·refine gd 6<|wl Y (λj m g_=>∃av I u,∃(A:Nat),∃e,g_=u.length/\j av [0,1] [(5,iI e),(6,iI (A:Int))]/\KH.sub K I/\m I [] []/\af.drop A=u/\aie k F d u A e=some n) af.length ?_ ?_
   ·exact⟨_,K,af,0,0,rfl,fK,kr,Y,List.drop_zero,h⟩
   ·rintro _ _ aV⟨av,I,u,A,e,rfl,rfl,q,O,S,h⟩;rcases u with _|⟨⟨aW,aX,aY,aZ,a2,a3,a4,a5,a6,a7,ab⟩,u⟩
    ·exact gd 6<|cNl S<|go 12 ⟨_,I,e,fK,q,O,h⟩
    ·refine gd 6 (cCl S<|go 8<|bC 18 h ?_ ?_)<;>intro _ h
     ·refine gd 3<|wk O (λj m=>∃aw ac ad,j aw [0,1,6] [(5,iI ad)]/\KH.sub I ac/\m ac [] []/\aoV k F A ad (aie k F d u)=some n) ?_ ?_
      ·refine gd 5<|eN O (ms ar q) S aag.open ?_;rintro bP bQ bR bS bT bU⟨a8,a9,ba,bb,bd,be,bf,bg,bh,bi,rfl,bV,bW,bj,bk,bm,bn,ax⟩;refine gR 5 [0] [[iI 0,sE,iI 0,sE,iI 0,iI 0,nS,nS,nS,nS,nS]] O (λbX bY bo=>rB [] bo (λay t=>ah 1 [0] t<|kA 1 (w64<|e+1) rfl t<|ah 3 [2,6,3,1,4] t<|kA 5 (w64<|d+1) rfl t<|ah 3 [8,7,9,1,10] t<|kA 11 (w64<|d+1) rfl t<|ah 3 [14,8,15,1,16] t<|kA 17 (w64<|d+1) rfl t<|ah 3 [20,9,21,1,22] t<|kA 23 (w64<|d+1) rfl t<|aQ 6 rfl<|cB h (λ_ bp=>(auc k) bp (hG.mono q) bj<|pt ay) ?_));rintro x _ bZ⟨b0,rfl,a⟩ h;have aj:=ca a ay;refine go 2<|wB (fwOf (is:=[0]) aj a.sub rfl) (λbq=>kA 7 (w64<|(w64<|e+1)+x) rfl bq<|aQ 12 rfl<|cB h (λ_ br=>IH24 br (hG.mono<|q.trans a.sub) (ms bk a.sub)<|pt aj) ?_);rintro B _ b1⟨b2,rfl,f⟩ h;have ak:=ca f aj;refine go 2<|wB (fwOf (is:=[0]) ak (a.sub.trans f.sub) rfl) (λbs=>kA 13 (w64<|(w64<|(w64<|e+1)+x)+B) rfl bs<|aQ 18 rfl<|cB h (λ_ bu=>IH24 bu (hG.mono<|(q.trans a.sub).trans f.sub) (ms bm<|a.sub.trans f.sub)<|pt ak) ?_);rintro U _ b3⟨b4,rfl,s⟩ h;have al:=ca s ak;refine go 2<|wB (fwOf (is:=[0]) al ((a.sub.trans f.sub).trans s.sub) rfl) (λbv=>kA 19 (w64<|(w64<|(w64<|(w64<|e+1)+x)+B)+U) rfl bv<|aQ 24 rfl<|cB h (λ_ bw=>IH24 bw (hG.mono<|((q.trans a.sub).trans f.sub).trans s.sub) (ms bn<|(a.sub.trans f.sub).trans s.sub)<|pt al) ?_);rintro am _ b5⟨az,rfl,y⟩ h;have an:=ca y al;refine go 2<|wB (fwOf (is:=[0]) an (((a.sub.trans f.sub).trans s.sub).trans y.sub) rfl) (λaA=>kA 25 (w64<|(w64<|(w64<|(w64<|(w64<|e+1)+x)+B)+U)+am) rfl aA<|ah 1 [26] aA<|aD<|gx 7<|wl an (λj m g_=>∃aB V C,∃(g:Nat),∃l,g_=C.length/\j aB [0,1,6,7] [(5,iI l),(8,iI (g:Int))]/\KH.sub az V/\m V [] [.box (zz wi) (zz aV) (aS aW aX aY aZ a2 a3 a8 a4 a9 ba a5 bb bd a6 be bf a7 bg bh ab bi) 62]/\ab.drop g=C/\alS k F d A (aie k F d u) C g l=some n) ab.length ?_ ?_)
       ·exact⟨_,az,ab,0,w64<|(w64<|(w64<|(w64<|(w64<|e+1)+x)+B)+U)+am,rfl,fK,kr,an,List.drop_zero,h⟩
       ·rintro _ _ b6⟨aB,V,C,g,l,rfl,rfl,D,W,G,h⟩;rcases C with _|⟨⟨b7,b8,b9,aG,aH⟩,C⟩
        ·exact gD 7 [10,1] W<|cNl G<|go 13 ⟨_,V,l,fK,(((a.sub.trans f.sub).trans s.sub).trans y.sub).trans D,W.sel [],h⟩
        ·refine gD 7 [10,1] W (cCl G<|go 8<|bC 59 h ?_ ?_)<;>intro _ h
         ·refine gd 5<|rB [] W (λae p=>ah 1 [0] p<|kA 1 (w64<|l+1) rfl p<|ah 3 [2,10,3,1,4] p ?_);obtain⟨J,z,cb,aI,cc,aK,bx⟩:=((mc ax ((((a.sub.trans f.sub).trans s.sub).trans y.sub).trans D))).row.at_ (aaC G);obtain⟨aL,aM,aN,aP,rfl,ce,bz,bB⟩:=aaq.open bx;refine kK 5 (pp J<|z+g*5) rfl (λw=>alf (b:=J) (o:=z) (i:=g) axu axt rfl aI rfl<|abb G) p<|kK 6 (pp J<|z+g*5+3) rfl (λw=>ae6 (o':=z+g*5+3) awy rfl rfl) p<|tT 7 (sl aL aG aM) [] rfl (fq [0] ae) (λw hF=>acY (v:=sl aL aG aM) axC rfl<|hF.cell<|kr.cell<|aK 3 _ rfl)<|ah 1 [8] p<|kA 9 (w64<|d+1) rfl p<|ah 3 [12,10,13,1,14] p<|kK 15 (pp J<|z+g*5) rfl (λw=>alf (b:=J) (o:=z) (i:=g) axu axt rfl aI rfl<|abb G) p<|kK 16 (pp J<|z+g*5+4) rfl (λw=>ae6 (o':=z+g*5+4) amm rfl rfl) p<|tT 17 (sl aN aH aP) [] rfl (fq [0] ae) (λw hF=>acY (v:=sl aN aH aP) aoA rfl<|hF.cell<|kr.cell<|aK 4 _ rfl)<|ah 1 [18] p<|kA 19 (w64<|d+1) rfl p<|aQ 10 rfl<|cB h (λ_ bD=>(auc k) bD (hG.mono<|((((q.trans a.sub).trans f.sub).trans s.sub).trans y.sub).trans D) bz<|pt ae) ?_;rintro X _ cf⟨ch,rfl,N⟩ h;have ao:=ca N ae;refine go 2<|wB (fwOf (is:=[0]) ao N.sub rfl) (λbE=>kA 11 (w64<|(w64<|l+1)+X) rfl bE<|aQ 20 rfl<|cB h (λ_ bF=>IH24 bF (hG.mono<|(((((q.trans a.sub).trans f.sub).trans s.sub).trans y.sub).trans D).trans N.sub) (ms bB N.sub)<|pt ao) ?_);rintro ap _ ci⟨bG,rfl,aq⟩ h;have aT:=ca aq ao;exact go 2<|wB (fwOf (is:=[0]) aT (N.sub.trans aq.sub) rfl) (λaU=>kA 21 (w64<|(w64<|(w64<|l+1)+X)+ap) rfl aU<|ah 1 [22] aU<|aD<|gx 4<|iCl G ((mc ax<|(((a.sub.trans f.sub).trans s.sub).trans y.sub).trans D).len)<|go 3 ⟨_,Nat.lt_succ_self _,_,bG,C,g+1,w64<|(w64<|(w64<|l+1)+X)+ap,rfl,fK,(D.trans N.sub).trans aq.sub,aT,aac G,h⟩)
         ·exact gd 7 ⟨_,V,l,fK,(((a.sub.trans f.sub).trans s.sub).trans y.sub).trans D,W.sel [],h⟩
      ·rintro _ cj⟨aw,ac,ad,rfl,bH,bI,h⟩;exact gd 2<|iCl S ((ms ar q).len)<|go 3 ⟨_,Nat.lt_succ_self _,_,ac,u,A+1,ad,rfl,fK,q.trans bH,bI,aac S,h⟩
     ·exact gd 6 ⟨_,I,e,fK,q,O,h⟩
  ·rintro _ ck⟨au,Z,ai,rfl,cl,bJ,h⟩;refine gd 7 ?_;cases oj h r;exact rt1 ⟨Z,rfl,bJ⟩
theorem ar6(k0:Nat) : ∀k,afE (akg k0 k).f24:=by
 intro k;induction k with
 | zero=>simp[afE,akg]
 | succ k ih=>exact as2 k0 (akg k0 k) ih
theorem axa(k:Nat):afE (f24 k):=(ar6 k k)
theorem ayG(k:Nat):avZ (f8 k):=by
 intro K wi D ae af h hG G I;obtain⟨n,o,h⟩:=rz h;obtain⟨q⟩:=D;obtain⟨J,c1,rfl,x⟩:=aad.open G;refine en 28 Tryz.func8 rfl ?_;unfold f8 at h;refine gI 11 [] [] I (λai t=>wk t (λj m=>∃y s u,j y [] [(3,iI u)]/\KH.sub K s/\m s [] []/\avc k u=some n) ?_ ?_)
 ·refine gd 6<|wl t (λj m g_=>∃z p e,∃(f:Nat),∃a,g_=e.length/\j z [1] [(3,iI a),(4,iI (f:Int))]/\KH.sub K p/\m p [] [.box (zz wi) (zz wi) #[sl J q c1] 24]/\q.drop f=e/\auy k e f a=some n) q.length ?_ ?_
  ·exact⟨_,K,q,0,0,rfl,fK,kr,t,List.drop_zero,h⟩
  ·rintro _ _ aj⟨z,p,e,f,a,rfl,rfl,g,d,l,h⟩;rcases e with _|⟨⟨ak,al,am,an,ao,N⟩,e⟩
   ·exact gD 7 [0,1] d<|cNl l<|go 12 ⟨_,p,a,fK,g,d.sel [],h⟩
   ·refine gD 7 [0,1] d (cCl l<|go 8<|bC 13 h ?_ ?_)<;>intro _ h
    ·refine gd 7<|bar (r:=(w64<|a+1)) rfl rfl rfl<|gP 3 [0,1] d ?_;obtain⟨O,A,ap,S,aq,U,V⟩:=((mf x g)).row.at_ (aaC l);obtain⟨ar,au,W,X,rfl,av,aw,Y⟩:=aak.open V;refine iNl 52 6 S l<|fd (A+f*6+5) amO rfl<|ld1 (v:=sl W N X) aoA rfl (d.cell<|kr.cell<|U 5 _ rfl)<|cB h (λ_ Z=>(axa k) Z (hG.mono g) Y<|pt d) ?_;rintro B _ ax⟨ab,rfl,C⟩ h;have ac:=ca C d;exact bar (r:=(w64<|(w64<|a+1)+B)) rfl rfl rfl<|go 6<|iCl l ((mf x g).len)<|go 3 ⟨_,Nat.lt_succ_self _,_,ab,e,f+1,w64<|(w64<|a+1)+B,rfl,fK,g.trans C.sub,ac,aac l,h⟩
    ·exact gd 6 ⟨_,p,a,fK,g,d.sel [],h⟩
 ·rintro _ ay⟨y,s,u,rfl,az,ad,h⟩;refine gd 8 ?_;cases oj h o;exact rt1 ⟨s,rfl,ad⟩
theorem axI(k:Nat):ase (f30 k):=by
 intro K wi e g h hG a;obtain⟨y,z,h⟩:=rz h;refine en 9 Tryz.func30 rfl ?_;unfold f30 at h;refine gd 5<|wk a (λj m=>∃d b,j d [] [(2,.bool b)]/\m K [] []/\aqI k b=some y) ?_ ?_
 ·refine gd 4 (bO 5 h ?_ ?_)<;>intro _ h
  ·exact go 6 ⟨_,true,fK,a,h⟩
  ·exact go 8 ⟨_,decide<|e>6,fK,a,h⟩
 ·rintro _ i⟨d,b,rfl,f,h⟩;refine gd 1 ?_;cases oj h z;exact rt1 ⟨K,rfl,f⟩
theorem am5(k:Nat):ajo (ajW k):=by
 intro K wi p I J N h hG q r;obtain⟨n,o,h⟩:=rz h;refine en 19 Tryz.func52 rfl ?_;unfold ajW at h;refine gd 14<|wl r (λj m g_=>∃s f a,∃(d:Nat),g_=a.length/\j s [0,1,7] [(8,iI (d:Int))]/\KH.sub K f/\m f [] []/\p.drop d=a/\ae8 k a d=some n) p.length ?_ ?_
 ·exact⟨_,K,p,0,rfl,fK,kr,r,List.drop_zero,h⟩
 ·rintro _ _ O⟨s,f,a,d,rfl,rfl,g,l,e,h⟩;rcases a with _|⟨y,a⟩
  ·refine gd 2<|cNl e<|go 15 ?_;cases oj h o;exact rt1 ⟨f,rfl,l⟩
  ·refine gd 2<|cCl e<|go 19 ?_;obtain⟨z,A,S,B,U,C,D⟩:=((q.mono g (λ_ _ h=>h))).row.at_ (aaC e);obtain rfl:=D;refine iNl 3 1 B e<|ld1 (v:=iI y) Tya3 rfl (l.cell<|kr.cell<|C 0 _ rfl)<|cB h (λ_ G=>(axI k) G (hG.mono g)<|pt l) ?_;rintro V _ W⟨t,rfl,u⟩ h;have x:=ca u l;refine go 2 (bC 16 h ?_ ?_)<;>intro _ h
   ·refine gd 13 ?_;cases oj h o;exact rt1 ⟨t,rfl,x⟩
   ·exact gd 5<|iCl e ((q.mono g (λ_ _ h=>h)).len)<|go 3 ⟨_,Nat.lt_succ_self _,_,t,a,d+1,rfl,fK,g.trans u.sub,x,aac e,h⟩
theorem amH(k:Nat):akq (ajG k):=by
 intro K wi j l m b h hG d a;obtain⟨y,z,h⟩:=rz h;refine en 9 Tryz.func29 rfl ?_;unfold ajG at h;refine gd 9<|cB h (λ_ e=>(am5 k) e (hG.mono kr) d<|pt a) ?_;rintro b _ o⟨f,rfl,g⟩ h;have i:=ca g a;refine go 5 ?_;cases oj h z;exact rt1 ⟨f,rfl,i⟩
theorem axc(k:Nat):as5 (f31 k):=by
 intro K wi d q a r h hG e f;obtain⟨Z,n,h⟩:=rz h;obtain⟨s,t,u,v,x⟩:=d;obtain⟨y,z,rfl,g,i⟩:=aai.open e;refine en 10 Tryz.func31 rfl ?_;unfold f31 at h;refine gI 9 [] [] f (λA j=>bld (cells:=#[iI 0,iI 0,.bool a]) (vs:=[(2,.bool a)]) rfl (λw=>by kernel_rfl)<|gR 7 [0,0,1,5] [[iI 0,iI 0,vN]] j (λB C b=>cB h (λ_ l=>(awE k) l (hG.mono kr) (aai.intro g i)<|pt b) ?_));rintro⟨⟨D,G,I⟩,J⟩ _ N⟨m,rfl,o⟩ h;have p:=ca o b;refine go 4 ?_;cases oj h n;exact rt1 ⟨m,rfl,p.sel []⟩
theorem ath(k:Nat)(F:aeZ)(IH32:acw F.f32)(IH1005440:aaY F.f1005440)(IH1005532:aa6 F.f1005532)(IH1008147:aa2 F.f1008147)(IH1008221:aa0 F.f1008221)(IH1011347:aaX F.f1011347):acw (avf k F):=by
 intro K wi o B C D h hG p q;obtain⟨r_,n,h⟩:=rz h;obtain⟨G,I,J,N,O⟩:=o;obtain⟨S,U,rfl,V,e⟩:=aai.open p;refine en 25 Tryz.func32 rfl ?_;unfold avf at h;refine gI 7 [] [] q (λf W a=>wk a (λj m=>∃g b d,j g [] [(4,.bool d)]/\KH.sub K b/\m b [] []/\alF k F d=some r_) ?_ ?_)
 ·refine gD 5 [0,2] a (bO 8 h ?_ ?_)<;>intro _ h
  ·refine gP 16 [4,2] a<|mkf (us:=[]) (vs:=[pp (zz f) 0]) rfl rfl<|go 1<|cB h (λ_ r=>IH1005440 r (hG.mono kr) e<|pt a) ?_;rintro s _ X⟨t,rfl,i⟩ h;have u:=ca i a;exact go 4 ⟨_,t,s,fK,i.sub,u.sel [],h⟩
  ·refine gP 8 [3,2] a (bO 12 h ?_ ?_)<;>intro _ h
   ·refine gP 12 [3,2,1] a (bO 19 h ?_ ?_)<;>intro _ h
    ·refine gP 5 [4,2] a<|mkf (us:=[]) (vs:=[pp (zz f) 0]) rfl rfl<|go 1<|cB h (λ_ v=>IH1005440 v (hG.mono kr) e<|pt a) ?_;rintro x _ Y⟨y,rfl,l⟩ h;have z:=ca l a;exact go 4 ⟨_,y,x,fK,l.sub,z.sel [],h⟩
    ·exact go 8 ⟨_,K,false,fK,kr,a.sel [],h⟩
   ·exact go 16 ⟨_,K,false,fK,kr,a.sel [],h⟩
 ·rintro _ Z⟨g,b,d,rfl,ab,A,h⟩;refine gd 1 ?_;cases oj h n;exact rt1 ⟨b,rfl,A⟩
theorem ajA(k:Nat)(F:aeZ)(IH32:acw F.f32)(IH1005440:aaY F.f1005440)(IH1005532:aa6 F.f1005532)(IH1008147:aa2 F.f1008147)(IH1008221:aa0 F.f1008221)(IH1011347:aaX F.f1011347):aaY (agq k F):=by
 intro K wi j l m g bs s o h hG b a;obtain⟨y,z,h⟩:=rz h;refine en 9 Tryz.func54 rfl ?_;unfold agq at h;refine gI 9 [] [] a (λp a=>mkf (us:=[]) (vs:=[pp (zz wi) 0]) rfl rfl<|cB h (λ_ d=>IH1008147 d (hG.mono kr) b<|pt a) ?_);rintro q _ r⟨e,rfl,f⟩ h;have i:=ca f a;refine go 5 ?_;cases oj h z;exact rt1 ⟨e,rfl,i.sel [1]⟩
theorem ajf(k:Nat)(F:aeZ)(IH32:acw F.f32)(IH1005440:aaY F.f1005440)(IH1005532:aa6 F.f1005532)(IH1008147:aa2 F.f1008147)(IH1008221:aa0 F.f1008221)(IH1011347:aaX F.f1011347):aa6 (agt k F):=by
 intro K wi b p g bs s q h hG d e;obtain⟨Z,n,h⟩:=rz h;obtain⟨r,t,u,v,x⟩:=b;obtain⟨y,z,rfl,f,i⟩:=aai.open d;refine en 7 Tryz.func55 rfl ?_;unfold agt at h;refine gI 10 [0,0,5,2] [] e (λA a=>cB h (λ_ j=>IH32 j (hG.mono kr) (aai.intro f i)<|pt a) ?_);rintro B _ C⟨l,rfl,m⟩ h;have o:=ca m a;refine go 4 ?_;cases oj h n;exact rt1 ⟨l,rfl,o.sel [1]⟩
theorem ajS(k:Nat)(F:aeZ)(IH32:acw F.f32)(IH1005440:aaY F.f1005440)(IH1005532:aa6 F.f1005532)(IH1008147:aa2 F.f1008147)(IH1008221:aa0 F.f1008221)(IH1011347:aaX F.f1011347):aa2 (af1 k F):=by
 intro K wi l m o g bs gA bsA sA b h hG d a;obtain⟨y,z,h⟩:=rz h;refine en 9 Tryz.func81 rfl ?_;unfold af1 at h;refine gd 9<|cB h (λ_ e=>IH1011347 e (hG.mono kr) d<|pt a) ?_;rintro b _ p⟨f,rfl,i⟩ h;have j:=ca i a;refine go 5 ?_;cases oj h z;exact rt1 ⟨f,rfl,j⟩
theorem akd(k:Nat)(F:aeZ)(IH32:acw F.f32)(IH1005440:aaY F.f1005440)(IH1005532:aa6 F.f1005532)(IH1008147:aa2 F.f1008147)(IH1008221:aa0 F.f1008221)(IH1011347:aaX F.f1011347):aa0 (af5 k F):=by
 intro K wi m z g bs gA bsA sA A h hG o p;obtain⟨Z,n,h⟩:=rz h;obtain⟨a,b,d,e,f⟩:=m;obtain⟨i,j,rfl,q,r⟩:=aai.open o;refine en 8 Tryz.func82 rfl ?_;unfold af5 at h;refine gI 10 [2,0,0,5] [] p (λs t=>?_);have l:=p201 t;obtain⟨B,u,h⟩:=ob h;refine clV (caps:=#[pp gA 0]) (vs:=[.agg (aE a b d e i f j),pp gA 0]) rfl ayY rfl (IH1005532 u (hG.mono kr) (aai.intro q r)<|pt l) ?_;rintro _ C⟨v,rfl,x⟩;have y:=ca x l;refine go 5 ?_;cases oj h n;exact rt1 ⟨v,rfl,y.sel [2,0]⟩
theorem aj3(k:Nat)(F:aeZ)(IH32:acw F.f32)(IH1005440:aaY F.f1005440)(IH1005532:aa6 F.f1005532)(IH1008147:aa2 F.f1008147)(IH1008221:aa0 F.f1008221)(IH1011347:aaX F.f1011347):aaX (agf k F):=by
 intro K wi i J N g bs gA bsA sA O h hG o p;obtain⟨r_,n,h⟩:=rz h;refine en 19 Tryz.func113 rfl ?_;unfold agf at h;refine gd 14<|wl p (λj m g_=>∃q b a,∃(d:Nat),g_=a.length/\j q [0,1,7] [(8,iI (d:Int))]/\KH.sub K b/\m b [1,0] []/\i.drop d=a/\ae3 k F sA a d=some r_) i.length ?_ ?_
 ·exact⟨_,K,i,0,rfl,fK,kr,p.sel [1,0],List.drop_zero,h⟩
 ·rintro _ _ v⟨q,b,a,d,rfl,rfl,f,l,e,h⟩;rcases a with _|⟨⟨x,y,z,A,B⟩,a⟩
  ·refine gd 2<|cNl e<|go 15 ?_;cases oj h n;exact rt1 ⟨b,rfl,l.sel [1,0]⟩
  ·refine gd 2<|cCl e<|go 19<|eN l (me o f) e aai.open ?_;rintro S U V W X C⟨D,G,rfl,Y,Z⟩;have r:=p10 l;obtain⟨ab,I,h⟩:=ob h;refine clV (caps:=#[pp g 0]) (vs:=[.agg (aE x y z A D B G),pp g 0]) rfl ayT rfl (IH1008221 I (hG.mono f) C<|pt r) ?_;rintro _ ac⟨s,rfl,t⟩;have u:=ca t r;refine go 2 (bC 16 h ?_ ?_)<;>intro _ h
   ·refine gd 13 ?_;cases oj h n;exact rt1 ⟨s,rfl,u⟩
   ·exact gd 5<|iCl e ((me o f).len)<|go 3 ⟨_,Nat.lt_succ_self _,_,s,a,d+1,rfl,fK,f.trans t.sub,u.sel [1,0],aac e,h⟩
theorem aeP(k0:Nat) : ∀k,acw (acb k0 k).f32/\aaY (acb k0 k).f1005440/\aa6 (acb k0 k).f1005532/\aa2 (acb k0 k).f1008147/\aa0 (acb k0 k).f1008221/\aaX (acb k0 k).f1011347:=by
 intro k;induction k with
 | zero=>exact⟨by simp[acw,acb],by simp[aaY,acb],by simp[aa6,acb],by simp[aa2,acb],by simp[aa0,acb],by simp[aaX,acb]⟩
 | succ k ih=>exact⟨ath k0 (acb k0 k) ih.1 ih.2.1 ih.2.2.1 ih.2.2.2.1 ih.2.2.2.2.1 ih.2.2.2.2.2,ajA k0 (acb k0 k) ih.1 ih.2.1 ih.2.2.1 ih.2.2.2.1 ih.2.2.2.2.1 ih.2.2.2.2.2,ajf k0 (acb k0 k) ih.1 ih.2.1 ih.2.2.1 ih.2.2.2.1 ih.2.2.2.2.1 ih.2.2.2.2.2,ajS k0 (acb k0 k) ih.1 ih.2.1 ih.2.2.1 ih.2.2.2.1 ih.2.2.2.2.1 ih.2.2.2.2.2,akd k0 (acb k0 k) ih.1 ih.2.1 ih.2.2.1 ih.2.2.2.1 ih.2.2.2.2.1 ih.2.2.2.2.2,aj3 k0 (acb k0 k) ih.1 ih.2.1 ih.2.2.1 ih.2.2.2.1 ih.2.2.2.2.1 ih.2.2.2.2.2⟩
theorem awP(k:Nat):acw (f32 k):=(aeP k k).1
theorem auP(k:Nat):aaY (f1005440 k):=(aeP k k).2.1
theorem auU(k:Nat):aa6 (f1005532 k):=(aeP k k).2.2.1
theorem auD(k:Nat):aa2 (f1008147 k):=(aeP k k).2.2.2.1
theorem avD(k:Nat):aa0 (f1008221 k):=(aeP k k).2.2.2.2.1
theorem avE(k:Nat):aaX (f1011347 k):=(aeP k k).2.2.2.2.2
theorem awD(k:Nat):atO (f13 k):=by
 intro K wi G ad I ae af ai aj h hG J r N;obtain⟨r_,n,h⟩:=rz h;obtain⟨s,t,u,v,x⟩:=G;obtain⟨O,S,rfl,i,l⟩:=aai.open J;refine en 29 Tryz.func13 rfl ?_;unfold f13 at h;refine gI 10 [] [] N (λak y=>cB h (λ_ U=>(amH k) U (hG.mono kr) r<|pt y) ?_);rintro V _ al⟨W,rfl,a⟩ h;have d:=ca a y;refine go 4<|wk d (λj m=>∃z e o,j z [1,2] [(22,.bool o)]/\KH.sub W e/\m e [] [.box (zz wi) (zz wi) (aE s t u v O x S) 35]/\ani k s t u v x I o=some r_) ?_ ?_
 ·refine gD 2 [0,0,5] d<|cB h (λ_ X=>(axc k) X (gm hG a) (aai.intro i<|me l a.sub)<|pt d) ?_;rintro am _ an⟨Y,rfl,b⟩ h;have f:=ca b d;refine go 2 (bO 13 h ?_ ?_)<;>intro _ h
  ·exact go 11 ⟨_,Y,true,fK,b.sub,f,h⟩
  ·refine gP 7 [0,0,5] f<|cB h (λ_ Z=>(awP k) Z (hG.mono<|a.sub.trans b.sub) (aai.intro i<|me l<|a.sub.trans b.sub)<|pt f) ?_;rintro ao _ ap⟨A,rfl,p⟩ h;have B:=ca p f;refine go 4 (bO 20 h ?_ ?_)<;>intro _ h
   ·exact go 4 ⟨_,A,true,fK,b.sub.trans p.sub,B,h⟩
   ·exact go 5 ⟨_,A,V,fK,b.sub.trans p.sub,B,h⟩
 ·rintro _ aq⟨z,e,o,rfl,q,g,h⟩;refine bC 22 h ?_ ?_<;>intro _ h
  ·refine gd 9 ?_;cases oj h n;exact rt2 ⟨e,rfl,g.sel []⟩
  ·refine gD 7 [0,0,5] g<|cB h (λ_ ab=>(ami k) ab (hG.mono<|a.sub.trans q) (aai.intro i<|me l<|a.sub.trans q) (r.mono (a.sub.trans q) (λ_ _ h=>h))<|pt g) ?_;rintro ar _ au⟨C,rfl,ac⟩ h;have D:=ca ac g;refine go 10 (bC 27 h ?_ ?_)<;>intro _ h
   ·refine gd 9 ?_;cases oj h n;exact rt2 ⟨C,rfl,D.sel []⟩
   ·refine gd 11 ?_;cases oj h n;exact rt2 ⟨C,rfl,D.sel []⟩
theorem atU(k:Nat):asX (f25 k):=by
 intro K wi a d f G h hG o g;obtain⟨Z,n,h⟩:=rz h;refine en 14 Tryz.func25 rfl ?_;unfold f25 at h;refine gI 7 [] [[nS]] g (λj g=>bld (cells:=#[iI 2,iI 1,sE,iI 0,nS]) (vs:=[(0,iI 2),(1,iI 1)]) rfl (λw=>by kernel_rfl)<|gR 2 [35] [] g (λI p=>bld (cells:=#[iI 21,sE,iI 0,sE,iI 0,iI 0,.slice (some ⟨zz j,0,none⟩) 1 1,sl d a f,nS,nS,nS]) (vs:=[(0,iI 21),(6,.slice (some ⟨zz j,0,none⟩) 1 1),(7,sl d a f)]) rfl (λw=>by kernel_rfl)<|gR 6 [0] [[iI 0,sE,iI 0,sE,iI 0,iI 0,nS,nS,nS,nS,nS]] p (λJ b q=>bld (cells:=#[.string ⟨#[109,97,105,110]⟩,nS,iI 0,vN,iI 0,nS]) (vs:=[(0,.string ⟨#[109,97,105,110]⟩)]) rfl (λw=>by kernel_rfl)<|gR 2 [0,0,11,62] [] q (λl r=>bld (cells:=#[.string ⟨#[102]⟩,nS,iI 1,vN,iI 0,.slice (some ⟨zz b,0,none⟩) 1 1]) (vs:=[(0,.string ⟨#[102]⟩),(2,iI 1),(5,.slice (some ⟨zz b,0,none⟩) 1 1)]) rfl (λw=>by kernel_rfl)<|bsl (e:=52) (cells:=#[.string ⟨#[109,97,105,110]⟩,nS,iI 0,vN,iI 0,nS,.string ⟨#[102]⟩,nS,iI 1,vN,iI 0,.slice (some ⟨zz b,0,none⟩) 1 1]) (vs:=[(0,.agg #[.string ⟨#[109,97,105,110]⟩,nS,iI 0,vN,iI 0,nS]),(1,.agg #[.string ⟨#[102]⟩,nS,iI 1,vN,iI 0,.slice (some ⟨zz b,0,none⟩) 1 1])]) r rfl (λw=>by kernel_rfl) (λN s=>bld (cells:=#[.slice (some ⟨zz l,0,none⟩) 2 2]) (vs:=[(0,.slice (some ⟨zz l,0,none⟩) 2 2)]) rfl (λw=>by kernel_rfl)<|gR 4 [4] [] s (λO m=>?_))))));obtain⟨t,u,v,x⟩:=frzI (i:=3) (bytes:=64) (xs:=[(aah.mk 2 1 ⟨#[]⟩ 0 [])]) (R:=λK=>(aai K)) m rfl (Nat.le_refl _) ⟨[iI 2,iI 1,sE,iI 0,nS],_,rfl,rfl,(aai.intro (by decide) (RSl.nil _ _ _ _ _ _)),(abm (R:=(aai K)) (size:=5))⟩ rfl (Nat.le_of_ble_eq_true rfl) (λhs=>(λ_ _ h=>aai.mono hs h));obtain⟨y,z,S,A⟩:=frzI (i:=1) (bytes:=184) (xs:=[(aae.mk 21 ⟨#[]⟩ 0 ⟨#[]⟩ 0 0 [(aah.mk 2 1 ⟨#[]⟩ 0 [])] a [] [] [])]) (R:=λK=>(aag K)) u rfl (Nat.le_refl _) ⟨[iI 21,sE,iI 0,sE,iI 0,iI 0,.slice (some ⟨(zz j),0,none⟩) [(aah.mk 2 1 ⟨#[]⟩ 0 [])].length 1,sl d a f,nS,nS,nS],_,rfl,rfl,(aag.intro (by decide) (by decide) x (ms o v) (RSl.nil _ _ _ _ _ _) (RSl.nil _ _ _ _ _ _) (RSl.nil _ _ _ _ _ _)),(abm (R:=(aag t)) (size:=11))⟩ rfl (Nat.le_of_ble_eq_true rfl) (λhs=>(λ_ _ h=>aag.mono hs h));obtain⟨B,C,U,D⟩:=frzI (i:=0) (bytes:=88) (xs:=[(aab.mk ⟨#[109,97,105,110]⟩ [] 0 false 0 []),(aab.mk ⟨#[102]⟩ [] 1 false 0 [(aae.mk 21 ⟨#[]⟩ 0 ⟨#[]⟩ 0 0 [(aah.mk 2 1 ⟨#[]⟩ 0 [])] a [] [] [])])]) (R:=λK=>(aak K)) z rfl (Nat.le_refl _) ⟨[.string ⟨#[109,97,105,110]⟩,nS,iI 0,vN,iI 0,nS],_,rfl,rfl,(aak.intro (by decide) (RSl.nil _ _ _ _ _ _) (RSl.nil _ _ _ _ _ _)),⟨[.string ⟨#[102]⟩,nS,iI 1,vN,iI 0,.slice (some ⟨(zz b),0,none⟩) [(aae.mk 21 ⟨#[]⟩ 0 ⟨#[]⟩ 0 0 [(aah.mk 2 1 ⟨#[]⟩ 0 [])] a [] [] [])].length 1],_,rfl,rfl,(aak.intro (by decide) (RSl.nil _ _ _ _ _ _) A),(abm (R:=(aak y)) (size:=6))⟩⟩ rfl (Nat.le_of_ble_eq_true rfl) (λhs=>(λ_ _ h=>aak.mono hs h));cases oj h n;exact adq rfl (rNl 4 m rfl) ⟨B,[.slice (some ⟨zz l,0,none⟩) [(aab.mk ⟨#[109,97,105,110]⟩ [] 0 false 0 []),(aab.mk ⟨#[102]⟩ [] 1 false 0 [(aae.mk 21 ⟨#[]⟩ 0 ⟨#[]⟩ 0 0 [(aah.mk 2 1 ⟨#[]⟩ 0 [])] a [] [] [])])].length 2],rfl,C.sel [],aad.intro D⟩
theorem axe(k:Nat):au9 (f9 k):=by
 intro K wi al h hG o;obtain⟨r_,n,h⟩:=rz h;refine en 48 Tryz.func9 rfl ?_;unfold f9 at h;refine gd 7<|cB h (λ_ B=>(atU k) B (hG.mono kr) (RSl.nil _ _ _ _ _ _)<|pt o) ?_;rintro⟨am⟩ _ an⟨ao,ap,rfl,b,p⟩ h;have q:=ca b o;obtain⟨aq,ar,rfl,au⟩:=aad.open p;refine cB h (λ_ C=>(apP k) C (gm hG b) p<|pt q) ?_;rintro⟨⟨av⟩,aw⟩ _ ax⟨D,ay,rfl,d,G⟩ h;have I:=ca d q;obtain⟨az,aA,rfl,aB⟩:=aad.open G;refine gR 10 [0] [[nS]] I (λaG aH J=>bld (cells:=#[iI 18,sE,iI 0,sE,iI 0,iI 0,nS,nS,nS,nS,nS]) (vs:=[(0,iI 18)]) rfl (λw=>by kernel_rfl)<|gR 1 [62] [] J (λaI N=>?_));obtain⟨aK,r,f,O⟩:=frzI (i:=0) (bytes:=184) (xs:=[(aae.mk 18 ⟨#[]⟩ 0 ⟨#[]⟩ 0 0 [] [] [] [] [])]) (R:=λK=>(aag K)) N rfl (Nat.le_refl _) ⟨[iI 18,sE,iI 0,sE,iI 0,iI 0,nS,nS,nS,nS,nS],_,rfl,rfl,(aag.intro (by decide) (by decide) (RSl.nil _ _ _ _ _ _) (RSl.nil _ _ _ _ _ _) (RSl.nil _ _ _ _ _ _) (RSl.nil _ _ _ _ _ _) (RSl.nil _ _ _ _ _ _)),(abm (R:=(aag D)) (size:=11))⟩ rfl (Nat.le_of_ble_eq_true rfl) (λhs=>(λ_ _ h=>aag.mono hs h));refine cB h (λ_ S=>(atU k) S (gm hG r) O<|pt r) ?_;rintro⟨aL⟩ _ aM⟨aN,aP,rfl,g,s⟩ h;have t:=ca g r;obtain⟨aT,aU,rfl,aV⟩:=aad.open s;refine cB h (λ_ U=>(apP k) U (gm hG t) s<|pt t) ?_;rintro⟨⟨aW⟩,aX⟩ _ aY⟨V,aZ,rfl,u,W⟩ h;have X:=ca u t;obtain⟨a0,a1,rfl,a2⟩:=aad.open W;refine gR 10 [0] [[nS]] X (λa3 v Y=>bld (cells:=#[iI 1,iI 0,sE,iI 0,nS]) (vs:=[(0,iI 1)]) rfl (λw=>by kernel_rfl)<|bld (cells:=#[iI 4,iI 0,.string ⟨#[120]⟩,iI 1,nS]) (vs:=[(0,iI 4),(2,.string ⟨#[120]⟩),(3,iI 1)]) rfl (λw=>by kernel_rfl)<|bsl (e:=35) (cells:=#[iI 1,iI 0,sE,iI 0,nS,iI 4,iI 0,.string ⟨#[120]⟩,iI 1,nS]) (vs:=[(0,.agg #[iI 1,iI 0,sE,iI 0,nS]),(1,.agg #[iI 4,iI 0,.string ⟨#[120]⟩,iI 1,nS])]) Y rfl (λw=>by kernel_rfl) (λa4 Z=>bld (cells:=#[iI 11,iI 0,sE,iI 0,.slice (some ⟨zz v,0,none⟩) 2 2]) (vs:=[(0,iI 11),(4,.slice (some ⟨zz v,0,none⟩) 2 2)]) rfl (λw=>by kernel_rfl)<|bsl (e:=3) (cells:=#[iI 3,iI 1]) (vs:=[(0,iI 3),(1,iI 1)]) Z rfl (λw=>by kernel_rfl) (λa5 ab=>?_)));obtain⟨a6,ac,ad,ae⟩:=frzI (i:=1) (bytes:=64) (xs:=[(aah.mk 1 0 ⟨#[]⟩ 0 []),(aah.mk 4 0 ⟨#[120]⟩ 1 [])]) (R:=λK=>(aai K)) ab rfl (Nat.le_refl _) ⟨[iI 1,iI 0,sE,iI 0,nS],_,rfl,rfl,(aai.intro (by decide) (RSl.nil _ _ _ _ _ _)),⟨[iI 4,iI 0,.string ⟨#[120]⟩,iI 1,nS],_,rfl,rfl,(aai.intro (by decide) (RSl.nil _ _ _ _ _ _)),(abm (R:=(aai V)) (size:=5))⟩⟩ rfl (Nat.le_of_ble_eq_true rfl) (λhs=>(λ_ _ h=>aai.mono hs h));obtain⟨a7,x,y,af⟩:=fzi 0 [3,1] ac rfl;refine cB h (λ_ ai=>(awD k) ai (hG.mono<|(((((b.sub.trans d.sub).trans f).trans g.sub).trans u.sub).trans ad).trans y) (aai.intro (by decide)<|me ae y) af<|pt x) ?_;rintro⟨a8,a9⟩ _ ba⟨z,rfl,aj⟩ h;have a:=ca aj x;refine go 7<|wk a (λj m=>∃A l,j A [] [(0,.bool l)]/\m z [] []/\aow k l=some r_) ?_ ?_
 ·refine gd 4 (bO 30 h ?_ ?_)<;>intro _ h
  ·refine go 6 (bO 34 h ?_ ?_)<;>intro _ h
   ·refine go 6 (bO 38 h ?_ ?_)<;>intro _ h
    ·refine go 6 (bO 42 h ?_ ?_)<;>intro _ h
     ·exact go 8 ⟨_,true,fK,a.sel [],h⟩
     ·exact go 8 ⟨_,false,fK,a.sel [],h⟩
    ·exact go 12 ⟨_,false,fK,a.sel [],h⟩
   ·exact go 16 ⟨_,false,fK,a.sel [],h⟩
  ·exact go 20 ⟨_,false,fK,a.sel [],h⟩
 ·rintro _ bb⟨A,l,rfl,ak,h⟩;refine gd 1 ?_;cases oj h n;exact rt1 ⟨z,rfl,ak⟩
theorem ayB(k:Nat):avA (f3 k):=by
 intro K wi v ae af h hG x y;obtain⟨r_,n,h⟩:=rz h;obtain⟨ai⟩:=v;obtain⟨aj,c1,rfl,o⟩:=aad.open x;refine en 32 Tryz.func3 rfl ?_;unfold f3 at h;refine gI 10 [0,0,1] [] y (λak q=>cB h (λ_ z=>(ayG k) z (hG.mono kr) (aad.intro o)<|pt q) ?_);rintro al _ am⟨an,rfl,a⟩ h;have b:=ca a q;refine go 3 (bC 9 h ?_ ?_)<;>intro _ h
 ·refine gd 3<|cB h (λ_ A=>(axe k) A (gm hG a)<|pt b) ?_;rintro ao _ ap⟨B,rfl,C⟩ h;have D:=ca C b;refine go 5 ?_;cases oj h n;exact rt1 ⟨B,rfl,D.sel []⟩
 ·refine gD 6 [0,0,1] b<|cB h (λ_ G=>(apP k) G (gm hG a) (aad.intro<|mf o a.sub)<|pt b) ?_;rintro⟨⟨aq⟩,ar⟩ _ au⟨av,aw,rfl,d,I⟩ h;have J:=ca d b;obtain⟨ax,ay,rfl,N⟩:=aad.open I;refine gR 11 [0,0,1,1] [[nS]] J (λaz aA r=>cB h (λ_ O=>(ax2 k) O (hG.mono<|a.sub.trans d.sub) (aad.intro<|mf o<|a.sub.trans d.sub)<|pt r) ?_);rintro⟨⟨aB⟩,aG⟩ _ aH⟨S,aI,rfl,f,U⟩ h;have V:=ca f r;obtain⟨aK,aL,rfl,W⟩:=aad.open U;refine gR 8 [0] [[nS]] V (λaM aN g=>wk g (λj m=>∃s i p,j s [] [(2,.bool p)]/\KH.sub S i/\m i [] []/\aoF k p=some r_) ?_ ?_)
  ·refine gD 3 [0,1,1,0,0,1] g<|cB h (λ_ X=>(axJ k) X (hG.mono<|(a.sub.trans d.sub).trans f.sub) (aad.intro<|mf N f.sub) (aad.intro W)<|pt g) ?_;rintro aP _ aT⟨t,rfl,e⟩ h;have l:=ca e g;refine go 1 (bO 24 h ?_ ?_)<;>intro _ h
   ·refine go 8 (bO 29 h ?_ ?_)<;>intro _ h
    ·refine go 1<|cB h (λ_ Y=>(axe k) Y (gm hG l)<|pt l) ?_;rintro Z _ aU⟨ab,rfl,u⟩ h;have ac:=ca u l;exact go 4 ⟨_,ab,Z,fK,e.sub.trans u.sub,ac.sel [],h⟩
    ·exact go 5 ⟨_,t,false,fK,e.sub,l.sel [],h⟩
   ·exact go 10 ⟨_,t,false,fK,e.sub,l.sel [],h⟩
  ·rintro _ aV⟨s,i,p,rfl,aW,ad,h⟩;refine gd 1 ?_;cases oj h n;exact rt1 ⟨i,rfl,ad⟩
end Go.Proofs.YtphdlngnegjgcaaGreatDoor
set_option maxRecDepth 512
set_option maxHeartbeats 200000
namespace Go.Proofs.YtphdlngnegjgcaaGreatDoor
open Go
mutual
def szE:aah->Nat | .mk _ _ _ _ l=>szEs l+1
def szEs:List aah->Nat | []=>0 | e::l=>szE e+szEs l
end
mutual
def szS:aae->Nat | .mk _ _ _ _ _ _ a b c d e=>szEs a+szSs b+szSs c+szSs d+szCs e+1
def szSs:List aae->Nat | []=>0 | s::l=>szS s+szSs l
def szC:aap->Nat | .mk _ _ _ a b=>szEs a+szSs b+1
def szCs:List aap->Nat | []=>0 | c::l=>szC c+szCs l
end
def szF:aab->Nat | .mk _ ps _ _ _ b=>ps.length+szSs b+1
def szFs:List aab->Nat | []=>0 | f::l=>szF f+szFs l
def szP:aaa->Nat | .mk fs=>szFs fs+1
theorem anJ : ∀l:List aah,l.length<=szEs l
 | []=>by simp
 | .mk _ _ _ _ a::l=>by have:=anJ l;simp only[List.length_cons,szEs,szE];omega
theorem anM : ∀l:List aap,l.length<=szCs l
 | []=>by simp
 | .mk _ _ _ _ _::l=>by have:=anM l;simp only[List.length_cons,szCs,szC];omega
theorem anE : ∀l:List aab,l.length<=szFs l
 | []=>by simp
 | .mk _ _ _ _ _ _::l=>by have:=anE l;simp only[List.length_cons,szFs,szF];omega
def afj(c:Int):Bool:=decide (c>=97)&&decide (c<=122)
def ahq(c:Int):Bool:=decide (c>=48)&&decide (c<=57)
def runL:List UInt8->Nat->Bool
 | [],_=>true
 | e::r,i=>(afj e.toNat||(!((i:Int)==0)&&ahq e.toNat))&&runL r (i+1)
def isN(s:ByteArray):Bool:=runL s.data.toList 0&&!seq s ⟨#[]⟩&&decide ((s.size:Int)<=12)&&!acg.any (seq s)
theorem au6(k:Nat)(c:Int):f139 k c=some (afj c):=by
 unfold f139 akh afj;cases decide (c>=97)<;>rfl
theorem au3(k:Nat)(c:Int):f140 k c=some (ahq c):=by
 unfold f140 akL ahq;cases decide (c>=48)<;>rfl
theorem awn(k:Nat)(c:Int):f135 k c=some (afj c):=by
 unfold f135 akj afj;cases decide (c>=97)<;>rfl
theorem avT(k:Nat)(c:Int):f136 k c=some (ahq c):=by
 unfold f136 aju ahq;cases decide (c>=48)<;>rfl
theorem ai4(k:Nat)(a:ByteArray) : ∀(l:List UInt8) (i:Nat),ad3 k a l i=some (runL l i&&!seq a ⟨#[]⟩)
 | [],i=>by simp[ad3,runL]
 | e::l,i=>by
  unfold ad3 runL;rw[awn];simp only[Option.bind_some,aic,avT,ai4 k a l];cases afj e.toNat<;>cases ((i:Int)==0)<;>cases ahq e.toNat<;>simp
theorem aiw(k:Nat)(a:ByteArray) : ∀(l:List ByteArray) (i:Nat),∃r,aib k a l i=some r/\decide (r>=0)=l.any (seq a)
 | [],i=>⟨-1,rfl,rfl⟩
 | e::l,i=>by
  unfold aib;cases h:seq a e
  ·obtain⟨r,h1,h2⟩:=aiw k a l (i+1);exact⟨r,h1,by simp[h,h2]⟩
  ·exact⟨(i:Int),rfl,by simp[h]⟩
theorem al0(k:Nat)(s:ByteArray):f79 k s=some (isN s):=by
 unfold f79 f111 isN;rw[ai4];simp only[Option.bind_some,alY];obtain⟨r,h1,h2⟩:=aiw k s acg 0;have h92:f112 k s=some (acg.any (seq s)):=by
  unfold f112 f138 f137 f165;simp[h1,h2]
 rw[h92];simp only[Option.bind_some];cases runL s.data.toList 0<;>cases seq s ⟨#[]⟩<;>cases decide ((s.size:Int)<=12)<;>rfl
theorem agZ(a b:ByteArray):seq a b=seq b a:=by
 unfold seq;rw[Bool.eq_iff_iff,beq_iff_eq,beq_iff_eq];exact eq_comm
theorem ait(k:Nat)(a:ByteArray) : ∀(l:List ByteArray) (i:Nat),ah2 k a l i=some (l.any (seq a))
 | [],i=>rfl
 | e::l,i=>by
  unfold ah2;rw[agZ e a];cases h:seq a e
  ·simp[h,ait k a l]
  ·simp[h]
theorem atN(k:Nat):f167 k=some acg:=rfl
theorem awx(k:Nat)(a:ByteArray):f141 k a=some (acg.any (seq a)):=by
 unfold f141;rw[atN];exact ait k a acg 0
theorem atb(a:ByteArray):decide ((a.size:Int)>=1)=!seq a ⟨#[]⟩:=by
 unfold seq;rw[ByteArray.toList_eq,ByteArray.toList_eq];obtain⟨⟨l⟩⟩:=a;cases l with
 | nil=>rfl
 | cons x l =>
  have h2:((⟨⟨x::l⟩⟩:ByteArray).size:Int)>=1:=by
   show ((l.length+1:Nat):Int)>=1;omega
  rw[decide_eq_true h2];rfl
theorem aiC(k:Nat)(a:ByteArray) : ∀(l:List UInt8) (i:Nat),adR k a l i=some (runL l i&&!seq a ⟨#[]⟩&&decide ((a.size:Int)<=12)&&!acg.any (seq a))
 | [],i=>by
  unfold adR runL;rw[awx,atb];simp only[Option.bind_some,ahm];cases seq a ⟨#[]⟩<;>cases decide ((a.size:Int)<=12)<;>rfl
 | e::l,i=>by
  unfold adR runL;rw[au6];simp only[Option.bind_some,ahp,au3,aiC k a l];cases afj e.toNat<;>cases ((i:Int)==0)<;>cases ahq e.toNat<;>simp
theorem ahe(k:Nat)(s:ByteArray):f117 k s=some (isN s):=aiC k s _ 0
def alq:List UInt8->Bool
 | []=>true
 | e::l=>!decide ((e.toNat:Int)<32)&&!decide ((e.toNat:Int)>126)&&alq l
def isT(s:ByteArray):Bool:=alq s.data.toList&&decide ((s.size:Int)<=60)
theorem alR(k:Nat)(a:ByteArray) : ∀(l:List UInt8) (i:Nat),aeu k a l i=some (alq l&&decide ((a.size:Int)<=60))
 | [],i=>by simp[aeu,alq]
 | e::l,i=>by
  unfold aeu alq;simp only[aiX,alR k a l];cases decide ((e.toNat:Int)<32)<;>cases decide ((e.toNat:Int)>126)<;>simp
theorem aiU(k:Nat)(a:ByteArray) : ∀(l:List UInt8) (i:Nat),aeg k a l i=some (alq l&&decide ((a.size:Int)<=60))
 | [],i=>by simp[aeg,alq]
 | e::l,i=>by
  unfold aeg alq;simp only[akG,aiU k a l];cases decide ((e.toNat:Int)<32)<;>cases decide ((e.toNat:Int)>126)<;>simp
theorem awV(k:Nat)(s:ByteArray):f78 k s=some (isT s):=alR k s _ 0
theorem aww(k:Nat)(s:ByteArray):f116 k s=some (isT s):=aiU k s _ 0
theorem aaS{x:Int}{n:Nat}(h:x=(n:Int))(h2:n<=4611686018427387904):w64 x=(n:Int):=by
 subst h;unfold w64 IntKind.wrap;simp[IntKind.bits,IntKind.signed];omega
def af4(op num:Int)(txt:ByteArray)(len:Nat):Bool :=
 cond (op==1) (decide (num>=0)&&decide (num<=1000000000000)&&seq txt ⟨#[]⟩&&(len:Int)==0)
 (cond (op==2) (decide (num>=0)&&decide (num<=1)&&seq txt ⟨#[]⟩&&(len:Int)==0)
 (cond (op==3) (num==0&&isT txt&&(len:Int)==0)
 (cond (op==4) (num==0&&isN txt&&(len:Int)==0)
 (cond (op==5||op==6) (num==0&&seq txt ⟨#[]⟩&&(len:Int)==1)
  (decide (op>=7)&&decide (op<=19)&&num==0&&seq txt ⟨#[]⟩&&(len:Int)==2)))))
mutual
def gE(z:Bool):aah->Nat->Bool
 | .mk op num txt slot l,a=>decide (a<=16)&&(z||slot==0)&&af4 op num txt l.length&&gEs z l (a+1)
def gEs(z:Bool):List aah->Nat->Bool
 | [],_=>true
 | e::l,a=>gE z e a&&gEs z l a
end
def NRes(r:Option (aaj×Bool))(g:Bool)(n sz:Nat)(z:Bool):Prop :=
 ∃c,r=some (c,g&&decide (n+sz<=600))/\((g&&decide (n+sz<=600))=true->∃d,c=.mk ((n+sz:Nat):Int) d z)
theorem ai8(k:Nat)(x a b:Int):f77 k x a b=some (decide (x>=a)&&decide (x<=b)):=by
 unfold f77 aoe;cases decide (x>=a)<;>rfl
theorem aoc(k:Nat)(n:Nat)(d:Int)(z:Bool)(a:Nat)(h:n<=600) :
  f76 k (.mk n d z) a=some (.mk ((n+1:Nat):Int) (imax d a) z,decide (n+1<=600)&&decide (a<=16)):=by
 unfold f76 ang;simp only;rw[aaS (n:=n+1) (by omega) (by omega)];have e1:decide (((n+1:Nat):Int)<=600)=decide (n+1<=600):=by rw[decide_eq_decide];omega
 have e2:decide ((a:Int)<=16)=decide (a<=16):=by rw[decide_eq_decide];omega
 rw[e1,e2];cases decide (n+1<=600)<;>rfl
theorem arA(k:Nat)(F:afZ)(op num:Int)(txt:ByteArray)(l:List aah)(a n d:Int)(q:Bool) :
  ahX k F op num txt l a n d q false=cond (af4 op num txt l.length) (acW k F l a n d q (l.length:Int) true) (some (.mk n d q,false)):=by
 unfold ahX anj anC amg acW aiT af4;simp only[ai8,awV,al0,Option.bind_some,Bool.cond_eq_ite];grind
theorem adw : ∀e:aah,1<=szE e
 | .mk _ _ _ _ _=>by simp only[szE];omega
theorem NRes.no{r:Option (aaj×Bool)}{g:Bool}{n sz:Nat}{z:Bool}{c:aaj}(h:r=some (c,false))(hg:(g&&decide (n+sz<=600))=false):NRes r g n sz z :=
 ⟨c,by rw[h,hg],by rw[hg];intro h;cases h⟩
theorem NRes.yes{r:Option (aaj×Bool)}{g:Bool}{n sz:Nat}{z:Bool}{d:Int}(h:r=some (.mk ((n+sz:Nat):Int) d z,true))(hg:(g&&decide (n+sz<=600))=true):NRes r g n sz z :=
 ⟨_,by rw[h,hg],λ_=>⟨d,rfl⟩⟩
theorem nE(k:Nat)(z:Bool) : ∀m,
  (∀e,2*szE e<=m->∀(n:Nat) (d:Int) (a:Nat),n<=600->a<=17->NRes ((aep k m).f53 (.mk n d z) e a) (gE z e a) n (szE e) z) /\
  (∀l,2*szEs l+1<=m->∀(n:Nat) (d:Int) (a:Nat),n<=600->a<=17->NRes ((aep k m).f80 (.mk n d z) l a) (gEs z l a) n (szEs l) z)
 | 0=>⟨λe he=>by have:=adw e;omega,λl hl=>by omega⟩
 | m+1=>by
  obtain⟨ihe,ihl⟩:=nE k z m;constructor
  ·intro e he n d a hn ha;obtain⟨op,num,txt,slot,l⟩:=e;simp only[szE] at he;show NRes (ao5 k (aep k m) (.mk n d z) (.mk op num txt slot l) a) _ _ _ _;unfold ao5;simp only[szE];rw[aoc k n d z a hn];simp only[Option.bind_some];have hj : ∀q:Bool,ahX k (aep k m) op num txt l a ((n+1:Nat):Int) (imax d a) z q=cond q (some (.mk ((n+1:Nat):Int) (imax d a) z,false)) (cond (af4 op num txt l.length) (acW k (aep k m) l a ((n+1:Nat):Int) (imax d a) z (l.length:Int) true) (some (.mk ((n+1:Nat):Int) (imax d a) z,false))):=by
    intro q;cases q
    ·exact arA _ _ _ _ _ _ _ _ _ _
    ·rfl
   simp only[hj];by_cases h1:n+1<=600/\a<=16
   ·obtain⟨h1,h2⟩:=h1;simp only[h1,h2,decide_true,Bool.and_self,Bool.not_true,cond_false];by_cases h3:(z||slot==0)=true
    ·have h3' : (cond (slot != 0) (!z) false)=false:=by cases z<;>simp_all
     have h4 : ∀(x y:Option (aaj×Bool)),cond (slot != 0) (cond (!z) x y) y=y:=by
      intro x y;cases z<;>simp_all
     rw[h4];by_cases h5:af4 op num txt l.length=true
     ·simp only[h5,cond_true];unfold acW;simp only[beq_self_eq_true,cond_true];rw[aaS (n:=a+1) (by omega) (by omega)];obtain⟨c,hc,hd⟩:=ihl l (by omega) (n+1) (imax d a) (a+1) h1 (by omega);rw[hc];refine⟨c,?_,?_⟩
      ·obtain⟨c0,c1,c2⟩:=c;have:n+1+szEs l=n+(szEs l+1):=by omega
       simp[aiT,gE,h2,h3,h5,this]
      ·intro hg;have e1:n+(szEs l+1)=n+1+szEs l:=by omega
       rw[e1];refine hd ?_;rw[e1] at hg;simp[gE,h2,h3,h5] at hg;simp[hg]
     ·have h5' : af4 op num txt l.length=false:=by simpa using h5
      simp only[h5',cond_false];exact .no rfl (by simp[gE,h5'])
    ·have h3' : (z||slot==0)=false:=by simpa using h3
     have h4 : ∀(x y:Option (aaj×Bool)),cond (slot != 0) (cond (!z) x y) y=x:=by
      intro x y;simp only[Bool.or_eq_false_iff,beq_eq_false_iff_ne] at h3';have e:(slot != 0)=true:=bne_iff_ne.mpr h3'.2;rw[e,h3'.1];rfl
     rw[h4];exact .no rfl (by simp[gE,h3'])
   ·have h1' : (decide (n+1<=600)&&decide (a<=16))=false:=by
     simp only[Bool.and_eq_false_iff,decide_eq_false_iff_not];omega
    simp only[h1',Bool.not_false,cond_true];refine .no rfl ?_;simp only[gE,Bool.and_eq_false_iff,decide_eq_false_iff_not];omega
  ·intro l hl n d a hn ha;show NRes (aiS k (aep k m) a l 0 n d z) _ _ _ _;have loop : ∀(l:List aah) (i:Nat) (n:Nat) (d:Int),2*szEs l<=m->n<=600->NRes (aiS k (aep k m) a l i n d z) (gEs z l a) n (szEs l) z:=by
    intro l;induction l with
    | nil=>intro i n d _ hn;exact .yes rfl (by simp[gEs,szEs,hn])
    | cons e l ih =>
     intro i n d hm hn;obtain⟨e0,e1,e2,e3,e4⟩:=e;unfold aiS;simp only[szEs] at hm;obtain⟨c,hc,hd⟩:=ihe (.mk e0 e1 e2 e3 e4) (by omega) n d a hn ha;rw[hc];by_cases hg:(gE z (.mk e0 e1 e2 e3 e4) a&&decide (n+szE (.mk e0 e1 e2 e3 e4)<=600))=true
     ·obtain⟨d',rfl⟩:=hd hg;have hg':=hg;simp only[Bool.and_eq_true,decide_eq_true_eq] at hg';simp only[hg,Option.bind_some,Bool.not_true,cond_false];obtain⟨c2,hc2,hd2⟩:=ih (i+1) _ d' (by omega) hg'.2;have e1:n+(szE (aah.mk e0 e1 e2 e3 e4)+szEs l)=n+szE (aah.mk e0 e1 e2 e3 e4)+szEs l:=by omega
      refine⟨c2,?_,?_⟩
      ·rw[hc2];simp only[gEs,szEs,hg'.1,Bool.true_and,e1]
      ·simp only[gEs,szEs,hg'.1,Bool.true_and,e1];exact hd2
     ·have hg' : (gE z (.mk e0 e1 e2 e3 e4) a&&decide (n+szE (.mk e0 e1 e2 e3 e4)<=600))=false:=by simpa using hg
      obtain⟨c0,c1,c2⟩:=c;simp only[hg',Option.bind_some,Bool.not_false,cond_true];refine .no rfl ?_;simp only[Bool.and_eq_false_iff,decide_eq_false_iff_not,gEs,szEs] at hg' ⊢;rcases hg' with h | h
      ·exact .inl (.inl h)
      ·exact .inr (decide_eq_false (λh'=>h (by omega)))
   exact loop l 0 n d (by omega) hn
theorem acR(k:Nat)(n d:Int)(q b:Bool):f115 k (.mk n d q) b=some (.mk n d (q||!b)):=by
 unfold f115;cases b<;>cases q<;>rfl
theorem aj8(k:Nat)(n:Nat)(d:Int)(q:Bool)(a:Nat)(h:n<=600) :
  f114 k (.mk n d q) a=some (.mk ((n+1:Nat):Int) (imax d a) (q||!(decide (n+1<=600)&&decide (a<=16)))):=by
 unfold f114 aka;simp only;rw[aaS (n:=n+1) (by omega) (by omega)];have e1:decide (((n+1:Nat):Int)>600)=!decide (n+1<=600):=by rw[<-decide_not,decide_eq_decide];omega
 have e2:decide ((a:Int)>16)=!decide (a<=16):=by rw[<-decide_not,decide_eq_decide];omega
 rw[e1,e2];cases decide (n+1<=600)<;>cases decide (a<=16)<;>cases q<;>rfl
theorem bfun{α:Type}(Q:Bool->α) : ∃A B,Q=λb=>if b=true then A else B :=
 ⟨Q true,Q false,funext λb=>by cases b<;>rfl⟩
theorem ark(k:Nat)(F:alM)(op num:Int)(txt:ByteArray)(l:List aah)(a:Int)(x:Bool)(n d:Int)(q:Bool) :
  ak0 k F op num txt l a x n d q=agG k F a x l 0 n d (q||!af4 op num txt l.length):=by
 unfold ak0 anU acl af4;have h01:(decide (num>=0)&&decide (num<=1))=(num==0||num==1):=by
  rw[Bool.eq_iff_iff];simp only[Bool.and_eq_true,Bool.or_eq_true,decide_eq_true_eq,beq_iff_eq];omega
 rw[h01];simp only[acR,aww,ahe,Option.bind_some,Bool.cond_eq_ite];generalize agG k F a x l 0 n d=Q;obtain⟨A,B,rfl⟩:=bfun Q;grind (splits:=40)
def RRes(r:Option aan)(g:Bool)(n sz:Nat)(q:Bool):Prop :=
 ∃x d q',r=some (.mk x d q')/\q'=(q||!(g&&decide (n+sz<=600)))/\(q'=false->x=((n+sz:Nat):Int))
theorem RRes.wrong{r:Option aan}{g:Bool}{n sz:Nat}{x d:Int}(h:r=some (.mk x d true)):RRes r g n sz true :=
 ⟨x,d,true,h,rfl,λh=>by cases h⟩
theorem RRes.bad{r:Option aan}{g:Bool}{n sz:Nat}{q:Bool}{x d:Int}(h:r=some (.mk x d true))(hg:(g&&decide (n+sz<=600))=false):RRes r g n sz q :=
 ⟨x,d,true,h,by rw[hg];cases q<;>rfl,λh=>by cases h⟩
theorem ayV(g1 g2:Bool)(n s1 s2:Nat):(!(g1&&decide (n+s1<=600))||!(g2&&decide (n+s1+s2<=600)))=!(g1&&g2&&decide (n+(s1+s2)<=600)):=by
 rw[<-Nat.add_assoc];by_cases hh:n+s1+s2<=600
 ·have:n+s1<=600:=by omega
  simp only[hh,this,decide_true];cases g1<;>cases g2<;>rfl
 ·simp only[hh,decide_false];cases g1<;>cases g2<;>simp
theorem RRes.bind{r:Option aan}{f:aan->Option aan}{g1 g2:Bool}{n s1 s2:Nat}{q:Bool}(h1:RRes r g1 n s1 q)
  (h2 : ∀x d q',(q'=false->x=((n+s1:Nat):Int)/\n+s1<=600)->RRes (f (.mk x d q')) g2 (n+s1) s2 q'):RRes (r.bind f) (g1&&g2) n (s1+s2) q:=by
 obtain⟨x,d,q',rfl,hq,hx⟩:=h1;obtain⟨x2,d2,q2,h4,h5,h6⟩:=h2 x d q' (λh=>⟨hx h,by rw[h] at hq;cases q<;>simp at hq;exact hq.2⟩);refine⟨x2,d2,q2,h4,?_,?_⟩
 ·rw[h5,hq,Bool.or_assoc,ayV]
 ·rw[<-Nat.add_assoc];exact h6
theorem RRes.done{n:Nat}{q:Bool}{x d:Int}(hx:q=false->x=(n:Int)/\n<=600):RRes (some (.mk x d q)) true n 0 q :=
 ⟨x,d,q,rfl,by cases q<;>simp;exact (hx rfl).2,λh=>(hx h).1⟩
theorem RRes.cast{r:Option aan}{g g' : Bool}{n s s' : Nat}{q:Bool}(h:RRes r g n s q)(hg:g=g')(hs:s=s'):RRes r g' n s' q:=by
 subst hg;subst hs;exact h
theorem RRes.check{r:Option aan}{g b:Bool}{n s:Nat}{q:Bool}(h:RRes r g n s (q||!b)):RRes r (b&&g) n s q:=by
 obtain⟨x,d,q',h1,h2,h3⟩:=h;exact⟨x,d,q',h1,by rw[h2];cases q<;>cases b<;>rfl,h3⟩
theorem rE(k:Nat) : ∀m,
  ∀e,szE e<=m->∀(n:Nat) (d:Int) (a:Nat),n<=600->a<=17->RRes ((akp k m).f84 (.mk n d false) e a false) (gE false e a) n (szE e) false
 | 0=>λe he=>by have:=adw e;omega
 | m+1=>by
  have ihe:=rE k m;intro e he n d a hn ha;have loop:a<=16->∀(l:List aah) (i:Nat) (x:Int) (n:Nat) (d:Int) (q:Bool),szEs l<=m->(q=false->x=(n:Int)/\n<=600)->RRes (agG k (akp k m) a false l i x d q) (gEs false l (a+1)) n (szEs l) q:=by
   intro ha l;induction l with
   | nil=>intro i x n d q _ hx;exact .done hx
   | cons e l ih =>
    intro i x n d q hm hx;obtain⟨e0,e1,e2,e3,e4⟩:=e;unfold agG;cases q with
    | true=>exact .wrong rfl
    | false =>
     obtain⟨rfl,hn⟩:=hx rfl;simp only[szEs] at hm;simp only[Bool.not_false,cond_true];rw[aaS (n:=a+1) (by omega) (by omega)];exact (ihe (.mk e0 e1 e2 e3 e4) (by omega) n d (a+1) hn (by omega)).bind λx1 d1 q1 h1=>ih (i+1) x1 _ d1 q1 (by omega) h1
  obtain⟨op,num,txt,slot,l⟩:=e;simp only[szE] at he;show RRes (apY k (akp k m) (.mk n d false) (.mk op num txt slot l) a false) _ _ _ _;unfold apY;simp only[szE,cond_false,acR,ark,Option.bind_some];rw[aj8 k n d false a hn];simp only[Option.bind_some,Bool.false_or];by_cases ha' : a<=16
  ·obtain⟨x2,d2,q2,h4,h5,h6⟩:=loop ha' l 0 ((n+1:Nat):Int) (n+1) (imax d a) (!(decide (n+1<=600)&&decide (a<=16))||!(slot==0)||!af4 op num txt l.length) (by omega) (λhq=>⟨rfl,by simp at hq;omega⟩);have e1:n+(szEs l+1)=n+1+szEs l:=by omega
   refine⟨x2,d2,q2,h4,?_,?_⟩
   ·rw[h5,e1];simp only[gE,ha',decide_true,Bool.false_or,Bool.true_and,Bool.and_true];by_cases hh:n+1+szEs l<=600
    ·have:n+1<=600:=by omega
     simp only[hh,this,decide_true];cases (slot==0)<;>cases af4 op num txt l.length<;>simp
    ·simp[hh]
   ·rw[e1];exact h6
  ·have loopw : ∀(l:List aah) (i:Nat) (x d:Int),∃x' d',agG k (akp k m) a false l i x d true=some (.mk x' d' true):=by
    intro l i x d;cases l with
    | nil=>exact⟨_,_,rfl⟩
    | cons e l=>obtain⟨_,_,_,_,_⟩:=e;exact⟨_,_,rfl⟩
   have:(!(decide (n+1<=600)&&decide (a<=16))||!(slot==0)||!af4 op num txt l.length)=true:=by simp[ha']
   rw[this];obtain⟨x',d',h⟩:=loopw l 0 ((n+1:Nat):Int) (imax d a);exact .bad h (by simp[gE,ha'])
mutual
def stE:aah->aah | .mk op num txt _ l=>.mk op num txt 0 (stEs l)
def stEs:List aah->List aah | []=>[] | e::l=>stE e::stEs l
end
theorem afT : ∀l,(stEs l).length=l.length
 | []=>rfl
 | e::l=>by simp[stEs,afT l]
mutual
theorem axM : ∀e,szE (stE e)=szE e
 | .mk _ _ _ _ l=>by simp only[stE,szE,akO l]
theorem akO : ∀l,szEs (stEs l)=szEs l
 | []=>rfl
 | e::l=>by simp only[stEs,szEs,axM e,akO l]
end
mutual
theorem azc : ∀e a,gE false (stE e) a=gE true e a
 | .mk _ _ _ _ l,a=>by simp[stE,gE,anG l,afT]
theorem anG : ∀l a,gEs false (stEs l) a=gEs true l a
 | [],_=>rfl
 | e::l,a=>by simp only[stEs,gEs,azc e,anG l]
end
def shp(op:Int):Option (Int×Bool×Int×Int×Bool×Int) :=
 match op with
 | 1=>some (1,false,1,1,false,0) | 2=>some (1,false,1,1,false,0) | 3=>some (2,true,0,600,false,0) | 4=>some (2,true,0,600,false,0)
 | 5=>some (2,false,1,1,false,0) | 6=>some (2,false,1,1,false,1) | 7=>some (1,false,1,1,false,2) | 8=>some (1,false,1,1,false,0)
 | 9=>some (1,false,0,0,false,0) | 10=>some (0,false,2,2,false,0) | 11=>some (0,false,1,1,false,0) | 12=>some (0,false,1,1,false,0)
 | 13=>some (0,false,0,0,false,0) | 14=>some (0,false,1,1,false,0) | 15=>some (0,false,1,1,false,0) | 16=>some (0,false,1,1,false,0)
 | 17=>some (0,false,0,1,false,0) | 18=>some (0,false,0,0,false,0) | 19=>some (0,false,0,0,false,0) | 20=>some (0,false,1,1,true,1)
 | 21=>some (0,false,1,1,true,0) | 22=>some (0,false,0,1,true,1) | 23=>some (0,false,0,0,true,0) | 24=>some (2,false,0,0,true,3)
 | 25=>some (1,false,1,1,true,0) | 26=>some (0,false,1,1,true,0) | 27=>some (0,false,0,0,false,0) | 28=>some (1,true,0,600,true,66)
 | 29=>some (0,false,1,1,false,0) | _=>none
theorem akt{P:Int->Prop}(op:Int)(h : ∀n:Nat,n<29->P ((n+1:Nat):Int))(h0:op<1\/op>29->P op):P op:=by
 by_cases h1:op<1\/op>29
 ·exact h0 h1
 ·obtain⟨n,rfl⟩ : ∃n:Nat,op=((n+1:Nat):Int):=⟨(op - 1).toNat,by omega⟩;exact h n (by omega)
theorem aeJ{op:Int}(h:op<1\/op>29):shp op=none:=by
 unfold shp;split<;>first | rfl | (exfalso;omega)
def toR:Option (Int×Bool×Int×Int×Bool×Int)->abu×Bool
 | none=>(.mk 0 0 0 false false 0,false)
 | some (nm,fr,lo,hi,bd,fl)=>(.mk lo hi nm fr bd fl,true)
theorem awk(k:Nat)(op:Int):f168 k op=some (toR (shp op)):=by
 refine akt (P:=λop=>f168 k op=some (toR (shp op))) op ?_ ?_
 ·intro n hn
  match n,hn with
  | 0,_=>rfl | 1,_=>rfl | 2,_=>rfl | 3,_=>rfl | 4,_=>rfl | 5,_=>rfl | 6,_=>rfl | 7,_=>rfl | 8,_=>rfl | 9,_=>rfl
  | 10,_=>rfl | 11,_=>rfl | 12,_=>rfl | 13,_=>rfl | 14,_=>rfl | 15,_=>rfl | 16,_=>rfl | 17,_=>rfl | 18,_=>rfl | 19,_=>rfl
  | 20,_=>rfl | 21,_=>rfl | 22,_=>rfl | 23,_=>rfl | 24,_=>rfl | 25,_=>rfl | 26,_=>rfl | 27,_=>rfl | 28,_=>rfl
  | n+29,h=>omega
 ·intro h;rw[aeJ h];have e : ∀c:Int,1<=c->c<=29->(op==c)=false:=λc h1 h2=>by rw[beq_eq_false_iff_ne];omega
  unfold f168 ahU ajs aev agm akR;simp[e,toR]
def toN:Option (Int×Bool×Int×Int×Bool×Int)->Option aaz
 | none=>none
 | some (nm,fr,lo,hi,bd,fl)=>some (.mk nm fr lo (if hi=600 then 601 else hi) bd)
theorem ak9(op:Int) : ∀L:List (Int×aaz),(∀x∈L,qI op x.1=false)->mget qI op L=none
 | [],_=>rfl
 | (a,v)::L,h=>by
  unfold mget;rw[if_neg (by rw[h (a,v) (by simp)];simp)];exact ak9 op L λx hx=>h x (by simp[hx])
theorem awa(k:Nat)(op:Int):(f189 k).bind (λr=>some (mget qI op r))=some (toN (shp op)):=by
 refine akt (P:=λop=>(f189 k).bind (λr=>some (mget qI op r))=some (toN (shp op))) op ?_ ?_
 ·intro n hn
  match n,hn with
  | 0,_=>rfl | 1,_=>rfl | 2,_=>rfl | 3,_=>rfl | 4,_=>rfl | 5,_=>rfl | 6,_=>rfl | 7,_=>rfl | 8,_=>rfl | 9,_=>rfl
  | 10,_=>rfl | 11,_=>rfl | 12,_=>rfl | 13,_=>rfl | 14,_=>rfl | 15,_=>rfl | 16,_=>rfl | 17,_=>rfl | 18,_=>rfl | 19,_=>rfl
  | 20,_=>rfl | 21,_=>rfl | 22,_=>rfl | 23,_=>rfl | 24,_=>rfl | 25,_=>rfl | 26,_=>rfl | 27,_=>rfl | 28,_=>rfl
  | n+29,h=>omega
 ·intro h;rw[aeJ h];obtain⟨L,hL,hA⟩ : ∃L,f189 k=some L/\(L.all λx=>decide (1<=x.1)&&decide (x.1<=29))=true:=⟨_,rfl,rfl⟩;rw[hL];simp only[Option.bind_some];rw[ak9 op L]
  ·rfl
  ·intro x hx;have:=List.all_eq_true.mp hA x hx;simp only[Bool.and_eq_true,decide_eq_true_eq] at this;unfold qI;rw[beq_eq_false_iff_ne];omega
def am8(op:Int)(name:ByteArray)(flag:Int)(l8 l9:Int):Bool :=
 let b0:=(IntKind.i64.wrap (BitVec.ofInt IntKind.i64.bits flag &&& BitVec.ofInt IntKind.i64.bits 1).toNat)==1
 let b1:=(IntKind.i64.wrap (BitVec.ofInt IntKind.i64.bits flag &&& BitVec.ofInt IntKind.i64.bits 2).toNat)==2
 cond (op==6) (decide (flag>=0)&&decide (flag<=1)&&(flag==0||!seq name ⟨#[]⟩)&&l8==0&&l9==0)
 (cond (op==7) (decide (flag>=0)&&decide (flag<=2)&&l8==0&&l9==0)
 (cond (op==22) (decide (flag>=0)&&decide (flag<=1)&&l8==0&&l9==0)
 (cond (op==20) (decide (flag>=0)&&decide (flag<=1)&&(flag==1||l8==0)&&l9==0)
 (cond (op==24) (decide (flag>=1)&&decide (flag<=3)&&((!seq name ⟨#[]⟩)==b0)&&(b0||l8==0)&&(b1||l9==0))
 (cond (op==28) (decide (flag>=0)&&decide (flag<=66)&&decide (flag.tmod 4<3)&&l8==0&&l9==0)
  (flag==0&&l8==0&&l9==0))))))
theorem awe(k:Nat)(op:Int)(name:ByteArray)(s2:Int)(fr:ByteArray)(s4 flag:Int)(l6:List aah)(l7 l8 l9:List aae)(l10:List aap) :
  f190 k (.mk op name s2 fr s4 flag l6 l7 l8 l9 l10)=some (am8 op name flag l8.length l9.length):=by
 unfold f190 akF acD aey am8;simp only[ai8,Option.bind_some,Bool.cond_eq_ite];generalize (IntKind.i64.wrap (BitVec.ofInt IntKind.i64.bits flag &&& BitVec.ofInt IntKind.i64.bits 1).toNat==1)=b0;generalize (IntKind.i64.wrap (BitVec.ofInt IntKind.i64.bits flag &&& BitVec.ofInt IntKind.i64.bits 2).toNat==2)=b1;generalize ((l8.length:Int)==0)=c8;generalize ((l9.length:Int)==0)=c9;generalize seq name ⟨#[]⟩=e;grind (splits:=20)
def aoM(nm:Int)(fr:Bool)(name from_:ByteArray):Bool :=
 (seq name ⟨#[]⟩||(!(nm==0)&&isN name))&&(!seq name ⟨#[]⟩||!(nm==1))&&((!seq from_ ⟨#[]⟩)==fr)&&(!fr||isN from_)
def ajg(op lo hi:Int)(bd:Bool)(l6 l7 l10:Int):Bool :=
 decide (l6>=lo)&&decide (l6<=hi)&&(bd||!decide (l7>0))&&(cond (op==27) (decide (l10>=1)&&decide (l10<=4)) (!decide (l10>0)))
section
variable (k:Nat)(F:ach)(op:Int)(name:ByteArray)(s2:Int)(from_:ByteArray)(s4 flag:Int)(l6:List aah)(l7 l8 l9:List aae)(l10:List aap)(a nm:Int)(fr:Bool)(lo hi:Int)(bd:Bool)(n d:Int)(z q:Bool)
theorem aor:abs k F op l6 l7 l8 l9 l10 a lo hi bd n d z q =
  cond (!q&&ajg op lo hi bd l6.length l7.length l10.length) (acf k F l6 l7 l8 l9 l10 a l10 0 n d z) (some (.mk n d z,false)):=by
 unfold abs acj ajg;simp only[ai8,Option.bind_some,Bool.cond_eq_ite];grind (splits:=20)
theorem aip:adv k F op name from_ l6 l7 l8 l9 l10 a nm fr lo hi bd n d z q =
  cond (!q&&aoM nm fr name from_&&ajg op lo hi bd l6.length l7.length l10.length) (acf k F l6 l7 l8 l9 l10 a l10 0 n d z) (some (.mk n d z,false)):=by
 unfold adv aoM;simp only[al0,aor,Option.bind_some,Bool.cond_eq_ite];grind (splits:=20)
theorem aoD:af0 k F n d z op name s2 from_ s4 flag l6 l7 l8 l9 l10 a nm fr lo hi bd true =
  (f76 k (.mk n d z) a).bind λx=>match x with
   | (.mk n1 d1 z1,ok)=>cond (ok&&((s2==0&&s4==0)||z1)&&am8 op name flag l8.length l9.length&&aoM nm fr name from_&&ajg op lo hi bd l6.length l7.length l10.length)
    (acf k F l6 l7 l8 l9 l10 a l10 0 n1 d1 z1) (some (.mk n1 d1 z1,false)):=by
 unfold af0;simp only[Bool.not_true,cond_false];congr 1;funext x;obtain⟨⟨n1,d1,z1⟩,ok⟩:=x;simp only[awe,aip,Option.bind_some,Bool.cond_eq_ite];grind (splits:=20)
end
def ajH(nm:Int)(name:ByteArray):Bool:=(nm==0&&seq name ⟨#[]⟩)||(nm==1&&isN name)||(nm==2&&(seq name ⟨#[]⟩||isN name))
def ajr(fr:Bool)(from_:ByteArray):Bool:=cond fr (isN from_) (seq from_ ⟨#[]⟩)
def agX(op:Int)(name:ByteArray)(flag:Int)(l8 l9:Int):Bool :=
 (l8==0||(op==20&&flag==1)||(op==24&&flag.tmod 2==1))&&(l9==0||(op==24&&decide (flag>=2))) &&
 cond (op==6) (flag==0||!seq name ⟨#[]⟩) (cond (op==24) (decide (flag>0)&&((flag.tmod 2==1)==!seq name ⟨#[]⟩)) (cond (op==28) (decide (flag.tmod 4<3)) true))
def ad8(op l10:Int):Bool:=((op==27)==decide (l10>0))&&decide (l10<=4)
section
variable (k:Nat)(F:abk)(op:Int)(name:ByteArray)(s2:Int)(from_:ByteArray)(s4 flag:Int)(l6:List aah)(l7 l8 l9:List aae)(l10:List aap)(a nm:Int)(fr:Bool)(lo hi:Int)(bd:Bool)(n d:Int)(z q:Bool)
theorem aoN:adQ k F op l6 l7 l8 l9 l10 a n d q=abG k F l7 l8 l9 l10 a l6 0 n d (q||!ad8 op l10.length):=by
 unfold adQ ajE ad8;simp only[acR,Option.bind_some,Bool.cond_eq_ite];generalize abG k F l7 l8 l9 l10 a l6 0 n d=Q;obtain⟨A,B,rfl⟩:=bfun Q;grind (splits:=20)
theorem aoK:ahl k F op name flag l6 l7 l8 l9 l10 a n d q=abG k F l7 l8 l9 l10 a l6 0 n d (q||!(agX op name flag l8.length l9.length&&ad8 op l10.length)):=by
 unfold ahl aen aif agX;simp only[acR,aoN,Option.bind_some,Bool.cond_eq_ite];generalize abG k F l7 l8 l9 l10 a l6 0 n d=Q;generalize ad8 op l10.length=c;generalize (flag.tmod 2==1)=b0;obtain⟨A,B,rfl⟩:=bfun Q;grind (splits:=30)
theorem aoB:adt k F op name from_ flag l6 l7 l8 l9 l10 a nm fr bd n d q=abG k F l7 l8 l9 l10 a l6 0 n d (q||!(ajH nm name&&ajr fr from_&&(bd||(l7.length:Int)==0)&&agX op name flag l8.length l9.length&&ad8 op l10.length)):=by
 unfold adt ab3 aeW ajH ajr;simp only[acR,ahe,aoK,Option.bind_some,Bool.cond_eq_ite];generalize abG k F l7 l8 l9 l10 a l6 0 n d=Q;generalize ad8 op l10.length=c;generalize agX op name flag l8.length l9.length=c2;generalize ((l7.length:Int)==0)=c7;obtain⟨A,B,rfl⟩:=bfun Q;generalize isN name=n1;generalize isN from_=n2;generalize seq name ⟨#[]⟩=e1;generalize seq from_ ⟨#[]⟩=e2;grind (splits:=30)
end
def aoH(op:Int)(name from_:ByteArray)(flag:Int)(l6 l7 l8 l9 l10:Nat):Bool :=
 match shp op with
 | none=>false
 | some (nm,fr,lo,hi,bd,fl)=>am8 op name flag l8 l9&&aoM nm fr name from_&&ajg op lo (if hi=600 then 601 else hi) bd l6 l7 l10
def abN(op:Int)(name from_:ByteArray)(flag:Int)(l6 l7 l8 l9 l10:Nat):Bool :=
 match shp op with
 | none=>false
 | some (nm,fr,lo,hi,bd,fl)=>decide ((l6:Int)>=lo)&&decide ((l6:Int)<=hi)&&decide (flag>=0)&&decide (flag<=fl)&&(ajH nm name&&ajr fr from_&&(bd||(l7:Int)==0)&&agX op name flag l8 l9&&ad8 op l10)
theorem afL{s:ByteArray}(h:isN s=true):seq s ⟨#[]⟩=false:=by
 unfold isN at h;cases hs:seq s ⟨#[]⟩ with
 | false=>rfl
 | true=>rw[hs] at h;simp at h
theorem bits(flag:Int)(h1:1<=flag)(h2:flag<=3):(IntKind.i64.wrap (BitVec.ofInt IntKind.i64.bits flag &&& BitVec.ofInt IntKind.i64.bits 1).toNat==1)=(flag.tmod 2==1) /\
  (IntKind.i64.wrap (BitVec.ofInt IntKind.i64.bits flag &&& BitVec.ofInt IntKind.i64.bits 2).toNat==2)=decide (flag>=2):=by
 rcases (by omega:flag=1\/flag=2\/flag=3) with rfl | rfl | rfl<;>exact⟨rfl,rfl⟩
theorem auh(op:Int)(name from_:ByteArray)(flag:Int)(l6 l7 l8 l9 l10:Nat)(h6:l6<=600):aoH op name from_ flag l6 l7 l8 l9 l10=abN op name from_ flag l6 l7 l8 l9 l10:=by
 have hn:=@afL name;have hf:=@afL from_;have hb:=bits flag;unfold aoH abN am8 aoM ajg ajH ajr agX ad8;generalize (IntKind.i64.wrap (BitVec.ofInt IntKind.i64.bits flag &&& BitVec.ofInt IntKind.i64.bits 1).toNat==1)=b0 at hb ⊢;generalize (IntKind.i64.wrap (BitVec.ofInt IntKind.i64.bits flag &&& BitVec.ofInt IntKind.i64.bits 2).toNat==2)=b1 at hb ⊢;generalize isN name=n1 at hn ⊢;generalize isN from_=n2 at hf ⊢;generalize seq name ⟨#[]⟩=e1 at hn ⊢;generalize seq from_ ⟨#[]⟩=e2 at hf ⊢;generalize flag.tmod 2=t2 at hb ⊢;generalize flag.tmod 4=t4;by_cases hop:op<1\/op>29
 ·rw[aeJ hop]
 rcases (by omega:op=1\/op=2\/op=3\/op=4\/op=5\/op=6\/op=7\/op=8\/op=9\/op=10\/op=11\/op=12\/op=13\/op=14\/op=15\/op=16\/op=17\/op=18\/op=19\/op=20\/op=21\/op=22\/op=23\/op=24\/op=25\/op=26\/op=27\/op=28\/op=29) with rfl | rfl | rfl | rfl | rfl | rfl | rfl | rfl | rfl | rfl | rfl | rfl | rfl | rfl | rfl | rfl | rfl | rfl | rfl | rfl | rfl | rfl | rfl | rfl | rfl | rfl | rfl | rfl | rfl <;>
  simp only[shp,Int.reduceBEq,cond_true,cond_false,Int.reduceEq,if_true,if_false]<;>grind (splits:=20)
end Go.Proofs.YtphdlngnegjgcaaGreatDoor
namespace Go.Proofs.YtphdlngnegjgcaaGreatDoor
open Go
def agh(kind:Int)(name:ByteArray)(len:Int):Bool :=
 decide (kind>=1)&&decide (kind<=4)&&len==(cond (kind==2) 2 (cond (kind==4) 0 1))&&cond (kind==1) (isN name) (seq name ⟨#[]⟩)
mutual
def gS(z:Bool):aae->Nat->Bool
 | .mk op name s2 fr s4 flag l6 l7 l8 l9 l10,a=>decide (a<=16)&&(z||(s2==0&&s4==0))&&abN op name fr flag l6.length l7.length l8.length l9.length l10.length &&
  (gEs z l6 (a+1)&&(gSs z l7 (a+1)&&(gSs z l8 (a+1)&&(gSs z l9 (a+1)&&gCs z l10 (a+1)))))
def gSs(z:Bool):List aae->Nat->Bool
 | [],_=>true
 | s::l,a=>gS z s a&&gSs z l a
def gC(z:Bool):aap->Nat->Bool
 | .mk kind name slot es b,a=>decide (a<=16)&&(z||slot==0)&&agh kind name es.length&&(gEs z es (a+1)&&gSs z b (a+1))
def gCs(z:Bool):List aap->Nat->Bool
 | [],_=>true
 | .mk kind name slot es b::l,a=>(!(kind==4)||l.isEmpty)&&gC z (.mk kind name slot es b) a&&gCs z l a
end
theorem aaP : ∀e:aae,1<=szS e
 | .mk _ _ _ _ _ _ _ _ _ _ _=>by simp only[szS];omega
theorem abt : ∀e:aap,1<=szC e
 | .mk _ _ _ _ _=>by simp only[szC];omega
theorem NRes.bind{r:Option (aaj×Bool)}{f:aaj×Bool->Option (aaj×Bool)}{g1 g2:Bool}{n s1 s2:Nat}{z:Bool}(h1:NRes r g1 n s1 z)
  (hf : ∀c,∃c',f (c,false)=some (c',false)) (h2 : ∀d,n+s1<=600->NRes (f (.mk ((n+s1:Nat):Int) d z,true)) g2 (n+s1) s2 z):NRes (r.bind f) (g1&&g2) n (s1+s2) z:=by
 obtain⟨c,rfl,hc⟩:=h1;by_cases hg:(g1&&decide (n+s1<=600))=true
 ·obtain⟨d,rfl⟩:=hc hg;rw[Bool.and_eq_true,decide_eq_true_eq] at hg;obtain⟨h3,h4⟩:=hg;subst h3;simp only[h4,decide_true,Bool.and_self,Bool.true_and,Option.bind_some];obtain⟨c,h5,h6⟩:=h2 d h4;rw[Nat.add_assoc] at h5 h6;exact⟨c,h5,h6⟩
 ·have hg' : (g1&&decide (n+s1<=600))=false:=by simpa using hg
  rw[hg'];obtain⟨c',h⟩:=hf c;refine .no h ?_;rw[Bool.and_eq_false_iff,decide_eq_false_iff_not] at hg' ⊢;rcases hg' with h | h
  ·left;rw[h];rfl
  ·right;omega
theorem NRes.conv{r:Option (aaj×Bool)}{g g' : Bool}{n s n' s' : Nat}{z:Bool}(h:NRes r g n s z)(hs:n+s=n'+s')(hg:n+s<=600->g=g'):NRes r g' n' s' z:=by
 unfold NRes at h ⊢;rw[<-hs];have:(g&&decide (n+s<=600))=(g'&&decide (n+s<=600)):=by
  by_cases h:n+s<=600
  ·rw[hg h]
  ·simp[h]
 rwa [<-this]
theorem apD(k:Nat)(z:Bool)(l:List aah)(hk:2*szEs l+1<=k)(n:Nat)(d:Int)(a:Nat)(hn:n<=600)(ha:a<=17):NRes (f80 k (.mk n d z) l a) (gEs z l a) n (szEs l) z :=
 (nE k z k).2 l hk n d a hn ha
theorem ayI(kind:Int):mget qI kind (mput qI 4 0 (mput qI 3 1 (mput qI 2 2 (mput qI 1 1 ([]:List (Int×Int)))))) =
  cond (decide (kind>=1)&&decide (kind<=4)) (some (cond (kind==2) 2 (cond (kind==4) 0 1))) none:=by
 have e:mput qI 4 0 (mput qI 3 1 (mput qI 2 2 (mput qI 1 1 ([]:List (Int×Int)))))=[(1,1),(2,2),(3,1),(4,0)]:=rfl;rw[e];unfold mget mget mget mget mget qI;simp only[Bool.cond_eq_ite];grind
theorem ary(k:Nat)(F:ach)(kind:Int)(name:ByteArray)(slot:Int)(es:List aah)(b:List aae)(a n d:Int)(z:Bool) :
  aio k F (.mk n d z) (.mk kind name slot es b) a=cond (decide (kind>=1)&&decide (kind<=4)) ((f76 k (.mk n d z) a).bind λx=>match x with
   | (.mk n1 d1 z1,ok)=>cond (ok&&(z1||slot==0)&&agh kind name es.length) (acd k F es b a n1 d1 z1 false) (some (.mk n1 d1 z1,false))) (some (.mk n d z,false)):=by
 unfold aio;simp only[ayI];by_cases hk:(decide (kind>=1)&&decide (kind<=4))=true
 ·simp only[hk,cond_true,aej];congr 1;funext x;obtain⟨⟨n1,d1,z1⟩,ok⟩:=x;unfold acd;have hn:=@afL name;simp only[al0,Option.bind_some,agh,hk,Bool.true_and];generalize (cond (kind==2) (2:Int) (cond (kind==4) 0 1))=e;generalize isN name=n1 at hn ⊢;generalize seq name ⟨#[]⟩=e1 at hn ⊢;simp only[Bool.cond_eq_ite];grind (splits:=20)
 ·have hk' : (decide (kind>=1)&&decide (kind<=4))=false:=by simpa using hk
  simp only[hk',cond_false,aej]
theorem apF{op lo hi:Int}{bd:Bool}{l6 l7:Int}{l10:Nat}(h:ajg op lo hi bd l6 l7 l10=true):l10<=4:=by
 unfold ajg at h;cases hop:(op==27)<;>simp only[hop,cond_true,cond_false,Bool.and_eq_true,Bool.not_eq_true',decide_eq_true_eq,decide_eq_false_iff_not] at h<;>omega
theorem nSt(k:Nat)(z:Bool) : ∀m,m<=k ->
  (∀s,2*szS s<=m->∀(n:Nat) (d:Int) (a:Nat),n<=600->a<=17->NRes ((abp k m).f177 (.mk n d z) s a) (gS z s a) n (szS s) z) /\
  (∀l,2*szSs l+1<=m->∀(n:Nat) (d:Int) (a:Nat),n<=600->a<=17->NRes ((abp k m).f156 (.mk n d z) l a) (gSs z l a) n (szSs l) z) /\
  (∀c,2*szC c<=m->∀(n:Nat) (d:Int) (a:Nat),n<=600->a<=17->NRes ((abp k m).f191 (.mk n d z) c a) (gC z c a) n (szC c) z)
 | 0,_=>⟨λe he=>by have:=aaP e;omega,λl hl=>by omega,λc hc=>by have:=abt c;omega⟩
 | m+1,hmk=>by
  obtain⟨ihs,ihl,ihc⟩:=nSt k z m (by omega);refine⟨?_,?_,?_⟩
  ·intro s hs n d a hn ha;obtain⟨op,name,s2,fr,s4,flag,l6,l7,l8,l9,l10⟩:=s;simp only[szS] at hs;show NRes (alt k (abp k m) (.mk n d z) (.mk op name s2 fr s4 flag l6 l7 l8 l9 l10) a) _ _ _ _;have tail : ∀(n:Nat) (d:Int),a<=16->n<=600->NRes (acf k (abp k m) l6 l7 l8 l9 l10 a [] l10.length n d z) (gEs z l6 (a+1)&&(gSs z l7 (a+1)&&(gSs z l8 (a+1)&&gSs z l9 (a+1)))) n (szEs l6+(szSs l7+(szSs l8+szSs l9))) z:=by
    intro n d ha hn;unfold acf;rw[aaS (n:=a+1) (by omega) (by omega)];refine (apD k z l6 (by omega) n d (a+1) hn (by omega)).bind (λc=>by obtain⟨_,_,_⟩:=c;exact⟨_,rfl⟩) λd hn=>?_
    refine (ihl l7 (by omega) _ d (a+1) hn (by omega)).bind (λc=>by obtain⟨_,_,_⟩:=c;exact⟨_,rfl⟩) λd hn=>?_
    refine (ihl l8 (by omega) _ d (a+1) hn (by omega)).bind (λc=>by obtain⟨_,_,_⟩:=c;exact⟨_,rfl⟩) λd hn=>?_
    refine ((ihl l9 (by omega) _ d (a+1) hn (by omega)).bind (g2:=true) (s2:=0) (λc=>by obtain⟨_,_,_⟩:=c;exact⟨_,rfl⟩) λd hn=>?_).conv (by omega) (λ_=>by simp);exact .yes rfl (by simp[hn])
   have loop:a<=16->l10.length<=4->∀(rest:List aap) (i:Nat) (n:Nat) (d:Int),2*szCs rest<=m->i+rest.length=l10.length->n<=600 ->
     NRes (acf k (abp k m) l6 l7 l8 l9 l10 a rest i n d z) (gCs z rest (a+1)&&(gEs z l6 (a+1)&&(gSs z l7 (a+1)&&(gSs z l8 (a+1)&&gSs z l9 (a+1))))) n (szCs rest+(szEs l6+(szSs l7+(szSs l8+szSs l9)))) z:=by
    intro ha h10 rest;induction rest with
    | nil =>
     intro i n d _ hi hn;obtain rfl:i=l10.length:=by simpa using hi
     exact (tail n d ha hn).conv (by simp[szCs]) (λ_=>by simp[gCs])
    | cons c rest ih =>
     intro i n d hm hi hn;obtain⟨e0,e1,e2,e3,e4⟩:=c;simp only[szCs,List.length_cons] at hm hi;unfold acf;rw[aaS (x:=(a:Int)+1) (n:=a+1) (by omega) (by omega),aaS (x:=(l10.length:Int) - 1) (n:=l10.length - 1) (by omega) (by omega)];have step:NRes (((abp k m).f191 (.mk n d z) (.mk e0 e1 e2 e3 e4) ((a+1:Nat):Int)).bind λq_=>match q_ with | (.mk z1467_0 z1467_1 z1467_2,r1468)=>(ahO k (abp k m) i z1467_0 z1467_1 z1467_2 (!r1468) (acf k (abp k m) l6 l7 l8 l9 l10 a rest)))
       (gC z (.mk e0 e1 e2 e3 e4) (a+1)&&(gCs z rest (a+1)&&(gEs z l6 (a+1)&&(gSs z l7 (a+1)&&(gSs z l8 (a+1)&&gSs z l9 (a+1)))))) n (szC (.mk e0 e1 e2 e3 e4)+(szCs rest+(szEs l6+(szSs l7+(szSs l8+szSs l9))))) z :=
      (ihc (.mk e0 e1 e2 e3 e4) (by omega) n d (a+1) hn (by omega)).bind (λc=>by obtain⟨_,_,_⟩:=c;exact⟨_,rfl⟩) λd hn=>ih (i+1) _ d (by omega) (by omega) hn
     by_cases h4:(e0==4)=true
     ·simp only[h4,cond_true];by_cases hl:i<l10.length - 1
      ·have:((i:Int)<((l10.length - 1:Nat):Int)):=by omega
       simp only[this,decide_true,cond_true];refine .no rfl ?_;have:rest.isEmpty=false:=by cases rest with
        | nil=>simp at hi;omega
        | cons=>rfl
       simp[gCs,h4,this]
      ·have : ¬((i:Int)<((l10.length - 1:Nat):Int)):=by omega
       simp only[this,decide_false,cond_false];have:rest.isEmpty=true:=by cases rest with
        | nil=>rfl
        | cons=>simp at hi;omega
       exact step.conv (by simp only[szCs];omega) (λ_=>by simp[gCs,this,Bool.and_assoc])
     ·have h4' : (e0==4)=false:=by simpa using h4
      simp only[h4',cond_false];exact step.conv (by simp only[szCs];omega) (λ_=>by simp[gCs,h4',Bool.and_assoc])
   unfold alt;obtain⟨L,hL⟩ : ∃L,f189 k=some L:=⟨_,rfl⟩;have hg:=awa k op;rw[hL] at hg ⊢;simp only[Option.bind_some,Option.some.injEq] at hg ⊢;rw[hg];cases hsh:shp op with
   | none =>
    have:abN op name fr flag l6.length l7.length l8.length l9.length l10.length=false:=by unfold abN;rw[hsh]
    refine .no (c:=.mk n d z) ?_ (by simp[gS,this]);simp only[toN,aej];unfold af0;simp only[Bool.not_false,cond_true,aip];rfl
   | some t =>
    obtain⟨nm,frm,lo,hi,bd,fl⟩:=t;simp only[toN,aej,aoD,aoc k n d z a hn,Option.bind_some];have hN:aoH op name fr flag l6.length l7.length l8.length l9.length l10.length=(am8 op name flag l8.length l9.length&&aoM nm frm name fr&&ajg op lo (if hi=600 then 601 else hi) bd l6.length l7.length l10.length):=by unfold aoH;rw[hsh]
    rw[Bool.and_assoc,Bool.and_assoc,<-Bool.and_assoc (am8 _ _ _ _ _),<-hN];have hl6:=anJ l6;by_cases h1:n+1<=600/\a<=16
    ·obtain⟨h1,h2⟩:=h1;by_cases h3:((s2==0&&s4==0)||z)=true
     ·by_cases h4:aoH op name fr flag l6.length l7.length l8.length l9.length l10.length=true
      ·have h10:l10.length<=4:=by
        rw[hN] at h4;rw[Bool.and_eq_true] at h4;exact apF h4.2
       simp only[h1,h2,h3,h4,decide_true,Bool.and_self,cond_true];refine (loop h2 h10 l10 0 (n+1) (imax d a) (by omega) (by omega) h1).conv (by simp only[szS];omega) (λhh=>?_);have h5:abN op name fr flag l6.length l7.length l8.length l9.length l10.length=true:=by rw[<-auh _ _ _ _ _ _ _ _ _ (by omega)];exact h4
       simp only[gS,h2,decide_true,h5];rw[Bool.or_comm] at h3;simp only[h3,Bool.and_self,Bool.true_and];cases gCs z l10 (a+1)<;>cases gEs z l6 (a+1)<;>cases gSs z l7 (a+1)<;>cases gSs z l8 (a+1)<;>cases gSs z l9 (a+1)<;>rfl
      ·have h4' : aoH op name fr flag l6.length l7.length l8.length l9.length l10.length=false:=by simpa using h4
       simp only[h4',Bool.and_false,cond_false];refine .no rfl ?_;by_cases hh:n+szS (.mk op name s2 fr s4 flag l6 l7 l8 l9 l10)<=600
       ·have h5:abN op name fr flag l6.length l7.length l8.length l9.length l10.length=false:=by
         rw[<-auh _ _ _ _ _ _ _ _ _ (by simp only[szS] at hh;omega)];exact h4'
        simp[gS,h5]
       ·simp[hh]
     ·have h3' : ((s2==0&&s4==0)||z)=false:=by simpa using h3
      simp only[h3',Bool.false_and,Bool.and_false,cond_false];refine .no rfl ?_;rw[Bool.or_comm] at h3';simp only[gS,h3',Bool.false_and,Bool.and_false]
    ·have h1' : (decide (n+1<=600)&&decide (a<=16))=false:=by
      simp only[Bool.and_eq_false_iff,decide_eq_false_iff_not];omega
     simp only[h1',Bool.false_and,cond_false];refine .no rfl ?_;rw[Bool.and_eq_false_iff,decide_eq_false_iff_not];by_cases h2:a<=16
     ·right;simp only[szS];omega
     ·left;simp[gS,h2]
  ·intro l hl n d a hn ha;show NRes (agz k (abp k m) a l 0 n d z) _ _ _ _;have loop : ∀(l:List aae) (i:Nat) (n:Nat) (d:Int),2*szSs l<=m->n<=600->NRes (agz k (abp k m) a l i n d z) (gSs z l a) n (szSs l) z:=by
    intro l;induction l with
    | nil=>intro i n d _ hn;exact .yes rfl (by simp[gSs,szSs,hn])
    | cons e l ih =>
     intro i n d hm hn;obtain⟨e0,e1,e2,e3,e4,e5,e6,e7,e8,e9,e10⟩:=e;unfold agz;simp only[szSs] at hm;exact (ihs (.mk e0 e1 e2 e3 e4 e5 e6 e7 e8 e9 e10) (by omega) n d a hn ha).bind (λc=>by obtain⟨_,_,_⟩:=c;exact⟨_,rfl⟩) λd hn=>ih (i+1) _ d (by omega) hn
   exact loop l 0 n d (by omega) hn
  ·intro c hc n d a hn ha;obtain⟨kind,name,slot,es,b⟩:=c;simp only[szC] at hc;show NRes (aio k (abp k m) (.mk n d z) (.mk kind name slot es b) a) _ _ _ _;rw[ary];by_cases hk:(decide (kind>=1)&&decide (kind<=4))=true
   ·simp only[hk,cond_true];rw[aoc k n d z a hn];simp only[Option.bind_some];by_cases h1:n+1<=600/\a<=16
    ·obtain⟨h1,h2⟩:=h1;by_cases h3:((z||slot==0)&&agh kind name es.length)=true
     ·rw[Bool.and_assoc,h3];simp only[h1,h2,decide_true,Bool.and_self,cond_true];unfold acd;simp only[cond_false];rw[aaS (x:=(a:Int)+1) (n:=a+1) (by omega) (by omega)];refine NRes.conv (g:=gEs z es (a+1)&&(gSs z b (a+1)&&true)) (n:=n+1) (s:=szEs es+(szSs b+0)) ?_ (by simp only[szC];omega) (λ_=>?_)
      ·refine (apD k z es (by omega) (n+1) _ (a+1) h1 (by omega)).bind (λc=>by obtain⟨_,_,_⟩:=c;exact⟨_,rfl⟩) λd hn=>?_
       refine (ihl b (by omega) _ d (a+1) hn (by omega)).bind (λc=>by obtain⟨_,_,_⟩:=c;exact⟨_,rfl⟩) λd hn=>?_
       exact .yes rfl (by simp[hn])
      ·simp only[gC,h2,decide_true,Bool.true_and,Bool.and_true,h3]
     ·have h3' : ((z||slot==0)&&agh kind name es.length)=false:=by simpa using h3
      rw[Bool.and_assoc,h3',Bool.and_false];refine .no rfl ?_;rw[gC,Bool.and_assoc (decide (a<=16)),h3'];simp
    ·have h1' : (decide (n+1<=600)&&decide (a<=16))=false:=by
      simp only[Bool.and_eq_false_iff,decide_eq_false_iff_not];omega
     simp only[h1',Bool.false_and,cond_false];refine .no rfl ?_;rw[Bool.and_eq_false_iff,decide_eq_false_iff_not];by_cases h2:a<=16
     ·right;simp only[szC];omega
     ·left;simp[gC,h2]
   ·have hk' : (decide (kind>=1)&&decide (kind<=4))=false:=by simpa using hk
    simp only[hk',cond_false];exact .no rfl (by simp only[gC,agh,hk',Bool.false_and,Bool.and_false])
section
variable (k:Nat)(F:abk)(op:Int)(name:ByteArray)(s2:Int)(from_:ByteArray)(s4 flag:Int)(l6:List aah)(l7 l8 l9:List aae)(l10:List aap)(a nm:Int)(fr:Bool)(lo hi:Int)(bd:Bool)(n d:Int)(z q:Bool)
theorem aqM:aiI k F (.mk n d false) (.mk op name s2 from_ s4 flag l6 l7 l8 l9 l10) a=(f114 k (.mk n d false) a).bind λx=>match x with
  | .mk n1 d1 q1=>abG k F l7 l8 l9 l10 a l6 0 n1 d1 (q1||!((s2==0&&s4==0)&&abN op name from_ flag l6.length l7.length l8.length l9.length l10.length)):=by
 unfold aiI;simp only[cond_false];congr 1;funext x;obtain⟨n1,d1,q1⟩:=x;simp only[awk,Option.bind_some,acR,aoB,abN];cases shp op with
 | none =>
  simp only[toR,cond_false,Bool.and_false,Bool.not_false,Bool.or_true,Bool.true_or]
 | some t =>
  obtain⟨nm,frm,lo,hi,bd,fl⟩:=t;simp only[toR,cond_true];generalize (ajH nm name&&ajr frm from_&&(bd||((l7.length:Int)==0))&&agX op name flag l8.length l9.length&&ad8 op l10.length)=g;generalize abG k F l7 l8 l9 l10 a l6 0 n1 d1=Q;obtain⟨A,B,rfl⟩:=bfun Q;simp only[Bool.cond_eq_ite];grind (splits:=20)
theorem aqT(kind:Int)(slot:Int)(es:List aah)(b:List aae):aiN k F (.mk n d q) (.mk kind name slot es b) a=(f114 k (.mk n d q) a).bind λx=>match x with
  | .mk n1 d1 q1=>ac4 k F b a es 0 n1 d1 (q1||!((slot==0)&&agh kind name es.length)):=by
 unfold aiN;simp only;congr 1;funext x;obtain⟨n1,d1,q1⟩:=x;unfold ahs age afe;simp only[Option.bind_some,acR,ahe,agh];generalize ac4 k F b a es 0 n1 d1=Q;obtain⟨A,B,rfl⟩:=bfun Q;generalize (slot==0)=b5;generalize isN name=b6;generalize seq name ⟨#[]⟩=b7;simp only[Bool.cond_eq_ite];grind (splits:=20)
end
theorem aiK(k:Nat)(F:abk)(a:Int)(l:List aae)(i:Nat)(x d:Int):ae5 k F a l i x d true=some (.mk x d true):=by
 cases l with
 | nil=>rfl
 | cons e l=>obtain⟨_,_,_,_,_,_,_,_,_,_,_⟩:=e;rfl
theorem RRes.conv{r:Option aan}{g g' : Bool}{n s n' s' : Nat}{q q' : Bool}(h:RRes r g n s q)(hs:n+s=n'+s')(hg:(q||!(g&&decide (n+s<=600)))=(q'||!(g'&&decide (n'+s'<=600)))):RRes r g' n' s' q':=by
 obtain⟨x,d,q1,h1,h2,h3⟩:=h;exact⟨x,d,q1,h1,by rw[h2,hg],by rw[<-hs];exact h3⟩
theorem RRes.node{r:Option aan}{g b:Bool}{n s a:Nat}(h:RRes r g (n+1) s (!(decide (n+1<=600)&&decide (a<=16))||!b)):RRes r (decide (a<=16)&&b&&g) n (s+1) false:=by
 refine h.conv (by omega) ?_;have e:n+(s+1)=n+1+s:=by omega
 rw[e];by_cases hh:n+1+s<=600
 ·have:n+1<=600:=by omega
  simp only[hh,this,decide_true];cases decide (a<=16)<;>cases b<;>cases g<;>rfl
 ·simp[hh]
theorem ao0(k:Nat)(e:aah)(hk:szE e<=k)(n:Nat)(d:Int)(a:Nat)(hn:n<=600)(ha:a<=17):RRes (f84 k (.mk n d false) e a false) (gE false e a) n (szE e) false :=
 rE k k e hk n d a hn ha
theorem aqX{n a:Nat}{b:Bool}:(!(decide (n+1<=600)&&decide (a<=16))||!b)=false->((n+1:Nat):Int)=((n+1:Nat):Int)/\n+1<=600:=by
 intro h;simp at h;exact⟨rfl,by omega⟩
theorem aqP{op flag:Int}{name fr:ByteArray}{l6 l7 l8 l9 l10:Nat}(h:abN op name fr flag l6 l7 l8 l9 l10=true):l10<=1000:=by
 unfold abN at h;cases hs:shp op with
 | none=>rw[hs] at h;cases h
 | some t =>
  obtain⟨nm,frm,lo,hi,bd,fl⟩:=t;rw[hs] at h;simp only[Bool.and_eq_true,ad8,decide_eq_true_eq] at h;have:=h.2.2.2;omega
theorem rS(k:Nat) : ∀m,m<=k ->
  (∀s,2*szS s<=m->∀(n:Nat) (d:Int) (a:Nat),n<=600->a<=17->RRes ((aaW k m).f142 (.mk n d false) s a) (gS false s a) n (szS s) false) /\
  (∀l,2*szSs l+1<=m->∀(x:Int) (n:Nat) (d:Int) (q:Bool) (a:Nat),(q=false->x=(n:Int)/\n<=600)->a<=17->RRes ((aaW k m).f118 (.mk x d q) l a) (gSs false l a) n (szSs l) q) /\
  (∀c,2*szC c<=m->∀(n:Nat) (d:Int) (a:Nat),n<=600->a<=17->RRes ((aaW k m).f169 (.mk n d false) c a) (gC false c a) n (szC c) false)
 | 0,_=>⟨λe he=>by have:=aaP e;omega,λl hl=>by omega,λc hc=>by have:=abt c;omega⟩
 | m+1,hmk=>by
  obtain⟨ihs,ihl,ihc⟩:=rS k m (by omega);refine⟨?_,?_,?_⟩
  ·intro s hs n d a hn ha;obtain⟨op,name,s2,fr,s4,flag,l6,l7,l8,l9,l10⟩:=s;simp only[szS] at hs;show RRes (aiI k (aaW k m) (.mk n d false) (.mk op name s2 fr s4 flag l6 l7 l8 l9 l10) a) _ _ _ _;rw[aqM,aj8 k n d false a hn];simp only[Option.bind_some,Bool.false_or];have cs:a<=16->l10.length<=1000->∀(rest:List aap) (i:Nat) (x:Int) (n:Nat) (d:Int) (q:Bool),2*szCs rest<=m->i+rest.length=l10.length->(q=false->x=(n:Int)/\n<=600) ->
     RRes (ac9 k (aaW k m) l10 a rest i x d q) (gCs false rest (a+1)) n (szCs rest) q:=by
    intro ha h10 rest;induction rest with
    | nil=>intro i x n d q _ _ hx;exact .done hx
    | cons c rest ih =>
     intro i x n d q hm hi hx;obtain⟨e0,e1,e2,e3,e4⟩:=c;simp only[szCs,List.length_cons] at hm hi;unfold ac9;cases q with
     | true=>exact .wrong rfl
     | false =>
      obtain⟨rfl,hn⟩:=hx rfl;simp only[Bool.not_false,cond_true];rw[aaS (x:=(a:Int)+1) (n:=a+1) (by omega) (by omega),aaS (x:=(l10.length:Int) - 1) (n:=l10.length - 1) (by omega) (by omega)];refine ((ihc (.mk e0 e1 e2 e3 e4) (by omega) n d (a+1) hn (by omega)).bind (g2:=(!(e0==4)||rest.isEmpty)&&gCs false rest (a+1)) (s2:=szCs rest) λx1 d1 q1 h1=>?_).cast ?_ (by simp only[szCs])
      ·have hb:(cond (e0 != 4) ((f115 k (aan.mk x1 d1 q1) true).bind λq_=>match q_ with | .mk z931_0 z931_1 z931_2=>(aeB k (aaW k m) i z931_0 z931_1 z931_2 (ac9 k (aaW k m) l10 a rest))) ((f115 k (aan.mk x1 d1 q1) ((i:Int)==((l10.length - 1:Nat):Int))).bind λq_=>match q_ with | .mk z938_0 z938_1 z938_2=>(aeB k (aaW k m) i z938_0 z938_1 z938_2 (ac9 k (aaW k m) l10 a rest)))) =
         ac9 k (aaW k m) l10 a rest (i+1) x1 d1 (q1||!(!(e0==4)||rest.isEmpty)):=by
        have hl:((i:Int)==((l10.length - 1:Nat):Int))=rest.isEmpty:=by
         cases rest with
         | nil=>simp at hi ⊢;omega
         | cons _ _=>simp at hi ⊢;omega
        simp only[acR,Option.bind_some,hl,bne];unfold aeB;cases (e0==4)<;>cases rest.isEmpty<;>simp
       rw[hb];refine (ih (i+1) x1 _ d1 _ (by omega) (by omega) (λh=>h1 ?_)).check;simp at h;exact h.1
      ·simp only[gCs];cases (!(e0==4)||rest.isEmpty)<;>cases gC false (.mk e0 e1 e2 e3 e4) (a+1)<;>rfl
   have fw : ∀(x d:Int) (l:List aae) (a:Int),(aaW k m).f118 (.mk x d true) l a=some (.mk x d true):=by
    intro x d l a;cases m with
    | zero=>omega
    | succ m=>exact aiK _ _ _ _ _ _ _
   have w1 : ∀(x d:Int) (rest:List aap) (i:Nat),ac9 k (aaW k m) l10 a rest i x d true=some (.mk x d true):=by
    intro x d rest i;cases rest with
    | nil=>rfl
    | cons c l=>obtain⟨_,_,_,_,_⟩:=c;rfl
   have w2 : ∀(x d:Int) (l:List aah) (i:Nat),abG k (aaW k m) l7 l8 l9 l10 a l i x d true=some (.mk x d true):=by
    intro x d l i;cases l with
    | nil=>unfold abG ae9;simp only[fw,Option.bind_some,w1]
    | cons c l=>obtain⟨_,_,_,_,_⟩:=c;unfold abG ae9;simp only[fw,Option.bind_some,w1,Bool.not_true,cond_false]
   have tail:a<=16->l10.length<=1000->∀(x:Int) (n:Nat) (d:Int) (q:Bool),(q=false->x=(n:Int)/\n<=600) ->
     RRes (ae9 k (aaW k m) l7 l8 l9 l10 a x d q) (gSs false l7 (a+1)&&(gSs false l8 (a+1)&&(gSs false l9 (a+1)&&gCs false l10 (a+1)))) n (szSs l7+(szSs l8+(szSs l9+szCs l10))) q:=by
    intro ha h10 x n d q hx;unfold ae9;rw[aaS (x:=(a:Int)+1) (n:=a+1) (by omega) (by omega)];refine (ihl l7 (by omega) x n d q (a+1) hx (by omega)).bind λx d q hx=>?_
    refine (ihl l8 (by omega) x _ d q (a+1) hx (by omega)).bind λx d q hx=>?_
    refine (ihl l9 (by omega) x _ d q (a+1) hx (by omega)).bind λx d q hx=>?_
    exact cs ha h10 l10 0 x _ d q (by omega) (by omega) hx
   have loop:a<=16->l10.length<=1000->∀(l:List aah) (i:Nat) (x:Int) (n:Nat) (d:Int) (q:Bool),szEs l<=m->(q=false->x=(n:Int)/\n<=600) ->
     RRes (abG k (aaW k m) l7 l8 l9 l10 a l i x d q) (gEs false l (a+1)&&(gSs false l7 (a+1)&&(gSs false l8 (a+1)&&(gSs false l9 (a+1)&&gCs false l10 (a+1))))) n (szEs l+(szSs l7+(szSs l8+(szSs l9+szCs l10)))) q:=by
    intro ha h10 l;induction l with
    | nil =>
     intro i x n d q _ hx;unfold abG;exact (tail ha h10 x n d q hx).cast (by simp[gEs]) (by simp[szEs])
    | cons e l ih =>
     intro i x n d q hm hx;cases q with
     | true=>rw[w2];exact .wrong rfl
     | false =>
      obtain⟨rfl,hn⟩:=hx rfl;obtain⟨e0,e1,e2,e3,e4⟩:=e;unfold abG;simp only[szEs] at hm;simp only[Bool.not_false,cond_true];rw[aaS (x:=(a:Int)+1) (n:=a+1) (by omega) (by omega)];refine ((ao0 k (.mk e0 e1 e2 e3 e4) (by omega) n d (a+1) hn (by omega)).bind λx1 d1 q1 h1=>ih (i+1) x1 _ d1 q1 (by omega) h1).cast ?_ ?_
      ·simp only[gEs,Bool.and_assoc]
      ·simp only[szEs];omega
   by_cases hq:(decide (n+1<=600)&&decide (a<=16))=true/\((s2==0&&s4==0)&&abN op name fr flag l6.length l7.length l8.length l9.length l10.length)=true
   ·have ha' : a<=16:=by have:=hq.1;simp at this;exact this.2
    have h10:l10.length<=1000:=by
     have h:=hq.2;rw[Bool.and_eq_true] at h;exact aqP h.2
    refine RRes.cast (RRes.node (a:=a) (loop ha' h10 l6 0 _ (n+1) _ _ (by omega) aqX)) ?_ ?_
    ·simp only[gS,Bool.false_or,<-Bool.and_assoc]
    ·simp only[szS];omega
   ·have hq' : (!(decide (n+1<=600)&&decide (a<=16))||!((s2==0&&s4==0)&&abN op name fr flag l6.length l7.length l8.length l9.length l10.length))=true:=by
     rw[<-Bool.not_and,Bool.not_eq_true'];rw[<-Bool.and_eq_true] at hq;simpa using hq
    rw[hq',w2];refine .bad rfl ?_;simp only[gS,szS,Bool.false_or];by_cases h1:n+1<=600
    ·by_cases h2:a<=16
     ·have:((s2==0&&s4==0)&&abN op name fr flag l6.length l7.length l8.length l9.length l10.length)=false:=by
       cases h:((s2==0&&s4==0)&&abN op name fr flag l6.length l7.length l8.length l9.length l10.length) with
       | false=>rfl
       | true=>exact absurd ⟨by simp[h1,h2],h⟩ hq
      rw[Bool.and_assoc (decide (a<=16)),this];simp
     ·simp[h2]
    ·have : ¬(n+(szEs l6+szSs l7+szSs l8+szSs l9+szCs l10+1)<=600):=by omega
     simp[this]
  ·intro l hl x n d q a hx ha;show RRes (ae5 k (aaW k m) a l 0 x d q) _ _ _ _;have loop : ∀(l:List aae) (i:Nat) (x:Int) (n:Nat) (d:Int) (q:Bool),2*szSs l<=m->(q=false->x=(n:Int)/\n<=600)->RRes (ae5 k (aaW k m) a l i x d q) (gSs false l a) n (szSs l) q:=by
    intro l;induction l with
    | nil=>intro i x n d q _ hx;exact .done hx
    | cons e l ih =>
     intro i x n d q hm hx;obtain⟨e0,e1,e2,e3,e4,e5,e6,e7,e8,e9,e10⟩:=e;unfold ae5;cases q with
     | true=>exact .wrong rfl
     | false =>
      obtain⟨rfl,hn⟩:=hx rfl;simp only[szSs] at hm;simp only[Bool.not_false,cond_true];exact (ihs (.mk e0 e1 e2 e3 e4 e5 e6 e7 e8 e9 e10) (by omega) n d a hn ha).bind λx1 d1 q1 h1=>ih (i+1) x1 _ d1 q1 (by omega) h1
   exact loop l 0 x n d q (by omega) hx
  ·intro c hc n d a hn ha;obtain⟨kind,name,slot,es,b⟩:=c;simp only[szC] at hc;show RRes (aiN k (aaW k m) (.mk n d false) (.mk kind name slot es b) a) _ _ _ _;rw[aqT,aj8 k n d false a hn];simp only[Option.bind_some,Bool.false_or];have loop:a<=16->∀(l:List aah) (i:Nat) (x:Int) (n:Nat) (d:Int) (q:Bool),szEs l<=m->(q=false->x=(n:Int)/\n<=600)->RRes (ac4 k (aaW k m) b a l i x d q) (gEs false l (a+1)&&gSs false b (a+1)) n (szEs l+szSs b) q:=by
    intro ha l;induction l with
    | nil =>
     intro i x n d q _ hx;unfold ac4 afb;rw[aaS (x:=(a:Int)+1) (n:=a+1) (by omega) (by omega)];refine ((ihl b (by omega) x n d q (a+1) hx (by omega)).bind (g2:=true) (s2:=0) λx1 d1 q1 h1=>.done h1).cast ?_ ?_
     ·simp[gEs]
     ·simp[szEs]
    | cons e l ih =>
     intro i x n d q hm hx;obtain⟨e0,e1,e2,e3,e4⟩:=e;unfold ac4;simp only[szEs] at hm;cases q with
     | true =>
      unfold afb;simp only[Bool.not_true,cond_false];obtain⟨x1,d1,q1,h1,h2,h3⟩:=ihl b (by omega) x n d true ((a+1)) hx (by omega);rw[aaS (x:=(a:Int)+1) (n:=a+1) (by omega) (by omega),h1];simp at h2;subst h2
      exact .wrong rfl
     | false =>
      obtain⟨rfl,hn⟩:=hx rfl;simp only[Bool.not_false,cond_true];rw[aaS (x:=(a:Int)+1) (n:=a+1) (by omega) (by omega)];refine ((ao0 k (.mk e0 e1 e2 e3 e4) (by omega) n d (a+1) hn (by omega)).bind λx1 d1 q1 h1=>ih (i+1) x1 _ d1 q1 (by omega) h1).cast ?_ ?_
      ·simp only[gEs,Bool.and_assoc]
      ·simp only[szEs];omega
   have fw : ∀(x d:Int) (l:List aae) (a:Int),(aaW k m).f118 (.mk x d true) l a=some (.mk x d true):=by
    intro x d l a;cases m with
    | zero=>omega
    | succ m=>exact aiK _ _ _ _ _ _ _
   have w2 : ∀(x d:Int) (l:List aah) (i:Nat),ac4 k (aaW k m) b a l i x d true=some (.mk x d true):=by
    intro x d l i;cases l with
    | nil=>unfold ac4 afb;simp only[fw,Option.bind_some]
    | cons c l=>obtain⟨_,_,_,_,_⟩:=c;unfold ac4 afb;simp only[fw,Option.bind_some,Bool.not_true,cond_false]
   by_cases ha' : a<=16
   ·refine RRes.cast (RRes.node (a:=a) (loop ha' es 0 _ (n+1) _ _ (by omega) aqX)) ?_ ?_
    ·simp only[gC,Bool.false_or,<-Bool.and_assoc]
    ·simp only[szC]
   ·have hq' : (!(decide (n+1<=600)&&decide (a<=16))||!((slot==0)&&agh kind name es.length))=true:=by simp[ha']
    rw[hq',w2];exact .bad rfl (by simp[gC,ha'])
end Go.Proofs.YtphdlngnegjgcaaGreatDoor
namespace Go.Proofs.YtphdlngnegjgcaaGreatDoor
open Go
def okP:List aau->Bool
 | []=>true
 | .mk nm kd::l=>isN nm&&decide (kd>=1)&&decide (kd<=6)&&okP l
def agl(z:Bool)(name:ByteArray)(np:Nat)(res:Int)(f3:Bool)(s4:Int):Bool :=
 isN name&&decide (np<=4)&&(z||s4==0)&&(!f3||res==0)&&decide (res>=0)&&decide (res<=6)
def gFs(z:Bool):List aab->Bool
 | []=>true
 | .mk name ps res f3 s4 b::l=>agl z name ps.length res f3 s4&&(okP ps&&(gSs z b 1&&gFs z l))
def cnF:aab->Nat | .mk _ _ _ _ _ b=>szSs b+1
def cnFs:List aab->Nat | []=>0 | f::l=>cnF f+cnFs l
def wf(z:Bool):aaa->Bool
 | .mk fs=>decide (1<=fs.length)&&decide (fs.length<=16)&&gFs z fs&&decide (cnFs fs<=600)
section
variable (k i:Nat)(body:List aae)(n d:Int)(z q:Bool)(nx:Nat->Int->Int->Bool->Option (aaj×Bool))
theorem ai1 : ∀(ps:List aau) (j:Nat),acG k i body n d z nx ps j=cond (okP ps) (acG k i body n d z nx [] 0) (some (.mk n d z,false))
 | [],j=>rfl
 | .mk nm kd::ps,j=>by
  have ih:=ai1 ps;generalize acG k i body n d z nx [] 0=A at ih ⊢;rw[acG];simp only[al0,ai8,Option.bind_some,ajU,ih,okP];cases isN nm<;>cases decide (kd>=1)<;>cases decide (kd<=6)<;>rfl
theorem aoI(ps:List aau):acn k i ps body n d z q nx=cond (!q&&okP ps) (acG k i body n d z nx [] 0) (some (.mk n d z,false)):=by
 unfold acn;rw[ai1];cases q<;>rfl
end
theorem as1(k:Nat)(z:Bool)(l:List aae)(hk:2*szSs l+1<=k)(n:Nat)(d:Int)(a:Nat)(hn:n<=600)(ha:a<=17):NRes (f156 k (.mk n d z) l a) (gSs z l a) n (szSs l) z :=
 (nSt k z k (Nat.le_refl k)).2.1 l hk n d a hn ha
theorem asY(k:Nat)(l:List aae)(hk:2*szSs l+1<=k)(x:Int)(n:Nat)(d:Int)(q:Bool)(a:Nat)(hx:q=false->x=(n:Int)/\n<=600)(ha:a<=17):RRes (f118 k (.mk x d q) l a) (gSs false l a) n (szSs l) q :=
 (rS k k (Nat.le_refl k)).2.1 l hk x n d q a hx ha
theorem aoo(k:Nat)(name:ByteArray)(ps:List aau)(res:Int)(f3:Bool)(s4:Int)(b:List aae)(l:List aab)(i:Nat)(n d:Int)(z:Bool) :
  abl k (.mk name ps res f3 s4 b::l) i n d z=(f76 k (.mk n d z) 0).bind λx=>match x with
   | (.mk n1 d1 z1,ok)=>cond (ok&&agl z1 name ps.length res f3 s4&&okP ps) (acG k i b n1 d1 z1 (abl k l) [] 0) (some (.mk n1 d1 z1,false)):=by
 rw[abl];congr 1;funext x;obtain⟨⟨n1,d1,z1⟩,ok⟩:=x;simp only[al0,ai8,Option.bind_some,aoI,agl];have e:decide ((ps.length:Int)>4)=!decide (ps.length<=4):=by rw[<-decide_not,decide_eq_decide];omega
 rw[e];simp only[Bool.cond_eq_ite];grind (splits:=20)
theorem nFs(k:Nat)(z:Bool) : ∀(l:List aab) (i:Nat) (n:Nat) (d:Int),2*szFs l+1<=k->n<=600->NRes (abl k l i n d z) (gFs z l) n (cnFs l) z
 | [],i,n,d,hk,hn=>.yes rfl (by simp[gFs,cnFs,hn])
 | .mk name ps res f3 s4 b::l,i,n,d,hk,hn=>by
  simp only[szFs,szF] at hk;rw[aoo];have e0:((0:Nat):Int)=0:=rfl;rw[<-e0,aoc k n d z 0 hn,e0];simp only[Option.bind_some,Nat.zero_le,decide_true,Bool.and_true];by_cases h1:n+1<=600
  ·by_cases h2:(agl z name ps.length res f3 s4&&okP ps)=true
   ·rw[Bool.and_assoc,h2];simp only[h1,decide_true,Bool.and_self,cond_true];rw[acG];refine ((as1 k z b (by omega) (n+1) (imax d 0) 1 h1 (by omega)).bind (f:=λq_=>match q_ with | (.mk z10628_0 z10628_1 z10628_2,r10629)=>(cond (!r10629) (some ((aaj.mk z10628_0 z10628_1 z10628_2),false)) (abl k l (i+1) z10628_0 z10628_1 z10628_2)))
     (λc=>by obtain⟨_,_,_⟩:=c;exact⟨_,rfl⟩) λd hn=>nFs k z l (i+1) _ d (by omega) hn).conv (by simp only[cnFs,cnF];omega) (λ_=>?_)
    rw[Bool.and_eq_true] at h2;simp only[gFs,h2.1,h2.2,Bool.true_and]
   ·have h2' : (agl z name ps.length res f3 s4&&okP ps)=false:=by simpa using h2
    rw[Bool.and_assoc,h2',Bool.and_false];refine .no rfl ?_;rw[gFs,<-Bool.and_assoc,h2'];simp
  ·simp only[h1,decide_false,Bool.false_and,cond_false];refine .no rfl ?_;have : ¬(n+(szSs b+1+cnFs l)<=600):=by omega
   simp[cnFs,cnF,this]
theorem aua(k:Nat)(p:aaa)(z:Bool)(hk:2*szP p+1<=k):f99 k p z=some (wf z p):=by
 obtain⟨fs⟩:=p;simp only[szP] at hk;unfold f99 f128;simp only[ai8,Option.bind_some];have e1:(decide ((fs.length:Int)>=1)&&decide ((fs.length:Int)<=16))=(decide (1<=fs.length)&&decide (fs.length<=16)):=by
  congr 1
  ·rw[decide_eq_decide];omega
  ·rw[decide_eq_decide];omega
 rw[e1];by_cases h:(decide (1<=fs.length)&&decide (fs.length<=16))=true
 ·rw[h];simp only[Bool.not_true,cond_false];obtain⟨c,h1,h2⟩:=nFs k z fs 0 0 0 (by omega) (by omega);have e0:((0:Nat):Int)=0:=rfl;rw[e0] at h1;rw[h1];obtain⟨_,_,_⟩:=c;simp only[Option.bind_some,wf,h,Nat.zero_add,Bool.true_and]
 ·have h' : (decide (1<=fs.length)&&decide (fs.length<=16))=false:=by simpa using h
  rw[h'];simp only[Bool.not_false,cond_true,Option.bind_some,wf,h',Bool.false_and]
section
variable (k i:Nat)(body:List aae)(d:Int)(nx:Nat->Int->Int->Bool->Option aan)
theorem akU : ∀(ps:List aau) (j:Nat) (x d:Int) (q:Bool),afP k i body nx ps j x d q=agR k i body x d (q||!okP ps) nx
 | [],j,x,d,q=>by simp[afP,okP]
 | .mk nm kd::ps,j,x,d,q=>by
  unfold afP;simp only[ahe,acR,Option.bind_some,alZ,akU ps,okP];cases q<;>cases isN nm<;>cases decide (kd>=1)<;>cases decide (kd<=6)<;>rfl
end
theorem apx(k:Nat)(name:ByteArray)(ps:List aau)(res:Int)(f3:Bool)(s4:Int)(b:List aae)(l:List aab)(i:Nat)(n d:Int) :
  abU k (.mk name ps res f3 s4 b::l) i n d false=(f114 k (.mk n d false) 0).bind λx=>match x with
   | .mk n1 d1 q1=>agR k i b n1 d1 (q1||!(agl false name ps.length res f3 s4&&okP ps)) (abU k l):=by
 rw[abU];simp only[Bool.not_false,cond_true];congr 1;funext x;obtain⟨n1,d1,q1⟩:=x;simp only[ahe,acR,Option.bind_some,afC,akU,agl];have e:decide ((ps.length:Int)<=4)=decide (ps.length<=4):=by rw[decide_eq_decide];omega
 rw[e];have hQ : ∃A B,(λq=>agR k i b n1 d1 q (abU k l))=λb=>if b=true then A else B:=bfun _
 obtain⟨A,B,hQ⟩:=hQ;have hQ' : ∀q,agR k i b n1 d1 q (abU k l)=if q=true then A else B:=λq=>congrFun hQ q
 simp only[hQ'];generalize decide (ps.length<=4)=b2;generalize isN name=b1;generalize okP ps=b3;generalize (s4==0)=b4;generalize (res==0)=b5;simp only[Bool.cond_eq_ite];grind (splits:=20)
theorem rFs(k:Nat) : ∀(l:List aab) (i:Nat) (x:Int) (n:Nat) (d:Int) (q:Bool),2*szFs l+1<=k->(q=false->x=(n:Int)/\n<=600)->RRes (abU k l i x d q) (gFs false l) n (cnFs l) q
 | [],i,x,n,d,q,hk,hx=>.done hx
 | .mk name ps res f3 s4 b::l,i,x,n,d,q,hk,hx=>by
  simp only[szFs,szF] at hk;cases q with
  | true=>exact .wrong rfl
  | false =>
   obtain⟨rfl,hn⟩:=hx rfl;rw[apx];have e0:((0:Nat):Int)=0:=rfl;rw[<-e0,aj8 k n d false 0 hn,e0];simp only[Option.bind_some,Bool.false_or];unfold agR;refine RRes.cast (RRes.node (a:=0) (b:=agl false name ps.length res f3 s4&&okP ps) (g:=gSs false b 1&&gFs false l) (s:=szSs b+cnFs l) ?_) ?_ ?_
   ·exact (asY k b (by omega) _ (n+1) _ _ 1 (λh=>by simp at h;exact⟨rfl,by omega⟩) (by omega)).bind λx d q hx=>rFs k l (i+1) x _ d q (by omega) hx
   ·simp only[gFs,Nat.zero_le,decide_true,Bool.true_and,Bool.and_assoc]
   ·simp only[cnFs,cnF];omega
theorem atW(k:Nat)(p:aaa)(hk:2*szP p+1<=k):f59 k p=some (wf false p):=by
 obtain⟨fs⟩:=p;simp only[szP] at hk;unfold f59 f85;simp only[acR,Option.bind_some,an4];have e:(cond (decide ((fs.length:Int)>=1)) (abU k fs 0 0 0 (false||!decide ((fs.length:Int)<=16))) (abU k fs 0 0 0 (false||!false)))=abU k fs 0 0 0 (!(decide (1<=fs.length)&&decide (fs.length<=16))):=by
  have e1:decide ((fs.length:Int)>=1)=decide (1<=fs.length):=by rw[decide_eq_decide];omega
  have e2:decide ((fs.length:Int)<=16)=decide (fs.length<=16):=by rw[decide_eq_decide];omega
  rw[e1,e2];cases decide (1<=fs.length)<;>rfl
 rw[e];have e0:((0:Nat):Int)=0:=rfl;obtain⟨x,d,q',h1,h2,h3⟩:=rFs k fs 0 0 0 0 (!(decide (1<=fs.length)&&decide (fs.length<=16))) (by omega) (λ_=>⟨rfl,by omega⟩);rw[h1];simp only[Option.bind_some,wf,h2,Nat.zero_add];cases decide (1<=fs.length)<;>cases decide (fs.length<=16)<;>cases gFs false fs<;>cases decide (cnFs fs<=600)<;>rfl
mutual
def stS:aae->aae | .mk op name _ fr _ flag l6 l7 l8 l9 l10=>.mk op name 0 fr 0 flag (stEs l6) (stSs l7) (stSs l8) (stSs l9) (stCs l10)
def stSs:List aae->List aae | []=>[] | s::l=>stS s::stSs l
def stC:aap->aap | .mk kind name _ es b=>.mk kind name 0 (stEs es) (stSs b)
def stCs:List aap->List aap | []=>[] | c::l=>stC c::stCs l
end
def stF:aab->aab | .mk name ps res f3 _ b=>.mk name ps res f3 0 (stSs b)
def stFs:List aab->List aab | []=>[] | f::l=>stF f::stFs l
def stP:aaa->aaa | .mk fs=>.mk (stFs fs)
theorem an7 : ∀l,(stSs l).length=l.length
 | []=>rfl
 | e::l=>by simp[stSs,an7 l]
theorem anf : ∀l,(stCs l).length=l.length
 | []=>rfl
 | e::l=>by simp[stCs,anf l]
theorem aoh : ∀l,(stFs l).length=l.length
 | []=>rfl
 | e::l=>by simp[stFs,aoh l]
mutual
theorem axn : ∀e,szS (stS e)=szS e
 | .mk _ _ _ _ _ _ _ l7 l8 l9 l10=>by simp only[stS,szS,akO,aem l7,aem l8,aem l9,arY l10]
theorem aem : ∀l,szSs (stSs l)=szSs l
 | []=>rfl
 | e::l=>by simp only[stSs,szSs,axn e,aem l]
theorem axY : ∀e,szC (stC e)=szC e
 | .mk _ _ _ _ b=>by simp only[stC,szC,akO,aem b]
theorem arY : ∀l,szCs (stCs l)=szCs l
 | []=>rfl
 | e::l=>by simp only[stCs,szCs,axY e,arY l]
end
mutual
theorem ayz : ∀e a,gS false (stS e) a=gS true e a
 | .mk _ _ _ _ _ _ _ l7 l8 l9 l10,a=>by simp[stS,gS,anG,aix l7,aix l8,aix l9,at9 l10,afT,an7,anf]
theorem aix : ∀l a,gSs false (stSs l) a=gSs true l a
 | [],_=>rfl
 | e::l,a=>by simp only[stSs,gSs,ayz e,aix l]
theorem ay7 : ∀e a,gC false (stC e) a=gC true e a
 | .mk _ _ _ _ b,a=>by simp[stC,gC,anG,aix b,afT]
theorem at9 : ∀l a,gCs false (stCs l) a=gCs true l a
 | [],_=>rfl
 | .mk k nm s es b::l,a=>by
  have h:=ay7 (.mk k nm s es b) a;simp only[stC] at h;have e:(stCs l).isEmpty=l.isEmpty:=by cases l<;>rfl
  simp only[stCs,stC,gCs,h,at9 l,e]
end
theorem ape : ∀l,szFs (stFs l)=szFs l
 | []=>rfl
 | .mk _ _ _ _ _ b::l=>by simp only[stFs,stF,szFs,szF,aem,ape l]
theorem aro : ∀l,cnFs (stFs l)=cnFs l
 | []=>rfl
 | .mk _ _ _ _ _ b::l=>by simp only[stFs,stF,cnFs,cnF,aem,aro l]
theorem at7 : ∀l,gFs false (stFs l)=gFs true l
 | []=>rfl
 | .mk _ _ _ _ _ b::l=>by simp[stFs,stF,gFs,aix,at7 l,agl]
theorem aom : ∀p,szP (stP p)=szP p
 | .mk fs=>by simp only[stP,szP,ape]
theorem ayH : ∀p,wf false (stP p)=wf true p
 | .mk fs=>by simp only[stP,wf,at7,aoh,aro]
def maxB:Nat:=140737488355328
mutual
def fitE:aah->Prop | .mk _ _ _ _ l=>l.length*64<=maxB/\ae0 l
def ae0:List aah->Prop | []=>True | e::l=>fitE e/\ae0 l
end
mutual
def fitS:aae->Prop | .mk _ _ _ _ _ _ l6 l7 l8 l9 l10=>(l6.length*64<=maxB/\ae0 l6)/\(l7.length*184<=maxB/\ad9 l7)/\(l8.length*184<=maxB/\ad9 l8)/\(l9.length*184<=maxB/\ad9 l9)/\(l10.length*80<=maxB/\akk l10)
def ad9:List aae->Prop | []=>True | e::l=>fitS e/\ad9 l
def fitC:aap->Prop | .mk _ _ _ l b=>(l.length*64<=maxB/\ae0 l)/\(b.length*184<=maxB/\ad9 b)
def akk:List aap->Prop | []=>True | e::l=>fitC e/\akk l
end
def fitF:aab->Prop | .mk _ ps _ _ _ b=>ps.length*24<=maxB/\(b.length*184<=maxB/\ad9 b)
def akm:List aab->Prop | []=>True | e::l=>fitF e/\akm l
def fitP:aaa->Prop | .mk fs=>fs.length*88<=maxB/\akm fs
theorem aaE{α:Type}{a:Nat}{x:Option α}(h:a<=maxB):aaB (decide (a<=140737488355328)) x=x:=by
 unfold maxB at h;unfold aaB;rw[decide_eq_true h];rfl
theorem aaM{α:Type}(xs:List α)(e:α):(xs++[e]).length=xs.length+1:=by simp
theorem amV(k:Nat) : ∀m l,szEs l+1<=m->l.length*64<=maxB->ae0 l->(agH k m).f121 l=some l
 | 0,l,h,_,_=>by omega
 | m+1,l,h,hl,hf=>by
  show afd k (agH k m) l 0 []=some l;have loop : ∀(l:List aah) (i:Nat) (xs:List aah),szEs l<=m->(xs.length+l.length)*64<=maxB->ae0 l->afd k (agH k m) l i xs=some (xs++l):=by
   intro l;induction l with
   | nil=>intro i xs _ _ _;simp[afd]
   | cons e l ih =>
    intro i xs hm hl hf;obtain⟨e0,e1,e2,e3,e4⟩:=e;simp only[szEs,szE,ae0,fitE,List.length_cons] at hm hl hf;unfold afd;rw[amV k m e4 (by omega) hf.1.1 hf.1.2];simp only[Option.bind_some];rw[aaE (by omega),ih (i+1) _ (by omega) (by rw[aaM];omega) hf.2];simp
  exact loop l 0 [] (by omega) (by simpa using hl) hf
theorem arl(k:Nat) : ∀m l,szEs l+1<=m->l.length*64<=maxB->ae0 l->(alG k m).f90 l=some (stEs l)
 | 0,l,h,_,_=>by omega
 | m+1,l,h,hl,hf=>by
  show ahi k (alG k m) l 0 []=some (stEs l);have loop : ∀(l:List aah) (i:Nat) (xs:List aah),szEs l<=m->(xs.length+l.length)*64<=maxB->ae0 l->ahi k (alG k m) l i xs=some (xs++stEs l):=by
   intro l;induction l with
   | nil=>intro i xs _ _ _;simp[ahi,stEs]
   | cons e l ih =>
    intro i xs hm hl hf;obtain⟨e0,e1,e2,e3,e4⟩:=e;simp only[szEs,szE,ae0,fitE,List.length_cons] at hm hl hf;unfold ahi;rw[arl k m e4 (by omega) hf.1.1 hf.1.2];simp only[Option.bind_some];rw[aaE (by omega),ih (i+1) _ (by omega) (by rw[aaM];omega) hf.2];simp[stEs,stE]
  exact loop l 0 [] (by omega) (by simpa using hl) hf
theorem cE(k:Nat) : ∀m,(∀e,2*szE e<=m->fitE e->(aaU k m).f1017823 e=some (stE e)) /\
  (∀l,2*szEs l+1<=m->l.length*64<=maxB->ae0 l->(aaU k m).f1015923 l=some (stEs l))
 | 0=>⟨λe h=>by have:=adw e;omega,λl h=>by omega⟩
 | m+1=>by
  obtain⟨ihe,ihl⟩:=cE k m;constructor
  ·intro e h hf;obtain⟨e0,e1,e2,e3,e4⟩:=e;simp only[szE,fitE] at h hf;show adF k (aaU k m) (.mk e0 e1 e2 e3 e4)=_;unfold adF;simp only;rw[ihl e4 (by omega) hf.1 hf.2];simp[f157,stE]
  ·intro l h hl hf;show ab4 k (aaU k m) l 0 []=_;have loop : ∀(l:List aah) (i:Nat) (xs:List aah),2*szEs l<=m->(xs.length+l.length)*64<=maxB->ae0 l->ab4 k (aaU k m) l i xs=some (xs++stEs l):=by
    intro l;induction l with
    | nil=>intro i xs _ _ _;simp[ab4,stEs]
    | cons e l ih =>
     intro i xs hm hl hf;obtain⟨e0,e1,e2,e3,e4⟩:=e;simp only[szEs,ae0,List.length_cons] at hm hl hf;unfold ab4;rw[ihe (.mk e0 e1 e2 e3 e4) (by omega) hf.1];simp only[Option.bind_some,stE];rw[aaE (by omega),ih (i+1) _ (by omega) (by rw[aaM];omega) hf.2];simp[stEs,stE]
   exact loop l 0 [] (by omega) (by simpa using hl) hf
theorem al8(k:Nat) : ∀m l,szSs l+1<=m->szSs l+1<=k->l.length*184<=maxB->ad9 l->(ako k m).f89 l=some l
 | 0,l,h,_,_,_=>by omega
 | m+1,l,h,hk,hl,hf=>by
  show agJ k (ako k m) l 0 []=some l;have cs : ∀(xs:List aae) (i:Nat) (e0:Int) (e1:ByteArray) (e2:Int) (e3:ByteArray) (e4 e5:Int) (r6:List aah) (r7 r8 r9:List aae) (nx:Nat->List aae->Option (List aae)) (l:List aap) (j:Nat) (ys:List aap),szCs l<=m->szCs l<=k ->
    (ys.length+l.length)*80<=maxB->(xs.length+1)*184<=maxB->akk l->aiF k (ako k m) xs i e0 e1 e2 e3 e4 e5 r6 r7 r8 r9 nx l j ys=nx (i+1) (xs++[.mk e0 e1 e2 e3 e4 e5 r6 r7 r8 r9 (ys++l)]):=by
   intro xs i e0 e1 e2 e3 e4 e5 r6 r7 r8 r9 nx l;induction l with
   | nil=>intro j ys _ _ _ hx _;unfold aiF;rw[aaE hx];simp
   | cons c l ih =>
    intro j ys hm hk hl hx hf;obtain⟨c0,c1,c2,c3,c4⟩:=c;simp only[szCs,szC,akk,fitC,List.length_cons] at hm hl hf hk;unfold aiF f121;rw[amV k k c3 (by omega) hf.1.1.1 hf.1.1.2];simp only[Option.bind_some];rw[al8 k m c4 (by omega) (by omega) hf.1.2.1 hf.1.2.2];simp only[Option.bind_some];rw[aaE (by omega),ih (j+1) _ (by omega) (by omega) (by rw[aaM];omega) hx hf.2];simp
  have loop : ∀(l:List aae) (i:Nat) (xs:List aae),szSs l<=m->szSs l<=k->(xs.length+l.length)*184<=maxB->ad9 l->agJ k (ako k m) l i xs=some (xs++l):=by
   intro l;induction l with
   | nil=>intro i xs _ _ _ _;simp[agJ]
   | cons e l ih =>
    intro i xs hm hk hl hf;obtain⟨e0,e1,e2,e3,e4,e5,e6,e7,e8,e9,e10⟩:=e;simp only[szSs,szS,ad9,fitS,List.length_cons] at hm hl hf hk;obtain⟨⟨⟨h6,h6'⟩,⟨h7,h7'⟩,⟨h8,h8'⟩,⟨h9,h9'⟩,h10,h10'⟩,hf⟩:=hf;unfold agJ f121;rw[amV k k e6 (by omega) h6 h6',al8 k m e7 (by omega) (by omega) h7 h7',al8 k m e8 (by omega) (by omega) h8 h8',al8 k m e9 (by omega) (by omega) h9 h9'];simp only[Option.bind_some];rw[cs xs i e0 e1 e2 e3 e4 e5 e6 e7 e8 e9 _ e10 0 [] (by omega) (by omega) (by simpa using h10) (by omega) h10',ih (i+1) _ (by omega) (by omega) (by rw[aaM];omega) hf];simp
  exact loop l 0 [] (by omega) (by omega) (by simpa using hl) hf
theorem alK(k:Nat) : ∀m l,szSs l+1<=m->szSs l+1<=k->l.length*184<=maxB->ad9 l->(ajk k m).f63 l=some (stSs l)
 | 0,l,h,_,_,_=>by omega
 | m+1,l,h,hk,hl,hf=>by
  show agL k (ajk k m) l 0 []=some (stSs l);have cs : ∀(xs:List aae) (i:Nat) (e0:Int) (e1:ByteArray) (e3:ByteArray) (e5:Int) (r6:List aah) (r7 r8 r9:List aae) (nx:Nat->List aae->Option (List aae)) (l:List aap) (j:Nat) (ys:List aap),szCs l<=m->szCs l<=k ->
    (ys.length+l.length)*80<=maxB->(xs.length+1)*184<=maxB->akk l->air k (ajk k m) xs i e0 e1 e3 e5 r6 r7 r8 r9 nx l j ys=nx (i+1) (xs++[.mk e0 e1 0 e3 0 e5 r6 r7 r8 r9 (ys++stCs l)]):=by
   intro xs i e0 e1 e3 e5 r6 r7 r8 r9 nx l;induction l with
   | nil=>intro j ys _ _ _ hx _;unfold air;rw[aaE hx];simp[stCs]
   | cons c l ih =>
    intro j ys hm hk hl hx hf;obtain⟨c0,c1,c2,c3,c4⟩:=c;simp only[szCs,szC,akk,fitC,List.length_cons] at hm hl hf hk;unfold air f90;rw[arl k k c3 (by omega) hf.1.1.1 hf.1.1.2];simp only[Option.bind_some];rw[alK k m c4 (by omega) (by omega) hf.1.2.1 hf.1.2.2];simp only[Option.bind_some];rw[aaE (by omega),ih (j+1) _ (by omega) (by omega) (by rw[aaM];omega) hx hf.2];simp[stCs,stC]
  have loop : ∀(l:List aae) (i:Nat) (xs:List aae),szSs l<=m->szSs l<=k->(xs.length+l.length)*184<=maxB->ad9 l->agL k (ajk k m) l i xs=some (xs++stSs l):=by
   intro l;induction l with
   | nil=>intro i xs _ _ _ _;simp[agL,stSs]
   | cons e l ih =>
    intro i xs hm hk hl hf;obtain⟨e0,e1,e2,e3,e4,e5,e6,e7,e8,e9,e10⟩:=e;simp only[szSs,szS,ad9,fitS,List.length_cons] at hm hl hf hk;obtain⟨⟨⟨h6,h6'⟩,⟨h7,h7'⟩,⟨h8,h8'⟩,⟨h9,h9'⟩,h10,h10'⟩,hf⟩:=hf;unfold agL f90;rw[arl k k e6 (by omega) h6 h6',alK k m e7 (by omega) (by omega) h7 h7',alK k m e8 (by omega) (by omega) h8 h8',alK k m e9 (by omega) (by omega) h9 h9'];simp only[Option.bind_some];rw[cs xs i e0 e1 e3 e5 _ _ _ _ _ e10 0 [] (by omega) (by omega) (by simpa using h10) (by omega) h10',ih (i+1) _ (by omega) (by omega) (by rw[aaM];omega) hf];simp[stSs,stS]
  exact loop l 0 [] (by omega) (by omega) (by simpa using hl) hf
theorem ah1(k:Nat) : ∀m l,szSs l+1<=m->2*szSs l+1<=k->l.length*184<=maxB->ad9 l->(afX k m).f130 l false=some (stSs l)
 | 0,l,h,_,_,_=>by omega
 | m+1,l,h,hk,hl,hf=>by
  show ac6 k (afX k m) false l 0 []=some (stSs l);have cs : ∀(xs:List aae) (i:Nat) (e0:Int) (e1:ByteArray) (e3:ByteArray) (e5 n1 n2:Int) (r6:List aah) (r7 r8 r9:List aae) (nx:Nat->List aae->Option (List aae)) (l:List aap) (j:Nat) (ys:List aap),szCs l<=m->2*szCs l<=k ->
    (ys.length+l.length)*80<=maxB->(xs.length+1)*184<=maxB->akk l->aer k (afX k m) false xs i e0 e1 e3 e5 n1 n2 r6 r7 r8 r9 nx l j ys=nx (i+1) (xs++[.mk e0 e1 n1 e3 n2 e5 r6 r7 r8 r9 (ys++stCs l)]):=by
   intro xs i e0 e1 e3 e5 n1 n2 r6 r7 r8 r9 nx l;induction l with
   | nil=>intro j ys _ _ _ hx _;unfold aer;rw[aaE hx];simp[stCs]
   | cons c l ih =>
    intro j ys hm hk hl hx hf;obtain⟨c0,c1,c2,c3,c4⟩:=c;simp only[szCs,szC,akk,fitC,List.length_cons] at hm hl hf hk;unfold aer ajT f1015923;rw[(cE k k).2 c3 (by omega) hf.1.1.1 hf.1.1.2];simp only[Bool.not_false,cond_true,Option.bind_some];rw[ah1 k m c4 (by omega) (by omega) hf.1.2.1 hf.1.2.2];simp only[Option.bind_some];rw[aaE (by omega),ih (j+1) _ (by omega) (by omega) (by rw[aaM];omega) hx hf.2];simp[stCs,stC]
  have loop : ∀(l:List aae) (i:Nat) (xs:List aae),szSs l<=m->2*szSs l<=k->(xs.length+l.length)*184<=maxB->ad9 l->ac6 k (afX k m) false l i xs=some (xs++stSs l):=by
   intro l;induction l with
   | nil=>intro i xs _ _ _ _;simp[ac6,stSs]
   | cons e l ih =>
    intro i xs hm hk hl hf;obtain⟨e0,e1,e2,e3,e4,e5,e6,e7,e8,e9,e10⟩:=e;simp only[szSs,szS,ad9,fitS,List.length_cons] at hm hl hf hk;obtain⟨⟨⟨h6,h6'⟩,⟨h7,h7'⟩,⟨h8,h8'⟩,⟨h9,h9'⟩,h10,h10'⟩,hf⟩:=hf;unfold ac6 aji f1015923;rw[(cE k k).2 e6 (by omega) h6 h6',ah1 k m e7 (by omega) (by omega) h7 h7',ah1 k m e8 (by omega) (by omega) h8 h8',ah1 k m e9 (by omega) (by omega) h9 h9'];simp only[Bool.not_false,cond_true,Option.bind_some];rw[cs xs i e0 e1 e3 e5 _ _ _ _ _ _ _ e10 0 [] (by omega) (by omega) (by simpa using h10) (by omega) h10',ih (i+1) _ (by omega) (by omega) (by rw[aaM];omega) hf];simp[stSs,stS]
  exact loop l 0 [] (by omega) (by omega) (by simpa using hl) hf
theorem aws(k:Nat)(p:aaa)(hk:2*szP p+1<=k)(hf:fitP p):f100 k p false=some (stP p):=by
 obtain⟨fs⟩:=p;simp only[szP,fitP] at hk hf;show adV k false fs 0 []=some (.mk (stFs fs));have loop : ∀(l:List aab) (i:Nat) (xs:List aab),2*szFs l+1<=k->(xs.length+l.length)*88<=maxB->akm l->adV k false l i xs=some (.mk (xs++stFs l)):=by
  intro l;induction l with
  | nil=>intro i xs _ _ _;simp[adV,stFs]
  | cons e l ih =>
   intro i xs hk hl hf;obtain⟨e0,e1,e2,e3,e4,e5⟩:=e;simp only[szFs,szF,akm,fitF,List.length_cons] at hk hl hf;unfold adV ajD f129 f130;rw[aaE hf.1.1,ah1 k k e5 (by omega) (by omega) hf.1.2.1 hf.1.2.2];simp only[Bool.not_false,cond_true,Option.bind_some];rw[aaE (by omega),ih (i+1) _ (by omega) (by rw[aaM];omega) hf.2];simp[stFs,stF]
 exact loop fs 0 [] (by omega) (by simpa using hf.1) hf.2
theorem awS(k:Nat)(p:aaa)(hk:2*szP p+1<=k)(hf:fitP p):f62 k p=some p:=by
 obtain⟨fs⟩:=p;simp only[szP,fitP] at hk hf;show ahM k fs 0 []=some (.mk fs);have loop : ∀(l:List aab) (i:Nat) (xs:List aab),2*szFs l+1<=k->(xs.length+l.length)*88<=maxB->akm l->ahM k l i xs=some (.mk (xs++l)):=by
  intro l;induction l with
  | nil=>intro i xs _ _ _;simp[ahM]
  | cons e l ih =>
   intro i xs hk hl hf;obtain⟨e0,e1,e2,e3,e4,e5⟩:=e;simp only[szFs,szF,akm,fitF,List.length_cons] at hk hl hf;unfold ahM f89;rw[aaE (by simpa using hf.1.1),al8 k k e5 (by omega) (by omega) hf.1.2.1 hf.1.2.2];simp only[Option.bind_some];rw[aaE (by omega),ih (i+1) _ (by omega) (by rw[aaM];omega) hf.2];simp
 exact loop fs 0 [] (by omega) (by simpa using hf.1) hf.2
theorem adl{α:Type}(xs:List α)(e:α)(l:List α)(i:Int)(hi:i=(xs.length:Int)):idxO (xs++e::l) i=some e:=by
 subst hi;unfold idxO;rw[if_pos (by omega)];simp
theorem avz{α:Type}(xs:List α)(e e' : α)(l:List α):(xs++e::l).set xs.length e'=xs++e'::l:=by
 simp
theorem axk(k:Nat)(p:aaa)(hk:2*szP p+1<=k)(hf:fitP p):f39 k p=some (stP p):=by
 have h19:=awS k p hk hf;obtain⟨fs⟩:=p;unfold f39;simp only;rw[h19];simp only[szP,fitP] at hk hf;simp only[Option.bind_some];have loop : ∀(l:List aab) (j:Nat) (xs:List aab),l.length<j->2*szFs l+1<=k->(xs.length+l.length)*88<=maxB->akm l->aiV k j (xs++l) (xs.length:Int)=some (.mk (xs++stFs l)):=by
  intro l;induction l with
  | nil =>
   intro j xs hj _ _ _;obtain⟨j,rfl⟩ : ∃j',j=j'+1:=⟨j - 1,by simp at hj;omega⟩;unfold aiV;simp[stFs]
  | cons e l ih =>
   intro j xs hj hk hl hf;simp only[szFs,akm,List.length_cons] at hk hl hf hj;obtain⟨j,rfl⟩ : ∃j',j=j'+1:=⟨j - 1,by omega⟩;unfold aiV;have h1:decide ((xs.length:Int)<((xs++e::l).length:Int))=true:=by simp;omega
   rw[h1,adl xs e l _ rfl];obtain⟨e0,e1,e2,e3,e4,e5⟩:=e;simp only[szF,fitF] at hk hf;simp only[cond_true,Option.bind_some];unfold f63;rw[alK k k e5 (by omega) (by omega) hf.1.2.1 hf.1.2.2];simp only[Option.bind_some,Int.toNat_natCast,avz];unfold maxB at hl;rw[aaS (x:=(xs.length:Int)+1) (n:=xs.length+1) (by omega) (by omega)];have:=ih j (xs++[.mk e0 e1 e2 e3 0 (stSs e5)]) (by omega) (by omega) (by rw[aaM];unfold maxB;omega) hf.2;rw[aaM] at this;simp only[List.append_assoc,List.singleton_append] at this;rw[this];rfl
 have hlen:=anE fs;exact loop fs k [] (by omega) (by omega) (by simpa using hf.1) hf.2
theorem adS(a:ByteArray):seq a a=true:=by unfold seq;simp
theorem awc(k:Nat) : ∀m,(∀e,2*szE e<=m->(aeX k m).f75 e e=some true)/\(∀l,2*szEs l+1<=m->(aeX k m).f51 l l=some true)
 | 0=>⟨λe h=>by have:=adw e;omega,λl h=>by omega⟩
 | m+1=>by
  obtain⟨ihe,ihl⟩:=awc k m;constructor
  ·intro e h;obtain⟨e0,e1,e2,e3,e4⟩:=e;simp only[szE] at h;show aqJ k (aeX k m) (.mk e0 e1 e2 e3 e4) (.mk e0 e1 e2 e3 e4)=_;unfold aqJ ahn;simp only;rw[ihl e4 (by omega)];simp[adS]
  ·intro l h;show apW k (aeX k m) l l=_;unfold apW;have loop : ∀(l:List aah) (xs:List aah),2*szEs l<=m->alH k (aeX k m) (xs++l) l xs.length=some true:=by
    intro l;induction l with
    | nil=>intro xs _;rfl
    | cons e l ih =>
     intro xs hm;simp only[szEs] at hm;obtain⟨e0,e1,e2,e3,e4⟩:=e;unfold alH;rw[adl xs (.mk e0 e1 e2 e3 e4) l _ rfl];simp only[Option.bind_some];rw[ihe _ (by omega)];have:=ih (xs++[.mk e0 e1 e2 e3 e4]) (by omega);rw[aaM,List.append_assoc,List.singleton_append] at this;simp only[Option.bind_some,Bool.not_true,cond_false];exact this
   have:=loop l [] (by omega);simp only[List.nil_append,List.length_nil] at this;simp[this]
theorem apK(k:Nat) : ∀m l,szSs l+1<=m->2*szSs l+1<=k->(ail k m).f28 l l=some true
 | 0,l,h,_=>by omega
 | m+1,l,h,hk=>by
  show apA k (ail k m) l l=_;unfold apA;have cs : ∀(i:Nat) (nx:Nat->Option Bool) (l:List aap) (xs:List aap),szCs l<=m->2*szCs l<=k->ahS k (ail k m) i (xs++l) nx l xs.length=nx (i+1):=by
   intro i nx l;induction l with
   | nil=>intro xs _ _;rfl
   | cons e l ih =>
    intro xs hm hk;obtain⟨e0,e1,e2,e3,e4⟩:=e;simp only[szCs,szC] at hm hk;unfold ahS;rw[adl xs (.mk e0 e1 e2 e3 e4) l _ rfl];simp only[Option.bind_some];unfold aqS ahd f51;rw[(awc k k).2 e3 (by omega),apK k m e4 (by omega) (by omega)];have:=ih (xs++[.mk e0 e1 e2 e3 e4]) (by omega) (by omega);rw[aaM,List.append_assoc,List.singleton_append] at this;simp[adS,this]
  have loop : ∀(l:List aae) (xs:List aae),szSs l<=m->2*szSs l<=k->ad7 k (ail k m) (xs++l) l xs.length=some true:=by
   intro l;induction l with
   | nil=>intro xs _ _;rfl
   | cons e l ih =>
    intro xs hm hk;obtain⟨e0,e1,e2,e3,e4,e5,e6,e7,e8,e9,e10⟩:=e;simp only[szSs,szS] at hm hk;unfold ad7;rw[adl xs (.mk e0 e1 e2 e3 e4 e5 e6 e7 e8 e9 e10) l _ rfl];simp only[Option.bind_some];unfold aqY afv ai5 f51;rw[(awc k k).2 e6 (by omega),apK k m e7 (by omega) (by omega),apK k m e8 (by omega) (by omega),apK k m e9 (by omega) (by omega)];have:=ih (xs++[.mk e0 e1 e2 e3 e4 e5 e6 e7 e8 e9 e10]) (by omega) (by omega);rw[aaM,List.append_assoc,List.singleton_append] at this;have hc:=cs xs.length (ad7 k (ail k m) (xs++.mk e0 e1 e2 e3 e4 e5 e6 e7 e8 e9 e10::l) l) e10 [] (by omega) (by omega);simp only[List.nil_append,List.length_nil] at hc;simp[adS,hc,this]
  have:=loop l [] (by omega) (by omega);simp only[List.nil_append,List.length_nil] at this;simp[this]
theorem auo(k:Nat)(p:aaa)(hk:2*szP p+1<=k):f12 k p p=some true:=by
 obtain⟨fs⟩:=p;simp only[szP] at hk;unfold f12;simp only;have ps : ∀(i:Nat) (nx:Nat->Option Bool) (l:List aau) (xs:List aau),alL k i (xs++l) nx l xs.length=nx (i+1):=by
  intro i nx l;induction l with
  | nil=>intro xs;rfl
  | cons e l ih =>
   intro xs;obtain⟨e0,e1⟩:=e;unfold alL;rw[adl xs (.mk e0 e1) l _ rfl];have:=ih (xs++[.mk e0 e1]);rw[aaM,List.append_assoc,List.singleton_append] at this;simp[adS,this]
 have loop : ∀(l:List aab) (xs:List aab),2*szFs l+1<=k->afU k (xs++l) l xs.length=some true:=by
  intro l;induction l with
  | nil=>intro xs _;rfl
  | cons e l ih =>
   intro xs hk;obtain⟨e0,e1,e2,e3,e4,e5⟩:=e;simp only[szFs,szF] at hk;unfold afU;rw[adl xs (.mk e0 e1 e2 e3 e4 e5) l _ rfl];simp only[Option.bind_some];unfold apg agP f28;rw[apK k k e5 (by omega) (by omega)];have:=ih (xs++[.mk e0 e1 e2 e3 e4 e5]) (by omega);rw[aaM,List.append_assoc,List.singleton_append] at this;have hp:=ps xs.length (afU k (xs++.mk e0 e1 e2 e3 e4 e5::l) l) e1 [];simp only[List.nil_append,List.length_nil] at hp;simp[adS,hp,this]
 have:=loop fs [] (by omega);simp only[List.nil_append,List.length_nil] at this;simp[this]
theorem am4(k:Nat) : ∀m l (a:Int),szEs l+1<=m->∃r,(alW k m).f45 l a=some r
 | 0,l,a,h=>by omega
 | m+1,l,a,h=>by
  show ∃r,ars k (alW k m) l a=some r;unfold ars;have loop : ∀(l:List aah) (i:Nat) (n:Int),szEs l<=m->∃r,ak3 k (alW k m) a l i n=some r:=by
   intro l;induction l with
   | nil=>intro i n _;exact⟨_,rfl⟩
   | cons e l ih =>
    intro i n hm;obtain⟨e0,e1,e2,e3,e4⟩:=e;simp only[szEs,szE] at hm;unfold ak3;cases decide (n<=2000)
    ·exact⟨_,rfl⟩
    ·obtain⟨r,hr⟩:=am4 k m e4 (w64 (a+1)) (by omega);rw[hr];exact ih _ _ (by omega)
  cases decide (a>60)
  ·exact loop l 0 0 (by omega)
  ·exact⟨_,rfl⟩
theorem ajR(k:Nat) : ∀m l (a:Int),szSs l+1<=m->szSs l+1<=k->∃r,(akg k m).f24 l a=some r
 | 0,l,a,h,_=>by omega
 | m+1,l,a,h,hk=>by
  show ∃r,aqE k (akg k m) l a=some r;unfold aqE;have cs : ∀(i:Nat) (nx:Nat->Int->Option Int) (hnx : ∀n,∃r,nx (i+1) n=some r) (l:List aap) (j:Nat) (n:Int),szCs l<=m->szCs l<=k->∃r,alS k (akg k m) a i nx l j n=some r:=by
   intro i nx hnx l;induction l with
   | nil=>intro j n _ _;exact hnx _
   | cons e l ih =>
    intro j n hm hk;obtain⟨e0,e1,e2,e3,e4⟩:=e;simp only[szCs,szC] at hm hk;unfold alS f45;cases decide (n<=2000)
    ·exact hnx _
    ·obtain⟨r,hr⟩:=am4 k k e3 (w64 (a+1)) (by omega);obtain⟨r2,hr2⟩:=ajR k m e4 (w64 (a+1)) (by omega) (by omega);rw[hr,cond_true,Option.bind_some,hr2];exact ih _ _ (by omega) (by omega)
  have loop : ∀(l:List aae) (i:Nat) (n:Int),szSs l<=m->szSs l<=k->∃r,aie k (akg k m) a l i n=some r:=by
   intro l;induction l with
   | nil=>intro i n _ _;exact⟨_,rfl⟩
   | cons e l ih =>
    intro i n hm hk;obtain⟨e0,e1,e2,e3,e4,e5,e6,e7,e8,e9,e10⟩:=e;simp only[szSs,szS] at hm hk;unfold aie f45;cases decide (n<=2000)
    ·exact⟨_,rfl⟩
    ·obtain⟨r,hr⟩:=am4 k k e6 (w64 (a+1)) (by omega);obtain⟨r7,hr7⟩:=ajR k m e7 (w64 (a+1)) (by omega) (by omega);obtain⟨r8,hr8⟩:=ajR k m e8 (w64 (a+1)) (by omega) (by omega);obtain⟨r9,hr9⟩:=ajR k m e9 (w64 (a+1)) (by omega) (by omega);rw[hr,cond_true,Option.bind_some,hr7,Option.bind_some,hr8,Option.bind_some,hr9];exact cs i _ (λn=>ih _ _ (by omega) (by omega)) e10 0 _ (by omega) (by omega)
  cases decide (a>40)
  ·exact loop l 0 0 (by omega) (by omega)
  ·exact⟨_,rfl⟩
theorem axV(k:Nat)(p:aaa)(hk:2*szP p+1<=k)(hf:fitP p):f46 k p=some (cond (wf true p) (stP p,0) (.mk [],2)):=by
 have h78:=aua k p true hk;have h88:=aws k p hk hf;obtain⟨fs⟩:=p;unfold f46 ag7 afI f70;simp only[h78,h88,Option.bind_some];cases hw:wf true (.mk fs)<;>rfl
theorem azf(k:Nat)(p:aaa)(hk:2*szP p+1<=k)(hf:fitP p):f37 k p=some (wf true p):=by
 have h24:=axk k p hk hf;have h20:=atW k (stP p) (by rw[aom];exact hk);rw[ayH] at h20;obtain⟨fs⟩:=p;unfold f37 anD;simp only[h24,Option.bind_some];have e:decide ((fs.length:Int)<=16)=decide (fs.length<=16):=by rw[decide_eq_decide];omega
 rw[e];simp only[stP] at h20 ⊢;rw[h20];by_cases h:fs.length<=16
 ·simp[h]
 ·simp[h,wf]
end Go.Proofs.YtphdlngnegjgcaaGreatDoor
