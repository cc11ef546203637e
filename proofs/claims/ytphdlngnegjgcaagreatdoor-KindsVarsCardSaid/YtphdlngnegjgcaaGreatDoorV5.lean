/- Words of the proof, part 5; nothing is claimed here. -/
import Derived.Test.YtphdlngnegjgcaaGreatDoorV4
set_option linter.unusedVariables false
set_option linter.unusedSimpArgs false
set_option maxRecDepth 100000
set_option maxHeartbeats 20000000
namespace Go.Proofs.YtphdlngnegjgcaaGreatDoor
open Go
theorem aqK(k:Nat)(F:abF)(IH134:abY F.f134)(IH1016212:aba F.f1016212)(IH1016220:aa9 F.f1016220)(IH1016266:aa5 F.f1016266)(IH1016420:aaZ F.f1016420)(IH1016466:aa6 F.f1016466):abY (alU k F):=by
 intro K wi g bs br aH aI aK aL aM aN aP aT aU aV aW aX aY b p q aZ d r s a0 a2 fV qt r_ h hG dv dw dx dy dz dA dB dC hbr fW fX;obtain⟨bE,bF,bG,bH,bI,bJ,fY,bK,bL,bM,bP⟩:=fV;obtain⟨fZ,f0,bZ,b0,b1,b2,b3,b4,cf,ch,rfl,ei,ej,f1,ek,el,em,dD⟩:=aag.open fW;refine en 184 Tryz.func134 rfl ?_;unfold alU at h;refine gI 11 [6,2] [[iI 0,sE,iI 0,sE,iI 0,iI 0,nS,nS,nS,nS,nS]] fX (fun aq f2 e9=>?_);have eo:=alF e9;refine cX h (fun _ f3=>(aqm k) f3 (hG.mono kr) dv dw dx dy dz dA dB dC (Nat.le_trans hbr e9.size) f1<|pt eo) ?_ ?_
 ·rintro _ _ qu⟨bV,ci,cj,ck,rfl,rfl,a,ep⟩ h;have f4:=ca a eo;refine gR 12 [6,4,0,5] [] f4 (fun f5 b5=>bC 17 h ?_ ?_)<;>intro _ h
  ·refine gD 16 [10,5] b5 ?_;have fa:=b5.row_ (zz wi) 84 5;refine wl fa (fun j m g_=>∃fb bk b6,∃(c4:Nat),∃cl c5 c7 cm cn c8 da db dc dd co de df bm cq cr dg bn cs ct dh di a3 dj dk dE,g_=b6.length∧j fb [0,3,4,19,20] [(5,sl dj a3 dk),(21,iI (c4:Int))]∧KH.sub ci bk∧m bk [] [.box bs g (aR c5 cl c7 cm c8 cn da db dc dd de co df cq bm cr cs bn ct di) 176,.box (zz wi) (zz wi) (aS bE bF bG bH bI bJ cj bV ck bZ bK b0 b1 bL b2 b3 bM b4 cf bP ch) 62,.box (zz wi) (zz aq) zS.toArray 62,eW br cq bm cr 9 1 dg,eK br cs bn ct 173 dh,eW (zz wi) dj a3 dk 84 5 dE]∧bP.drop c4=b6∧tF bk c5 c7 cl∧cm.size≤mB∧tP bk c8 da cn∧tS bk de df co∧Reps RStr 1 bm dg∧bm.length*16≤mB∧StkR kS VInt bn dh∧bn.length*8≤mB∧Reps (aar bk) 5 a3 dE∧a3.length*80≤mB∧agl k F bE bF bG bH bI bJ bK bL bM bV b6 c4 cl cm cn db dc dd co bm bn di a3=some r_) bP.length ?_ ?_
   ·exact⟨_,ci,bP,0,aH,aI,aK,aL,aM,aN,aP,aT,aU,aV,aW,aX,aY,b,p,q,aZ,d,r,s,a0,a2,([]:LC),none,0,[],rfl,fK,kr,fa.sel [1,5,4,2,3,0],List.drop_zero,mf dv a.sub,dw,mp dx a.sub,ms dy a.sub,dz.mono (fun _ _ h=>h),dA,StkR.mono (fun _ _ h=>h) dB,dC,abo (R:=(aar ci)) (size:=5),(by simp),h⟩
   ·rintro _ _ fc⟨fb,bk,b6,c4,cl,c5,c7,cm,cn,c8,da,db,dc,dd,co,de,df,bm,cq,cr,dg,bn,cs,ct,dh,di,a3,dj,dk,dE,hh⟩;obtain⟨rfl,rfl,bQ,eq,dl,es,et,eu,ew,ex,ey,ez,eC,fe,f7,h⟩:=hh;rcases b6 with _|⟨⟨ga,gb,gc,ge,gf⟩,b6⟩
    ·refine gd 2<|cNl dl<|gR 24 [10,1,0,1,11,2] [] eq (fun qv qw ff=>?_);obtain⟨gg,gh,b7,gi⟩:=abD (i:=5) (bytes:=80) (R:=fun K=>(aar K)) ff rfl (Nat.le_refl _) fe f7 (fun hs=>(fun _ _ h=>aar.mono hs h));exact retP<|adq rfl (rNl 2 ff rfl) ⟨cl,cm,cn,db,dc,dd,co,bm,bn,di,aae.mk bE bF bG bH bI bJ bV bK bL bM a3,gg,c5,c7,c8,da,de,df,cq,cr,dg,cs,ct,dh,vS bE bF bG bH bI bJ cj bV ck bZ bK b0 b1 bL b2 b3 bM b4 dj a3 dk,(oi h).symm,rfl,gh.sel [0,3,4],mf es b7,et,mp eu b7,ms ew b7,ex.mono (fun _ _ h=>h),ey,StkR.mono (fun _ _ h=>h) ez,eC,aag.intro ei ej (me ep<|bQ.trans b7) (ms ek<|(a.sub.trans bQ).trans b7) (ms el<|(a.sub.trans bQ).trans b7) (ms em<|(a.sub.trans bQ).trans b7) gi⟩
    ·refine gd 2<|cCl dl<|go 10<|eN eq (mc dD<|a.sub.trans bQ) dl aar.open ?_;rintro qx qy qz qA qB qC⟨gj,gk,gl,gn,rfl,fg,gp,fh⟩;refine gR 9 [0,3,1] [[iI 0,sE,iI 0,nS,nS]] eq (fun qD gq fi=>?_);have eD:=asy fi;refine cX h (fun _ gr=>(aqm k) gr (hG.mono<|a.sub.trans bQ) es et eu ew ex ey ez eC (Nat.le_trans hbr fi.size) gp<|pt eD) ?_ ?_
     ·rintro _ _ qE⟨qF,qG,qH,qJ,rfl,rfl,bR,gs⟩ h;have gt:=ca bR eD;refine gR 12 [3,3,1,4,4,4,2] [] gt (fun qK dF=>cX h (fun _ gu=>IH1016212 gu (hG.mono<|(a.sub.trans bQ).trans bR.sub) (mf es bR.sub) et (mp eu bR.sub) (ms ew bR.sub) (ex.mono (fun _ _ h=>h)) ey (StkR.mono (fun _ _ h=>h) ez) eC (Nat.le_trans hbr dF.size) fg (ms fh bR.sub) fg gs (ms fh bR.sub)<|pt dF) ?_ ?_)
      ·rintro _ _ qL⟨fj,fk,fl,fm,fn,fo,fp,dG,dH,fs,dI,dJ,dK,dL,qM,dM,ft,fu,fv,fx,fy,fz,fA,eF,eH,fB,eI,eJ,fC,gv,hh⟩ h;obtain⟨gw,qN,qP,gy,gz,rfl,rfl,eL,gA,gB,gF,gG,gH,gJ,gK,gL,gM,gN,qQ,gQ⟩:=hh;have gT:=ca eL dF;refine gR 8 [4,3,0,3,5,84] [] gT (fun qR qS gU=>aJ h 7 0 gU rfl rfl (fe.mono (fun _ _ h=>aar.mono (bR.sub.trans eL.sub) h)) (aar.intro gM gN gQ) ?_);rintro fD fE fF gV gW gZ g0 h;have g1:=ai6 gW;exact go 5<|iCl dl ((mc dD<|a.sub.trans bQ).len)<|go 3 ⟨_,Nat.lt_succ_self _,_,ft,b6,c4+1,fj,fu,fv,fk,fl,fx,fy,fm,fn,fo,fp,fz,fA,dG,eF,eH,fB,dH,eI,eJ,fC,fs,a3++[(aap.mk dI dJ dK dL dM)],fD,fE,fF,rfl,fK,(bQ.trans bR.sub).trans eL.sub,g1.sel [0,4,5,1,2,6],aac dl,gA,gB,gF,gG,gH,gJ,gK,gL,gZ,aav g0,h⟩
      ·rintro _ _ qT⟨g2,g3,rfl,rfl,g4⟩ h;have g5:=ca g4 dF;exact pX<|panE<|.inr ⟨_,rfl,g2,g3,(oi h).symm,rfl,g5.sel []⟩
     ·rintro _ _ qU⟨g6,g7,rfl,rfl,g8⟩ h;have g9:=ca g8 eD;exact pX<|panE<|.inr ⟨_,rfl,g6,g7,(oi h).symm,rfl,g9.sel []⟩
  ·refine gd 3<|wk b5 (fun j m=>∃fG l ac ar au ad ae av aw am an ao af ax ay e t u az f v x aA ap o y ai z G I A O S N aj ak J Y Z B U V C W X,j fG [0,3,4] []∧KH.sub ci l∧m l [] [.box bs g (aR ar ac au ad av ae aw am an ao ax af ay t e u v f x ap) 176,.box (zz wi) (zz wi) (aS o y ai z G I O A S aj N ak Y J Z U B V W C X) 62,.box (zz wi) (zz aq) zS.toArray 62,eW br t e u 9 1 az,eK br v f x 173 aA]∧tF l ar au ac∧ad.size≤mB∧tP l av aw ae∧tS l ax ay af∧Reps RStr 1 e az∧e.length*16≤mB∧StkR kS VInt f aA∧f.length*8≤mB∧y.size≤mB∧z.size≤mB∧tE l O S A∧tS l aj ak N∧tS l Y Z J∧tS l U V B∧tC l W X C∧ah1 k F ac ad ae am an ao af e f ap o y ai z G I A N J B C=some r_) ?_ ?_
   ·refine gD 7 [3,5] b5 (bC 48 h ?_ ?_)<;>intro _ h
    ·refine gd 3 ?_;have eM:=awv b5;refine cX h (fun _ ha=>(auZ k) ha (gm hG a) (mf dv a.sub) dw (mp dx a.sub) (ms dy a.sub) (dz.mono (fun _ _ h=>h)) dA (StkR.mono (fun _ _ h=>h) dB) dC (Nat.le_trans hbr b5.size) ei ej ep (ms ek a.sub) (ms el a.sub) (ms em a.sub) (mc dD a.sub)<|pt eM) ?_ ?_
     ·rintro _ _ qV⟨hb,hc,hd,he,hf,hg,hi,hj,hk,hl,hm,hn,ho,hp,hq,hr,ht,hu,hv,hw,hx,hy,hz,hA,hB,hC,hD,hF,hH,hI,hh⟩ h;obtain⟨hJ,hK,hL,hM,hN,hO,hP,hQ,hR,hS,hT,hU,hV,hW,rfl,rfl,fH,hX,hY,hZ,h0,h1,h2,h3,h4,h5,h6,h7,h8,h9,ia,ib⟩:=hh;have ic:=ca fH eM;exact go 2 ⟨_,hy,hb,hz,hA,hc,hd,hB,hC,he,hf,hg,hi,hD,hF,hj,hH,hI,hJ,hk,hK,hL,hM,hl,hm,hn,ho,hp,hq,hr,ht,hN,hO,hu,hP,hQ,hv,hR,hS,hw,hT,hU,hx,hV,hW,fK,fH.sub,ic.sel [0,3,4,1,2],hX,hY,hZ,h0,h1,h2,h3,h4,h5,h6,h7,h8,h9,ia,ib,h⟩
     ·rintro _ _ qW⟨id,ie,rfl,rfl,ig⟩ h;have ih:=ca ig eM;exact pX<|panE<|.inr ⟨_,rfl,id,ie,(oi h).symm,rfl,ih.sel []⟩
    ·exact gd 3 ⟨_,ci,aH,aI,aK,aL,aM,aN,aP,aT,aU,aV,aW,aX,aY,b,p,q,aZ,d,r,s,a0,a2,bE,bF,bG,bH,bI,bJ,bV,cj,ck,bK,bZ,b0,bL,b1,b2,bM,b3,b4,bP,cf,ch,fK,kr,b5.sel [0,4,3,1,2],mf dv a.sub,dw,mp dx a.sub,ms dy a.sub,dz.mono (fun _ _ h=>h),dA,StkR.mono (fun _ _ h=>h) dB,dC,ei,ej,ep,ms ek a.sub,ms el a.sub,ms em a.sub,mc dD a.sub,h⟩
   ·rintro _ ii⟨fG,l,ac,ar,au,ad,ae,av,aw,am,an,ao,af,ax,ay,e,t,u,az,f,v,x,aA,ap,o,y,ai,z,G,I,hh⟩;obtain⟨A,O,S,N,aj,ak,J,Y,Z,B,U,V,C,W,X,rfl,aB,bW,a6,a7,a8,a9,ba,bb,bd,be,aG,bf,bg,a4,hh⟩:=hh;obtain⟨a5,bh,bi,h⟩:=hh;refine wk bW (fun j m=>∃fI al dm cu dn cw dp dq cx dN dO cy dP dQ cz dR dS cA dT dU cC dV dW dr dX dY ds dt dZ d0 d1 d2 d3 du d4 d5 bX d6 d7 d8 bY d9 ea ec ed,j fI [3,4] []∧KH.sub l al∧m al [] [.box (zz wi) (zz wi) (aS dm cu dn cw dp dq dN cx dO dP cy dQ dR cz dS dT cA dU dV cC dW) 62,.box (zz wi) (zz aq) zS.toArray 62,.box bs g (aR dX dr dY ds dZ dt d0 d1 d2 d3 d4 du d5 d6 bX d7 d9 bY ea ed) 176,eW br d6 bX d7 9 1 d8,eK br d9 bY ea 173 ec]∧cu.size≤mB∧cw.size≤mB∧tE al dN dO cx∧tS al dP dQ cy∧tS al dR dS cz∧tS al dT dU cA∧tC al dV dW cC∧tF al dX dY dr∧ds.size≤mB∧tP al dZ d0 dt∧tS al d4 d5 du∧Reps RStr 1 bX d8∧bX.length*16≤mB∧StkR kS VInt bY ec∧bY.length*8≤mB∧acn k F dm cu dn cw dp dq cx cy cz cA cC dr ds dt d1 d2 d3 du bX bY ed=some r_) ?_ ?_
    ·refine gD 13 [0,2] bW (bC 77 h ?_ ?_)<;>intro _ h
     ·refine gD 6 [1,2] bW ?_;have fJ:=abZ bW;refine cB h (fun _ ij=>(amH k) ij (hG.mono<|a.sub.trans aB) a6 a7 a8 a9 ba bb bd be (Nat.le_trans hbr bW.size) aG<|pt fJ) ?_;rintro⟨ik,qX⟩ _ qY⟨qZ,rfl,bo⟩ h;have eO:=ca bo fJ;refine go 10<|cX h (fun _ il=>(adf k) il (gm hG eO)<|pt eO) ?_ ?_
      ·rintro _ _ q0⟨im,rfl,rfl,bq⟩ h;have io:=ca bq eO;exact gR 9 [2,3] [] io (fun q1 ip=>⟨_,im,o,y,ik,z,G,I,A,O,S,N,aj,ak,J,Y,Z,B,U,V,C,W,X,ac,ar,au,ad,ae,av,aw,am,an,ao,af,ax,ay,e,t,u,az,f,v,x,aA,ap,fK,bo.sub.trans bq.sub,ip.sel [3,4,0,1,2],aG,bf,me bg<|bo.sub.trans bq.sub,ms a4<|bo.sub.trans bq.sub,ms a5<|bo.sub.trans bq.sub,ms bh<|bo.sub.trans bq.sub,mc bi<|bo.sub.trans bq.sub,mf a6<|bo.sub.trans bq.sub,a7,mp a8<|bo.sub.trans bq.sub,ms a9<|bo.sub.trans bq.sub,ba.mono (fun _ _ h=>h),bb,StkR.mono (fun _ _ h=>h) bd,be,h⟩)
      ·rintro _ _ q2⟨iq,ir,rfl,rfl,it⟩ h;have iu:=ca it eO;exact pX<|panE<|.inr ⟨_,rfl,iq,ir,(oi h).symm,rfl,iu.sel []⟩
     ·refine gd 1<|wk bW (fun j m=>∃fL eP,j fL [0,3,4,52] [(90,.bool eP)]∧m l [] [.box bs g (aR ar ac au ad av ae aw am an ao ax af ay t e u v f x ap) 176,.box (zz wi) (zz wi) (aS o y ai z G I O A S aj N ak Y J Z U B V W C X) 62,.box (zz wi) (zz aq) zS.toArray 62,eW br t e u 9 1 az,eK br v f x 173 aA]∧ah0 k F ac ad ae am an ao af e f ap o y ai z G I A N J B C eP=some r_) ?_ ?_
      ·refine gd 6 (bC 90 h ?_ ?_)<;>intro iv h
       ·exact gd 3<|lX 90 iv.symm ⟨_,o==18,fK,bW,h⟩
       ·exact gd 6 ⟨_,o==19,fK,bW,h⟩
      ·rintro _ ee⟨fL,eP,rfl,D,h⟩;refine bC 90 h ?_ ?_<;>intro _ h
       ·refine gD 7 [9,1] D<|cX h (fun _ iw=>(adf k) iw (gm hG D)<|pt D) ?_ ?_
        ·rintro _ _ q3⟨ix,rfl,rfl,bu⟩ h;have iy:=ca bu D;exact go 3 ⟨_,ix,o,y,ai,z,G,I,A,O,S,N,aj,ak,J,Y,Z,B,U,V,C,W,X,ac,ar,au,ad,ae,av,aw,am,an,ao,af,ax,ay,e,t,u,az,f,v,x,aA,ap,fK,bu.sub,iy.sel [1,2,0,3,4],aG,bf,me bg bu.sub,ms a4 bu.sub,ms a5 bu.sub,ms bh bu.sub,mc bi bu.sub,mf a6 bu.sub,a7,mp a8 bu.sub,ms a9 bu.sub,ba.mono (fun _ _ h=>h),bb,StkR.mono (fun _ _ h=>h) bd,be,h⟩
        ·rintro _ _ q4⟨iz,iA,rfl,rfl,iB⟩ h;have iC:=ca iB D;exact pX<|panE<|.inr ⟨_,rfl,iz,iA,(oi h).symm,rfl,iC.sel []⟩
       ·refine gd 7 (bC 99 h ?_ ?_)<;>intro _ h
        ·refine gD 7 [1,4,1] D<|cX h (fun _ iD=>(adf k) iD (gm hG D)<|pt D) ?_ ?_
         ·rintro _ _ q5⟨iE,rfl,rfl,bv⟩ h;have iF:=ca bv D;exact go 3 ⟨_,iE,o,y,ai,z,G,I,A,O,S,N,aj,ak,J,Y,Z,B,U,V,C,W,X,ac,ar,au,ad,ae,av,aw,am,an,ao,af,ax,ay,e,t,u,az,f,v,x,aA,ap,fK,bv.sub,iF.sel [1,2,0,3,4],aG,bf,me bg bv.sub,ms a4 bv.sub,ms a5 bv.sub,ms bh bv.sub,mc bi bv.sub,mf a6 bv.sub,a7,mp a8 bv.sub,ms a9 bv.sub,ba.mono (fun _ _ h=>h),bb,StkR.mono (fun _ _ h=>h) bd,be,h⟩
         ·rintro _ _ q6⟨iG,iH,rfl,rfl,iJ⟩ h;have iK:=ca iJ D;exact pX<|panE<|.inr ⟨_,rfl,iG,iH,(oi h).symm,rfl,iK.sel []⟩
        ·refine gd 7 (bC 107 h ?_ ?_)<;>intro _ h
         ·refine gd 1<|rB [] D (fun eQ iL=>ah 11 [0,6,1,2,2,3,4,5,6,1,7,3,8,1,9,10] iL<|aQ 11 rfl<|cX h (fun _ iM=>(adf k) iM (gm hG eQ)<|pt eQ) ?_ ?_)
          ·rintro _ _ q7⟨iN,rfl,rfl,bp⟩ h;have fM:=ca bp eQ;exact go 2<|wB (fwOf (is:=[0,1,2,3,4]) fM bp.sub rfl) (fun q8=>aD<|gx 2 ⟨_,iN,o,y,ai,z,G,I,A,O,S,N,aj,ak,J,Y,Z,B,U,V,C,W,X,ac,ar,au,ad,ae,av,aw,am,an,ao,af,ax,ay,e,t,u,az,f,v,x,aA,ap,fK,bp.sub,fM.sel [1,2,0,3,4],aG,bf,me bg bp.sub,ms a4 bp.sub,ms a5 bp.sub,ms bh bp.sub,mc bi bp.sub,mf a6 bp.sub,a7,mp a8 bp.sub,ms a9 bp.sub,ba.mono (fun _ _ h=>h),bb,StkR.mono (fun _ _ h=>h) bd,be,h⟩)
          ·rintro _ _ q9⟨iO,iP,rfl,rfl,iQ⟩ h;have iR:=ca iQ eQ;exact pX<|panE<|.inr ⟨_,rfl,iO,iP,(oi h).symm,rfl,iR.sel []⟩
         ·refine gd 7 (bC 121 h ?_ ?_)<;>intro _ h
          ·refine gD 5 [7,2] D ?_;have eR:=abZ D;refine cX h (fun _ iS=>IH1016466 iS (hG.mono<|a.sub.trans aB) a6 a7 a8 a9 ba bb bd be (Nat.le_trans hbr D.size) (by decide) a4<|pt eR) ?_ ?_
           ·rintro _ _ ra⟨iT,iU,iV,iW,iX,iY,iZ,i0,i1,i2,i3,i4,i5,i6,i7,i8,i9,ja,jb,jc,jd,je,jf,jg,jh,ji,rfl,rfl,cD,jj,hh⟩ h;obtain⟨jk,jl,jm,jn,jo,jp,jq,jr⟩:=hh;have js:=ca cD eR;exact gR 5 [7,3] [] js (fun rb jt=>⟨_,i4,o,y,ai,z,G,I,A,O,S,i3,jh,ji,J,Y,Z,B,U,V,C,W,X,iT,i5,i6,iU,iV,i7,i8,iW,iX,iY,iZ,i9,ja,i0,jb,jc,jd,i1,je,jf,jg,i2,fK,cD.sub,jt.sel [3,4,0,1,2],aG,bf,me bg cD.sub,jr,ms a5 cD.sub,ms bh cD.sub,mc bi cD.sub,jj,jk,jl,jm,jn,jo,jp,jq,h⟩)
           ·rintro _ _ rc⟨ju,jv,rfl,rfl,jw⟩ h;have jx:=ca jw eR;exact pX<|panE<|.inr ⟨_,rfl,ju,jv,(oi h).symm,rfl,jx.sel []⟩
          ·refine gd 7 (bC 128 h ?_ ?_)<;>intro _ h
           ·refine gD 8 [1,2,7,2,2] D ?_;have eS:=abZ D;refine cX h (fun _ jy=>IH1016420 jy (hG.mono<|a.sub.trans aB) a6 a7 a8 a9 ba bb bd be (Nat.le_trans hbr D.size) aG a4 aG bf bg a4 a5 bh bi<|pt eS) ?_ ?_
            ·rintro _ _ rd⟨jz,jA,jB,jC,jD,jE,jF,jG,jH,jI,jK,jL,jM,jN,jO,jP,jQ,re,jR,jS,jT,jU,jV,jW,jX,jY,jZ,j0,j1,j2,hh⟩ h;obtain⟨j3,j4,j5,j6,j7,j8,j9,rf,rg,ka,kb,kc,kd,ke,kf,kg,kh,rfl,rfl,fN,ki,kj,kk,kl,km,kn,ko,kq,ks,kt,hh⟩:=hh;obtain⟨ku,rh,kv,kw,kx,ky⟩:=hh;have kz:=ca fN eS;exact gR 5 [7,3] [] kz (fun ri kB=>⟨_,jV,jK,jL,jM,jN,jO,jP,jQ,j8,j9,jU,kg,kh,jR,ka,kb,jS,kc,kd,jT,ke,kf,jz,jW,jX,jA,jB,jY,jZ,jC,jD,jE,jF,j0,j1,jG,j2,j3,j4,jH,j5,j6,j7,jI,fK,fN.sub,kB.sel [3,4,0,1,2],ks,kt,ku,ky,kv,kw,kx,ki,kj,kk,kl,km,kn,ko,kq,h⟩)
            ·rintro _ _ rj⟨kD,kJ,rfl,rfl,kO⟩ h;have kP:=ca kO eS;exact pX<|panE<|.inr ⟨_,rfl,kD,kJ,(oi h).symm,rfl,kP.sel []⟩
           ·refine gd 7 (bC 138 h ?_ ?_)<;>intro _ h
            ·refine gD 8 [1,2,7,2,2] D ?_;have eT:=abZ D;refine cX h (fun _ kQ=>IH1016220 kQ (hG.mono<|a.sub.trans aB) a6 a7 a8 a9 ba bb bd be (Nat.le_trans hbr D.size) aG a4 aG bf bg a4 a5 bh bi<|pt eT) ?_ ?_
             ·rintro _ _ rk⟨kR,kT,kU,kV,kW,kX,kY,kZ,k0,k1,k2,k3,k4,k5,k6,k7,k8,rl,k9,la,lc,ld,lf,lg,lh,li,lj,lk,ll,lm,hh⟩ h;obtain⟨ln,lo,lp,lq,lr,ls,lu,rm,ro,lv,lw,lx,ly,lz,lB,lE,lF,rfl,rfl,fO,lG,lH,lI,lJ,lK,lL,lM,lP,lQ,lR,hh⟩:=hh;obtain⟨lT,rp,lU,lV,lW,lY⟩:=hh;have lZ:=ca fO eT;exact gR 5 [7,3] [] lZ (fun rq l0=>⟨_,lf,k2,k3,k4,k5,k6,k7,k8,ls,lu,ld,lE,lF,k9,lv,lw,la,lx,ly,lc,lz,lB,kR,lg,lh,kT,kU,li,lj,kV,kW,kX,kY,lk,ll,kZ,lm,ln,lo,k0,lp,lq,lr,k1,fK,fO.sub,l0.sel [3,4,0,1,2],lQ,lR,lT,lY,lU,lV,lW,lG,lH,lI,lJ,lK,lL,lM,lP,h⟩)
             ·rintro _ _ rr⟨l2,l3,rfl,rfl,l4⟩ h;have l5:=ca l4 eT;exact pX<|panE<|.inr ⟨_,rfl,l2,l3,(oi h).symm,rfl,l5.sel []⟩
            ·refine gd 7 (bC 148 h ?_ ?_)<;>intro _ h
             ·refine gD 6 [7,2] D ?_;have eU:=abZ D;refine cX h (fun _ l6=>IH1016266 l6 (hG.mono<|a.sub.trans aB) a6 a7 a8 a9 ba bb bd be (Nat.le_trans hbr D.size) (by decide) a4<|pt eU) ?_ ?_
              ·rintro _ _ rs⟨rt,ru,rv,rw,rx,ry,rC,rD,rF,rG,rH,rI,rJ,rK,rM,rN,rO,rQ,rR,rT,rV,rW,rX,rY,r0,r1,rfl,rfl,bS,l7,hh⟩ h;obtain⟨l8,l9,ma,mb,md,mg,mh,mi⟩:=hh;have mj:=ca bS eU;refine gR 12 [7,3,1,4,8,4,2] [] mj (fun r2 ef=>cX h (fun _ ml=>IH1016220 ml (hG.mono<|(a.sub.trans aB).trans bS.sub) l7 l8 l9 ma mb md mg mh (Nat.le_trans hbr ef.size) aG (ms a5 bS.sub) aG bf (me bg bS.sub) mi (ms a5 bS.sub) (ms bh bS.sub) (mc bi bS.sub)<|pt ef) ?_ ?_)
               ·rintro _ _ r3⟨r4,r5,r6,r7,r8,r9,sa,sb,sc,sd,mm,mn,mo,mq,mr,mt,mu,mw,se,sf,mx,my,sg,sh,si,sj,sk,sm,sn,so,hh⟩ h;obtain⟨sp,sq,ss,st,su,mz,mA,mC,mD,sv,sw,sx,sy,mE,mF,mG,mH,rfl,rfl,eV,mJ,mK,mL,mM,mN,mO,mP,mQ,mR,mS,hh⟩:=hh;obtain⟨mT,mU,sz,mV,mW,mX⟩:=hh;have mY:=ca eV ef;refine gR 8 [8,3,9,4] [] mY (fun sA eg=>cX h (fun _ mZ=>IH1016266 mZ (hG.mono<|((a.sub.trans aB).trans bS.sub).trans eV.sub) mJ mK mL mM mN mO mP mQ (Nat.le_trans hbr eg.size) (by decide) mV<|pt eg) ?_ ?_)
                ·rintro _ _ sB⟨m0,m4,m5,m6,m7,m8,m9,na,nb,nc,nd,ne,nf,ng,nh,ni,nj,nk,nl,nm,nn,np,nq,nr,ns,nt,rfl,rfl,cG,nu,hh⟩ h;obtain⟨nv,nw,nx,ny,nz,nA,nB,nC⟩:=hh;have nD:=ca cG eg;exact gR 5 [9,3] [] nD (fun sC nF=>⟨_,ne,mm,mn,mo,mq,mr,mt,mu,mz,mA,mw,mC,mD,my,mG,mH,nd,ns,nt,mx,mE,mF,m0,nf,ng,m4,m5,nh,ni,m6,m7,m8,m9,nj,nk,na,nl,nm,nn,nb,np,nq,nr,nc,fK,(bS.sub.trans eV.sub).trans cG.sub,nF.sel [3,4,0,1,2],mR,mS,me mT cG.sub,ms mU cG.sub,ms mX cG.sub,nC,mc mW cG.sub,nu,nv,nw,nx,ny,nz,nA,nB,h⟩)
                ·rintro _ _ sD⟨nG,nH,rfl,rfl,nI⟩ h;have nJ:=ca nI eg;exact pX<|panE<|.inr ⟨_,rfl,nG,nH,(oi h).symm,rfl,nJ.sel []⟩
               ·rintro _ _ sF⟨nK,nL,rfl,rfl,nM⟩ h;have nN:=ca nM ef;exact pX<|panE<|.inr ⟨_,rfl,nK,nL,(oi h).symm,rfl,nN.sel []⟩
              ·rintro _ _ sG⟨nO,nP,rfl,rfl,nQ⟩ h;have nT:=ca nQ eU;exact pX<|panE<|.inr ⟨_,rfl,nO,nP,(oi h).symm,rfl,nT.sel []⟩
             ·refine gd 1<|wk D (fun j m=>∃fP eX,j fP [0,3,4] [(168,.bool eX)]∧m l [] [.box bs g (aR ar ac au ad av ae aw am an ao ax af ay t e u v f x ap) 176,.box (zz wi) (zz wi) (aS o y ai z G I O A S aj N ak Y J Z U B V W C X) 62,.box (zz wi) (zz aq) zS.toArray 62,eW br t e u 9 1 az,eK br v f x 173 aA]∧aeW k F ac ad ae am an ao af e f ap o y ai z G I A N J B C eX=some r_) ?_ ?_
              ·refine gd 6 (bC 168 h ?_ ?_)<;>intro nV h
               ·exact gd 3<|lX 168 nV.symm ⟨_,o==20,fK,D,h⟩
               ·refine gd 7 (bC 168 h ?_ ?_)<;>intro nW h
                ·exact gd 3<|lX 168 nW.symm ⟨_,o==22,fK,D,h⟩
                ·refine gd 7 (bC 168 h ?_ ?_)<;>intro nX h
                 ·exact gd 3<|lX 168 nX.symm ⟨_,o==23,fK,D,h⟩
                 ·exact gd 6 ⟨_,o==26,fK,D,h⟩
              ·rintro _ fQ⟨fP,eX,rfl,bT,h⟩;refine bC 168 h ?_ ?_<;>intro _ h
               ·refine gD 6 [7,2] bT ?_;have eY:=abZ bT;refine cX h (fun _ nY=>IH1016266 nY (hG.mono<|a.sub.trans aB) a6 a7 a8 a9 ba bb bd be (Nat.le_trans hbr bT.size) (by decide) a4<|pt eY) ?_ ?_
                ·rintro _ _ sH⟨sK,sL,sM,sN,sO,sP,sQ,sR,sS,sT,nZ,sU,sV,sW,sX,sY,sZ,s0,s1,s2,s3,s4,s5,s6,n2,n3,rfl,rfl,b8,n4,hh⟩ h;obtain⟨n5,n6,n7,n8,n9,oa,oc,od⟩:=hh;have oe:=ca b8 eY;refine gR 8 [7,3,8,4] [] oe (fun s7 eh=>cX h (fun _ og=>IH1016266 og (hG.mono<|(a.sub.trans aB).trans b8.sub) n4 n5 n6 n7 n8 n9 oa oc (Nat.le_trans hbr eh.size) (by decide) (ms a5 b8.sub)<|pt eh) ?_ ?_)
                 ·rintro _ _ s8⟨oh,ol,om,oo,op,oq,os,ot,ov,ow,ox,oy,oz,oA,oB,oC,oD,oE,oF,oG,oH,oI,oJ,oK,oL,oM,rfl,rfl,cH,oN,hh⟩ h;obtain⟨oO,oP,oQ,oR,oS,oT,oU,oV⟩:=hh;have oW:=ca cH eh;exact gR 5 [8,3] [] oW (fun s9 oX=>⟨_,oy,o,y,ai,z,G,I,A,O,S,nZ,n2,n3,ox,oL,oM,B,U,V,C,W,X,oh,oz,oA,ol,om,oB,oC,oo,op,oq,os,oD,oE,ot,oF,oG,oH,ov,oI,oJ,oK,ow,fK,b8.sub.trans cH.sub,oX.sel [3,4,0,1,2],aG,bf,me bg<|b8.sub.trans cH.sub,ms od cH.sub,oV,ms bh<|b8.sub.trans cH.sub,mc bi<|b8.sub.trans cH.sub,oN,oO,oP,oQ,oR,oS,oT,oU,h⟩)
                 ·rintro _ _ ta⟨oY,oZ,rfl,rfl,o2⟩ h;have o3:=ca o2 eh;exact pX<|panE<|.inr ⟨_,rfl,oY,oZ,(oi h).symm,rfl,o3.sel []⟩
                ·rintro _ _ tb⟨o4,o5,rfl,rfl,o6⟩ h;have o7:=ca o6 eY;exact pX<|panE<|.inr ⟨_,rfl,o4,o5,(oi h).symm,rfl,o7.sel []⟩
               ·refine gd 1<|wk bT (fun j m=>∃fS bU b9 cI cJ cb cc cK cL cM cN cO ce cP cQ bw cR cS cU bx cV cW cY cZ c2,j fS [0,3,4] []∧KH.sub l bU∧m bU [] [.box bs g (aR cI b9 cJ cb cK cc cL cM cN cO cP ce cQ cR bw cS cV bx cW cZ) 176,.box (zz wi) (zz wi) (aS o y c2 z G I O A S aj N ak Y J Z U B V W C X) 62,.box (zz wi) (zz aq) zS.toArray 62,eW br cR bw cS 9 1 cU,eK br cV bx cW 173 cY]∧tF bU cI cJ b9∧cb.size≤mB∧tP bU cK cL cc∧tS bU cP cQ ce∧Reps RStr 1 bw cU∧bw.length*16≤mB∧StkR kS VInt bx cY∧bx.length*8≤mB∧ahu k F o y z G I A N J B C b9 cb cc cM cN cO ce bw bx cZ c2=some r_) ?_ ?_
                ·refine gD 7 [1,2] bT (bC 55 h ?_ ?_)<;>intro _ h
                 ·refine gD 5 [1,2] bT ?_;have eZ:=abZ bT;refine cX h (fun _ o8=>(ahE k) o8 (hG.mono<|a.sub.trans aB) a6 a7 a8 a9 ba bb bd be (Nat.le_trans hbr bT.size) aG<|pt eZ) ?_ ?_
                  ·rintro _ _ tc⟨o9,pa,pb,pc,pd,pe,pf,pg,ph,pi,pj,pk,pl,pm,pn,po,pq,pr,ps,pu,pv,pw,px,py,rfl,rfl,fT,pz,pA,pB,hh⟩ h;obtain⟨pC,pD,pE,pF,pG⟩:=hh;have pH:=ca fT eZ;exact gR 4 [2,3] [] pH (fun td pI=>⟨_,pk,o9,pl,pm,pa,pb,pn,po,pc,pd,pe,pf,pq,pr,pg,ps,pu,pv,ph,pw,px,py,pi,pj,fK,fT.sub,pI.sel [0,3,4,1,2],pz,pA,pB,pC,pD,pE,pF,pG,h⟩)
                  ·rintro _ _ te⟨pJ,pK,rfl,rfl,pL⟩ h;have pM:=ca pL eZ;exact pX<|panE<|.inr ⟨_,rfl,pJ,pK,(oi h).symm,rfl,pM.sel []⟩
                 ·exact gd 3 ⟨_,l,ac,ar,au,ad,ae,av,aw,am,an,ao,af,ax,ay,e,t,u,az,f,v,x,aA,ap,ai,fK,kr,bT,a6,a7,a8,a9,ba,bb,bd,be,h⟩
                ·rintro _ tg⟨fS,bU,b9,cI,cJ,cb,cc,cK,cL,cM,cN,cO,ce,cP,cQ,bw,cR,cS,cU,bx,cV,cW,cY,cZ,c2,rfl,ab,bj,e0,e1,hh⟩;obtain⟨e3,e4,e5,e6,e7,e8,h⟩:=hh;refine gD 5 [0,2] bj (bO 64 h ?_ ?_)<;>intro _ h
                 ·refine go 11<|cX h (fun _ pN=>(adf k) pN (gm hG bj)<|pt bj) ?_ ?_
                  ·rintro _ _ th⟨pO,rfl,rfl,bz⟩ h;have pP:=ca bz bj;exact go 3 ⟨_,pO,o,y,c2,z,G,I,A,O,S,N,aj,ak,J,Y,Z,B,U,V,C,W,X,b9,cI,cJ,cb,cc,cK,cL,cM,cN,cO,ce,cP,cQ,bw,cR,cS,cU,bx,cV,cW,cY,cZ,fK,ab.trans bz.sub,pP.sel [1,2,0,3,4],aG,bf,me bg<|ab.trans bz.sub,ms a4<|ab.trans bz.sub,ms a5<|ab.trans bz.sub,ms bh<|ab.trans bz.sub,mc bi<|ab.trans bz.sub,mf e0 bz.sub,e1,mp e3 bz.sub,ms e4 bz.sub,e5.mono (fun _ _ h=>h),e6,StkR.mono (fun _ _ h=>h) e7,e8,h⟩
                  ·rintro _ _ ti⟨pQ,pR,rfl,rfl,pS⟩ h;have pT:=ca pS bj;exact pX<|panE<|.inr ⟨_,rfl,pQ,pR,(oi h).symm,rfl,pT.sel []⟩
                 ·refine gP 8 [5,2] bj (bO 69 h ?_ ?_)<;>intro _ h
                  ·refine go 6<|cX h (fun _ pU=>(adf k) pU (gm hG bj)<|pt bj) ?_ ?_
                   ·rintro _ _ tj⟨pV,rfl,rfl,bB⟩ h;have pW:=ca bB bj;exact go 3 ⟨_,pV,o,y,c2,z,G,I,A,O,S,N,aj,ak,J,Y,Z,B,U,V,C,W,X,b9,cI,cJ,cb,cc,cK,cL,cM,cN,cO,ce,cP,cQ,bw,cR,cS,cU,bx,cV,cW,cY,cZ,fK,ab.trans bB.sub,pW.sel [1,2,0,3,4],aG,bf,me bg<|ab.trans bB.sub,ms a4<|ab.trans bB.sub,ms a5<|ab.trans bB.sub,ms bh<|ab.trans bB.sub,mc bi<|ab.trans bB.sub,mf e0 bB.sub,e1,mp e3 bB.sub,ms e4 bB.sub,e5.mono (fun _ _ h=>h),e6,StkR.mono (fun _ _ h=>h) e7,e8,h⟩
                   ·rintro _ _ tl⟨pY,pZ,rfl,rfl,p0⟩ h;have p1:=ca p0 bj;exact pX<|panE<|.inr ⟨_,rfl,pY,pZ,(oi h).symm,rfl,p1.sel []⟩
                  ·refine gP 11 [9,1] bj<|cX h (fun _ p2=>(adf k) p2 (gm hG bj)<|pt bj) ?_ ?_
                   ·rintro _ _ tm⟨p3,rfl,rfl,bD⟩ h;have p4:=ca bD bj;exact go 3 ⟨_,p3,o,y,c2,z,G,I,A,O,S,N,aj,ak,J,Y,Z,B,U,V,C,W,X,b9,cI,cJ,cb,cc,cK,cL,cM,cN,cO,ce,cP,cQ,bw,cR,cS,cU,bx,cV,cW,cY,cZ,fK,ab.trans bD.sub,p4.sel [1,2,0,3,4],aG,bf,me bg<|ab.trans bD.sub,ms a4<|ab.trans bD.sub,ms a5<|ab.trans bD.sub,ms bh<|ab.trans bD.sub,mc bi<|ab.trans bD.sub,mf e0 bD.sub,e1,mp e3 bD.sub,ms e4 bD.sub,e5.mono (fun _ _ h=>h),e6,StkR.mono (fun _ _ h=>h) e7,e8,h⟩
                   ·rintro _ _ tn⟨p5,p6,rfl,rfl,p7⟩ h;have p8:=ca p7 bj;exact pX<|panE<|.inr ⟨_,rfl,p5,p6,(oi h).symm,rfl,p8.sel []⟩
    ·rintro _ tp⟨fI,al,dm,cu,dn,cw,dp,dq,cx,dN,dO,cy,dP,dQ,cz,dR,dS,cA,dT,dU,cC,dV,dW,dr,dX,dY,ds,dt,dZ,d0,hh⟩;obtain⟨d1,d2,d3,du,d4,d5,bX,d6,d7,d8,bY,d9,ea,ec,ed,rfl,tq,p9,qa,qb,qc,qd,qe,qf,qg,qh,qi,qj,qk,ql,hh⟩:=hh;obtain⟨qm,qn,qo,h⟩:=hh;exact gI 7 [0,0,11,1] [] p9 (fun tr fU=>retP<|adq rfl (rNl 1 fU rfl) ⟨dr,ds,dt,d1,d2,d3,du,bX,bY,ed,aae.mk dm cu dn cw dp dq cx cy cz cA cC,al,dX,dY,dZ,d0,d4,d5,d6,d7,d8,d9,ea,ec,vS dm cu dn cw dp dq dN cx dO dP cy dQ dR cz dS dT cA dU dV cC dW,(oi h).symm,rfl,fU.sel [2,3,4],qh,qi,qj,qk,ql,qm,qn,qo,aag.intro qa qb qc qd qe qf qg⟩)
 ·rintro _ _ ts⟨qp,qq,rfl,rfl,qr⟩ h;have qs:=ca qr eo;exact pX<|panE<|.inr ⟨_,rfl,qp,qq,(oi h).symm,rfl,qs.sel []⟩
theorem ajp(k:Nat)(F:abF)(IH134:abY F.f134)(IH1016212:aba F.f1016212)(IH1016220:aa9 F.f1016220)(IH1016266:aa5 F.f1016266)(IH1016420:aaZ F.f1016420)(IH1016466:aa6 F.f1016466):aba (adE k F):=by
 intro K wi g bs br y z A B C D G I J N O S U b e f V d s t ak W e3 aP e4 e5 gA bsA sA_0 sA_1 sA_2 sA_3 AsA_3 csA_3 sA_4 AsA_4 csA_4 n h hG bP bQ bR bS bT bU c4 e6 hbr c5 bV hsA_1 hsA_3 hsA_4 aT;refine en 59 Tryz.func162 rfl ?_;unfold adE at h;refine gD 12 [8,1] aT<|mkm aT (fun c7 aT=>gR 1 [173] [] aT (fun c8 c9=>?_));have da:=apG c9;obtain⟨bz,h⟩:=aaQ h;refine awb (kv:=kS) (R:=VInt) da c4 (akt (kv:=kS) (R:=VInt)) ahX apc rfl rfl rfl hbr hbr bz (by decide) (fun bB bD bW e7 db bX=>gR 5 [8,1] [] db (fun dc aU=>wk aU (fun j m=>∃bY o al aV aW am an aX aY aZ a0 a3 ao a4 a5 u a6 a7 a8 v a9 ba bb bd x,j bY [0,2] []∧KH.sub K o∧m o [] [.box bs g (aR aV al aW am aX an aY aZ a0 a3 a4 ao a5 a6 u a7 a9 v ba bd) 176,.box bsA gA (aC' sA_0 sA_1 x AsA_3 sA_3 csA_3 AsA_4 sA_4 csA_4) 84,eW br a6 u a7 9 1 a8,eK br a9 v ba 173 bb]∧tF o aV aW al∧am.size≤mB∧tP o aX aY an∧tS o a4 a5 ao∧Reps RStr 1 u a8∧u.length*16≤mB∧StkR kS VInt v bb∧v.length*8≤mB∧ad2 k F aP sA_0 sA_1 sA_3 sA_4 al am an aZ a0 a3 ao u v bd x=some n) ?_ ?_))
 ·refine gd 6 (bC 24 h ?_ ?_)<;>intro _ h
  ·refine gd 5 ?_;have bE:=auC aU;refine cX h (fun _ dd=>(ahE k) dd (hG.mono kr) bP bQ bR bS bT bU bX (aav bz) (Nat.le_trans hbr aU.size) c5<|pt bE) ?_ ?_
   ·rintro _ _ e8⟨de,df,dg,dh,di,dj,dk,dl,dm,dn,dp,dq,dr,ds,dt,du,dv,dw,dx,dy,dz,dA,dB,dC,rfl,rfl,bZ,dD,dE,dF,hh⟩ h;obtain⟨dG,dH,dI,dJ,dK⟩:=hh;have dL:=ca bZ bE;exact gR 4 [3] [] dL (fun e9 dM=>⟨_,dq,de,dr,ds,df,dg,dt,du,dh,di,dj,dk,dv,dw,dl,dx,dy,dz,dm,dA,dB,dC,dn,dp,fK,bZ.sub,dM.sel [0,3,1,2],dD,dE,dF,dG,dH,dI,dJ,dK,h⟩)
   ·rintro _ _ fa⟨dN,dO,rfl,rfl,dP⟩ h;have dQ:=ca dP bE;exact pX<|panE<|.inr ⟨_,rfl,dN,dO,(oi h).symm,rfl,dQ.sel []⟩
  ·exact gd 3 ⟨_,K,y,z,A,B,C,D,G,I,J,N,O,S,U,b,e,f,V,d++[([]:List (BA×Int))],bB,bD,bW,W,sA_2,fK,kr,aU.sel [1,3,2,0],bP,bQ,bR,bS,bT,bU,bX,aav bz,h⟩
 ·rintro _ fb⟨bY,o,al,aV,aW,am,an,aX,aY,aZ,a0,a3,ao,a4,a5,u,a6,a7,a8,v,a9,ba,bb,bd,x,rfl,ap,dR,dS,dT,hh⟩;obtain⟨dU,dV,dW,dX,dY,dZ,h⟩:=hh;refine gd 14 ?_;have b0:=dR.row_ (zz wi) 62 11;refine wl b0 (fun j m g_=>∃b1 p X,∃(aq:Nat),∃ab ar au ac ad av aw ax ay az ae aA aB q af ai aG a Y Z aH aI l aK aL be,g_=X.length∧j b1 [0,30,31] [(9,sl aK l aL),(32,iI (aq:Int))]∧KH.sub o p∧m p [] [.box bs g (aR ar ab au ac av ad aw ax ay az aA ae aB af q ai Y a Z aI) 176,.box bsA gA (aC' sA_0 sA_1 x AsA_3 sA_3 csA_3 AsA_4 sA_4 csA_4) 84,eW br af q ai 9 1 aG,eK br Y a Z 173 aH,eW (zz wi) aK l aL 62 11 be]∧aP.drop aq=X∧tF p ar au ab∧ac.size≤mB∧tP p av aw ad∧tS p aA aB ae∧Reps RStr 1 q aG∧q.length*16≤mB∧StkR kS VInt a aH∧a.length*8≤mB∧Reps (aag p) 11 l be∧l.length*184≤mB∧aco k F sA_0 sA_1 sA_3 sA_4 x X aq ab ac ad ax ay az ae q a aI l=some n) aP.length ?_ ?_
  ·exact⟨_,o,aP,0,al,aV,aW,am,an,aX,aY,aZ,a0,a3,ao,a4,a5,u,a6,a7,a8,v,a9,ba,bb,bd,([]:LS),none,0,[],rfl,fK,kr,b0.sel [1,2,3,4,0],List.drop_zero,dS,dT,dU,dV,dW,dX,dY,dZ,abo (R:=(aag o)) (size:=11),(by simp),h⟩
  ·rintro _ _ b2⟨b1,p,X,aq,ab,ar,au,ac,ad,av,aw,ax,ay,az,ae,aA,aB,q,af,ai,aG,a,Y,Z,aH,aI,l,aK,aL,be,hh⟩;obtain⟨rfl,rfl,aj,bF,aM,b3,b4,b5,b6,b7,b8,bG,b9,cb,d0,h⟩:=hh;rcases X with _|⟨⟨cc,ce,cf,ch,ci,cj,ck,cl,cm,cn,co⟩,X⟩
   ·refine gd 2<|cNl aM<|go 10<|rB [14] bF (fun cq bf=>ah 10 [0,1,2,3,8,4,1,5,6,7,8,8,1,9] bf<|kA 10 (w64<|(a.length:Int) - 1) rfl bf ?_);obtain⟨bg,h⟩:=aaQ h;refine kK 11 (.slice Y (a.take (w64<|(a.length:Int) - 1).toNat).length Z) rfl (fun w=>aoo (m:=(a.take (w64<|(a.length:Int) - 1).toNat).length) ahX ann rfl rfl bg.1 (Int.le_trans bg.2<|Int.ofNat_le.2<|amF (i:=3) cq rfl)<|afE bg) bf<|ah 2 [12,13,8] bf<|aQ 14 rfl (have d1:=cq.cutM (i:=3) (m:=(w64<|(a.length:Int) - 1).toNat) rfl bG (by have:=bg.2;omega);(gR 3 [0] [] d1 (fun fc d2=>⟨hE 14,aD<|gx 8 ?_⟩)));obtain⟨d3,d4,aN,d5⟩:=abD (i:=4) (bytes:=184) (R:=fun K=>(aag K)) d2 rfl (Nat.le_refl _) cb d0 (fun hs=>(fun _ _ h=>aag.mono hs h));exact retP<|rt1 ⟨ab,ac,ad,ax,ay,az,ae,q,a.take (w64<|(a.length:Int) - 1).toNat,aI,sA_0,sA_1,x,sA_3,sA_4,l,d3,ar,au,av,aw,aA,aB,af,ai,aG,Y,Z,aH.take (w64<|(a.length:Int) - 1).toNat,AsA_3,csA_3,AsA_4,csA_4,aK,aL,(oi h).symm,rfl,d4.sel [0,2,3,1],mf b3 aN,b4,mp b5 aN,ms b6 aN,b7.mono (fun _ _ h=>h),b8,StkR.mono (fun _ _ h=>h)<|StkR.take (w64<|(a.length:Int) - 1).toNat bG,adG b9,hsA_1,me hsA_3<|(ap.trans aj).trans aN,ms hsA_4<|(ap.trans aj).trans aN,d5⟩
   ·refine gd 2<|cCl aM<|go 10<|eN bF (ms bV<|ap.trans aj) aM aag.open ?_;rintro fe ff fg fh fi fj⟨cr,cs,ct,cu,cw,cx,cy,cz,cA,cC,rfl,d6,d7,d8,d9,ea,ec,ed⟩;refine gR 8 [0,0,0,11] [[iI 0,sE,iI 0,sE,iI 0,iI 0,nS,nS,nS,nS,nS]] bF (fun fk ee cD=>?_);have bH:=arc cD;refine cX h (fun _ ef=>IH134 ef (hG.mono<|ap.trans aj) b3 b4 b5 b6 b7 b8 bG b9 (Nat.le_trans hbr cD.size) (aag.intro d6 d7 d8 d9 ea ec ed)<|pt bH) ?_ ?_
    ·rintro _ _ eg⟨cG,cH,cI,cJ,cK,cL,cM,bh,bi,cN,⟨bj,bk,bm,bn,bo,bp,bq,bu,bv,bw,bx⟩,cO,cP,cQ,cR,cS,cU,cV,bI,bJ,cW,bK,bL,cY,fl,rfl,rfl,bM,eh,ei,hh⟩ h;obtain⟨ej,ek,el,em,eo,ep,eq⟩:=hh;have es:=ca bM bH;obtain⟨et,eu,ew,ex,ey,ez,eC,eD,eF,eH,rfl,eI,eJ,eL,eM,eO,eP,eQ⟩:=aag.open eq;refine gR 8 [0,0,0,11,62] [[iI 0,sE,iI 0,sE,iI 0,iI 0,nS,nS,nS,nS,nS]] es (fun fm fn fo eR=>aJ h 7 0 eR rfl rfl (cb.mono (fun _ _ h=>aag.mono bM.sub h)) (aag.intro eI eJ eL eM eO eP eQ) ?_);rintro cZ c2 c3 eS eT eU eV h;have eX:=ai6 eT;exact go 5<|iCl aM ((ms bV<|ap.trans aj).len)<|go 3 ⟨_,Nat.lt_succ_self _,_,cO,X,aq+1,cG,cP,cQ,cH,cI,cR,cS,cJ,cK,cL,cM,cU,cV,bh,bI,bJ,cW,bi,bK,bL,cY,cN,l++[(aae.mk bj bk bm bn bo bp bq bu bv bw bx)],cZ,c2,c3,rfl,fK,aj.trans bM.sub,eX.sel [1,5,2,3,6],aac aM,eh,ei,ej,ek,el,em,eo,ep,eU,aav eV,h⟩
    ·rintro _ _ fp⟨eY,eZ,rfl,rfl,e0⟩ h;have e1:=ca e0 bH;exact pX<|panE<|.inr ⟨_,rfl,eY,eZ,(oi h).symm,rfl,e1.sel []⟩
theorem ajb(k:Nat)(F:abF)(IH134:abY F.f134)(IH1016212:aba F.f1016212)(IH1016220:aa9 F.f1016220)(IH1016266:aa5 F.f1016266)(IH1016420:aaZ F.f1016420)(IH1016466:aa6 F.f1016466):aa9 (adw k F):=by
 intro K wi g bs br B C D G I J N O S U V W X b e f Y d s t am Z e3 aP e4 e5 gA bsA sA_0 sA_1 sA_2 sA_3 sA_4 sA_5 sA_6 AsA_6 csA_6 sA_7 AsA_7 csA_7 sA_8 AsA_8 csA_8 sA_9 AsA_9 csA_9 sA_10 AsA_10 csA_10 n h hG bP bQ bR bS bT bU c4 e6 hbr c5 bV hsA_1 hsA_3 hsA_6 hsA_7 hsA_8 hsA_9 hsA_10 aT;refine en 59 Tryz.func162 rfl ?_;unfold adw at h;refine gD 12 [8,1] aT<|mkm aT (fun c7 aT=>gR 1 [173] [] aT (fun c8 c9=>?_));have da:=apG c9;obtain⟨bz,h⟩:=aaQ h;refine awb (kv:=kS) (R:=VInt) da c4 (akt (kv:=kS) (R:=VInt)) ahX apc rfl rfl rfl hbr hbr bz (by decide) (fun bB bD bW e7 db bX=>gR 5 [8,1] [] db (fun dc aU=>wk aU (fun j m=>∃bY o an aV aW ao ap aX aY aZ a0 a3 aq a4 a5 v a6 a7 a8 x a9 ba bb bd y,j bY [0,2] []∧KH.sub K o∧m o [] [.box bs g (aR aV an aW ao aX ap aY aZ a0 a3 a4 aq a5 a6 v a7 a9 x ba bd) 176,.box bsA gA (aS sA_0 sA_1 y sA_3 sA_4 sA_5 AsA_6 sA_6 csA_6 AsA_7 sA_7 csA_7 AsA_8 sA_8 csA_8 AsA_9 sA_9 csA_9 AsA_10 sA_10 csA_10) 62,eW br a6 v a7 9 1 a8,eK br a9 x ba 173 bb]∧tF o aV aW an∧ao.size≤mB∧tP o aX aY ap∧tS o a4 a5 aq∧Reps RStr 1 v a8∧v.length*16≤mB∧StkR kS VInt x bb∧x.length*8≤mB∧adQ k F aP sA_0 sA_1 sA_3 sA_4 sA_5 sA_6 sA_7 sA_8 sA_9 sA_10 an ao ap aZ a0 a3 aq v x bd y=some n) ?_ ?_))
 ·refine gd 6 (bC 24 h ?_ ?_)<;>intro _ h
  ·refine gd 5 ?_;have bE:=auC aU;refine cX h (fun _ dd=>(ahE k) dd (hG.mono kr) bP bQ bR bS bT bU bX (aav bz) (Nat.le_trans hbr aU.size) c5<|pt bE) ?_ ?_
   ·rintro _ _ e8⟨de,df,dg,dh,di,dj,dk,dl,dm,dn,dp,dq,dr,ds,dt,du,dv,dw,dx,dy,dz,dA,dB,dC,rfl,rfl,bZ,dD,dE,dF,hh⟩ h;obtain⟨dG,dH,dI,dJ,dK⟩:=hh;have dL:=ca bZ bE;exact gR 4 [3] [] dL (fun e9 dM=>⟨_,dq,de,dr,ds,df,dg,dt,du,dh,di,dj,dk,dv,dw,dl,dx,dy,dz,dm,dA,dB,dC,dn,dp,fK,bZ.sub,dM.sel [0,3,1,2],dD,dE,dF,dG,dH,dI,dJ,dK,h⟩)
   ·rintro _ _ fa⟨dN,dO,rfl,rfl,dP⟩ h;have dQ:=ca dP bE;exact pX<|panE<|.inr ⟨_,rfl,dN,dO,(oi h).symm,rfl,dQ.sel []⟩
  ·exact gd 3 ⟨_,K,B,C,D,G,I,J,N,O,S,U,V,W,X,b,e,f,Y,d++[([]:List (BA×Int))],bB,bD,bW,Z,sA_2,fK,kr,aU.sel [1,3,2,0],bP,bQ,bR,bS,bT,bU,bX,aav bz,h⟩
 ·rintro _ fb⟨bY,o,an,aV,aW,ao,ap,aX,aY,aZ,a0,a3,aq,a4,a5,v,a6,a7,a8,x,a9,ba,bb,bd,y,rfl,z,dR,dS,dT,hh⟩;obtain⟨dU,dV,dW,dX,dY,dZ,h⟩:=hh;refine gd 14 ?_;have b0:=dR.row_ (zz wi) 62 11;refine wl b0 (fun j m g_=>∃b1 p ab,∃(ar:Nat),∃ae au av af ai aw ax ay az aA aj aB aG q ak al aH a ac ad aI aK l aL aM be,g_=ab.length∧j b1 [0,30,31] [(9,sl aL l aM),(32,iI (ar:Int))]∧KH.sub o p∧m p [] [.box bs g (aR au ae av af aw ai ax ay az aA aB aj aG ak q al ac a ad aK) 176,.box bsA gA (aS sA_0 sA_1 y sA_3 sA_4 sA_5 AsA_6 sA_6 csA_6 AsA_7 sA_7 csA_7 AsA_8 sA_8 csA_8 AsA_9 sA_9 csA_9 AsA_10 sA_10 csA_10) 62,eW br ak q al 9 1 aH,eK br ac a ad 173 aI,eW (zz wi) aL l aM 62 11 be]∧aP.drop ar=ab∧tF p au av ae∧af.size≤mB∧tP p aw ax ai∧tS p aB aG aj∧Reps RStr 1 q aH∧q.length*16≤mB∧StkR kS VInt a aI∧a.length*8≤mB∧Reps (aag p) 11 l be∧l.length*184≤mB∧act k F sA_0 sA_1 sA_3 sA_4 sA_5 sA_6 sA_7 sA_8 sA_9 sA_10 y ab ar ae af ai ay az aA aj q a aK l=some n) aP.length ?_ ?_
  ·exact⟨_,o,aP,0,an,aV,aW,ao,ap,aX,aY,aZ,a0,a3,aq,a4,a5,v,a6,a7,a8,x,a9,ba,bb,bd,([]:LS),none,0,[],rfl,fK,kr,b0.sel [1,2,3,4,0],List.drop_zero,dS,dT,dU,dV,dW,dX,dY,dZ,abo (R:=(aag o)) (size:=11),(by simp),h⟩
  ·rintro _ _ b2⟨b1,p,ab,ar,ae,au,av,af,ai,aw,ax,ay,az,aA,aj,aB,aG,q,ak,al,aH,a,ac,ad,aI,aK,l,aL,aM,be,hh⟩;obtain⟨rfl,rfl,u,bF,aN,b3,b4,b5,b6,b7,b8,bG,b9,cb,d0,h⟩:=hh;rcases ab with _|⟨⟨cc,ce,cf,ch,ci,cj,ck,cl,cm,cn,co⟩,ab⟩
   ·refine gd 2<|cNl aN<|go 10<|rB [14] bF (fun cq bf=>ah 10 [0,1,2,3,8,4,1,5,6,7,8,8,1,9] bf<|kA 10 (w64<|(a.length:Int) - 1) rfl bf ?_);obtain⟨bg,h⟩:=aaQ h;refine kK 11 (.slice ac (a.take (w64<|(a.length:Int) - 1).toNat).length ad) rfl (fun w=>aoo (m:=(a.take (w64<|(a.length:Int) - 1).toNat).length) ahX ann rfl rfl bg.1 (Int.le_trans bg.2<|Int.ofNat_le.2<|amF (i:=3) cq rfl)<|afE bg) bf<|ah 2 [12,13,8] bf<|aQ 14 rfl (have d1:=cq.cutM (i:=3) (m:=(w64<|(a.length:Int) - 1).toNat) rfl bG (by have:=bg.2;omega);(gR 3 [0] [] d1 (fun fc d2=>⟨hE 14,aD<|gx 8 ?_⟩)));obtain⟨d3,d4,A,d5⟩:=abD (i:=4) (bytes:=184) (R:=fun K=>(aag K)) d2 rfl (Nat.le_refl _) cb d0 (fun hs=>(fun _ _ h=>aag.mono hs h));exact retP<|rt1 ⟨ae,af,ai,ay,az,aA,aj,q,a.take (w64<|(a.length:Int) - 1).toNat,aK,sA_0,sA_1,y,sA_3,sA_4,sA_5,sA_6,sA_7,sA_8,sA_9,sA_10,l,d3,au,av,aw,ax,aB,aG,ak,al,aH,ac,ad,aI.take (w64<|(a.length:Int) - 1).toNat,AsA_6,csA_6,AsA_7,csA_7,AsA_8,csA_8,AsA_9,csA_9,AsA_10,csA_10,aL,aM,(oi h).symm,rfl,d4.sel [0,2,3,1],mf b3 A,b4,mp b5 A,ms b6 A,b7.mono (fun _ _ h=>h),b8,StkR.mono (fun _ _ h=>h)<|StkR.take (w64<|(a.length:Int) - 1).toNat bG,adG b9,hsA_1,hsA_3,me hsA_6<|(z.trans u).trans A,ms hsA_7<|(z.trans u).trans A,ms hsA_8<|(z.trans u).trans A,ms hsA_9<|(z.trans u).trans A,mc hsA_10<|(z.trans u).trans A,d5⟩
   ·refine gd 2<|cCl aN<|go 10<|eN bF (ms bV<|z.trans u) aN aag.open ?_;rintro fe ff fg fh fi fj⟨cr,cs,ct,cu,cw,cx,cy,cz,cA,cC,rfl,d6,d7,d8,d9,ea,ec,ed⟩;refine gR 8 [0,0,0,11] [[iI 0,sE,iI 0,sE,iI 0,iI 0,nS,nS,nS,nS,nS]] bF (fun fk ee cD=>?_);have bH:=arc cD;refine cX h (fun _ ef=>IH134 ef (hG.mono<|z.trans u) b3 b4 b5 b6 b7 b8 bG b9 (Nat.le_trans hbr cD.size) (aag.intro d6 d7 d8 d9 ea ec ed)<|pt bH) ?_ ?_
    ·rintro _ _ eg⟨cG,cH,cI,cJ,cK,cL,cM,bh,bi,cN,⟨bj,bk,bm,bn,bo,bp,bq,bu,bv,bw,bx⟩,cO,cP,cQ,cR,cS,cU,cV,bI,bJ,cW,bK,bL,cY,fl,rfl,rfl,bM,eh,ei,hh⟩ h;obtain⟨ej,ek,el,em,eo,ep,eq⟩:=hh;have es:=ca bM bH;obtain⟨et,eu,ew,ex,ey,ez,eC,eD,eF,eH,rfl,eI,eJ,eL,eM,eO,eP,eQ⟩:=aag.open eq;refine gR 8 [0,0,0,11,62] [[iI 0,sE,iI 0,sE,iI 0,iI 0,nS,nS,nS,nS,nS]] es (fun fm fn fo eR=>aJ h 7 0 eR rfl rfl (cb.mono (fun _ _ h=>aag.mono bM.sub h)) (aag.intro eI eJ eL eM eO eP eQ) ?_);rintro cZ c2 c3 eS eT eU eV h;have eX:=ai6 eT;exact go 5<|iCl aN ((ms bV<|z.trans u).len)<|go 3 ⟨_,Nat.lt_succ_self _,_,cO,ab,ar+1,cG,cP,cQ,cH,cI,cR,cS,cJ,cK,cL,cM,cU,cV,bh,bI,bJ,cW,bi,bK,bL,cY,cN,l++[(aae.mk bj bk bm bn bo bp bq bu bv bw bx)],cZ,c2,c3,rfl,fK,u.trans bM.sub,eX.sel [1,5,2,3,6],aac aN,eh,ei,ej,ek,el,em,eo,ep,eU,aav eV,h⟩
    ·rintro _ _ fp⟨eY,eZ,rfl,rfl,e0⟩ h;have e1:=ca e0 bH;exact pX<|panE<|.inr ⟨_,rfl,eY,eZ,(oi h).symm,rfl,e1.sel []⟩
theorem akx(k:Nat)(F:abF)(IH134:abY F.f134)(IH1016212:aba F.f1016212)(IH1016220:aa9 F.f1016220)(IH1016266:aa5 F.f1016266)(IH1016420:aaZ F.f1016420)(IH1016466:aa6 F.f1016466):aa5 (adH k F):=by
 intro K wi g bs br t u v x y z A B C D G I J b e f N d q s ad O dK aZ dL dM n h hG bh bi bj bk bm bn cw dN hbr cx bo ay;refine en 59 Tryz.func162 rfl ?_;unfold adH at h;refine gD 12 [8,1] ay<|mkm ay (fun cy ay=>gR 1 [173] [] ay (fun cz cA=>?_));have cC:=axQ cA;obtain⟨a0,h⟩:=aaQ h;refine awb (kv:=kS) (R:=VInt) cC cw (akt (kv:=kS) (R:=VInt)) ahX apc rfl rfl rfl hbr hbr a0 (by decide) (fun a3 a4 bp dO cD bq=>gR 12 [8,1] [] cD (fun cG a5=>bC 24 h ?_ ?_))<;>intro _ h
 ·refine gd 5 ?_;have a6:=p120 a5;refine cX h (fun _ cH=>(ahE k) cH (hG.mono kr) bh bi bj bk bm bn bq (aav a0) (Nat.le_trans hbr a5.size) cx<|pt a6) ?_ ?_
  ·rintro _ _ dP⟨dQ,dR,dS,dT,dU,dV,dW,dX,dY,dZ,d0,d1,d2,d3,d4,d5,d6,d7,d8,d9,ea,ec,ed,ee,rfl,rfl,cI,ef,eg,eh,hh⟩ h;obtain⟨ei,ej,ek,el,em⟩:=hh;have eo:=ca cI a6;cases h
  ·rintro _ _ ep⟨cJ,cK,rfl,rfl,cL⟩ h;have cM:=ca cL a6;exact pX<|panE<|.inr ⟨_,rfl,cJ,cK,(oi h).symm,rfl,cM.sel []⟩
 ·refine gd 17 ?_;have bu:=a5.row_ (zz wi) 62 11;refine wl bu (fun j m g_=>∃bv o S,∃(ae:Nat),∃W af ai X Y aj ak al am an Z ao ap p ab ac aq a U V ar au l av aw az,g_=S.length∧j bv [0,30,31] [(9,sl av l aw),(32,iI (ae:Int))]∧KH.sub K o∧m o [] [.box bs g (aR af W ai X aj Y ak al am an ao Z ap ab p ac U a V au) 176,eW br ab p ac 9 1 aq,eK br U a V 173 ar,eW (zz wi) av l aw 62 11 az]∧aZ.drop ae=S∧tF o af ai W∧X.size≤mB∧tP o aj ak Y∧tS o ao ap Z∧Reps RStr 1 p aq∧p.length*16≤mB∧StkR kS VInt a ar∧a.length*8≤mB∧Reps (aag o) 11 l az∧l.length*184≤mB∧acr k F S ae W X Y al am an Z p a au l=some n) aZ.length ?_ ?_
  ·exact⟨_,K,aZ,0,t,u,v,x,y,z,A,B,C,D,G,I,J,b,e,f,N,d++[([]:List (BA×Int))],a3,a4,bp,O,([]:LS),none,0,[],rfl,fK,kr,bu.sel [2,3,1,0],List.drop_zero,bh,bi,bj,bk,bm,bn,bq,aav a0,abo (R:=(aag K)) (size:=11),(by simp),h⟩
  ·rintro _ _ bw⟨bv,o,S,ae,W,af,ai,X,Y,aj,ak,al,am,an,Z,ao,ap,p,ab,ac,aq,a,U,V,ar,au,l,av,aw,az,hh⟩;obtain⟨rfl,rfl,aA,a7,ax,bx,bz,bB,bD,bE,bF,a8,bG,bH,cN,h⟩:=hh;rcases S with _|⟨⟨bI,bJ,bK,bL,bM,bP,bQ,bR,bS,bT,bU⟩,S⟩
   ·refine gd 2<|cNl ax<|go 10<|rB [14] a7 (fun bV aB=>ah 10 [0,1,2,3,8,4,1,5,6,7,8,8,1,9] aB<|kA 10 (w64<|(a.length:Int) - 1) rfl aB ?_);obtain⟨aG,h⟩:=aaQ h;refine kK 11 (.slice U (a.take (w64<|(a.length:Int) - 1).toNat).length V) rfl (fun w=>aoo (m:=(a.take (w64<|(a.length:Int) - 1).toNat).length) ahX ann rfl rfl aG.1 (Int.le_trans aG.2<|Int.ofNat_le.2<|amF (i:=2) bV rfl)<|afE aG) aB<|ah 2 [12,13,8] aB<|aQ 14 rfl (have cO:=bV.cutM (i:=2) (m:=(w64<|(a.length:Int) - 1).toNat) rfl a8 (by have:=aG.2;omega);(gR 3 [0] [] cO (fun eq cP=>⟨hE 14,aD<|gx 8 ?_⟩)));obtain⟨cQ,cR,a9,cS⟩:=abD (i:=3) (bytes:=184) (R:=fun K=>(aag K)) cP rfl (Nat.le_refl _) bH cN (fun hs=>(fun _ _ h=>aag.mono hs h));exact retP<|rt1 ⟨W,X,Y,al,am,an,Z,p,a.take (w64<|(a.length:Int) - 1).toNat,au,l,cQ,af,ai,aj,ak,ao,ap,ab,ac,aq,U,V,ar.take (w64<|(a.length:Int) - 1).toNat,av,aw,(oi h).symm,rfl,cR,mf bx a9,bz,mp bB a9,ms bD a9,bE.mono (fun _ _ h=>h),bF,StkR.mono (fun _ _ h=>h)<|StkR.take (w64<|(a.length:Int) - 1).toNat a8,adG bG,cS⟩
   ·refine gd 2<|cCl ax<|go 10<|eN a7 (ms bo aA) ax aag.open ?_;rintro es et eu ew ex ey⟨bW,bX,bY,bZ,b0,b1,b2,b3,b4,b5,rfl,cU,cV,cW,cY,cZ,c2,c3⟩;refine gR 8 [0,0,0,11] [[iI 0,sE,iI 0,sE,iI 0,iI 0,nS,nS,nS,nS,nS]] a7 (fun ez c4 b6=>?_);have ba:=axm b6;refine cX h (fun _ c5=>IH134 c5 (hG.mono aA) bx bz bB bD bE bF a8 bG (Nat.le_trans hbr b6.size) (aag.intro cU cV cW cY cZ c2 c3)<|pt ba) ?_ ?_
    ·rintro _ _ c7⟨b7,b8,b9,cb,cc,ce,cf,aH,aI,ch,⟨aK,aL,aM,aN,aP,aT,aU,aV,aW,aX,aY⟩,ci,cj,ck,cl,cm,cn,co,bb,bd,cq,be,bf,cr,eC,rfl,rfl,bg,c8,c9,hh⟩ h;obtain⟨da,db,dc,dd,de,df,dg⟩:=hh;have dh:=ca bg ba;obtain⟨di,dj,dk,dl,dm,dn,dp,dq,dr,ds,rfl,dt,du,dv,dw,dx,dy,dz⟩:=aag.open dg;refine gR 8 [0,0,0,11,62] [[iI 0,sE,iI 0,sE,iI 0,iI 0,nS,nS,nS,nS,nS]] dh (fun eD eF eH dA=>aJ h 6 0 dA rfl rfl (bH.mono (fun _ _ h=>aag.mono bg.sub h)) (aag.intro dt du dv dw dx dy dz) ?_);rintro cs ct cu dB dC dD dE h;have dF:=ajJ dC;exact go 5<|iCl ax ((ms bo aA).len)<|go 3 ⟨_,Nat.lt_succ_self _,_,ci,S,ae+1,b7,cj,ck,b8,b9,cl,cm,cb,cc,ce,cf,cn,co,aH,bb,bd,cq,aI,be,bf,cr,ch,l++[(aae.mk aK aL aM aN aP aT aU aV aW aX aY)],cs,ct,cu,rfl,fK,aA.trans bg.sub,dF.sel [1,2,3,5],aac ax,c8,c9,da,db,dc,dd,de,df,dD,aav dE,h⟩
    ·rintro _ _ eI⟨dG,dH,rfl,rfl,dI⟩ h;have dJ:=ca dI ba;exact pX<|panE<|.inr ⟨_,rfl,dG,dH,(oi h).symm,rfl,dJ.sel []⟩
theorem ajf(k:Nat)(F:abF)(IH134:abY F.f134)(IH1016212:aba F.f1016212)(IH1016220:aa9 F.f1016220)(IH1016266:aa5 F.f1016266)(IH1016420:aaZ F.f1016420)(IH1016466:aa6 F.f1016466):aaZ (ady k F):=by
 intro K wi g bs br bd be bf bg bh bi bj bk bm bn bo bp bq bu bv bw bx bz bB bD bE e bF bG bH bI gA bsA sA_0 sA_1 sA_2 sA_3 sA_4 sA_5 sA_6 AsA_6 csA_6 sA_7 AsA_7 csA_7 sA_8 AsA_8 csA_8 sA_9 AsA_9 csA_9 sA_10 AsA_10 csA_10 r_ h hG f i j l m o p q hbr s t hsA_1 hsA_3 hsA_6 hsA_7 hsA_8 hsA_9 hsA_10 a;refine en 30 Tryz.func164 rfl ?_;unfold ady at h;refine gD 11 [9,1] a<|bar (r:=(w64<|e+1)) rfl rfl rfl<|gR 11 [9,0] [] a (fun bJ a=>cX h (fun _ u=>IH1016220 u (hG.mono kr) f i j l m o p q (Nat.le_trans hbr a.size) s t hsA_1 hsA_3 hsA_6 hsA_7 hsA_8 hsA_9 hsA_10<|pt a) ?_ ?_)
 ·rintro _ _ bK⟨v,x,y,z,A,B,C,D,G,b,I,J,N,O,S,U,V,W,X,Y,Z,ab,ac,ad,ae,af,ai,aj,ak,al,hh⟩ h;obtain⟨am,an,ao,ap,aq,ar,au,av,aw,ax,ay,az,aA,aB,aG,aH,aI,rfl,rfl,aK,aL,aM,aN,aP,aT,aU,aV,aW,aX,aY,hh⟩:=hh;obtain⟨aZ,a0,a3,a4,a5,a6⟩:=hh;have d:=ca aK a;exact gP 9 [9,1] d<|bar (r:=(w64<|b - 1)) rfl rfl rfl<|gR 12 [9,0] [] d (fun bL a7=>retP<|rt1 ⟨v,x,y,z,A,B,C,D,G,w64<|b - 1,I,J,N,O,S,U,V,W,X,Y,Z,ab,ac,ad,ae,af,ai,aj,ak,al,am,an,ao,ap,aq,ar,au,av,aw,ax,ay,az,aA,aB,aG,aH,aI,(oi h).symm,rfl,a7,aL,aM,aN,aP,aT,aU,aV,aW,aX,aY,aZ,a0,a3,a4,a5,a6⟩)
 ·rintro _ _ bM⟨a8,a9,rfl,rfl,ba⟩ h;have bb:=ca ba a;exact pX<|panE<|.inr ⟨_,rfl,a8,a9,(oi h).symm,rfl,bb.sel []⟩
theorem ajv(k:Nat)(F:abF)(IH134:abY F.f134)(IH1016212:aba F.f1016212)(IH1016220:aa9 F.f1016220)(IH1016266:aa5 F.f1016266)(IH1016420:aaZ F.f1016420)(IH1016466:aa6 F.f1016466):aa6 (adC k F):=by
 intro K wi g bs br az aA aB aG aH aI aK aL aM aN aP aT aU aV aW aX aY aZ a0 a3 a4 e a5 a6 a7 a8 r_ h hG f i j l m o p q hbr s t a;refine en 30 Tryz.func164 rfl ?_;unfold adC at h;refine gD 11 [9,1] a<|bar (r:=(w64<|e+1)) rfl rfl rfl<|gR 11 [9,0] [] a (fun a9 a=>cX h (fun _ u=>IH1016266 u (hG.mono kr) f i j l m o p q (Nat.le_trans hbr a.size) s t<|pt a) ?_ ?_)
 ·rintro _ _ ba⟨v,x,y,z,A,B,C,D,G,b,I,J,N,O,S,U,V,W,X,Y,Z,ab,ac,ad,ae,af,rfl,rfl,ai,aj,hh⟩ h;obtain⟨ak,al,am,an,ao,ap,aq,ar⟩:=hh;have d:=ca ai a;exact gP 9 [9,1] d<|bar (r:=(w64<|b - 1)) rfl rfl rfl<|gR 12 [9,0] [] d (fun bb au=>retP<|rt1 ⟨v,x,y,z,A,B,C,D,G,w64<|b - 1,I,J,N,O,S,U,V,W,X,Y,Z,ab,ac,ad,ae,af,(oi h).symm,rfl,au,aj,ak,al,am,an,ao,ap,aq,ar⟩)
 ·rintro _ _ bd⟨av,aw,rfl,rfl,ax⟩ h;have ay:=ca ax a;exact pX<|panE<|.inr ⟨_,rfl,av,aw,(oi h).symm,rfl,ay.sel []⟩
theorem adv(k0:Nat) : ∀k,abY (aaD k0 k).f134∧aba (aaD k0 k).f1016212∧aa9 (aaD k0 k).f1016220∧aa5 (aaD k0 k).f1016266∧aaZ (aaD k0 k).f1016420∧aa6 (aaD k0 k).f1016466:=by
 intro k;induction k with
 | zero=>exact⟨by simp[abY,aaD],by simp[aba,aaD],by simp[aa9,aaD],by simp[aa5,aaD],by simp[aaZ,aaD],by simp[aa6,aaD]⟩
 | succ k ih=>exact⟨aqK k0 (aaD k0 k) ih.1 ih.2.1 ih.2.2.1 ih.2.2.2.1 ih.2.2.2.2.1 ih.2.2.2.2.2,ajp k0 (aaD k0 k) ih.1 ih.2.1 ih.2.2.1 ih.2.2.2.1 ih.2.2.2.2.1 ih.2.2.2.2.2,ajb k0 (aaD k0 k) ih.1 ih.2.1 ih.2.2.1 ih.2.2.2.1 ih.2.2.2.2.1 ih.2.2.2.2.2,akx k0 (aaD k0 k) ih.1 ih.2.1 ih.2.2.1 ih.2.2.2.1 ih.2.2.2.2.1 ih.2.2.2.2.2,ajf k0 (aaD k0 k) ih.1 ih.2.1 ih.2.2.1 ih.2.2.2.1 ih.2.2.2.2.1 ih.2.2.2.2.2,ajv k0 (aaD k0 k) ih.1 ih.2.1 ih.2.2.1 ih.2.2.2.1 ih.2.2.2.2.1 ih.2.2.2.2.2⟩
theorem auq(k:Nat):abY (f134 k):=(adv k k).1
theorem awm(k:Nat):aba (f1016212 k):=(adv k k).2.1
theorem awf(k:Nat):aa9 (f1016220 k):=(adv k k).2.2.1
theorem avm(k:Nat):aa5 (f1016266 k):=(adv k k).2.2.2.1
theorem avw(k:Nat):aaZ (f1016420 k):=(adv k k).2.2.2.2.1
theorem avv(k:Nat):aa6 (f1016466 k):=(adv k k).2.2.2.2.2
theorem auS(k:Nat):alZ (f104 k):=by
 intro K wi dj fG dk fH r_ h hG dl dm dn;obtain⟨a3⟩:=dj;obtain⟨a4,c1,rfl,dp⟩:=aad.open dl;obtain⟨d,q,e,f,u,g⟩:=dk;obtain⟨N,O,v,x,rfl,bJ,a5,bK⟩:=aak.open dm;refine en 67 Tryz.func104 rfl ?_;unfold f104 at h;refine gI 12 [0,2,1,0,1,6] [[sE,nS,iI 0,vN,iI 0,nS]] dn (fun S B bL dq=>mkm dq (fun a6 dr=>gR 1 [173] [] dr (fun U ds=>?_)));have dt:=axc ds;obtain⟨du,dv⟩:=dt.oneM (akt (kv:=kS) (R:=VInt));refine bld (cells:=#[sl a4 a3 c1,.string d,sl N q O,iI e,.bool f,iI u,sl v g x,nS,.slice (some ⟨zz a6,0,none⟩) [([]:List (BA×Int))].length 1,iI 0]) (vs:=[(0,.agg #[sl a4 a3 c1]),(1,.agg<|aF d N q O e f u v g x),(3,.slice (some ⟨zz a6,0,none⟩) [([]:List (BA×Int))].length 1)]) rfl (fun w=>by kernel_rfl)<|gR 14 [1,4] [] du (fun fI dw=>?_);have b3:=dw.row_ (zz wi) 9 1;refine wl b3 (fun j m g_=>∃b4 r C,∃(an:Nat),∃V ao ap W X aq ar au av aw Y ax ay l Z ab az o ac ad aA aB,g_=C.length∧j b4 [3,4,6,20,21] [(22,iI (an:Int))]∧KH.sub K r∧m r [] [.box (zz wi) (zz S) (aF d N q O e f u v g x) 52,.box (zz wi) (zz B) zF.toArray 52,.box (zz wi) (zz U) (aR ao V ap W aq X ar au av aw ax Y ay Z l ab ac o ad aB) 176,eW (zz wi) Z l ab 9 1 az,eK (zz wi) ac o ad 173 aA]∧q.drop an=C∧tF r ao ap V∧W.size≤mB∧tP r aq ar X∧tS r ax ay Y∧Reps RStr 1 l az∧l.length*16≤mB∧StkR kS VInt o aA∧o.length*8≤mB∧acD k d q e f g C an V W X au av aw Y l o aB=some r_) q.length ?_ ?_
 ·exact⟨_,K,q,0,a3,a4,c1,d,q,N,O,e,f,u,g,v,x,([]:LB),none,0,[],[([]:List (BA×Int))],some ⟨zz a6,0,none⟩,1,[(zz bL,#[],0)],0,rfl,fK,kr,b3.sel [4,3,1,0,2],List.drop_zero,dp,bJ,a5,bK,abo (R:=RStr) (size:=1),(by simp),dv,(by decide),h⟩
 ·rintro _ _ dx⟨b4,r,C,an,V,ao,ap,W,X,aq,ar,au,av,aw,Y,ax,ay,l,Z,ab,az,o,ac,ad,aA,aB,rfl,rfl,s,aG,hh⟩;obtain⟨aH,b5,b6,b7,b8,b9,cb,cc,ce,h⟩:=hh;rcases C with _|⟨⟨dy,dz⟩,C⟩
  ·refine gd 2<|cNl aH<|gP 13 [1,1] aG<|cB h (fun _ dA=>(arh k) dA (hG.mono s) (mp a5 s)<|pt aG) ?_;rintro ae _ fJ⟨bM,aI,aK,rfl,z,cf⟩ h;have dB:=ca z aG;refine gR 19 [1,0,5,1] [] dB (fun fL dC=>?_);have ch:=dC.row_ (zz wi) 62 11;refine wl ch (fun j m g_=>∃ci p D,∃(aL:Nat),∃aM a7 a8 aN aP a9 ba bb bd be aT bf bg a G I af t aU aV bh bi b ai aj ak,g_=D.length∧j ci [3,4,6,36,37] [(9,sl ai b aj),(38,iI (aL:Int))]∧KH.sub bM p∧m p [] [.box (zz wi) (zz S) (aF d aI ae aK e f u v g x) 52,.box (zz wi) (zz B) zF.toArray 52,.box (zz wi) (zz U) (aR a7 aM a8 aN a9 aP ba bb bd be bf aT bg G a I aU t aV bi) 176,eW (zz wi) G a I 9 1 af,eK (zz wi) aU t aV 173 bh,eW (zz wi) ai b aj 62 11 ak]∧g.drop aL=D∧tF p a7 a8 aM∧aN.size≤mB∧tP p a9 ba aP∧tS p bf bg aT∧Reps RStr 1 a af∧a.length*16≤mB∧StkR kS VInt t bh∧t.length*8≤mB∧Reps (aag p) 11 b ak∧b.length*184≤mB∧afS k d e f ae D aL aM aN aP bb bd be aT a t bi b=some r_) g.length ?_ ?_
   ·exact⟨_,bM,g,0,V,ao,ap,W,X,aq,ar,au,av,aw,Y,ax,ay,l,Z,ab,az,o,ac,ad,aA,aB,([]:LS),none,0,[],rfl,fK,kr,ch.sel [1,2,3,4,5,0],List.drop_zero,mf b5 z.sub,b6,mp b7 z.sub,ms b8 z.sub,b9.mono (fun _ _ h=>h),cb,StkR.mono (fun _ _ h=>h) cc,ce,abo (R:=(aag bM)) (size:=11),(by simp),h⟩
   ·rintro _ _ cj⟨ci,p,D,aL,aM,a7,a8,aN,aP,a9,ba,bb,bd,be,aT,bf,bg,a,G,I,af,t,aU,aV,bh,bi,b,ai,aj,ak,hh⟩;obtain⟨rfl,rfl,J,bP,aW,dD,dE,dF,dG,bQ,bR,dH,dI,bS,ck,h⟩:=hh;rcases D with _|⟨⟨cl,cm,cn,co,cq,cr,cs,ct,cu,cw,cx⟩,D⟩
    ·refine gd 2<|cNl aW<|gR 32 [5,0,7,3,4,0,4,1] [] bP (fun fM fN bT=>cX h (fun _ dJ=>(adf k) dJ (gm hG bT)<|pt bT) ?_ ?_)
     ·rintro _ _ fO⟨bj,rfl,rfl,aX⟩ h;have cy:=ca aX bT;refine go 2<|wk cy (fun j m=>∃cz al am bk bm aY aZ a2 y bn bo bU A bp bq bV,j cz [4] [(5,sl bp A bq)]∧m bj [] [.box (zz wi) (zz B) (aF al bk am bm aY aZ a2 bn y bo) 52,eW (zz wi) bn y bo 62 11 bU,eW (zz wi) bp A bq 9 1 bV]∧al.size≤mB∧tP bj bk bm am∧Reps (aag bj) 11 y bU∧y.length*184≤mB∧Reps RStr 1 A bV∧A.length*16≤mB∧amr k al am aY aZ a2 y A=some r_) ?_ ?_
      ·refine rB [5] cy (fun br dK=>ah 4 [0,0,0,6,1,2,3,7] dK<|an2 (i:=4) (j:=5) ?_ ?_)
       ·exact opQ (i:=4) rfl<|gP 3 [3] br<|wB (fq [0,1,2,3,4,5] br) (fun fP=>aQ 5 rfl<|gR 3 [1] [] br (fun fQ dL=>⟨hE 5,ag 1 [6] (hE 5)<|aD<|gx 1 ⟨_,d,ae,aI,aK,e,f,(a.length:Int),b,ai,aj,ak,a,G,I,af,fK,dL.sel [1,5,3],bJ,mp cf<|J.trans aX.sub,bS.mono (fun _ _ h=>aag.mono aX.sub h),ck,bQ.mono (fun _ _ h=>h),bR,h⟩⟩))
       ·exact opQ (i:=5) rfl<|gR 3 [1] [] br (fun fS cA=>⟨hE 5,aQ 4 rfl<|gP 3 [3] cA ⟨hE 5,ag 1 [6] (hE 5)<|aD<|gx 1 ⟨_,d,ae,aI,aK,e,f,(a.length:Int),b,ai,aj,ak,a,G,I,af,fK,cA.sel [1,5,3],bJ,mp cf<|J.trans aX.sub,bS.mono (fun _ _ h=>aag.mono aX.sub h),ck,bQ.mono (fun _ _ h=>h),bR,h⟩⟩⟩)
      ·rintro _ fT⟨cz,al,am,bk,bm,aY,aZ,a2,y,bn,bo,bU,A,bp,bq,bV,rfl,cC,dM,dN,dO,dP,dQ,dR,h⟩;refine gd 1 ?_;obtain⟨fU,dS,dT,dU⟩:=abD (i:=1) (bytes:=184) (R:=fun K=>(aag K)) cC rfl (Nat.le_refl _) dO dP (fun hs=>(fun _ _ h=>aag.mono hs h));obtain⟨dV,dW,cD,dX⟩:=abD (i:=1) (bytes:=16) (R:=fun K=>RStr) dS rfl (Nat.le_refl _) (dQ.mono (fun _ _ h=>h)) dR (fun hs=>(fun _ _ h=>h));exact retP<|aby rfl (rNl 0 cC rfl) (resT rfl) ⟨aab.mk al am aY aZ a2 y,A,dV,vF al bk am bm aY aZ a2 bn y bo,bp,bq,(oi h).symm,rfl,dW.sel [],aak.intro dM (mp dN<|dT.trans cD)<|ms dU cD,dX⟩
     ·rintro _ _ fV⟨dY,dZ,rfl,rfl,d0⟩ h;have d1:=ca d0 bT;exact pX<|panE<|.inr ⟨_,rfl,dY,dZ,(oi h).symm,rfl,d1.sel []⟩
    ·refine gd 2<|cCl aW<|go 10<|eN bP (ms bK<|(s.trans z.sub).trans J) aW aag.open ?_;rintro fW fX fY fZ f0 f1⟨cG,cH,cI,cJ,cK,cL,cM,cN,cO,cP,rfl,d2,d3,d4,d5,d6,d7,d8⟩;refine gR 8 [0,0,0,11] [[iI 0,sE,iI 0,sE,iI 0,iI 0,nS,nS,nS,nS,nS]] bP (fun f2 d9 cQ=>?_);have bW:=atx cQ;refine cX h (fun _ ea=>(auq k) ea (hG.mono<|(s.trans z.sub).trans J) dD dE dF dG bQ bR dH dI (Nat.le_trans (Nat.le_refl _) cQ.size) (aag.intro d2 d3 d4 d5 d6 d7 d8)<|pt bW) ?_ ?_
     ·rintro _ _ ec⟨cR,cS,cU,cV,cW,cY,cZ,bs,bu,c2,⟨bv,bw,bx,bz,bB,bD,bE,bF,bG,bH,bI⟩,c3,c4,c6,c7,c9,da,db,bX,bY,dc,bZ,b0,dd,f3,rfl,rfl,b1,ed,ee,hh⟩ h;obtain⟨ef,eg,eh,ei,ej,ek,el⟩:=hh;have em:=ca b1 bW;obtain⟨eo,ep,eq,es,et,eu,ew,ex,ey,ez,rfl,eC,eD,eF,eH,eI,eJ,eL⟩:=aag.open el;refine gR 8 [0,0,0,11,62] [[iI 0,sE,iI 0,sE,iI 0,iI 0,nS,nS,nS,nS,nS]] em (fun f4 f5 f7 eM=>aJ h 8 0 eM rfl rfl (bS.mono (fun _ _ h=>aag.mono b1.sub h)) (aag.intro eC eD eF eH eI eJ eL) ?_);rintro de df dg eO eP eQ eR h;have eS:=arJ eP;exact go 5<|iCl aW ((ms bK<|(s.trans z.sub).trans J).len)<|go 3 ⟨_,Nat.lt_succ_self _,_,c3,D,aL+1,cR,c4,c6,cS,cU,c7,c9,cV,cW,cY,cZ,da,db,bs,bX,bY,dc,bu,bZ,b0,dd,c2,b++[(aae.mk bv bw bx bz bB bD bE bF bG bH bI)],de,df,dg,rfl,fK,J.trans b1.sub,eS.sel [5,6,1,2,3,7],aac aW,ed,ee,ef,eg,eh,ei,ej,ek,eQ,aav eR,h⟩
     ·rintro _ _ ga⟨eT,eU,rfl,rfl,eV⟩ h;have eX:=ca eV bW;exact pX<|panE<|.inr ⟨_,rfl,eT,eU,(oi h).symm,rfl,eX.sel []⟩
  ·refine gd 2<|cCl aH<|go 10<|eN aG (mp a5 s) aH aaz.open ?_;rintro gb gc ge gf gg gh⟨rfl,eY⟩;refine gR 8 [0,0,1] [[sE,iI 0]] aG (fun gi eZ dh=>?_);have b2:=amn dh;refine cX h (fun _ e0=>(ahE k) e0 (hG.mono s) b5 b6 b7 b8 b9 cb cc ce (Nat.le_trans (Nat.le_refl _) dh.size) eY<|pt b2) ?_ ?_
   ·rintro _ _ gj⟨e1,e3,e4,e5,e6,e7,e8,e9,fa,fb,gk,fc,fe,ff,fg,fh,fi,fj,fk,fl,fm,fn,fo,fp,rfl,rfl,di,fs,ft,fu,hh⟩ h;obtain⟨fv,fx,fy,fz,fA⟩:=hh;have fB:=ca di b2;exact go 4<|iCl aH ((mp a5 s).len)<|go 3 ⟨_,Nat.lt_succ_self _,_,fc,C,an+1,e1,fe,ff,e3,e4,fg,fh,e5,e6,e7,e8,fi,fj,e9,fk,fl,fm,fa,fn,fo,fp,fb,rfl,fK,s.trans di.sub,fB.sel [4,5,0,1,2],aac aH,fs,ft,fu,fv,fx,fy,fz,fA,h⟩
   ·rintro _ _ gl⟨fC,fD,rfl,rfl,fE⟩ h;have fF:=ca fE b2;exact pX<|panE<|.inr ⟨_,rfl,fC,fD,(oi h).symm,rfl,fF.sel []⟩
set_option maxRecDepth 100000 in
set_option maxHeartbeats 4000000 in
theorem asa(k:Nat)(h78:an7 (f99 k))(h58:ans (f98 k))(h80:afm (aez k))(h82:alZ (f104 k)):ajC (f72 k):=by
 unfold ajC;intro K wi a0 csa0 res_ h hG ha0 S0;obtain⟨fs⟩:=a0;obtain⟨A,c,rfl,hrow⟩:=aad.open ha0;refine ak8 Tryz.func72 rfl (m:=66) rfl ?_;unfold f72 at h;dsimp only at h;refine acf ?_;refine ac8<|wp_region_lit ?_;refine bxoC (cs:=#[.slice A fs.length c]) S0 rfl rfl ?_;intro w1 S1;refine alcC (z:=.agg #[.slice none 0 0]) (cs:=#[.slice none 0 0]) S1 (by kernel_rfl) rfl ?_;intro w2 S2;refine asg (v:=.slice none 0 0) rfl ?_;refine wpList_nil ?_;refine aaG ?_;refine aqG ?_;refine acf ?_;refine ac8<|wp_region_lit ?_;refine lbN (i:=1) (l:=[.slice A fs.length c]) S2 rfl (by kernel_rfl) (show aaF Tryz.prog 24=some 1 by kernel_rfl) rfl rfl rfl ?_;obtain⟨ok,hq1,h⟩:=Option.bind_eq_some_iff.1 h;refine clV (caps:=#[]) (vs:=[.agg #[.slice A fs.length c],.bool false]) rfl (by kernel_rfl) rfl (h78 hq1 hG ha0<|S2.part []<|List.sublist_append_left _ _) ?_;rintro _ w3⟨K3,rfl,T3⟩;have S3:=S2.call (H1:=[]) T3;obtain⟨q2,hq2,h⟩:=Option.bind_eq_some_iff.1 h;refine clP (caps:=#[]) (vs:=[.bool ok,.int .i64 2]) rfl (by kernel_rfl) rfl (h58 hq2 (hG.mono S3.sub)<|S3.part []<|List.sublist_append_left _ _) ?_ ?_
 rotate_left
 ·rintro _ w4⟨c4,K4,rfl,rfl,T4⟩;have S4:=S3.call (H1:=[]) T4;refine amQ ?_;exact .inr ⟨_,rfl,c4,K4,(Option.some.inj h).symm,rfl,S4.sel []⟩
 rintro _ w4⟨K4,rfl,rfl,T4⟩;have S4:=S3.call (H1:=[]) T4;dsimp only at h;refine wpList_nil ?_;refine aaG ?_;refine acf ?_;refine acf ?_;refine ac8<|wp_region_lit ?_;refine lbN (i:=1) (l:=[.slice A fs.length c]) S4 rfl (by kernel_rfl) (show aaF Tryz.prog 24=some 1 by kernel_rfl) rfl rfl rfl ?_;refine clV (caps:=#[]) (vs:=[.agg #[.slice A fs.length c]]) rfl (by kernel_rfl) rfl (aki S4) ?_;rintro _ w5⟨b5,rfl,S5⟩;refine wpList_nil ?_;refine aaG ?_;refine agZ ?_;obtain⟨r1,hq3,h⟩:=Option.bind_eq_some_iff.1 h;have hr4:tF K4 A c fs:=hrow.mono S4.sub (fun _ _ h=>aak.mono S4.sub h);obtain⟨HH,hHH⟩ : ∃HH:Ents,HH=[.raw (zz wi) (zz w5) (.deferred (some [])),.box (zz wi) (zz w1) #[.slice none 0 0] 24,.box (zz wi) (zz wi) #[.slice A fs.length c] 24]:=⟨_,rfl⟩;show wpF _ _ _ _ (wd (fr 66 _) []) _;refine ahN (D:=[]) (Pi:=fun i _ H'=>H'=HH∧agw k fs (fs.drop i) i=some r1) (Px:=fun _ _ _=>False) (Pp:=fun v _ H'=>H'=[.raw (zz wi) (zz w5) (.deferred<|some [])]∧∃c,r1=.error c∧v=.iface 140 (.agg #[.int .i64 c]))
  (fun i x K1 H1 σ1=>∃(bf:Nat) (x0:ByteArray) (x1:List aat) (x2:Int) (x3:Bool) (x4:Int) (x5:List aae) (A1:Option Addr) (c1:Nat) (A2:Option Addr) (c2:Nat),x=.mk x0 x1 x2 x3 x4 x5∧H1=.box (zz wi) bf #[.string x0,.slice A1 x1.length c1,.int .i64 x2,.bool x3,.int .i64 x4,.slice A2 x5.length c2] 52::HH ∧
   x0.size≤mB∧tP K1 A1 c1 x1∧tS K1 A2 c2 x5∧σ1 4=.pointer (some ⟨bf,0,none⟩)∧σ1 5=.slice A i c∧agw k fs (fs.drop i) i=some r1)
  Tryz.func72 S5 hr4 rfl ⟨hHH.symm,hq3⟩ ?_ ?_ ?_ ?_ ?_
 ·rintro l o i x cs K6 H6 w6 hs6 S6⟨rfl,hl1⟩ hx hR;refine wpIn_seq ?_;refine aea rfl ?_;refine alcC (z:=.agg #[.string ⟨#[]⟩,.slice none 0 0,.int .i64 0,.bool false,.int .i64 0,.slice none 0 0]) (cs:=#[.string ⟨#[]⟩,.slice none 0 0,.int .i64 0,.bool false,.int .i64 0,.slice none 0 0]) S6 (by kernel_rfl) rfl ?_;intro w7 S7;obtain⟨x0,x1,x2,x3,x4,x5⟩:=x;obtain⟨A1,c1,A2,c2,rfl,hz,hra,hrb⟩:=aak.open hR;refine stoI (i:=0) (v:=.agg #[.string x0,.slice A1 x1.length c1,.int .i64 x2,.bool x3,.int .i64 x4,.slice A2 x5.length c2]) (cs':=#[.string x0,.slice A1 x1.length c1,.int .i64 x2,.bool x3,.int .i64 x4,.slice A2 x5.length c2]) S7 rfl (show aaF Tryz.prog 52=some 6 by kernel_rfl) rfl rfl rfl rfl (Nat.le_of_ble_eq_true rfl) rfl ?_;intro w8 S8;refine wpList_nil<|QLn0 ?_;refine aaG ?_;refine aea rfl ?_;refine asg (v:=.slice A i c) rfl ?_;refine wpList_nil<|QLn0 ?_;refine aaG ?_;exact⟨K6,_,_,rfl,hs6,S8.rot3,zz w6,x0,x1,x2,x3,x4,x5,A1,c1,A2,c2,rfl,rfl,hz,hra,hrb,rfl,rfl,hl1⟩
 ·rintro l o i x K6 H6 σ1 w6 hs6 S6⟨bf,x0,x1,x2,x3,x4,x5,A1,c1,A2,c2,rfl,rfl,hz,hra,hrb,hσ4,hσ5,hl1⟩ hx;have hlt:i<fs.length:=(List.getElem?_eq_some_iff.1 hx).1;have hdr:fs.drop i=.mk x0 x1 x2 x3 x4 x5::fs.drop (i+1):=by rw[List.drop_eq_getElem_cons hlt];congr 1;exact (List.getElem?_eq_some_iff.1 hx).2
  rw[hdr] at hl1;unfold agw at hl1;obtain⟨b,hqb,hl1⟩:=Option.bind_eq_some_iff.1 hl1;refine wpIn_block ?_;refine aea rfl ?_;have hti:(fs.take i).length=i:=by simp;omega
  refine mv (v:=.slice A (fs.take i).length c) (by rw[hti];exact hσ5) ?_;refine mkf (us:=[]) (vs:=[.pointer (some ⟨bf,0,none⟩)]) rfl (by simp only[List.map];exact congrArg (·::[]) hσ4) ?_;have S7:=S6.rot3';refine clV (caps:=#[]) (vs:=[.slice A (fs.take i).length c,.func (.func 103) #[] #[.pointer (some ⟨bf,0,none⟩)]]) rfl (by kernel_rfl) rfl (h80 hqb (hG.mono<|S4.sub.trans hs6) ((hr4.take i).mono hs6 (fun _ _ h=>aak.mono hs6 h)) hz hra hrb<|S7.part [.box (zz wi) bf #[.string x0,.slice A1 x1.length c1,.int .i64 x2,.bool x3,.int .i64 x4,.slice A2 x5.length c2] 52]<|List.Sublist.cons_cons _<|List.nil_sublist _) ?_;rintro _ w8⟨K8,rfl,T8⟩;have S8:=Sx.call (H1:=[_]) S7 T8;refine unot (a:=b) rfl ?_;obtain⟨q4,hq4,hl1⟩:=Option.bind_eq_some_iff.1 hl1;refine clP (caps:=#[]) (vs:=[.bool (!b),.int .i64 21]) rfl (by kernel_rfl) rfl (h58 hq4 (hG.mono<|(S4.sub.trans hs6).trans T8.sub)<|S8.part []<|List.nil_sublist _) ?_ ?_
  ·rintro _ w9⟨K9,rfl,rfl,T9⟩;have S9:=Sx.call (H1:=[]) S8 T9;refine wpList_nil<|QLn0 ?_;refine blkN ?_;exact⟨K9,HH,(hs6.trans T8.sub).trans T9.sub,S9.drop<|List.sublist_cons_self _ _,rfl,hl1⟩
  ·rintro _ w9⟨c9,K9,rfl,rfl,T9⟩;have S9:=Sx.call (H1:=[]) S8 T9;refine QLp0 ?_;refine blkP ?_;subst hHH;exact⟨rfl,_,rfl,K9,_,S9.sel [3],rfl,c9,(Option.some.inj hl1).symm,rfl⟩
 rotate_left
 ·rintro c' w6 K6 H6 hs6 S6 h;exact h.elim
 ·rintro v w6 K6 H6 S6⟨rfl,c6,rfl,rfl⟩;refine blkP ?_;refine amQ ?_;refine abP (A:=[]) (B:=[]) (by simp) S6 ?_;intro w7 S7;exact .inr ⟨_,rfl,c6,K6,(Option.some.inj h).symm,rfl,S7⟩
 rintro w6 K6 H6 hs6 S6⟨rfl,hl1⟩;rw[List.drop_length] at hl1;unfold agw at hl1;obtain rfl:=Option.some.inj hl1;dsimp only at h;subst hHH;refine blkN ?_;refine aaG ?_;obtain⟨q5,hq5,h⟩:=Option.bind_eq_some_iff.1 h;refine acf ?_;refine ac8<|regD rfl ?_;refine alcC (z:=.int .i64 0) (cs:=#[.int .i64 0]) S6 (by kernel_rfl) rfl ?_;intro w7 S7;refine stoI (i:=0) (v:=.int .i64 20) (cs':=#[.int .i64 20]) S7 rfl (show aaF Tryz.prog 27=some 1 by kernel_rfl) rfl rfl rfl rfl (Nat.le_of_ble_eq_true rfl) rfl ?_;intro w8 S8;refine wpList_nil<|QLn ?_;refine aaG ?_;refine acf ?_;refine ac8<|wp_label ?_;refine aaG ?_;refine acf ?_;refine acf ?_;refine ac8<|regD rfl ?_;refine lbN (i:=3) (l:=[.slice A fs.length c]) S8 rfl (by kernel_rfl) (show aaF Tryz.prog 24=some 1 by kernel_rfl) rfl rfl rfl ?_;refine clV (caps:=#[]) (vs:=[.agg #[.slice A fs.length c]]) rfl (by kernel_rfl) rfl (aki S8) ?_;rintro _ w9⟨b9,rfl,S9⟩;refine wpList_nil<|QLn ?_;refine aaG ?_;refine agZ ?_;have hr6:tF K6 A c fs:=hr4.mono hs6 (fun _ _ h=>aak.mono hs6 h);obtain⟨HF,hHF⟩ : ∃HF:Int→Ents,HF=fun x=>[.raw (zz wi) (zz w9) (.deferred (some [])),.box (zz wi) (zz w6) #[.int .i64 x] 27,.raw (zz wi) (zz w5) (.deferred (some [])),.box (zz wi) (zz w1) #[.slice none 0 0] 24,.box (zz wi) (zz wi) #[.slice A fs.length c] 24]:=⟨_,rfl⟩
 refine atj (D':=[mark (zz w9),mark (zz w5)]) (A:=fun w10 K10=>K6.sub K10∧Sx K K10 wi w10 (fun b=>b∈Ents.blks []) (HF<|abH fs)) ?_ (fun hgo=>?_)
 rotate_left
 refine ahN (Pi:=fun i _ H'=>H'=HF 20∧abH fs=abH (fs.drop i)) (Px:=fun c' _ H'=>c'=.exit 2∧H'=HF (abH fs)) (Pp:=fun _ _ _=>False)
  (fun i x K1 H1 σ1=>∃(bf:Nat) (x0:ByteArray) (x1:List aat) (x2:Int) (x3:Bool) (x4:Int) (x5:List aae) (A1:Option Addr) (c1:Nat) (A2:Option Addr) (c2:Nat),x=.mk x0 x1 x2 x3 x4 x5∧H1=.box (zz wi) bf #[.string x0,.slice A1 x1.length c1,.int .i64 x2,.bool x3,.int .i64 x4,.slice A2 x5.length c2] 52::HF 20 ∧
   σ1 7=.pointer (some ⟨bf,0,none⟩)∧σ1 6=.pointer (some ⟨(zz w6),0,none⟩)∧abH fs=abH (fs.drop i))
  Tryz.func72 S9 hr6 rfl ⟨(by subst hHF;rfl),by rw[List.drop_zero]⟩ ?_ ?_ ?_ ?_ ?_
 ·rintro l o i x cs K10 H10 w10 hs10 S10⟨rfl,hl2⟩ hx hR;refine aea rfl ?_;refine alcC (z:=.agg #[.string ⟨#[]⟩,.slice none 0 0,.int .i64 0,.bool false,.int .i64 0,.slice none 0 0]) (cs:=#[.string ⟨#[]⟩,.slice none 0 0,.int .i64 0,.bool false,.int .i64 0,.slice none 0 0]) S10 (by kernel_rfl) rfl ?_;intro w11 S11;obtain⟨x0,x1,x2,x3,x4,x5⟩:=x;obtain⟨A1,c1,A2,c2,rfl,hz,hra,hrb⟩:=aak.open hR;refine stoI (i:=0) (v:=.agg #[.string x0,.slice A1 x1.length c1,.int .i64 x2,.bool x3,.int .i64 x4,.slice A2 x5.length c2]) (cs':=#[.string x0,.slice A1 x1.length c1,.int .i64 x2,.bool x3,.int .i64 x4,.slice A2 x5.length c2]) S11 rfl (show aaF Tryz.prog 52=some 6 by kernel_rfl) rfl rfl rfl rfl (Nat.le_of_ble_eq_true rfl) rfl ?_;intro w12 S12;refine wpList_nil<|QLn0 ?_;refine aaG ?_;exact⟨K10,_,_,rfl,hs10,S12.rot3,zz w10,x0,x1,x2,x3,x4,x5,A1,c1,A2,c2,rfl,rfl,rfl,rfl,hl2⟩
 ·rintro l o i x K10 H10 σ1 w10 hs10 S10⟨bf,x0,x1,x2,x3,x4,x5,A1,c1,A2,c2,rfl,rfl,hσ7,hσ6,hl2⟩ hx;have hlt:i<fs.length:=(List.getElem?_eq_some_iff.1 hx).1;have hdr:fs.drop i=.mk x0 x1 x2 x3 x4 x5::fs.drop (i+1):=by rw[List.drop_eq_getElem_cons hlt];congr 1;exact (List.getElem?_eq_some_iff.1 hx).2
  have hl3:abH fs=cond (!(seq x0 ⟨#[109,97,105,110]⟩)) (abH (fs.drop (i+1))) (cond x3 25 (cond (decide ((x1.length:Int)>0)) 24 0)):=by rw[hl2,hdr];rfl
  clear hl2;have hdropx : ∀{K:KH} {w:World} {a b x:Ent} {H:Ents},Sx K K10 wi w (fun b=>b∈Ents.blks []) (a::b::x::H)→Sx K K10 wi w (fun b=>b∈Ents.blks []) (a::b::H):=fun S=>S.drop (List.Sublist.cons_cons _ (List.Sublist.cons_cons _ (List.sublist_cons_self _ _)))
  refine wpIn_block ?_;refine wpIn_seq ?_;refine wpIn_seq ?_;refine aea rfl ?_;refine fld (s:=52) (f:=0) (off:=0) (o':=0) (by kernel_rfl) hσ7 rfl ?_;refine lb1 (i:=2) (v:=.string x0) S10 rfl (by kernel_rfl) rfl rfl ?_;refine bsc (r:=!(seq x0 ⟨#[109,97,105,110]⟩)) rfl rfl rfl ?_;refine wpList_nil<|QLn0 ?_;refine aaG ?_;rcases hmain:seq x0 ⟨#[109,97,105,110]⟩ with _|_
  ·rw[hmain] at hl3;refine ara rfl ?_;refine wpIn_exit ?_;refine aut ?_;refine blkX ?_;exact⟨K10,_,hs10,hdropx S10,rfl,hl3⟩
  ·rw[hmain] at hl3;refine apn rfl ?_;refine wpIn_skip ?_;refine aaG ?_;refine wpIn_seq ?_;subst hHF;refine wpIn_block ?_;refine wpIn_seq ?_;refine aea rfl ?_;refine fld (s:=52) (f:=3) (off:=3) (o':=3) (by kernel_rfl) hσ7 rfl ?_;refine lb1 (i:=2) (v:=.bool x3) S10 rfl (by kernel_rfl) rfl rfl ?_;refine asg (v:=.bool x3) rfl ?_;refine wpList_nil<|QLn0 ?_;refine aaG ?_;rcases x3 with _|_
   ·refine apn rfl ?_;refine wpIn_seq ?_;refine aea rfl ?_;refine fld (s:=52) (f:=1) (off:=1) (o':=1) (by kernel_rfl) hσ7 rfl ?_;refine lb1 (i:=2) (v:=.slice A1 x1.length c1) S10 rfl (by kernel_rfl) rfl rfl ?_;refine lnS (len:=x1.length) (e:=70) (by kernel_rfl) rfl ?_;refine bcm (r:=decide ((x1.length:Int)>0)) rfl rfl rfl ?_;refine asg (v:=.bool (decide<|(x1.length:Int)>0)) rfl ?_;refine wpList_nil<|QLn0 ?_;refine aaG ?_;rcases hd:decide ((x1.length:Int)>0) with _|_
    ·rw[hd] at hl3;refine apn rfl ?_;refine aea rfl ?_;refine stoI (i:=4) (v:=.int .i64 0) (cs':=#[.int .i64 0]) S10 rfl (show aaF Tryz.prog 27=some 1 by kernel_rfl) hσ6 rfl rfl rfl (Nat.le_of_ble_eq_true rfl) rfl ?_;intro w11 S11;refine wpList_nil<|QLn0 ?_;refine blkN ?_;refine aaG ?_;refine wpIn_exit ?_;refine blkO (by decide) ?_;exact⟨K10,_,hs10,hdropx S11,rfl,by rw[hl3];rfl⟩
    ·rw[hd] at hl3;refine ara rfl ?_;refine aea rfl ?_;refine stoI (i:=4) (v:=.int .i64 24) (cs':=#[.int .i64 24]) S10 rfl (show aaF Tryz.prog 27=some 1 by kernel_rfl) hσ6 rfl rfl rfl (Nat.le_of_ble_eq_true rfl) rfl ?_;intro w11 S11;refine wpList_nil<|QLn0 ?_;refine blkN ?_;refine aaG ?_;refine wpIn_exit ?_;refine blkO (by decide) ?_;exact⟨K10,_,hs10,hdropx S11,rfl,by rw[hl3];rfl⟩
   ·refine ara rfl ?_;refine aea rfl ?_;refine stoI (i:=4) (v:=.int .i64 25) (cs':=#[.int .i64 25]) S10 rfl (show aaF Tryz.prog 27=some 1 by kernel_rfl) hσ6 rfl rfl rfl (Nat.le_of_ble_eq_true rfl) rfl ?_;intro w11 S11;refine wpList_nil<|QLn0 ?_;refine blkN ?_;refine aaG ?_;refine wpIn_exit ?_;refine blkO (by decide) ?_;exact⟨K10,_,hs10,hdropx S11,rfl,by rw[hl3];rfl⟩
 ·rintro w10 K10 H10 hs10 S10⟨rfl,hl2⟩;refine hgo w10 K10 ⟨hs10,?_⟩;rw[hl2,List.drop_length];exact S10
 ·rintro c' w10 K10 H10 hs10 S10⟨rfl,rfl⟩;refine ac8<|wp_exit ?_;refine blkX ?_;exact hgo w10 K10 ⟨hs10,S10⟩
 ·rintro v w10 K10 H10 S10 h;exact h.elim
 rintro w10 K10⟨hs10,S10⟩;subst hHF;obtain⟨y,hy⟩ : ∃y,y=abH fs:=⟨_,rfl⟩;rw[←hy] at hq5 S10;have hs410:=hs6.trans hs10;refine acf ?_;refine ac8<|regD rfl ?_;refine lb1 (i:=1) (v:=.int .i64 y) S10 rfl (by kernel_rfl) rfl rfl ?_;refine bcm (r:=decide (y=0)) rfl rfl rfl ?_;refine lb1 (i:=1) (v:=.int .i64 y) S10 rfl (by kernel_rfl) rfl rfl ?_;refine clP (caps:=#[]) (vs:=[.bool (decide<|y=0),.int .i64 y]) rfl (by kernel_rfl) rfl (h58 hq5 (hG.mono<|S4.sub.trans hs410)<|S10.part []<|List.nil_sublist _) ?_ ?_
 rotate_left
 ·rintro _ w11⟨c11,K11,rfl,rfl,T11⟩;have S11:=Sx.call (H1:=[]) S10 T11;refine QLp ?_;refine amQ ?_;refine abP (A:=[]) (by simp) S11 ?_;intro w12 S12;refine abP (A:=[_]) (by simp) S12 ?_;intro w13 S13;exact .inr ⟨_,rfl,c11,K11,(Option.some.inj h).symm,rfl,S13.sel []⟩
 rintro _ w11⟨K11,rfl,rfl,T11⟩;have S11:=Sx.call (H1:=[]) S10 T11;dsimp only at h;have hs411:=hs410.trans T11.sub;refine wpList_nil<|QLn ?_;refine aaG ?_;refine acf ?_;refine ac8<|regD rfl ?_;refine alcC (z:=.agg #[.slice none 0 0]) (cs:=#[.slice none 0 0]) S11 (by kernel_rfl) rfl ?_;intro w12 S12;refine wpList_nil<|QLn ?_;refine aaG ?_;refine acf ?_;refine ac8<|regD rfl ?_;refine alcC (z:=.slice none 0 0) (cs:=#[.slice none 0 0]) S12 (by kernel_rfl) rfl ?_;intro w13 S13;refine wpList_nil<|QLn ?_;refine aaG ?_;refine acf ?_;refine acf ?_;refine ac8<|regD rfl ?_;have S14:=(S13.row_ (zz wi) 52 6).row_ (zz wi) 107 1;refine lbN (i:=8) (l:=[.slice A fs.length c]) S14 rfl (by kernel_rfl) (show aaF Tryz.prog 24=some 1 by kernel_rfl) rfl rfl rfl ?_;refine clV (caps:=#[]) (vs:=[.agg #[.slice A fs.length c]]) rfl (by kernel_rfl) rfl (aki S14) ?_;rintro _ w15⟨b15,rfl,S15⟩;refine wpList_nil<|QLn ?_;refine aaG ?_;refine agZ ?_;have hr11:tF K11 A c fs:=hr4.mono hs411 (fun _ _ h=>aak.mono hs411 h);have hlen:=hr11.len;obtain⟨HT,hHT⟩ : ∃HT:List aab→Option Addr→Nat→List Value→List (List ByteArray)→Option Addr→Nat→List Value→Ents,HT=fun out A' c' ys' nms A'' c'' ys''=>[.raw (zz wi) (zz w15) (.deferred (some [])),.row (zz wi) (.slice A'' nms.length c'') 107 1 nms.length ys'',.row (zz wi) (.slice A' out.length c') 52 6 out.length ys',
  .box (zz wi) (zz w12) #[.slice A'' nms.length c''] 117,.box (zz wi) (zz w11) #[.slice A' out.length c'] 24,.raw (zz wi) (zz w9) (.deferred (some [])),.box (zz wi) (zz w6) #[.int .i64 y] 27,.raw (zz wi) (zz w5) (.deferred (some [])),.box (zz wi) (zz w1) #[.slice none 0 0] 24,.box (zz wi) (zz wi) #[.slice A fs.length c] 24]:=⟨_,rfl⟩
 refine ahN (Pi:=fun i K' H'=>∃out A' c' ys' nms A'' c'' ys'',out.length=i∧nms.length=i∧H'=HT out A' c' ys' nms A'' c'' ys''∧Reps (aak K') 6 out ys'∧Reps (RSlE ByteArray (fun K=>RStr) 1 16 K') 1 nms ys''∧afH k (.mk fs) (fs.drop i) out nms=some res_) (Px:=fun _ _ _=>False)
  (Pp:=fun v _ H'=>H'=[.raw (zz wi) (zz w15) (.deferred (some [])),.raw (zz wi) (zz w9) (.deferred (some [])),.raw (zz wi) (zz w5) (.deferred (some []))]∧∃c,res_=.error c∧v=.iface 140 (.agg #[.int .i64 c]))
  (fun i x K1 H1 σ1=>∃(bf:Nat) (x0:ByteArray) (x1:List aat) (x2:Int) (x3:Bool) (x4:Int) (x5:List aae) (A1:Option Addr) (c1:Nat) (A2:Option Addr) (c2:Nat) (out:List aab) (A' : Option Addr) (c' : Nat) (ys' : List Value) (nms:List (List ByteArray)) (A'' : Option Addr) (c'' : Nat) (ys'' : List Value),x=.mk x0 x1 x2 x3 x4 x5∧H1=.box (zz wi) bf #[.string x0,.slice A1 x1.length c1,.int .i64 x2,.bool x3,.int .i64 x4,.slice A2 x5.length c2] 52::HT out A' c' ys' nms A'' c'' ys'' ∧
   out.length=i∧nms.length=i∧Reps (aak K1) 6 out ys'∧Reps (RSlE ByteArray (fun K=>RStr) 1 16 K1) 1 nms ys''∧afH k (.mk fs) (fs.drop i) out nms=some res_ ∧
   x0.size≤mB∧tP K1 A1 c1 x1∧tS K1 A2 c2 x5∧σ1 10=.pointer (some ⟨bf,0,none⟩)∧σ1 1=.pointer (some ⟨(zz wi),0,none⟩)∧σ1 8=.pointer (some ⟨(zz w11),0,none⟩)∧σ1 9=.pointer (some ⟨(zz w12),0,none⟩))
  Tryz.func72 S15 hr11 rfl ⟨[],none,0,[],[],none,0,[],rfl,rfl,(by subst hHT;rfl),abo,abo,h⟩ ?_ ?_ ?_ ?_ ?_
 ·rintro l o i x cs K16 H16 w16 hs16 S16⟨out,A',c',ys',nms,A'',c'',ys'',ho,hn,rfl,hro,hrn,hl3⟩ hx hR;refine aea rfl ?_;refine alcC (z:=.agg #[.string ⟨#[]⟩,.slice none 0 0,.int .i64 0,.bool false,.int .i64 0,.slice none 0 0]) (cs:=#[.string ⟨#[]⟩,.slice none 0 0,.int .i64 0,.bool false,.int .i64 0,.slice none 0 0]) S16 (by kernel_rfl) rfl ?_;intro w17 S17;obtain⟨x0,x1,x2,x3,x4,x5⟩:=x;obtain⟨A1,c1,A2,c2,rfl,hz,hra,hrb⟩:=aak.open hR;refine stoI (i:=0) (v:=.agg #[.string x0,.slice A1 x1.length c1,.int .i64 x2,.bool x3,.int .i64 x4,.slice A2 x5.length c2]) (cs':=#[.string x0,.slice A1 x1.length c1,.int .i64 x2,.bool x3,.int .i64 x4,.slice A2 x5.length c2]) S17 rfl (show aaF Tryz.prog 52=some 6 by kernel_rfl) rfl rfl rfl rfl (Nat.le_of_ble_eq_true rfl) rfl ?_;intro w18 S18;refine wpList_nil<|QLn0 ?_;refine aaG ?_;exact⟨K16,_,_,rfl,hs16,S18.rot3,zz w16,x0,x1,x2,x3,x4,x5,A1,c1,A2,c2,out,A',c',ys',nms,A'',c'',ys'',rfl,rfl,ho,hn,hro,hrn,hl3,hz,hra,hrb,rfl,rfl,rfl,rfl⟩
 ·rintro l o i x K16 H16 σ1 w16 hs16 S16⟨bf,x0,x1,x2,x3,x4,x5,A1,c1,A2,c2,out,A',c',ys',nms,A'',c'',ys'',rfl,rfl,ho,hn,hro,hrn,hl3,hz,hra,hrb,hσ10,hσ1,hσ8,hσ9⟩ hx;have hlt:i<fs.length:=(List.getElem?_eq_some_iff.1 hx).1;have hdr:fs.drop i=.mk x0 x1 x2 x3 x4 x5::fs.drop (i+1):=by rw[List.drop_eq_getElem_cons hlt];congr 1;exact (List.getElem?_eq_some_iff.1 hx).2
  rw[hdr] at hl3;unfold afH at hl3;obtain⟨q17,hq17,hl3⟩:=Option.bind_eq_some_iff.1 hl3;have hs1116:=hs411.trans hs16;subst hHT;refine wpIn_block ?_;refine wpIn_seq ?_;refine aea rfl ?_;refine lbN (i:=12) (l:=[.slice A fs.length c]) S16 rfl (by kernel_rfl) (show aaF Tryz.prog 24=some 1 by kernel_rfl) hσ1 rfl rfl ?_;refine lbN (i:=2) (l:=[.string x0,.slice A1 x1.length c1,.int .i64 x2,.bool x3,.int .i64 x4,.slice A2 x5.length c2]) S16 rfl (by kernel_rfl) (show aaF Tryz.prog 52=some 6 by kernel_rfl) hσ10 rfl rfl ?_;refine clP (caps:=#[]) (vs:=[.agg #[.slice A fs.length c],.agg #[.string x0,.slice A1 x1.length c1,.int .i64 x2,.bool x3,.int .i64 x4,.slice A2 x5.length c2]]) rfl (by kernel_rfl) rfl
   (h82 hq17 (hG.mono (S4.sub.trans hs1116)) (aad.intro (hr4.mono hs1116 (fun _ _ h=>aak.mono hs1116 h))) (aak.intro hz hra hrb) (S16.part [] (List.nil_sublist _))) ?_ ?_
  rotate_left
  ·rintro _ w17⟨c17,K17,rfl,rfl,T17⟩;have S17:=Sx.call (H1:=[]) S16 T17;refine QLp0 ?_;refine amQ ?_;refine blkP ?_;exact⟨rfl,_,rfl,K17,_,S17.sel [3,8,10] (by decide),rfl,c17,(Option.some.inj hl3).symm,rfl⟩
  rintro _ w17⟨g,ln,K17,csg,Al,cl,rfl,rfl,T17,hrg,hrl⟩;have S17:=Sx.call (H1:=[]) S16 T17;dsimp only at hl3;obtain⟨g0,g1,g2,g3,g4,g5⟩:=g;obtain⟨Ag1,cg1,Ag2,cg2,rfl,hzg,hrg1,hrg2⟩:=aak.open hrg;refine mv (v:=.tuple #[.agg #[.string g0,.slice Ag1 g1.length cg1,.int .i64 g2,.bool g3,.int .i64 g4,.slice Ag2 g5.length cg2],.slice Al ln.length cl]) rfl ?_;refine ext (v:=.agg #[.string g0,.slice Ag1 g1.length cg1,.int .i64 g2,.bool g3,.int .i64 g4,.slice Ag2 g5.length cg2]) rfl rfl ?_;refine ext (v:=.slice Al ln.length cl) rfl rfl ?_;refine alcC (z:=.agg #[.string ⟨#[]⟩,.slice none 0 0,.int .i64 0,.bool false,.int .i64 0,.slice none 0 0]) (cs:=#[.string ⟨#[]⟩,.slice none 0 0,.int .i64 0,.bool false,.int .i64 0,.slice none 0 0]) S17 (by kernel_rfl) rfl ?_;intro w18 S18;refine stoI (i:=0) (v:=.agg #[.string g0,.slice Ag1 g1.length cg1,.int .i64 g2,.bool g3,.int .i64 g4,.slice Ag2 g5.length cg2]) (cs':=#[.string g0,.slice Ag1 g1.length cg1,.int .i64 g2,.bool g3,.int .i64 g4,.slice Ag2 g5.length cg2]) S18 rfl (show aaF Tryz.prog 52=some 6 by kernel_rfl) rfl rfl rfl rfl (Nat.le_of_ble_eq_true rfl) rfl ?_;intro w19 S19;refine asg (v:=.slice Al ln.length cl) rfl ?_;refine wpList_nil<|QLn0 ?_;refine aaG ?_;refine wpIn_seq ?_;refine aea rfl ?_;refine fld (s:=24) (f:=0) (off:=0) (o':=0) (by kernel_rfl) hσ8 rfl ?_;refine lb1 (i:=8) (v:=.slice A' out.length c') S19 rfl (by kernel_rfl) rfl rfl ?_;refine lbN (i:=0) (l:=[.string g0,.slice Ag1 g1.length cg1,.int .i64 g2,.bool g3,.int .i64 g4,.slice Ag2 g5.length cg2]) S19 rfl (by kernel_rfl) (show aaF Tryz.prog 52=some 6 by kernel_rfl) rfl rfl rfl ?_;refine bsl (e:=52) (cells:=#[.string g0,.slice Ag1 g1.length cg1,.int .i64 g2,.bool g3,.int .i64 g4,.slice Ag2 g5.length cg2]) (vs:=[(0,.agg #[.string g0,.slice Ag1 g1.length cg1,.int .i64 g2,.bool g3,.int .i64 g4,.slice Ag2 g5.length cg2])]) S19 rfl
   (aeZ (show abg Tryz.prog 22=some 52 by kernel_rfl) (show aaF Tryz.prog 52=some 6 by kernel_rfl) (show ad7 Tryz.prog 52=some (.agg #[.string ⟨#[]⟩,.slice none 0 0,.int .i64 0,.bool false,.int .i64 0,.slice none 0 0]) by kernel_rfl) rfl (by decide) (by decide) rfl) ?_
  intro w20 S20;refine apR (R:=(aak K17)) (p:=(aab.mk g0 g1 g2 g3 g4 g5)) (i:=7) (j:=0) (bytes:=88) S20 rfl rfl (show abg Tryz.prog 22=some 52 by kernel_rfl) (show (Tryz.prog.info? 52).map (fun i=>(i.zero,i.size,i.bytes))=some (some<|.agg #[.string ⟨#[]⟩,.slice none 0 0,.int .i64 0,.bool false,.int .i64 0,.slice none 0 0],6,88) by kernel_rfl) rfl (by decide) rfl rfl
   (hro.mono (fun _ _ h=>aak.mono T17.sub h)) (aak.intro hzg hrg1 hrg2) rfl rfl (Nat.le_refl _) (by omega) (by decide) ?_
  intro A21 c21 ys21 w21 S21 hr21;refine fld (s:=24) (f:=0) (off:=0) (o':=0) (by kernel_rfl) hσ8 rfl ?_;refine stoI (i:=9) (v:=.slice A21 (out++[aab.mk g0 g1 g2 g3 g4 g5]).length c21) (cs':=#[.slice A21 (out++[aab.mk g0 g1 g2 g3 g4 g5]).length c21]) S21 rfl (show aaF Tryz.prog 22=some 1 by kernel_rfl) rfl rfl rfl rfl (Nat.le_of_ble_eq_true rfl) rfl ?_;intro w22 S22;refine wpList_nil<|QLn0 ?_;refine aaG ?_;have S23:Sx K K17 wi w22 (fun b=>b∈Ents.blks []) [.raw (zz wi) l (.loop o),.box (zz wi) b15 #[.slice A fs.length c] 24,.raw (zz wi) (zz w15) (.deferred (some [])),.row (zz wi) (.slice A'' nms.length c'') 107 1 nms.length ys'',.row (zz wi) (.slice A21 (out++[aab.mk g0 g1 g2 g3 g4 g5]).length c21) 52 6 (out++[aab.mk g0 g1 g2 g3 g4 g5]).length ys21,
   .box (zz wi) (zz w12) #[.slice A'' nms.length c''] 117,.box (zz wi) (zz w11) #[.slice A21 (out++[aab.mk g0 g1 g2 g3 g4 g5]).length c21] 24,.raw (zz wi) (zz w9) (.deferred (some [])),.box (zz wi) (zz w6) #[.int .i64 y] 27,.raw (zz wi) (zz w5) (.deferred (some [])),.box (zz wi) (zz w1) #[.slice none 0 0] 24,.box (zz wi) (zz wi) #[.slice A fs.length c] 24]:=S22.sel [2,3,5,6,7,8,9,10,11,12,13,14] (by decide)
  refine aea rfl ?_;refine lb1 (i:=5) (v:=.slice A'' nms.length c'') S23 rfl (by kernel_rfl) hσ9 rfl ?_;refine mv (v:=.slice Al ln.length cl) rfl ?_;refine bsl (e:=107) (cells:=#[.slice Al ln.length cl]) (vs:=[(0,.slice Al ln.length cl)]) S23 rfl
   (aeZ (show abg Tryz.prog 117=some 107 by kernel_rfl) (show aaF Tryz.prog 107=some 1 by kernel_rfl) (show ad7 Tryz.prog 107=some (.slice none 0 0) by kernel_rfl) rfl (by decide) (by decide) rfl) ?_
  intro w24 S24;refine apR (R:=(RSlE ByteArray (fun K=>RStr) 1 16 K17)) (p:=ln) (i:=4) (j:=0) (bytes:=24) S24 rfl rfl (show abg Tryz.prog 117=some 107 by kernel_rfl) (show (Tryz.prog.info? 107).map (fun i=>(i.zero,i.size,i.bytes))=some (some<|.slice none 0 0,1,24) by kernel_rfl) rfl (by decide) rfl rfl
   (hrn.mono (fun _ _ h=>RSlE.mono (fun _ _ _ h=>h) T17.sub h)) ⟨Al,cl,rfl,hrl⟩ rfl rfl (Nat.le_refl _) (by omega) (by decide) ?_
  intro A25 c25 ys25 w25 S25 hr25;refine stoI (i:=6) (v:=.slice A25 (nms++[ln]).length c25) (cs':=#[.slice A25 (nms++[ln]).length c25]) S25 rfl (show aaF Tryz.prog 117=some 1 by kernel_rfl) hσ9 rfl rfl rfl (Nat.le_of_ble_eq_true rfl) rfl ?_;intro w26 S26;refine wpList_nil<|QLn0 ?_;refine blkN ?_;exact⟨K17,_,hs16.trans T17.sub,S26.sel [1,2,3,4,5,6,7,8,9,10,11,12] (by decide),out++[aab.mk g0 g1 g2 g3 g4 g5],A21,c21,ys21,nms++[ln],A25,c25,ys25,by simp[ho],by simp[hn],rfl,hr21,hr25,hl3⟩
 rotate_left
 ·rintro c' w16 K16 H16 hs16 S16 h;exact h.elim
 ·rintro v w16 K16 H16 S16⟨rfl,c16,rfl,rfl⟩;refine blkP ?_;refine amQ ?_;refine abP (A:=[]) (by simp) S16 ?_;intro w17 S17;refine abP (A:=[]) (by simp) S17 ?_;intro w18 S18;refine abP (A:=[]) (B:=[]) (by simp) S18 ?_;intro w19 S19;exact .inr ⟨_,rfl,c16,K16,rfl,rfl,S19⟩
 rintro w16 K16 H16 hs16 S16⟨out,A',c',ys',nms,A'',c'',ys'',ho,hn,rfl,hro,hrn,hl3⟩;rw[List.drop_length] at hl3;unfold afH at hl3;obtain rfl:=Option.some.inj hl3;subst hHT;refine blkN ?_;refine aaG ?_;have S17:=S16.drew;have hfin : ∀(R:Ending→World→Prop) (w' : World) (σ' : Nat→Value),Sx K K16 wi w' (fun b=>b∈Ents.blks []) [.raw (zz wi) (zz w15) (.deferred (some [])),.row (zz wi) (.slice A'' nms.length c'') 107 1 nms.length ys'',.row (zz wi) (.slice A' out.length c') 52 6 out.length ys',
   .box (zz wi) (zz w12) #[.slice A'' nms.length c''] 117,.box (zz wi) (zz w11) #[.slice A' out.length c'] 24,.raw (zz wi) (zz w9) (.deferred (some [])),.box (zz wi) (zz w6) #[.int .i64 y] 27,.raw (zz wi) (zz w5) (.deferred (some [])),.box (zz wi) (zz w1) #[.slice A' out.length c'] 24,.box (zz wi) (zz wi) #[.slice A fs.length c] 24] →
   ev 66 σ' (.tmp 2)=.pointer (some ⟨(zz w1),0,none⟩)→ev 66 σ' (.tmp 3)=.slice A'' nms.length c'' →
   (∀w'' K'',K16.sub K''→tF K'' A' c' out→RSl (List ByteArray) (RSlE ByteArray (fun K=>RStr) 1 16 K'') 1 24 K'' A'' c'' nms→Sx K K'' wi w'' (fun b=>b∈Ents.blks []) []→R (.returned (.tuple #[.agg #[.slice A' out.length c'],.slice A'' nms.length c''])) w'') →
   LeavesInM Fence.wide 0 Tryz.prog Tryz.f72 (fr 66 σ').tmps R [mark (zz w15),mark (zz w9),mark (zz w5)] .returning w':=by
  intro R w' σ' S h2 h3 hR;obtain⟨K18,S18,hs18,hr18⟩:=abD (i:=1) (bytes:=24) (R:=fun K=>RSlE ByteArray (fun K=>RStr) 1 16 K) S rfl (Nat.le_refl _) hrn (by rw[hn];omega) (fun hs _ _ h=>RSlE.mono (fun _ _ _ h=>h) hs h);obtain⟨K19,S19,hs19,hr19⟩:=abD (i:=1) (bytes:=88) (R:=fun K=>aak K) S18 rfl (Nat.le_refl _) (hro.mono (fun _ _ h=>aak.mono hs18 h)) (by rw[ho];omega) (fun hs _ _ h=>aak.mono hs h);have S20:Sx K K19 wi w' (fun b=>b∈Ents.blks []) ([]++.raw (zz wi) (zz w15) (.deferred (some []))::[.raw (zz wi) (zz w9) (.deferred (some [])),.raw (zz wi) (zz w5) (.deferred (some [])),.box (zz wi) (zz w1) #[.slice A' out.length c'] 24]):=S19.sel [0,3,5,6] (by decide);refine abP (by simp) S20 ?_;intro w21 S21;refine abP (A:=[]) (by simp) S21 ?_;intro w22 S22;refine abP (A:=[]) (by simp) S22 ?_;intro w23 S23;exact⟨_,al0 rfl (resN (i:=0) (l:=[.slice A' out.length c']) S23 rfl (by kernel_rfl) (show aaF Tryz.prog 24=some 1 by kernel_rfl) h2 rfl rfl)<|resT h3,hR w23 K19 (hs18.trans hs19) hr19 (hr18.mono hs19 (fun _ _ h=>RSlE.mono (fun _ _ _ h=>h) hs19 h))<|S23.sel []⟩
 refine acf ?_;refine ac8<|(wpIn_wide (n:=0)).1<|auF (ro:=none) (E:=[]) (F:=fun _=>True) (by kernel_rfl) rfl rfl rfl ?_;refine ad6 (rs:=[0,1]) (by kernel_rfl) (by decide)<|allC ?_<|allC ?_ allN
 ·refine opL (i:=0) rfl ?_;refine lbN (i:=4) (l:=[.slice A' out.length c']) S17 rfl (by kernel_rfl) (show aaF Tryz.prog 24=some 1 by kernel_rfl) rfl rfl rfl ?_;refine wpList_nil ?_;refine aaG ?_;refine⟨fun _=>trivial,?_⟩;refine ad6 (rs:=[1,2]) (by kernel_rfl) (by decide)<|allC ?_<|allC ?_ allN
  ·refine opL (i:=1) rfl ?_;refine lb1 (i:=3) (v:=.slice A'' nms.length c'') S17 rfl (by kernel_rfl) rfl rfl ?_;refine wpList_nil ?_;refine aaG ?_;refine⟨fun _=>trivial,?_⟩;refine ad6 (rs:=[2]) (by kernel_rfl) (by decide)<|allC ?_ allN;refine opL (i:=2) rfl ?_;refine stoI (i:=8) (v:=.agg #[.slice A' out.length c']) (cs':=#[.slice A' out.length c']) S17 rfl (show aaF Tryz.prog 24=some 1 by kernel_rfl) rfl rfl rfl rfl (Nat.le_of_ble_eq_true rfl) rfl ?_;intro w18 S18;refine wpList_nil ?_;refine aaG ?_;refine⟨fun _=>trivial,?_⟩;refine ad6 (rs:=[3]) (by kernel_rfl) (by decide)<|allC ?_ allN;refine opL (i:=3) rfl ?_;refine asg (v:=.slice A'' nms.length c'') rfl ?_;refine wpList_nil ?_;refine aaG ?_;refine⟨fun _=>trivial,?_⟩;refine ake (by kernel_rfl)<|QLn ?_;refine aaG ?_;refine ac8<|wp_ret ?_;exact hfin _ _ _ S18 rfl rfl (fun w' K' hs hr1 hr2 S'=>.inl ⟨_,rfl,.mk out,nms,K',[.slice A' out.length c'],A'',c'',rfl,rfl,S',aad.intro hr1,hr2⟩)
  ·refine opL (i:=2) rfl ?_;refine stoI (i:=8) (v:=.agg #[.slice A' out.length c']) (cs':=#[.slice A' out.length c']) S17 rfl (show aaF Tryz.prog 24=some 1 by kernel_rfl) rfl rfl rfl rfl (Nat.le_of_ble_eq_true rfl) rfl ?_;intro w18 S18;refine wpList_nil ?_;refine aaG ?_;refine⟨fun _=>trivial,?_⟩;refine ad6 (rs:=[1]) (by kernel_rfl) (by decide)<|allC ?_ allN;refine opL (i:=1) rfl ?_;refine lb1 (i:=3) (v:=.slice A'' nms.length c'') S18 rfl (by kernel_rfl) rfl rfl ?_;refine wpList_nil ?_;refine aaG ?_;refine⟨fun _=>trivial,?_⟩;refine ad6 (rs:=[3]) (by kernel_rfl) (by decide)<|allC ?_ allN;refine opL (i:=3) rfl ?_;refine asg (v:=.slice A'' nms.length c'') rfl ?_;refine wpList_nil ?_;refine aaG ?_;refine⟨fun _=>trivial,?_⟩;refine ake (by kernel_rfl)<|QLn ?_;refine aaG ?_;refine ac8<|wp_ret ?_;exact hfin _ _ _ S18 rfl rfl (fun w' K' hs hr1 hr2 S'=>.inl ⟨_,rfl,.mk out,nms,K',[.slice A' out.length c'],A'',c'',rfl,rfl,S',aad.intro hr1,hr2⟩)
 ·refine opL (i:=1) rfl ?_;refine lb1 (i:=3) (v:=.slice A'' nms.length c'') S17 rfl (by kernel_rfl) rfl rfl ?_;refine wpList_nil ?_;refine aaG ?_;refine⟨fun _=>trivial,?_⟩;refine ad6 (rs:=[0]) (by kernel_rfl) (by decide)<|allC ?_ allN;refine opL (i:=0) rfl ?_;refine lbN (i:=4) (l:=[.slice A' out.length c']) S17 rfl (by kernel_rfl) (show aaF Tryz.prog 24=some 1 by kernel_rfl) rfl rfl rfl ?_;refine wpList_nil ?_;refine aaG ?_;refine⟨fun _=>trivial,?_⟩;refine ad6 (rs:=[2]) (by kernel_rfl) (by decide)<|allC ?_ allN;refine opL (i:=2) rfl ?_;refine stoI (i:=8) (v:=.agg #[.slice A' out.length c']) (cs':=#[.slice A' out.length c']) S17 rfl (show aaF Tryz.prog 24=some 1 by kernel_rfl) rfl rfl rfl rfl (Nat.le_of_ble_eq_true rfl) rfl ?_;intro w18 S18;refine wpList_nil ?_;refine aaG ?_;refine⟨fun _=>trivial,?_⟩;refine ad6 (rs:=[3]) (by kernel_rfl) (by decide)<|allC ?_ allN;refine opL (i:=3) rfl ?_;refine asg (v:=.slice A'' nms.length c'') rfl ?_;refine wpList_nil ?_;refine aaG ?_;refine⟨fun _=>trivial,?_⟩;refine ake (by kernel_rfl)<|QLn ?_;refine aaG ?_;refine ac8<|wp_ret ?_;exact hfin _ _ _ S18 rfl rfl (fun w' K' hs hr1 hr2 S'=>.inl ⟨_,rfl,.mk out,nms,K',[.slice A' out.length c'],A'',c'',rfl,rfl,S',aad.intro hr1,hr2⟩)
theorem awO(k:Nat):ajC (f72 k):=asa k (atU k) (adf k) (amZ k) (auS k)
theorem amk(k:Nat):aj9 (afu k):=by
 intro K wi g bs e f i gA bsA sA_0 AsA_0 csA_0 Z h hG b hsA_0 a;refine en 7 Tryz.func71 rfl ?_;unfold afu at h;refine gD 2 [0,0,1] a<|cX h (fun _ j=>(awO k) _ _ _ _ _ j (hG.mono kr) (aad.intro b)<|pt a) ?_ ?_
 ·rintro _ _ z⟨⟨l⟩,A,m,B,C,D,rfl,rfl,d,o,G⟩ h;have p:=ca d a;obtain⟨q,r,rfl,s⟩:=aad.open o;exact gR 5 [1] [] p (fun I t=>retP<|end0 rfl ⟨e,l,m,f,i,q,r,(oi h).symm,rfl,t,mf b d.sub,s⟩)
 ·rintro _ _ J⟨u,v,rfl,rfl,x⟩ h;have y:=ca x a;exact pX<|panE<|.inr ⟨_,rfl,u,v,(oi h).symm,rfl,y.sel [0,1]⟩
theorem amN(k:Nat):afM (agW k):=by
 unfold afM;intro K w g bs s_0 As_0 cs_0 gA bsA sA_0 AsA_0 csA_0 oz_0 ozA_0 or0 h hG hs_0 hsA_0 S0;unfold agW at h;obtain⟨r_,hr_⟩ : ∃r_,r_=afu k (aaa.mk s_0) (aaa.mk sA_0):=⟨_,rfl⟩;rcases r_ with _|r_
 ·rw[←hr_] at h;cases h
 refine (anR (R:=fun w K_ H_=>∃(uz_0:List aab) (uzA_0:List aab) (uAz_0:Option Addr) (ucz_0:Nat) (uAzA_0:Option Addr) (uczA_0:Nat),r_=.ok (aaa.mk uz_0,aaa.mk uzA_0)∧H_=[.box bs g #[.slice uAz_0 uz_0.length ucz_0] 24,.box bsA gA #[.slice uAzA_0 uzA_0.length uczA_0] 24]∧tF K_ uAz_0 ucz_0 uz_0∧tF K_ uAzA_0 uczA_0 uzA_0) (R':=fun c_ K_ H_=>r_=.error c_∧H_=[.box bs g #[.slice As_0 s_0.length cs_0] 24,.box bsA gA #[.slice AsA_0 sA_0.length csA_0] 24]) ayH S0 (fun w1 S1 hle=>((amk k) hr_.symm hG hs_0 hsA_0 S1).mono ?_)).mono ?_
 ·rintro e_ w_ (⟨v_,rfl,uz_0,uzA_0,K_,uAz_0,ucz_0,uAzA_0,uczA_0,q1,q2,T_,k0,k1⟩ |⟨v_,rfl,c_,K_,q1,q2,T_⟩)
  ·exact .inl ⟨v_,rfl,K_,_,T_,uz_0,uzA_0,uAz_0,ucz_0,uAzA_0,uczA_0,q1,rfl,k0,k1⟩
  ·exact .inr ⟨v_,rfl,c_,K_,_,q2,T_,q1,rfl⟩
 ·rintro e_ w_⟨v_,rfl,⟨w1,K_,H_,hle,rfl,T_,uz_0,uzA_0,uAz_0,ucz_0,uAzA_0,uczA_0,rfl,rfl,k0,k1⟩ |⟨c_,K_,H_,rfl,T_,rfl,rfl⟩⟩
  ·rw[←hr_] at h;cases h;exact⟨_,rfl,K_,uAz_0,ucz_0,uAzA_0,uczA_0,rfl,T_,k0,k1⟩
  ·rw[←hr_] at h;cases h;exact⟨_,rfl,K_,_,_,_,_,rfl,T_,hs_0.mono T_.sub (fun _ _ h=>aak.mono T_.sub h),hsA_0.mono T_.sub (fun _ _ h=>aak.mono T_.sub h)⟩
theorem awT(k:Nat):arT (f47 k):=by
 intro K wi e y z A h hG f g;obtain⟨Z,n,h⟩:=rz h;obtain⟨i⟩:=e;obtain⟨j,c1,rfl,l⟩:=aad.open f;refine en 8 Tryz.func47 rfl ?_;unfold f47 at h;refine gI 9 [] [[nS]] g (fun a m o=>mkf (us:=[]) (vs:=[pp (zz wi) 0,pp (zz a) 0]) rfl rfl ?_);have b:=p10 o;refine cB h (fun _ p=>(amN k) p (hG.mono kr) l (RSl.nil _ _ _ _ _ _)<|pt b) ?_;rintro⟨⟨B⟩,⟨q⟩,C⟩ _ D⟨r,G,I,s,t,rfl,u,J,v⟩ h;have x:=ca u b;refine gR 12 [0,1,1,1] [] x (fun N d=>?_);cases oj h n;exact aby rfl (rNl 1 d rfl) (resT rfl) ⟨r,[sl s q t],rfl,d.sel [],aad.intro v⟩
theorem atW(k:Nat):att (f56 k):=by
 intro K wi aP h hG s;obtain⟨r_,n,h⟩:=rz h;refine en 24 Tryz.func56 rfl ?_;unfold f56 at h;refine gd 7<|bsl (e:=3) (cells:=#[iI 1,iI 3]) (vs:=[(0,iI 1),(1,iI 3)]) s rfl (fun w=>by kernel_rfl) (fun l s=>bld (cells:=#[.slice (some ⟨zz wi,0,none⟩) 2 2,iI 2]) (vs:=[(0,.slice (some ⟨zz wi,0,none⟩) 2 2),(1,iI 2)]) rfl (fun w=>by kernel_rfl)<|gR 7 [0,3] [[nS,iI 0]] s (fun aT a m U=>bld (cells:=#[.slice (some ⟨zz a,0,none⟩) 1 1,iI 1]) (vs:=[(0,.slice (some ⟨zz a,0,none⟩) 1 1),(1,iI 1)]) rfl (fun w=>by kernel_rfl)<|gR 7 [0,3] [[nS,iI 0]] U (fun aU b o V=>bld (cells:=#[.slice (some ⟨zz b,0,none⟩) 1 1,iI 2]) (vs:=[(0,.slice (some ⟨zz b,0,none⟩) 1 1),(1,iI 2)]) rfl (fun w=>by kernel_rfl)<|gR 6 [0] [[nS,iI 0]] V (fun aV f W=>mkm W (fun aW v=>gP 1 [0,1,2] v ?_)))));obtain⟨p,X,Y,t⟩:=fzi 2 [2] v rfl;refine mup_ (kv:=kI) (q:=qI) (R:=(VAgg<|aal p)) (xs:=([]:List (Int×aaw))) (k:=5) (u:=(aaw.mk [2] 2)) (uv:=.agg #[.slice (some ⟨zz b,0,none⟩) [2].length 1,iI 2]) (i:=0) (.inl rfl) X rfl acm (aax Tyk3) keI (MapR.mono (VAgg.mono (fun _ _ h=>aal.mono Y h))<|akt (kv:=kI) (R:=(VAgg<|aal K))) rfl rfl rfl ⟨[.slice (some ⟨zz b,0,none⟩) [2].length 1,iI 2],rfl,aal.intro t⟩ (fun aX aY aZ x Z=>gP 1 [0,1,2] x<|mup_ (kv:=kI) (q:=qI) (R:=(VAgg<|aal p)) (k:=7) (u:=(aaw.mk [2] 2)) (uv:=.agg #[.slice (some ⟨zz b,0,none⟩) [2].length 1,iI 2]) (i:=0) (.inl rfl) x rfl acm (aax Tyk3) keI Z rfl rfl rfl ⟨[.slice (some ⟨zz b,0,none⟩) [2].length 1,iI 2],rfl,aal.intro t⟩ (fun a0 a1 a2 y ab=>gP 1 [0,1,2] y<|mup_ (kv:=kI) (q:=qI) (R:=(VAgg<|aal p)) (k:=8) (u:=(aaw.mk [2] 2)) (uv:=.agg #[.slice (some ⟨zz b,0,none⟩) [2].length 1,iI 2]) (i:=0) (.inl rfl) y rfl acm (aax Tyk3) keI ab rfl rfl rfl ⟨[.slice (some ⟨zz b,0,none⟩) [2].length 1,iI 2],rfl,aal.intro t⟩ (fun ac ad ae af ai=>?_)));have z:=af;refine gP 1 [0,4,2] z ?_;obtain⟨g,aj,ak,r⟩:=fzi 5 [1,3] z rfl;refine mup_ (kv:=kI) (q:=qI) (R:=(VAgg<|aal g)) (k:=11) (u:=(aaw.mk [1,3] 2)) (uv:=.agg #[.slice (some ⟨zz wi,0,none⟩) [1,3].length 2,iI 2]) (i:=0) (.inl rfl) aj rfl acm (aax Tyk3) keI (MapR.mono (VAgg.mono (fun _ _ h=>aal.mono ak h)) ai) rfl rfl rfl ⟨[.slice (some ⟨zz wi,0,none⟩) [1,3].length 2,iI 2],rfl,aal.intro r⟩ (fun a3 a4 a5 A al=>gP 1 [0,4,2] A<|mup_ (kv:=kI) (q:=qI) (R:=(VAgg<|aal g)) (k:=12) (u:=(aaw.mk [1,3] 2)) (uv:=.agg #[.slice (some ⟨zz wi,0,none⟩) [1,3].length 2,iI 2]) (i:=0) (.inl rfl) A rfl acm (aax Tyk3) keI al rfl rfl rfl ⟨[.slice (some ⟨zz wi,0,none⟩) [1,3].length 2,iI 2],rfl,aal.intro r⟩ (fun a6 a7 a8 B am=>gP 1 [0,4,2] B<|mup_ (kv:=kI) (q:=qI) (R:=(VAgg<|aal g)) (k:=13) (u:=(aaw.mk [1,3] 2)) (uv:=.agg #[.slice (some ⟨zz wi,0,none⟩) [1,3].length 2,iI 2]) (i:=0) (.inl rfl) B rfl acm (aax Tyk3) keI am rfl rfl rfl ⟨[.slice (some ⟨zz wi,0,none⟩) [1,3].length 2,iI 2],rfl,aal.intro r⟩ (fun an ao ap aq ar=>?_)));have C:=aq;refine gP 1 [0,4,2] C<|mup_ (kv:=kI) (q:=qI) (R:=(VAgg<|aal g)) (k:=14) (u:=(aaw.mk [1,3] 2)) (uv:=.agg #[.slice (some ⟨zz wi,0,none⟩) [1,3].length 2,iI 2]) (i:=0) (.inl rfl) C rfl acm (aax Tyk3) keI ar rfl rfl rfl ⟨[.slice (some ⟨zz wi,0,none⟩) [1,3].length 2,iI 2],rfl,aal.intro r⟩ (fun a9 ba bb D au=>gP 1 [0,2,2] D ?_);obtain⟨d,av,aw,j⟩:=fzi 3 [1] D rfl;refine mup_ (kv:=kI) (q:=qI) (R:=(VAgg<|aal d)) (k:=6) (u:=(aaw.mk [1] 1)) (uv:=.agg #[.slice (some ⟨zz a,0,none⟩) [1].length 1,iI 1]) (i:=0) (.inl rfl) av rfl acm (aax Tyk3) keI (MapR.mono (VAgg.mono (fun _ _ h=>aal.mono aw h)) au) rfl rfl rfl ⟨[.slice (some ⟨zz a,0,none⟩) [1].length 1,iI 1],rfl,aal.intro j⟩ (fun bd be bf G ax=>gP 1 [0,2,2] G<|mup_ (kv:=kI) (q:=qI) (R:=(VAgg<|aal d)) (k:=16) (u:=(aaw.mk [1] 1)) (uv:=.agg #[.slice (some ⟨zz a,0,none⟩) [1].length 1,iI 1]) (i:=0) (.inl rfl) G rfl acm (aax Tyk3) keI ax rfl rfl rfl ⟨[.slice (some ⟨zz a,0,none⟩) [1].length 1,iI 1],rfl,aal.intro j⟩ (fun ay az aA aB aG=>?_));have I:=aB;refine gP 1 [0,2,2] I<|mup_ (kv:=kI) (q:=qI) (R:=(VAgg<|aal d)) (k:=17) (u:=(aaw.mk [1] 1)) (uv:=.agg #[.slice (some ⟨zz a,0,none⟩) [1].length 1,iI 1]) (i:=0) (.inl rfl) I rfl acm (aax Tyk3) keI aG rfl rfl rfl ⟨[.slice (some ⟨zz a,0,none⟩) [1].length 1,iI 1],rfl,aal.intro j⟩ (fun bg bh bi J aH=>gP 1 [0,2,2] J<|mup_ (kv:=kI) (q:=qI) (R:=(VAgg<|aal d)) (k:=18) (u:=(aaw.mk [1] 1)) (uv:=.agg #[.slice (some ⟨zz a,0,none⟩) [1].length 1,iI 1]) (i:=0) (.inl rfl) J rfl acm (aax Tyk3) keI aH rfl rfl rfl ⟨[.slice (some ⟨zz a,0,none⟩) [1].length 1,iI 1],rfl,aal.intro j⟩ (fun bj bk bm N aI=>gP 1 [0,2,2] N<|mup_ (kv:=kI) (q:=qI) (R:=(VAgg<|aal d)) (k:=19) (u:=(aaw.mk [1] 1)) (uv:=.agg #[.slice (some ⟨zz a,0,none⟩) [1].length 1,iI 1]) (i:=0) (.inl rfl) N rfl acm (aax Tyk3) keI aI rfl rfl rfl ⟨[.slice (some ⟨zz a,0,none⟩) [1].length 1,iI 1],rfl,aal.intro j⟩ (fun O S aK aL aM=>?_)));have aN:=aL;refine go 5 ?_;cases oj h n;exact rt1 ⟨d,zz f,O,S,rfl,aN.sel [0],aM⟩
theorem axa(k:Nat):asY (f83 k):=by
 intro K wi g A B r C h hG l p;obtain⟨n,o,h⟩:=rz h;refine en 19 Tryz.func83 rfl ?_;unfold f83 at h;refine gd 14<|wl p (fun j m g_=>∃q a,∃(d:Nat),g_=a.length∧j q [0,1,7] [(8,iI (d:Int))]∧m K [] []∧g.drop d=a∧aln k r a d=some n) g.length ?_ ?_
 ·exact⟨_,g,0,rfl,fK,p,List.drop_zero,h⟩
 ·rintro _ _ D⟨q,a,d,rfl,rfl,f,e,h⟩;rcases a with _|⟨s,a⟩
  ·refine gd 2<|cNl e<|go 15 ?_;cases oj h o;exact rt1 ⟨K,rfl,f⟩
  ·refine gd 2<|cCl e<|go 19 ?_;obtain⟨t,u,G,x,I,y,z⟩:=(l).row.at_ (aaB e);obtain rfl:=z;refine iNl 3 1 x e (ld1 (v:=iI s) Tya3 rfl (f.cell<|kr.cell<|y 0 _ rfl)<|go 3<|bC 16 h ?_ ?_)<;>intro _ h
   ·refine gd 13 ?_;cases oj h o;exact rt1 ⟨K,rfl,f⟩
   ·exact gd 5<|iCl e ((l).len)<|go 3 ⟨_,Nat.lt_succ_self _,_,a,d+1,rfl,fK,f,aac e,h⟩
theorem awR(k:Nat):asB (f57 k):=by
 intro K wi j l m o b h hG d a;obtain⟨y,z,h⟩:=rz h;refine en 9 Tryz.func57 rfl ?_;unfold f57 at h;refine gd 9<|cB h (fun _ e=>(axa k) e (hG.mono kr) d<|pt a) ?_;rintro b _ p⟨f,rfl,g⟩ h;have i:=ca g a;refine go 5 ?_;cases oj h z;exact rt1 ⟨f,rfl,i⟩
theorem asu(k:Nat)(F:akK)(IH33:afC F.f33):afC (ap6 k F):=by
 intro K wi aV bU bV bW bX bY h hG aW W aX;obtain⟨n,o,h⟩:=rz h;obtain⟨a,ax,ay,X,az⟩:=aV;obtain⟨aA,aB,rfl,bZ,aG⟩:=aai.open aW;refine en 71 Tryz.func33 rfl ?_;unfold ap6 at h;refine gI 20 [0,1] [] aX (fun b0 d=>bC 9 h ?_ ?_)<;>intro _ h
 ·refine gd 9 ?_;cases oj h o;exact rt1 ⟨K,rfl,d.sel []⟩
 ·refine gd 7 (bC 11 h ?_ ?_)<;>intro _ h
  ·refine gd 9 ?_;cases oj h o;exact rt1 ⟨K,rfl,d.sel []⟩
  ·refine gd 7 (bC 13 h ?_ ?_)<;>intro _ h
   ·refine gd 9 ?_;cases oj h o;exact rt1 ⟨K,rfl,d.sel []⟩
   ·refine gd 7 (bC 15 h ?_ ?_)<;>intro _ h
    ·refine gD 6 [3,1] d ?_;obtain⟨aY,Y,h⟩:=ob h;obtain⟨aZ,a2,b1,a3,b2,a4,a5⟩:=(W).row.at_ (aay Y).1;obtain rfl:=a5;refine iGl 3 1 a3 Y<|ld1 (v:=iI aY) Tya3 rfl (d.cell<|kr.cell<|a4 0 _ rfl)<|go 6 ?_;cases oj h o;exact rt1 ⟨K,rfl,d.sel []⟩
    ·refine gD 8 [4,1] d ?_;obtain⟨⟨b3,b4,b5,b6,b7⟩,a6,h⟩:=ob h;refine eG d aG a6 aai.open ?_;rintro b8 b9 cb cc ce a7⟨cf,ch,rfl,ci,cj⟩;refine go 1<|cB h (fun _ a8=>IH33 a8 (hG.mono kr) a7 W<|pt d) ?_;rintro u _ ck⟨Z,rfl,r⟩ h;have l:=ca r d;refine go 4<|wk l (fun j m=>∃aH e ab,j aH [2,5] [(45,.bool ab)]∧KH.sub Z e∧m e [] [.box (zz wi) (zz wi) (aE a ax ay X aA az aB) 35]∧ai0 k F a u ab=some n) ?_ ?_
     ·refine gd 4 (bO 30 h ?_ ?_)<;>intro _ h
      ·exact go 17 ⟨_,Z,true,fK,kr,l,h⟩
      ·refine gP 10 [4,1] l (bO 35 h ?_ ?_)<;>intro _ h
       ·refine gP 5 [4,1] l ?_;obtain⟨⟨a9,ba,bb,bd,be⟩,ac,h⟩:=ob h;obtain⟨bf,bg,cl,bh,cm,bi,aI⟩:=((me aG r.sub)).row.at_ (aay ac).1;obtain⟨bj,bk,rfl,cn,co⟩:=aai.open aI;refine iGl 35 5 bh ac<|go 1<|lD (vE a9 ba bb bd bj be bk) ayM aya rfl (fun j v hj=>l.cell<|kr.cell<|bi j v hj)<|go 3<|cB h (fun _ bm=>IH33 bm (gm hG r) aI (W.mono r.sub (fun _ _ h=>h))<|pt l) ?_;rintro bn _ cq⟨bo,rfl,aK⟩ h;have bp:=ca aK l;exact go 9 ⟨_,bo,bn != u,fK,aK.sub,bp,h⟩
       ·exact go 13 ⟨_,Z,false,fK,kr,l,h⟩
     ·rintro _ cr⟨aH,e,ab,rfl,ad,z,h⟩;refine bC 45 h ?_ ?_<;>intro _ h
      ·refine gd 8 ?_;cases oj h o;exact rt1 ⟨e,rfl,z.sel []⟩
      ·refine gD 11 [0,1] z<|wk z (fun j m=>∃aL ae,j aL [2,5,47] [(48,.bool ae)]∧m e [] [.box (zz wi) (zz wi) (aE a ax ay X aA az aB) 35]∧anm k F a u ae=some n) ?_ ?_
       ·refine gd 6 (bC 48 h ?_ ?_)<;>intro bq h
        ·exact gd 3<|lX 48 bq.symm ⟨_,a==9,fK,z,h⟩
        ·exact gd 6 ⟨_,a==10,fK,z,h⟩
       ·rintro _ aM⟨aL,ae,rfl,x,h⟩;refine bC 48 h ?_ ?_<;>intro _ h
        ·refine gd 9 ?_;cases oj h o;exact rt1 ⟨e,rfl,x.sel []⟩
        ·refine gd 7 (bC 51 h ?_ ?_)<;>intro _ h
         ·refine gd 2<|wk x (fun j m=>∃aN af,j aN [5] [(58,.bool af)]∧m e [] []∧anS k F u af=some n) ?_ ?_
          ·refine gd 4 (bO 55 h ?_ ?_)<;>intro _ h
           ·exact go 7 ⟨_,u != 3,fK,x.sel [],h⟩
           ·exact go 5 ⟨_,false,fK,x.sel [],h⟩
          ·rintro _ cs⟨aN,af,rfl,aP,h⟩;refine bC 58 h ?_ ?_<;>intro _ h
           ·refine gd 10 ?_;cases oj h o;exact rt1 ⟨e,rfl,aP⟩
           ·refine gd 12 ?_;cases oj h o;exact rt1 ⟨e,rfl,aP⟩
         ·refine gd 4<|wk x (fun j m=>∃aT G ai I aj ak al,j aT [5] [(6,pp ai 0)]∧KH.sub e G∧m G [] [.box (zz wi) ai #[sl aj I ak,iI al] 99]∧RSl Int (RInt .i64) 1 8 G aj ak I∧ana k F u I al=some n) ?_ ?_
          ·refine rB [3] x (fun J br=>ah 2 [1,0,2,1] br<|an2 (i:=0) (j:=4) ?_ ?_)
           ·refine opQ (i:=0) rfl<|cB h (fun _ bs=>(atW k) bs (gm hG J)<|pt J) ?_;rintro f _ N⟨p,ct,cu,cw,rfl,s,O⟩ h;have bu:=ca s J;have y:=bu.lowerm_ (i:=0) rfl J.size;refine go 2<|wB (fwOf (is:=[1]) y s.sub rfl) (fun cx=>an2 (i:=3) (j:=4) ?_ ?_)
            ·refine opQ (i:=3) rfl ?_;rcases t:mget qI a f with _|⟨A,B⟩
             ·have h:=abB t h;exact lk1N (kv:=kI) (q:=qI) (R:=(VAgg<|aal p)) (xs:=f) (k:=a) (y.entAt (i:=0) rfl).1 acm (aax Tyk3) keI auN O rfl rfl t<|go 2 ⟨hE 3,aQ 4 rfl<|gR 3 [] [[nS,iI 0]] y (fun cy bv=>⟨hE 3,aQ 5 rfl<|gR 3 [0] [] bv (fun cz bw=>⟨hE 3,aD<|gx 1 ⟨_,p,zz N,[],none,0,0,fK,s.sub,bw.sel [0],RSl.nil _ _ _ _ _ _,h⟩⟩)⟩)⟩
             ·have h:=abA t h;refine lk1S (kv:=kI) (q:=qI) (R:=(VAgg<|aal p)) (xs:=f) (k:=a) (y.entAt (i:=0) rfl).1 acm (aax Tyk3) keI O rfl rfl t (fun cA bx=>?_);obtain⟨cC,rfl,bz⟩:=bx;obtain⟨bB,bD,rfl,bE⟩:=aal.open bz;exact go 2 ⟨hE 3,aQ 4 rfl<|gR 3 [] [[nS,iI 0]] y (fun cD bF=>⟨hE 3,aQ 5 rfl<|gR 3 [0] [] bF (fun cG bG=>⟨hE 3,aD<|gx 1 ⟨_,p,zz N,A,bB,bD,B,fK,s.sub,bG.sel [0],bE,h⟩⟩)⟩)⟩
            ·refine opQ (i:=4) rfl<|gR 3 [] [[nS,iI 0]] y (fun cH C=>wB (fwOf (is:=[2]) C s.sub rfl) (fun bH=>aQ 3 rfl ?_));rcases g:mget qI a f with _|⟨A,B⟩
             ·have h:=abB g h;exact lk1N (kv:=kI) (q:=qI) (R:=(VAgg<|aal p)) (xs:=f) (k:=a) (C.entAt (i:=1) rfl).1 acm (aax Tyk3) keI auN O rfl rfl g<|go 2 ⟨hE 3,aQ 5 rfl<|gR 3 [0] [] C (fun bI am=>⟨hE 3,aD<|gx 1 ⟨_,p,zz N,[],none,0,0,fK,s.sub,am.sel [0],RSl.nil _ _ _ _ _ _,h⟩⟩)⟩
             ·have h:=abA g h;refine lk1S (kv:=kI) (q:=qI) (R:=(VAgg<|aal p)) (xs:=f) (k:=a) (C.entAt (i:=1) rfl).1 acm (aax Tyk3) keI O rfl rfl g (fun bJ an=>?_);obtain⟨bK,rfl,ao⟩:=an;obtain⟨ap,aq,rfl,ar⟩:=aal.open ao;exact go 2 ⟨hE 3,aQ 5 rfl<|gR 3 [0] [] C (fun bL au=>⟨hE 3,aD<|gx 1 ⟨_,p,zz N,A,ap,aq,B,fK,s.sub,au.sel [0],ar,h⟩⟩)⟩
           ·refine opQ (i:=4) rfl<|gR 3 [] [[nS,iI 0]] J (fun cI S=>wB (fq [1] S) (fun cJ=>aQ 0 rfl<|cB h (fun _ bM=>(atW k) bM (gm hG S)<|pt S) ?_));rintro f _ cK⟨U,cL,cM,cN,rfl,V,t⟩ h;have bP:=ca V S;have D:=bP.lowerm_ (i:=0) rfl S.size;refine go 2<|wB (fwOf (is:=[2]) D V.sub rfl) (fun bH=>aQ 3 rfl ?_);rcases g:mget qI a f with _|⟨A,B⟩
            ·have h:=abB g h;exact lk1N (kv:=kI) (q:=qI) (R:=(VAgg<|aal U)) (xs:=f) (k:=a) (D.entAt (i:=0) rfl).1 acm (aax Tyk3) keI auN t rfl rfl g<|go 2 ⟨hE 3,aQ 5 rfl<|gR 3 [1] [] D (fun bI am=>⟨hE 3,aD<|gx 1 ⟨_,U,zz aM.drew,[],none,0,0,fK,V.sub,am.sel [1],RSl.nil _ _ _ _ _ _,h⟩⟩)⟩
            ·have h:=abA g h;refine lk1S (kv:=kI) (q:=qI) (R:=(VAgg<|aal U)) (xs:=f) (k:=a) (D.entAt (i:=0) rfl).1 acm (aax Tyk3) keI t rfl rfl g (fun bJ an=>?_);obtain⟨bK,rfl,ao⟩:=an;obtain⟨ap,aq,rfl,ar⟩:=aal.open ao;exact go 2 ⟨hE 3,aQ 5 rfl<|gR 3 [1] [] D (fun bL au=>⟨hE 3,aD<|gx 1 ⟨_,U,zz aM.drew,A,ap,aq,B,fK,V.sub,au.sel [1],ar,h⟩⟩)⟩
          ·rintro _ cO⟨aT,G,ai,I,aj,ak,al,rfl,bQ,av,bR,h⟩;refine gD 6 [0,1] av<|cB h (fun _ bS=>(awR k) bS (gm hG av) bR<|pt av) ?_;rintro cP _ cQ⟨aU,rfl,bT⟩ h;have aw:=ca bT av;refine go 3 (bC 68 h ?_ ?_)<;>intro _ h
           ·refine gd 8 ?_;cases oj h o;exact rt1 ⟨aU,rfl,aw.sel []⟩
           ·refine gD 11 [1,1] aw ?_;cases oj h o;exact rt1 ⟨aU,rfl,aw.sel []⟩
theorem ass(k0:Nat) : ∀k,afC (amU k0 k).f33:=by
 intro k;induction k with
 | zero=>simp[afC,amU]
 | succ k ih=>exact asu k0 (amU k0 k) ih
theorem alO(k:Nat):afC (f33 k):=(ass k k)
theorem ag1(k:Nat):aoZ (f105 k):=by
 intro K wi g bs br Z ab ac ad ae af ai aj ak al am an ao B ap aq ar l au av C aw ax ay h hG az aA aB aG D G hbr s I t;obtain⟨n,o,h⟩:=rz h;refine en 28 Tryz.func105 rfl ?_;unfold f105 at h;refine gd 14<|wl t (fun j m g_=>∃u a,∃(d:Nat),g_=a.length∧j u [0,2,9,10] [(11,iI (d:Int))]∧m K [0,1] []∧l.drop d=a∧ag4 k B C a d=some n) l.length ?_ ?_
 ·exact⟨_,l,0,rfl,fK,t,List.drop_zero,h⟩
 ·rintro _ _ aH⟨u,a,d,rfl,rfl,p,e,h⟩;rcases a with _|⟨⟨aI,aK,aL,aM,aN⟩,a⟩
  ·refine gd 2<|cNl e<|go 15 ?_;cases oj h o;exact rt1 ⟨K,rfl,p⟩
  ·refine gd 2<|cCl e<|go 11<|eN p s e aai.open ?_;rintro aP aT aU aV aW aX⟨aY,aZ,rfl,J,N⟩;refine gR 6 [0] [[iI 0,iI 0,sE,iI 0,nS]] p (fun a0 a3 O=>rB [] O (fun f x=>ah 7 [0,0,0,5,1,2,3,7,4,2,6,7] x ?_));obtain⟨y,q,h⟩:=ob h;obtain⟨z,A,a4,S,a5,U,V⟩:=(I).row.at_ (aay q).1;obtain rfl:=V;refine kGl 3 1 8 rfl S q x<|tT 9 (iI y) [] rfl (fq [0,1,2] f) (fun w hF=>acE (v:=iI y) Tya3 rfl<|hF.cell<|kr.cell<|U 0 _ rfl)<|aQ 5 rfl<|cB h (fun _ W=>(alO k) W (hG.mono<|KW.sub f.le) (aai.intro J<|me N<|KW.sub f.le) (adS (f.entAt (i:=2) rfl) D G)<|Sx.all _) ?_;rintro a6 _ a7⟨a8,rfl,X⟩ h;have r:=f.lend X;refine go 2 (wB (fq [0,1,2] r) (fun Y=>ah 1 [10] Y<|aD<|gx 1<|bC 26 h ?_ ?_))<;>intro _ h
   ·refine gd 12 ?_;cases oj h o;exact rt1 ⟨K,rfl,r.sel [1,2]⟩
   ·exact gd 5<|iCl e ((s).len)<|go 3 ⟨_,Nat.lt_succ_self _,_,a,d+1,rfl,fK,r.sel [1,2],aac e,h⟩
theorem avc(k:Nat):apw (f106 k):=by
 intro K wi cf h hG a;obtain⟨r_,n,h⟩:=rz h;refine en 18 Tryz.func106 rfl ?_;unfold f106 at h;refine gd 7<|mkm a (fun t a=>gR 1 [3] [] a (fun ch v=>?_));obtain⟨x,y,z,B⟩:=fzi 0 [5] v rfl;refine mup_ (kv:=kI) (q:=qI) (R:=(VSl Int (RInt .i64) 1 8 x)) (xs:=([]:List (Int×(List Int)))) (k:=5) (u:=[5]) (uv:=.slice (some ⟨zz t,0,none⟩) [5].length 1) (i:=0) (.inl rfl) y rfl abU (aax Tyk3) keI (MapR.mono (fun _ _ h=>by obtain⟨A,c,h1,h2⟩:=h;exact⟨A,c,h1,h2.mono z (fun _ _ h=>h)⟩) (akt (kv:=kI) (R:=(VSl Int (RInt .i64) 1 8 K)))) rfl rfl rfl ⟨_,_,rfl,B⟩ (fun ci cj C D G=>gR 1 [3] [] D (fun ck I=>?_));obtain⟨J,N,O,S⟩:=fzi 0 [5] I rfl;refine mup_ (kv:=kI) (q:=qI) (R:=(VSl Int (RInt .i64) 1 8 J)) (k:=16) (u:=[5]) (uv:=.slice (some ⟨zz C,0,none⟩) [5].length 1) (i:=0) (.inl rfl) N rfl abU (aax Tyk3) keI (MapR.mono (fun _ _ h=>by obtain⟨A,c,h1,h2⟩:=h;exact⟨A,c,h1,h2.mono O (fun _ _ h=>h)⟩) G) rfl rfl rfl ⟨_,_,rfl,S⟩ (fun cl cm U V W=>gR 1 [3] [] V (fun cn X=>?_));obtain⟨d,Y,Z,ab⟩:=fzi 0 [4] X rfl;refine mup_ (kv:=kI) (q:=qI) (R:=(VSl Int (RInt .i64) 1 8 d)) (k:=6) (u:=[4]) (uv:=.slice (some ⟨zz U,0,none⟩) [4].length 1) (i:=0) (.inl rfl) Y rfl abU (aax Tyk3) keI (MapR.mono (fun _ _ h=>by obtain⟨A,c,h1,h2⟩:=h;exact⟨A,c,h1,h2.mono Z (fun _ _ h=>h)⟩) W) rfl rfl rfl ⟨_,_,rfl,ab⟩ (fun ac ad f ae af=>?_);have ai:=ae;refine gR 1 [3] [] ai (fun co aj=>?_);obtain⟨ak,al,am,an⟩:=fzi 0 [4] aj rfl;refine mup_ (kv:=kI) (q:=qI) (R:=(VSl Int (RInt .i64) 1 8 ak)) (k:=11) (u:=[4]) (uv:=.slice (some ⟨zz f,0,none⟩) [4].length 1) (i:=0) (.inl rfl) al rfl abU (aax Tyk3) keI (MapR.mono (fun _ _ h=>by obtain⟨A,c,h1,h2⟩:=h;exact⟨A,c,h1,h2.mono am (fun _ _ h=>h)⟩) af) rfl rfl rfl ⟨_,_,rfl,an⟩ (fun cq cr ao ap aq=>bsl (e:=3) (cells:=#[iI 4,iI 1]) (vs:=[(0,iI 4),(1,iI 1)]) ap rfl (fun w=>by kernel_rfl) (fun cs ar=>?_));obtain⟨au,av,aw,ax⟩:=fzi 0 [4,1] ar rfl;refine mup_ (kv:=kI) (q:=qI) (R:=(VSl Int (RInt .i64) 1 8 au)) (k:=10) (u:=[4,1]) (uv:=.slice (some ⟨zz ao,0,none⟩) [4,1].length 2) (i:=0) (.inl rfl) av rfl abU (aax Tyk3) keI (MapR.mono (fun _ _ h=>by obtain⟨A,c,h1,h2⟩:=h;exact⟨A,c,h1,h2.mono aw (fun _ _ h=>h)⟩) aq) rfl rfl rfl ⟨_,_,rfl,ax⟩ (fun ct cu ay az aA=>gR 1 [3] [] az (fun cw aB=>?_));obtain⟨g,aG,aH,aI⟩:=fzi 0 [1] aB rfl;refine mup_ (kv:=kI) (q:=qI) (R:=(VSl Int (RInt .i64) 1 8 g)) (k:=12) (u:=[1]) (uv:=.slice (some ⟨zz ay,0,none⟩) [1].length 1) (i:=0) (.inl rfl) aG rfl abU (aax Tyk3) keI (MapR.mono (fun _ _ h=>by obtain⟨A,c,h1,h2⟩:=h;exact⟨A,c,h1,h2.mono aH (fun _ _ h=>h)⟩) aA) rfl rfl rfl ⟨_,_,rfl,aI⟩ (fun aK aL j aM aN=>?_);have aP:=aM;refine gR 1 [3] [] aP (fun cx aT=>?_);obtain⟨aU,aV,aW,aX⟩:=fzi 0 [1] aT rfl;refine mup_ (kv:=kI) (q:=qI) (R:=(VSl Int (RInt .i64) 1 8 aU)) (k:=7) (u:=[1]) (uv:=.slice (some ⟨zz j,0,none⟩) [1].length 1) (i:=0) (.inl rfl) aV rfl abU (aax Tyk3) keI (MapR.mono (fun _ _ h=>by obtain⟨A,c,h1,h2⟩:=h;exact⟨A,c,h1,h2.mono aW (fun _ _ h=>h)⟩) aN) rfl rfl rfl ⟨_,_,rfl,aX⟩ (fun cy cz aY aZ a0=>gR 1 [3] [] aZ (fun cA a1=>?_));obtain⟨a2,a3,a4,a5⟩:=fzi 0 [1] a1 rfl;refine mup_ (kv:=kI) (q:=qI) (R:=(VSl Int (RInt .i64) 1 8 a2)) (k:=8) (u:=[1]) (uv:=.slice (some ⟨zz aY,0,none⟩) [1].length 1) (i:=0) (.inl rfl) a3 rfl abU (aax Tyk3) keI (MapR.mono (fun _ _ h=>by obtain⟨A,c,h1,h2⟩:=h;exact⟨A,c,h1,h2.mono a4 (fun _ _ h=>h)⟩) a0) rfl rfl rfl ⟨_,_,rfl,a5⟩ (fun cC cD a6 a7 a8=>gR 1 [3] [] a7 (fun cG a9=>?_));obtain⟨l,ba,bb,bd⟩:=fzi 0 [1] a9 rfl;refine mup_ (kv:=kI) (q:=qI) (R:=(VSl Int (RInt .i64) 1 8 l)) (k:=25) (u:=[1]) (uv:=.slice (some ⟨zz a6,0,none⟩) [1].length 1) (i:=0) (.inl rfl) ba rfl abU (aax Tyk3) keI (MapR.mono (fun _ _ h=>by obtain⟨A,c,h1,h2⟩:=h;exact⟨A,c,h1,h2.mono bb (fun _ _ h=>h)⟩) a8) rfl rfl rfl ⟨_,_,rfl,bd⟩ (fun be bf m bg bh=>?_);have bi:=bg;refine gR 1 [3] [] bi (fun cH bj=>?_);obtain⟨bk,bm,bn,bo⟩:=fzi 0 [1] bj rfl;refine mup_ (kv:=kI) (q:=qI) (R:=(VSl Int (RInt .i64) 1 8 bk)) (k:=29) (u:=[1]) (uv:=.slice (some ⟨zz m,0,none⟩) [1].length 1) (i:=0) (.inl rfl) bm rfl abU (aax Tyk3) keI (MapR.mono (fun _ _ h=>by obtain⟨A,c,h1,h2⟩:=h;exact⟨A,c,h1,h2.mono bn (fun _ _ h=>h)⟩) bh) rfl rfl rfl ⟨_,_,rfl,bo⟩ (fun cI cJ bp bq br=>gR 1 [3] [] bq (fun cK bs=>?_));obtain⟨bu,bv,bw,bx⟩:=fzi 0 [1] bs rfl;refine mup_ (kv:=kI) (q:=qI) (R:=(VSl Int (RInt .i64) 1 8 bu)) (k:=22) (u:=[1]) (uv:=.slice (some ⟨zz bp,0,none⟩) [1].length 1) (i:=0) (.inl rfl) bv rfl abU (aax Tyk3) keI (MapR.mono (fun _ _ h=>by obtain⟨A,c,h1,h2⟩:=h;exact⟨A,c,h1,h2.mono bw (fun _ _ h=>h)⟩) br) rfl rfl rfl ⟨_,_,rfl,bx⟩ (fun cL cM bz bB bD=>gR 1 [3] [] bB (fun cN bE=>?_));obtain⟨o,bF,bG,bH⟩:=fzi 0 [3] bE rfl;refine mup_ (kv:=kI) (q:=qI) (R:=(VSl Int (RInt .i64) 1 8 o)) (k:=15) (u:=[3]) (uv:=.slice (some ⟨zz bz,0,none⟩) [3].length 1) (i:=0) (.inl rfl) bF rfl abU (aax Tyk3) keI (MapR.mono (fun _ _ h=>by obtain⟨A,c,h1,h2⟩:=h;exact⟨A,c,h1,h2.mono bG (fun _ _ h=>h)⟩) bD) rfl rfl rfl ⟨_,_,rfl,bH⟩ (fun bI bJ p bK bL=>?_);have bM:=bK;refine gR 1 [3] [] bM (fun cO bP=>?_);obtain⟨bQ,bR,bS,bT⟩:=fzi 0 [2] bP rfl;refine mup_ (kv:=kI) (q:=qI) (R:=(VSl Int (RInt .i64) 1 8 bQ)) (k:=20) (u:=[2]) (uv:=.slice (some ⟨zz p,0,none⟩) [2].length 1) (i:=0) (.inl rfl) bR rfl abU (aax Tyk3) keI (MapR.mono (fun _ _ h=>by obtain⟨A,c,h1,h2⟩:=h;exact⟨A,c,h1,h2.mono bS (fun _ _ h=>h)⟩) bL) rfl rfl rfl ⟨_,_,rfl,bT⟩ (fun cP cQ bU bV bW=>gR 1 [3] [] bV (fun cR bX=>?_));obtain⟨bY,bZ,b0,b1⟩:=fzi 0 [2] bX rfl;refine mup_ (kv:=kI) (q:=qI) (R:=(VSl Int (RInt .i64) 1 8 bY)) (k:=21) (u:=[2]) (uv:=.slice (some ⟨zz bU,0,none⟩) [2].length 1) (i:=0) (.inl rfl) bZ rfl abU (aax Tyk3) keI (MapR.mono (fun _ _ h=>by obtain⟨A,c,h1,h2⟩:=h;exact⟨A,c,h1,h2.mono b0 (fun _ _ h=>h)⟩) bW) rfl rfl rfl ⟨_,_,rfl,b1⟩ (fun cS cU b2 b3 b4=>gR 1 [3] [] b3 (fun cV b5=>?_));obtain⟨b,b6,b7,b8⟩:=fzi 0 [6] b5 rfl;refine mup_ (kv:=kI) (q:=qI) (R:=(VSl Int (RInt .i64) 1 8 b)) (k:=26) (u:=[6]) (uv:=.slice (some ⟨zz b2,0,none⟩) [6].length 1) (i:=0) (.inl rfl) b6 rfl abU (aax Tyk3) keI (MapR.mono (fun _ _ h=>by obtain⟨A,c,h1,h2⟩:=h;exact⟨A,c,h1,h2.mono b7 (fun _ _ h=>h)⟩) b4) rfl rfl rfl ⟨_,_,rfl,b8⟩ (fun r s b9 cb cc=>?_);have ce:=cb;refine go 5 ?_;cases oj h n;exact rt1 ⟨b,zz wi,r,s,rfl,ce,cc⟩
theorem asI(k:Nat)(F:adt)(IH48:aeE F.f48)(IH73:aeC F.f73):aeE (avl k F):=by
 intro K wi g bs br S U V W X Y Z ab ac ad ae af ai A I J aj N bS bT bU bV bW bX bY bZ b0 b1 b2 h hG aY aZ a0 a2 a3 a4 hbr ak al;obtain⟨r_,n,h⟩:=rz h;refine en 18 Tryz.func48 rfl ?_;unfold avl at h;refine gd 14<|wl al (fun j m g_=>∃am a d,∃(i:Nat),∃l o p q r s t B C D u v x b e f y,g_=d.length∧j am [0,7,8] [(9,iI (i:Int))]∧KH.sub K a∧m a [] [.box bs g #[sl o l p,.string q,sl s r t,iI B,.bool C,iI D,sl v u x,sl e b f] 87,eW br e b f 3 1 y]∧N.drop i=d∧tF a o p l∧q.size≤mB∧tP a s t r∧tS a v x u∧Reps (RInt .i64) 1 b y∧b.length*8≤mB∧aih k F d i l q r B C D u b=some r_) N.length ?_ ?_
 ·exact⟨_,K,N,0,S,U,V,W,X,Y,Z,ab,ac,ad,ae,af,ai,A,I,J,aj,rfl,fK,kr,al,List.drop_zero,aY,aZ,a0,a2,a3,a4,h⟩
 ·rintro _ _ a5⟨am,a,d,i,l,o,p,q,r,s,t,B,C,D,u,v,x,b,e,f,y,rfl,rfl,G,O,z,an,ao,ap,aq,ar,au,h⟩;rcases d with _|⟨⟨a6,a7,a8,a9,ba,bb,bd,be,bf,bg,bh⟩,d⟩
  ·refine gd 2<|cNl z<|go 15 ?_;cases oj h n;exact rt1 ⟨a,o,p,s,t,v,x,e,f,y,rfl,O,an,ao,ap,aq,ar,au⟩
  ·refine gd 2<|cCl z<|go 10<|eN O (ms ak G) z aag.open ?_;rintro b3 b4 b5 b6 b7 b8⟨bi,bj,bk,bm,bn,bo,bp,bq,bu,bv,rfl,bw,bx,bz,bB,bD,bE,bF⟩;refine gR 8 [0,0,0,11] [[iI 0,sE,iI 0,sE,iI 0,iI 0,nS,nS,nS,nS,nS]] O (fun b9 bG av=>?_);have aw:=p120 av;refine cB h (fun _ bH=>IH73 bH (hG.mono G) an ao ap aq ar au (Nat.le_trans hbr av.size) (aag.intro bw bx bz bB bD bE bF)<|pt aw) ?_;rintro⟨⟨⟨bI⟩,⟨bJ,bK,bL,bM,bP,bQ⟩,bR⟩,cb⟩ _ cc⟨ax,ay,az,aA,aB,aG,aH,aI,aK,aL,rfl,aM,aN,aP,aT,aU,aV,aW⟩ h;have aX:=ca aM aw;refine go 3 (bC 16 h ?_ ?_)<;>intro _ h
   ·refine gd 12 ?_;cases oj h n;exact rt1 ⟨ax,ay,az,aA,aB,aG,aH,aI,aK,aL,rfl,aX.sel [0,1],aN,aP,aT,aU,aV,aW⟩
   ·exact gd 5<|iCl z ((ms ak G).len)<|go 3 ⟨_,Nat.lt_succ_self _,_,ax,d,i+1,bI,ay,az,bJ,bK,aA,aB,bL,bM,bP,bQ,aG,aH,bR,aI,aK,aL,rfl,fK,G.trans aM.sub,aX.sel [0,1],aac z,aN,aP,aT,aU,aV,aW,h⟩
theorem atg(k:Nat)(F:adt)(IH48:aeE F.f48)(IH73:aeC F.f73):aeC (aoD k F):=by
 intro K wi g bs br G U V I J W X B N O S Y Z a d f ad eO iC iD iE iF iG iH iJ iK iL iM h hG a3 a4 a5 a6 ax aA hbr eP eQ;obtain⟨n,o,h⟩:=rz h;obtain⟨r,z,l,ae,ab,af,C,s,t,x,y⟩:=eO;obtain⟨ai,aj,ak,al,am,an,ao,ap,aq,ar,rfl,iN,iO,bM,eR,eS,eT,dl⟩:=aag.open eP;refine en 205 Tryz.func73 rfl ?_;unfold aoD at h;refine gI 11 [] [] eQ (fun iP bb=>wk bb (fun j m=>∃dm ci a7,j dm [0,3] [(5,iI a7)]∧KH.sub K ci∧m ci [0,1] [.box (zz wi) (zz wi) (aS r z l ae ab af ai C aj ak s al am t an ao x ap aq y ar) 62]∧aer k F G I J B N O S a r z l C s t x y a7=some n) ?_ ?_)
 ·refine gD 13 [0,1] bb (bC 14 h ?_ ?_)<;>intro _ h
  ·refine gd 2<|rB [] bb (fun cj cS=>ah 2 [0,6,1,1] cS ?_);obtain⟨⟨iQ,iR,iS,iT,iU⟩,eU,h⟩:=ob h;refine eB 2 3 rfl rfl cS bM eU aai.open ?_;rintro iV iW iX iY iZ eV⟨i0,i1,rfl,i2,i3⟩;refine ah 4 [4,5,6,7,7,2] cS<|aQ 8 rfl<|cB h (fun _ eX=>(alO k) eX (hG.mono<|KW.sub cj.le) (aai.mono (KW.sub cj.le) eV) (adS (cj.entAt (i:=2) rfl) ax aA)<|Sx.all _) ?_;rintro eY _ i4⟨i5,rfl,eZ⟩ h;have cU:=cj.lend eZ;refine go 2 (wB (fq [0,1,2] cU) (fun e0=>ah 1 [9] e0<|aD<|gx 7<|bC 26 h ?_ ?_))<;>intro _ h
   ·refine gd 9 ?_;cases oj h o;exact rt1 ⟨K,U,V,W,X,Y,Z,d,f,ad,rfl,cU.sel [1,2],a3,a4,a5,a6,ax,aA⟩
   ·exact gd 4 ⟨_,K,eY,fK,kr,cU.sel [1,2,0],h⟩
  ·refine gd 7 (bC 27 h ?_ ?_)<;>intro _ h
   ·refine gd 2<|rB [] bb (fun ck cV=>ah 2 [0,6,1,1] cV ?_);obtain⟨⟨i6,i7,i8,i9,ja⟩,e1,h⟩:=ob h;refine eB 2 3 rfl rfl cV bM e1 aai.open ?_;rintro jb jc jd je jf e3⟨jg,jh,rfl,ji,jj⟩;refine ah 4 [4,5,6,7,7,2] cV<|aQ 8 rfl<|cB h (fun _ e4=>(alO k) e4 (hG.mono<|KW.sub ck.le) (aai.mono (KW.sub ck.le) e3) (adS (ck.entAt (i:=2) rfl) ax aA)<|Sx.all _) ?_;rintro jk _ jl⟨jm,rfl,e5⟩ h;have cW:=ck.lend e5;refine go 2 (wB (fq [0,1,2] cW) (fun e6=>ah 1 [9] e6<|aD<|gx 1<|bC 38 h ?_ ?_))<;>intro _ h
    ·refine gd 9 ?_;cases oj h o;exact rt1 ⟨K,U,V,W,X,Y,Z,d,f,ad,rfl,cW.sel [1,2],a3,a4,a5,a6,ax,aA⟩
    ·exact gd 4 ⟨_,K,1,fK,kr,cW.sel [1,2,0],h⟩
   ·refine gd 7 (bC 39 h ?_ ?_)<;>intro _ h
    ·refine gd 2<|rB [] bb (fun bP cl=>ah 2 [0,6,1,1] cl ?_);obtain⟨⟨jn,jo,jp,jq,jr⟩,e7,h⟩:=ob h;refine eB 2 3 rfl rfl cl bM e7 aai.open ?_;rintro js jt ju jv jw e8⟨jx,jy,rfl,jz,jA⟩;refine ah 10 [4,5,6,7,7,2,9,10,11,7,12,2,13,2,14,1] cl ?_;obtain⟨dn,cY,h⟩:=ob h;obtain⟨dp,jB,e9,jC,fa,fb⟩:=afg (bP.entAt (i:=2) rfl) ax (aay cY).1;obtain rfl:=fa;refine kGl 3 1 15 rfl e9 cY cl<|tT 16 (iI dn) [] rfl (fq [0,1,2] bP) (fun w hF=>acE (v:=iI dn) Tya3 rfl<|fb _ (hF.entAt (i:=2) rfl) 0 _ rfl)<|aQ 8 rfl<|cB h (fun _ fc=>(alO k) fc (hG.mono<|KW.sub bP.le) (aai.mono (KW.sub bP.le) e8) (adS (bP.entAt (i:=2) rfl) ax aA)<|Sx.all _) ?_;rintro jD _ jE⟨jF,rfl,fe⟩ h;have dq:=bP.lend fe;refine go 2<|wB (fq [0,1,2] dq) (fun ff=>ah 2 [17,18] ff<|aD<|gx 4 ?_);cases oj h o;exact rt1 ⟨K,U,V,W,X,Y,Z,d,f,ad,rfl,dq.sel [1,2],a3,a4,a5,a6,ax,aA⟩
    ·refine gd 7 (bC 59 h ?_ ?_)<;>intro _ h
     ·refine gd 2<|rB [9] bb (fun fg fh=>ah 8 [0,1,6,2,1,3,4,5,1,6,3,7,2] fh<|aQ 8 rfl<|gR 3 [3] [] fg (fun fi dr=>wB (fq [1,2,3] dr) (fun jG=>aQ 9 rfl ?_)));obtain⟨fj,ds,bo,fk⟩:=fzi 0 [B] dr rfl;have dt:=p120 ds;refine cB h (fun _ fl=>(ag1 k) fl (hG.mono bo) (mf a3 bo) a4 (mp a5 bo) (ms a6 bo) (ax.mono (fun _ _ h=>h)) aA (Nat.le_trans hbr ds.size) (me bM bo) fk<|pt dt) ?_;rintro jH _ jI⟨fm,rfl,cm⟩ h;have fn:=ca cm dt;refine go 2 ⟨hE 9,ag 1 [10] (hE 9)<|aD<|gx 4 ?_⟩;cases oj h o;exact rt1 ⟨fm,U,V,W,X,Y,Z,d,f,ad,rfl,fn.sel [0,1],mf a3<|bo.trans cm.sub,a4,mp a5<|bo.trans cm.sub,ms a6<|bo.trans cm.sub,ax.mono (fun _ _ h=>h),aA⟩
     ·refine gd 1<|wk bb (fun j m=>∃du cZ,j du [0,3,5,13] [(71,.bool cZ)]∧m K [0,1] [.box (zz wi) (zz wi) (aS r z l ae ab af ai C aj ak s al am t an ao x ap aq y ar) 62]∧aeS k F G I J B N O S a r z l ab C s t x y cZ=some n) ?_ ?_
      ·refine gd 6 (bC 71 h ?_ ?_)<;>intro fo h
       ·exact gd 3<|lX 71 fo.symm ⟨_,r==3,fK,bb.sel [1,2,0],h⟩
       ·refine gd 7 (bC 71 h ?_ ?_)<;>intro fp h
        ·exact gd 3<|lX 71 fp.symm ⟨_,r==4,fK,bb.sel [1,2,0],h⟩
        ·exact gd 6 ⟨_,r==28,fK,bb.sel [1,2,0],h⟩
      ·rintro _ fs⟨du,cZ,rfl,b1,h⟩;refine bC 71 h ?_ ?_<;>intro _ h
       ·refine gd 2<|rB [] b1 (fun ft dv=>ah 7 [0,1,2,0,3,0,4,1,5,4,6,3] dv ?_);obtain⟨⟨fu,fv,b2,fx,fy,fz⟩,fA,h⟩:=ob h;refine eB 7 8 rfl rfl dv a3 fA aak.open ?_;rintro jK jL jM jN jO jP⟨fB,fC,fD,fE,rfl,fF,fG,fH⟩;refine aQ 9 rfl<|gR 3 [] [[sE,nS,iI 0,vN,iI 0,nS]] ft (fun jQ dw=>wB (fq [1,2,3] dw) (fun jR=>aQ 10 rfl<|gR 3 [0] [] dw (fun jS cn=>wB (fq [1,2,3] cn) (fun jT=>aD<|gX 9 [2,1] cn<|wk cn (fun j m=>∃dx bj c2,j dx [0,3,5] [(106,.bool c2)]∧KH.sub K bj∧m bj [0,1] [.box (zz wi) (zz wi) (aS r z l ae ab af ai C aj ak s al am t an ao x ap aq y ar) 62]∧ahZ k F G I J B N O S a r z l C s t x y b2 c2=some n) ?_ ?_))))
        ·refine rB [5] cn (fun c4 fI=>ah 4 [0,1,6,2,4,3,0,0,6] fI<|aQ 4 rfl<|cB h (fun _ fJ=>(aiB k) fJ (hG.mono kr) (aak.intro fF fG fH)<|pt c4) ?_);rintro jU _ fL⟨jV,jW,jX,jY,rfl,a8,fM,fN⟩ h;have fO:=ca a8 c4;have dy:=fO.lower_ (i:=0) rfl c4.size;refine go 2<|wB (fwOf (is:=[1,2,3,4]) dy a8.sub rfl) (fun jZ=>aQ 5 rfl ?_);obtain⟨fP,dz,bk,fQ⟩:=abD (i:=0) (bytes:=8) (R:=fun K=>(RInt .i64)) dy rfl (Nat.le_refl _) fM fN (fun hs=>(fun _ _ h=>h));have dA:=auC dz;refine cB h (fun _ fS=>(ag1 k) fS (hG.mono<|a8.sub.trans bk) (mf a3<|a8.sub.trans bk) a4 (mp a5<|a8.sub.trans bk) (ms a6<|a8.sub.trans bk) (ax.mono (fun _ _ h=>h)) aA (Nat.le_trans hbr dz.size) (me bM<|a8.sub.trans bk) fQ<|pt dA) ?_;rintro j0 _ j1⟨co,rfl,b3⟩ h;have bQ:=ca b3 dA;refine go 2 ⟨hE 5,ag 2 [6,7] (hE 5)<|bA 93 h (fun _ h=>?_) (fun _ h=>?_)⟩
         ·exact ag 13 [8,9,10,11,12,13,14,15,16,17,18,19,20] (hE 5)<|aD<|gx 1 ⟨_,co,true,fK,(a8.sub.trans bk).trans b3.sub,bQ.sel [0,1,3],h⟩
         ·refine ag 1 [8,0] (hE 5)<|aQ 9 rfl<|n0 93<|gP 3 [4] bQ ⟨hE 5,ag 2 [10,11] (hE 5)<|bA 97 h (fun _ h=>?_) (fun _ h=>?_)⟩
          ·refine ag 1 [12,1] (hE 5)<|aQ 13 rfl<|n0 97<|gP 3 [4] bQ ⟨hE 5,ag 3 [14,15,16] (hE 5)<|bA 102 h (fun _ h=>?_) (fun _ h=>?_)⟩
           ·exact ag 4 [17,18,19,20] (hE 5)<|aD<|gx 1 ⟨_,co,b2==0,fK,(a8.sub.trans bk).trans b3.sub,bQ.sel [0,1,3],h⟩
           ·exact ag 4 [17,18,19,20] (hE 5)<|aD<|gx 1 ⟨_,co,false,fK,(a8.sub.trans bk).trans b3.sub,bQ.sel [0,1,3],h⟩
          ·exact ag 9 [12,13,14,15,16,17,18,19,20] (hE 5)<|aD<|gx 1 ⟨_,co,false,fK,(a8.sub.trans bk).trans b3.sub,bQ.sel [0,1,3],h⟩
        ·rintro _ j2⟨dx,bj,c2,rfl,bp,bB,h⟩;refine bC 106 h ?_ ?_<;>intro _ h
         ·refine gd 10 ?_;cases oj h o;exact rt1 ⟨bj,U,V,W,X,Y,Z,d,f,ad,rfl,bB.sel [0,1],mf a3 bp,a4,mp a5 bp,ms a6 bp,ax.mono (fun _ _ h=>h),aA⟩
         ·refine gd 3<|wk bB (fun j m=>∃dB cq,j dB [0,3] [(5,iI cq)]∧m bj [0,1] [.box (zz wi) (zz wi) (aS r z l ae ab af ai C aj ak s al am t an ao x ap aq y ar) 62]∧ahR k F G I J B N O S a r z l C s t x y cq=some n) ?_ ?_
          ·refine gD 7 [0,3] bB (bC 109 h ?_ ?_)<;>intro _ h
           ·refine gd 2<|wk bB (fun j m=>∃dC c5,j dC [0,3] [(115,.bool c5)]∧m bj [0,1] [.box (zz wi) (zz wi) (aS r z l ae ab af ai C aj ak s al am t an ao x ap aq y ar) 62]∧akj k F G I J B N O S a r z l C s t x y c5=some n) ?_ ?_
            ·refine gd 4 (bO 112 h ?_ ?_)<;>intro _ h
             ·exact go 7 ⟨_,b2 != 0,fK,bB,h⟩
             ·exact go 5 ⟨_,false,fK,bB,h⟩
            ·rintro _ j3⟨dC,c5,rfl,dD,h⟩;refine bC 115 h ?_ ?_<;>intro _ h
             ·refine gd 11 ?_;cases oj h o;exact rt1 ⟨bj,U,V,W,X,Y,Z,d,f,ad,rfl,dD.sel [0,1],mf a3 bp,a4,mp a5 bp,ms a6 bp,ax.mono (fun _ _ h=>h),aA⟩
             ·exact gd 7 ⟨_,5,fK,dD,h⟩
           ·exact gd 3 ⟨_,b2,fK,bB,h⟩
          ·rintro _ j4⟨dB,cq,rfl,c7,h⟩;refine gD 7 [0,3] c7 (bC 118 h ?_ ?_)<;>intro _ h
           ·exact gd 6 ⟨_,bj,1,fK,bp,c7,h⟩
           ·exact gd 4 ⟨_,bj,cq,fK,bp,c7,h⟩
       ·refine gd 7 (bC 119 h ?_ ?_)<;>intro _ h
        ·exact gd 6 ⟨_,K,4,fK,kr,b1,h⟩
        ·refine gd 7 (bC 121 h ?_ ?_)<;>intro _ h
         ·exact gd 6 ⟨_,K,6,fK,kr,b1,h⟩
         ·refine gd 7 (bC 123 h ?_ ?_)<;>intro _ h
          ·exact gd 6 ⟨_,K,3,fK,kr,b1,h⟩
          ·exact gd 4 ⟨_,K,1,fK,kr,b1,h⟩
 ·rintro _ j5⟨dm,ci,a7,rfl,ac,dE,h⟩;refine gd 1<|wk dE (fun j m=>∃dF bR cr c8 da db,j dF [0,3,5] [(7,sl c8 cr da),(8,.bool db)]∧KH.sub ci bR∧m bR [0,1] [.box (zz wi) (zz wi) (aS r z l ae ab af ai C aj ak s al am t an ao x ap aq y ar) 62]∧RSl Int (RInt .i64) 1 8 bR c8 da cr∧anw k F G I J B N O S a z l C s t x y a7 cr db=some n) ?_ ?_
  ·refine rB [3] dE (fun dc fT=>ah 2 [1,0,2,3] fT<|aQ 0 rfl<|cB h (fun _ fU=>(avc k) fU (hG.mono ac)<|pt dc) ?_);rintro dd _ j6⟨cs,j7,j8,j9,rfl,ct,dG⟩ h;have fV:=ca ct dc;have b4:=fV.lowerm_ (i:=0) rfl dc.size;refine go 2<|wB (fwOf (is:=[1,2,3]) b4 ct.sub rfl) (fun ka=>aQ 3 rfl ?_);rcases cu:mget qI r dd with _|fW
   ·have h:=abB cu h;exact lkN (kv:=kI) (q:=qI) (R:=(VSl Int (RInt .i64) 1 8 cs)) (xs:=dd) (k:=r) (b4.entAt (i:=0) rfl).1 abU (aax Tyk3) keI awM dG rfl rfl cu<|go 2 ⟨hE 3,ag 5 [4,5,6,7,8] (hE 3)<|aD<|gx 1 ⟨_,cs,[],none,0,false,fK,ct.sub,b4.sel [1,2,3],RSl.nil _ _ _ _ _ _,h⟩⟩
   ·have h:=abA cu h;refine lkS (kv:=kI) (q:=qI) (R:=(VSl Int (RInt .i64) 1 8 cs)) (xs:=dd) (k:=r) (b4.entAt (i:=0) rfl).1 abU (aax Tyk3) keI dG rfl rfl cu (fun kb fX=>?_);obtain⟨fY,fZ,rfl,f0⟩:=fX;exact go 2 ⟨hE 3,ag 5 [4,5,6,7,8] (hE 3)<|aD<|gx 1 ⟨_,cs,fW,fY,fZ,true,fK,ct.sub,b4.sel [1,2,3],f0,h⟩⟩
  ·rintro _ kc⟨dF,bR,cr,c8,da,db,rfl,au,bS,f1,h⟩;refine wk bS (fun j m=>∃dH bq de,j dH [0,3,5] [(140,.bool de)]∧KH.sub bR bq∧m bq [0,1] [.box (zz wi) (zz wi) (aS r z l ae ab af ai C aj ak s al am t an ao x ap aq y ar) 62]∧aiP k F G I J B N O S a z l s t x y a7 de=some n) ?_ ?_
   ·refine gd 3 (bO 133 h ?_ ?_)<;>intro _ h
    ·refine gP 9 [6,3] bS<|cB h (fun _ f2=>(ag1 k) f2 (hG.mono<|ac.trans au) (mf a3<|ac.trans au) a4 (mp a5<|ac.trans au) (ms a6<|ac.trans au) (ax.mono (fun _ _ h=>h)) aA (Nat.le_trans hbr bS.size) (me bM<|ac.trans au) f1<|pt bS) ?_;rintro f3 _ kd⟨f4,rfl,dI⟩ h;have f5:=ca dI bS;exact go 5 ⟨_,f4,!f3,fK,dI.sub,f5,h⟩
    ·exact go 9 ⟨_,bR,false,fK,kr,bS,h⟩
   ·rintro _ f7⟨dH,bq,de,rfl,ay,b5,h⟩;refine bC 140 h ?_ ?_<;>intro _ h
    ·refine gd 8 ?_;cases oj h o;exact rt1 ⟨bq,U,V,W,X,Y,Z,d,f,ad,rfl,b5.sel [0,1],mf a3<|(ac.trans au).trans ay,a4,mp a5<|(ac.trans au).trans ay,ms a6<|(ac.trans au).trans ay,ax.mono (fun _ _ h=>h),aA⟩
    ·refine gd 3<|wk b5 (fun j m=>∃dJ a9 bT bU b6,j dJ [0,3] []∧m bq [] [.box bs g #[sl U G V,.string I,sl W J X,iI B,.bool N,iI O,sl Y S Z,sl bT a9 bU] 87,.box (zz wi) (zz wi) (aS r z l ae ab af ai C aj ak s al am t an ao x ap aq y ar) 62,eW br bT a9 bU 3 1 b6]∧Reps (RInt .i64) 1 a9 b6∧a9.length*8≤mB∧ane k F G I J B N O S s t x y a9=some n) ?_ ?_
     ·refine gD 7 [1,3] b5 (bC 143 h ?_ ?_)<;>intro _ h
      ·refine gd 1<|rB [8] b5 (fun dK dL=>ah 7 [0,1,2,7,3,1,4,2,5,3,6] dL ?_);obtain⟨ga,cw,h⟩:=ob h;obtain⟨dM,ke,dN,kf,gb,kg⟩:=afg (dK.entAt (i:=1) rfl) (ax.mono (fun _ _ h=>h)) (aay cw).1;obtain rfl:=gb;refine kGl 3 1 7 rfl dN cw dL<|aQ 8 rfl ?_;have gc:SR K bq wi f7.drew [.box bs g #[sl U G V,.string I,sl W J X,iI B,.bool N,iI O,sl Y S Z,sl d a f] 87,eW br d a f 3 1 ad] [.box bs g #[sl U G V,.string I,sl W J X,iI B,.bool N,iI O,sl Y S Z,sl d a f] 87,eW br d a f 3 1 ad,.box (zz wi) (zz wi) (aS r z l ae ab af ai C aj ak s al am t an ao x ap aq y ar) 62]:=id dK;refine stR (R:=(RInt .i64)) (i:=1) (off:=0) (p:=ga) (p':=a7) (v:=iI a7) gc rfl (ax.mono (fun _ _ h=>h)) (aay cw).1 Tys3 dN rfl rfl rfl rfl (by decide) (fun cs_ h_=>by cases h_;rfl) (fun dO ge gf gg=>?_);have gh:SR K bq wi ge [.box bs g #[sl U G V,.string I,sl W J X,iI B,.bool N,iI O,sl Y S Z,sl d a f] 87,eW br d a f 3 1 ad] [.box bs g #[sl U G V,.string I,sl W J X,iI B,.bool N,iI O,sl Y S Z,.slice d (a.set l.toNat a7).length f] 87,.row br (.slice d (a.set l.toNat a7).length f) 3 1 (a.set l.toNat a7).length dO,.box (zz wi) (zz wi) #[iI r,.string z,iI l,.string ae,iI ab,iI af,sl ai C aj,sl ak s al,sl am t an,sl ao x ap,sl aq y ar] 62]:=by simpa only[List.length_set,List.eraseIdx_zero,List.eraseIdx_cons_succ,List.tail_cons,List.set_cons_succ,List.set_cons_zero,List.nil_append,List.cons_append] using gf
       exact go 2 ⟨hE 8,aD<|gx 1 ⟨_,a.set l.toNat a7,d,f,dO,fK,gh.sel [0,2,1],gg,adJ aA,h⟩⟩
      ·exact gd 3 ⟨_,a,d,f,ad,fK,b5.sel [0,2,1],ax.mono (fun _ _ h=>h),aA,h⟩
     ·rintro _ bd⟨dJ,a9,bT,bU,b6,rfl,gi,gj,gk,h⟩;refine gd 2<|mkm gi (fun gl gn=>gR 1 [3] [] gn (fun kh gp=>?_));obtain⟨gq,gr,aB,gs⟩:=fzi 0 [4] gp rfl;refine mup_ (kv:=kI) (q:=qI) (R:=(VSl Int (RInt .i64) 1 8 gq)) (xs:=([]:List (Int×(List Int)))) (k:=1) (u:=[4]) (uv:=.slice (some ⟨zz gl,0,none⟩) [4].length 1) (i:=0) (.inl rfl) gr rfl abU (aax Tyk3) keI (MapR.mono (fun _ _ h=>by obtain⟨A,c,h1,h2⟩:=h;exact⟨A,c,h1,h2.mono aB (fun _ _ h=>h)⟩) (akt (kv:=kI) (R:=(VSl Int (RInt .i64) 1 8 bq)))) rfl rfl rfl ⟨_,_,rfl,gs⟩ (fun ki kj gt gu gv=>bsl (e:=3) (cells:=#[iI 4,iI 1]) (vs:=[(0,iI 4),(1,iI 1)]) gu rfl (fun w=>by kernel_rfl) (fun kk gw=>?_));obtain⟨gy,gz,aG,gA⟩:=fzi 0 [4,1] gw rfl;refine mup_ (kv:=kI) (q:=qI) (R:=(VSl Int (RInt .i64) 1 8 gy)) (k:=2) (u:=[4,1]) (uv:=.slice (some ⟨zz gt,0,none⟩) [4,1].length 2) (i:=0) (.inl rfl) gz rfl abU (aax Tyk3) keI (MapR.mono (fun _ _ h=>by obtain⟨A,c,h1,h2⟩:=h;exact⟨A,c,h1,h2.mono aG (fun _ _ h=>h)⟩) gv) rfl rfl rfl ⟨_,_,rfl,gA⟩ (fun kl km gB gF gG=>gR 1 [3] [] gF (fun kn gH=>?_));obtain⟨cx,gJ,aH,gK⟩:=fzi 0 [1] gH rfl;refine mup_ (kv:=kI) (q:=qI) (R:=(VSl Int (RInt .i64) 1 8 cx)) (k:=3) (u:=[1]) (uv:=.slice (some ⟨zz gB,0,none⟩) [1].length 1) (i:=0) (.inl rfl) gJ rfl abU (aax Tyk3) keI (MapR.mono (fun _ _ h=>by obtain⟨A,c,h1,h2⟩:=h;exact⟨A,c,h1,h2.mono aH (fun _ _ h=>h)⟩) gG) rfl rfl rfl ⟨_,_,rfl,gK⟩ (fun be bf gL gM dP=>?_);have df:=gM;refine gP 14 [10,3] df<|wl df (fun j m g_=>∃dQ az bm,∃(bD:Nat),∃aI aT aU aK aL aV aW aX aY aZ aM a0 a2 D av aw ba,g_=bm.length∧j dQ [0,3,9,158,159] [(160,iI (bD:Int))]∧KH.sub cx az∧m az [] [.box bs g #[sl aT aI aU,.string aK,sl aV aL aW,iI aX,.bool aY,iI aZ,sl a0 aM a2,sl av D aw] 87,.box (zz wi) (zz wi) (aS r z l ae ab af ai C aj ak s al am t an ao x ap aq y ar) 62,.mp (zz wi) (zz bd) be bf,eW br av D aw 3 1 ba]∧y.drop bD=bm∧tF az aT aU aI∧aK.size≤mB∧tP az aV aW aL∧tS az a0 a2 aM∧Reps (RInt .i64) 1 D ba∧D.length*8≤mB∧ac1 k F s t x bm bD aI aK aL aX aY aZ aM D=some n) y.length ?_ ?_
      ·exact⟨_,cx,y,0,G,U,V,I,J,W,X,B,N,O,S,Y,Z,a9,bT,bU,b6,rfl,fK,kr,df.sel [1,2,0,3],List.drop_zero,mf a3<|((((ac.trans au).trans ay).trans aB).trans aG).trans aH,a4,mp a5<|((((ac.trans au).trans ay).trans aB).trans aG).trans aH,ms a6<|((((ac.trans au).trans ay).trans aB).trans aG).trans aH,gj.mono (fun _ _ h=>h),gk,h⟩
      ·rintro _ _ bu⟨dQ,az,bm,bD,aI,aT,aU,aK,aL,aV,aW,aX,aY,aZ,aM,a0,a2,D,av,aw,ba,rfl,rfl,aN,bV,b7,bW,bX,bY,bZ,bv,bE,h⟩;rcases bm with _|⟨⟨bg,bw,aP,bF,bn⟩,bm⟩
       ·refine gd 2<|cNl b7<|go 9<|wk bV (fun j m=>∃dR bh dg cy cz cA cC cD cG cH dh di dj cI cJ cK bG cL cM cN,j dR [] [(4,.bool dg)]∧KH.sub az bh∧m bh [] [.box bs g #[sl cz cy cA,.string cC,sl cG cD cH,iI dh,.bool di,iI dj,sl cJ cI cK,sl cL bG cM] 87,eW br cL bG cM 3 1 cN]∧tF bh cz cA cy∧cC.size≤mB∧tP bh cG cH cD∧tS bh cJ cK cI∧Reps (RInt .i64) 1 bG cN∧bG.length*8≤mB∧ak5 k F dg cy cC cD dh di dj cI bG=some n) ?_ ?_
        ·refine gD 4 [7,2] bV ?_;have dS:SR K az wi bu [.box bs g #[sl U G V,.string I,sl W J X,iI B,.bool N,iI O,sl Y S Z,sl d a f] 87,eW br d a f 3 1 ad] [.box bs g #[sl aT aI aU,.string aK,sl aV aL aW,iI aX,.bool aY,iI aZ,sl a0 aM a2,sl av D aw] 87,eW br av D aw 3 1 ba,.box (zz wi) (zz wi) (aS r z l ae ab af ai C aj ak s al am t an ao x ap aq y ar) 62,.mp (zz wi) (zz bd) be bf]:=bV.sel [0,3,1,2];refine cB h (fun _ gN=>IH48 gN (hG.mono<|(((((ac.trans au).trans ay).trans aB).trans aG).trans aH).trans aN) bW bX bY bZ bv bE (Nat.le_trans hbr bV.size) (ms eR<|(((((ac.trans au).trans ay).trans aB).trans aG).trans aH).trans aN)<|pt dS) ?_;rintro⟨⟨⟨gQ⟩,⟨gT,gU,gV,gW,gZ,g0⟩,g1⟩,ko⟩ _ kq⟨g2,g3,g4,g5,g6,g7,g8,g9,ha,hb,rfl,bx,dT,dU,dV,dW,dX,dY⟩ h;have b8:=ca bx dS;refine go 1 (bO 193 h ?_ ?_)<;>intro _ h
         ·refine gP 7 [8,3] b8<|cB h (fun _ hc=>IH48 hc (hG.mono<|((((((ac.trans au).trans ay).trans aB).trans aG).trans aH).trans aN).trans bx.sub) dT dU dV dW dX dY (Nat.le_trans hbr b8.size) (ms eS<|((((((ac.trans au).trans ay).trans aB).trans aG).trans aH).trans aN).trans bx.sub)<|pt b8) ?_;rintro⟨⟨⟨hd⟩,⟨he,hf,hg,hh,hi,hj⟩,hk⟩,ks⟩ _ kt⟨hl,hm,hn,ho,hp,hq,hr,ht,hu,hv,rfl,b9,dZ,d0,d1,d2,d3,d4⟩ h;have cb:=ca b9 b8;refine go 2 (bO 199 h ?_ ?_)<;>intro _ h
          ·refine gP 7 [9,3] cb<|cB h (fun _ hw=>IH48 hw (hG.mono<|(((((((ac.trans au).trans ay).trans aB).trans aG).trans aH).trans aN).trans bx.sub).trans b9.sub) dZ d0 d1 d2 d3 d4 (Nat.le_trans hbr cb.size) (ms eT<|(((((((ac.trans au).trans ay).trans aB).trans aG).trans aH).trans aN).trans bx.sub).trans b9.sub)<|pt cb) ?_;rintro⟨⟨⟨hx⟩,⟨hy,hz,hA,hB,hC,hD⟩,hH⟩,hI⟩ _ ku⟨hJ,hK,hL,hM,hN,hO,hP,hQ,hR,hS,rfl,d5,hT,hU,hV,hW,hX,hY⟩ h;have hZ:=ca d5 cb;exact go 4 ⟨_,hJ,hI,hx,hK,hL,hy,hz,hM,hN,hA,hB,hC,hD,hO,hP,hH,hQ,hR,hS,fK,(bx.sub.trans b9.sub).trans d5.sub,hZ.sel [0,1],hT,hU,hV,hW,hX,hY,h⟩
          ·exact go 8 ⟨_,hl,false,hd,hm,hn,he,hf,ho,hp,hg,hh,hi,hj,hq,hr,hk,ht,hu,hv,fK,bx.sub.trans b9.sub,cb.sel [0,1],dZ,d0,d1,d2,d3,d4,h⟩
         ·exact go 14 ⟨_,g2,false,gQ,g3,g4,gT,gU,g5,g6,gV,gW,gZ,g0,g7,g8,g1,g9,ha,hb,fK,bx.sub,b8.sel [0,1],dT,dU,dV,dW,dX,dY,h⟩
        ·rintro _ kw⟨dR,bh,dg,cy,cz,cA,cC,cD,cG,cH,dh,di,dj,cI,cJ,cK,bG,cL,cM,cN,rfl,kx,h0,h3,h4,h5,h6,h7,h8,h⟩;refine gd 1 ?_;cases oj h o;exact rt1 ⟨bh,cz,cA,cG,cH,cJ,cK,cL,cM,cN,rfl,h0,h3,h4,h5,h6,h7,h8⟩
       ·refine gd 2<|cCl b7<|go 10<|eN bV (mc dl<|(((((ac.trans au).trans ay).trans aB).trans aG).trans aH).trans aN) b7 aar.open ?_;rintro ky kz kB kD kJ kO⟨bH,bI,bJ,bK,rfl,kP,d6,h9⟩;refine gR 4 [0] [[iI 0,sE,iI 0,nS,nS]] bV (fun kQ d7 bz=>wk bz (fun j m=>∃d8 bL,j d8 [0,3,9,11,158,159,160] []∧KH.sub az bL∧m bL [] [.box bs g #[sl aT aI aU,.string aK,sl aV aL aW,iI aX,.bool aY,iI aZ,sl a0 aM a2,sl av D aw] 87,.box (zz wi) (zz wi) (aS r z l ae ab af ai C aj ak s al am t an ao x ap aq y ar) 62,.box (zz wi) (zz bu) (aC' bg bw aP bH bF bI bJ bn bK) 84,.mp (zz wi) (zz bd) be bf,eW br av D aw 3 1 ba]∧aiy k F aI aK aL aX aY aZ aM D bD bw aP bn (ac1 k F s t x bm)=some n) ?_ ?_)
        ·refine gD 8 [3,1,0,1] bz ?_;rcases cO:mget qI bg (mput qI 3 [1] (mput qI 2 [4,1] (mput qI 1 [4] ([]:List (Int×(List Int)))))) with _|kR
         ·have h:=abB cO h;refine lk1N (kv:=kI) (q:=qI) (R:=(VSl Int (RInt .i64) 1 8 az)) (xs:=(mput qI 3 [1]<|mput qI 2 [4,1]<|mput qI 1 [4] ([]:List (Int×(List Int))))) (k:=bg) (bz.entAt (i:=3) rfl).1 abU (aax Tyk3) keI awM (MapR.mono (fun _ _ h=>by obtain⟨A,c,h1,h2⟩:=h;exact⟨A,c,h1,h2.mono aN (fun _ _ h=>h)⟩) dP) rfl rfl cO ?_;have d9:SR K az wi d7 [.box bs g #[sl U G V,.string I,sl W J X,iI B,.bool N,iI O,sl Y S Z,sl d a f] 87,eW br d a f 3 1 ad] [.box bs g #[sl aT aI aU,.string aK,sl aV aL aW,iI aX,.bool aY,iI aZ,sl a0 aM a2,sl av D aw] 87,eW br av D aw 3 1 ba,.box (zz wi) (zz bu) (aC' bg bw aP bH bF bI bJ bn bK) 84,.box (zz wi) (zz wi) (aS r z l ae ab af ai C aj ak s al am t an ao x ap aq y ar) 62,.mp (zz wi) (zz bd) be bf]:=bz.sel [1,4,0,2,3];refine cB h (fun _ ia=>(ag1 k) ia (hG.mono<|(((((ac.trans au).trans ay).trans aB).trans aG).trans aH).trans aN) bW bX bY bZ bv bE (Nat.le_trans hbr bz.size) d6 (RSl.nil _ _ _ _ _ _)<|pt d9) ?_;rintro kT _ kU⟨ea,rfl,cc⟩ h;have ec:=ca cc d9;refine go 3 (bC 172 h ?_ ?_)<;>intro _ h
          ·refine gd 13 ?_;cases oj h o;exact rt1 ⟨ea,aT,aU,aV,aW,a0,a2,av,aw,ba,rfl,ec.sel [0,1],mf bW cc.sub,bX,mp bY cc.sub,ms bZ cc.sub,bv.mono (fun _ _ h=>h),bE⟩
          ·exact gd 3 ⟨_,ea,fK,cc.sub,ec.sel [0,3,2,4,1],h⟩
         ·have h:=abA cO h;refine lk1S (kv:=kI) (q:=qI) (R:=(VSl Int (RInt .i64) 1 8 az)) (xs:=(mput qI 3 [1]<|mput qI 2 [4,1]<|mput qI 1 [4] ([]:List (Int×(List Int))))) (k:=bg) (bz.entAt (i:=3) rfl).1 abU (aax Tyk3) keI (MapR.mono (fun _ _ h=>by obtain⟨A,c,h1,h2⟩:=h;exact⟨A,c,h1,h2.mono aN (fun _ _ h=>h)⟩) dP) rfl rfl cO (fun kV ib=>?_);obtain⟨kW,kX,rfl,ic⟩:=ib;have ed:SR K az wi d7 [.box bs g #[sl U G V,.string I,sl W J X,iI B,.bool N,iI O,sl Y S Z,sl d a f] 87,eW br d a f 3 1 ad] [.box bs g #[sl aT aI aU,.string aK,sl aV aL aW,iI aX,.bool aY,iI aZ,sl a0 aM a2,sl av D aw] 87,eW br av D aw 3 1 ba,.box (zz wi) (zz bu) (aC' bg bw aP bH bF bI bJ bn bK) 84,.box (zz wi) (zz wi) (aS r z l ae ab af ai C aj ak s al am t an ao x ap aq y ar) 62,.mp (zz wi) (zz bd) be bf]:=bz.sel [1,4,0,2,3];refine cB h (fun _ ie=>(ag1 k) ie (hG.mono<|(((((ac.trans au).trans ay).trans aB).trans aG).trans aH).trans aN) bW bX bY bZ bv bE (Nat.le_trans hbr bz.size) d6 ic<|pt ed) ?_;rintro kY _ kZ⟨ee,rfl,ce⟩ h;have ef:=ca ce ed;refine go 3 (bC 172 h ?_ ?_)<;>intro _ h
          ·refine gd 13 ?_;cases oj h o;exact rt1 ⟨ee,aT,aU,aV,aW,a0,a2,av,aw,ba,rfl,ef.sel [0,1],mf bW ce.sub,bX,mp bY ce.sub,ms bZ ce.sub,bv.mono (fun _ _ h=>h),bE⟩
          ·exact gd 3 ⟨_,ee,fK,ce.sub,ef.sel [0,3,2,4,1],h⟩
        ·rintro _ ig⟨d8,bL,rfl,b0,cP,h⟩;refine wk cP (fun j m=>∃eg bi cf ch cQ,j eg [0,3,9,11,158,159,160] []∧m bL [] [.box bs g #[sl aT aI aU,.string aK,sl aV aL aW,iI aX,.bool aY,iI aZ,sl a0 aM a2,sl cf bi ch] 87,.box (zz wi) (zz wi) (aS r z l ae ab af ai C aj ak s al am t an ao x ap aq y ar) 62,.box (zz wi) (zz bu) (aC' bg bw aP bH bF bI bJ bn bK) 84,.mp (zz wi) (zz bd) be bf,eW br cf bi ch 3 1 cQ]∧Reps (RInt .i64) 1 bi cQ∧bi.length*8≤mB∧al5 k F aI aK aL aX aY aZ aM bD bn bi (ac1 k F s t x bm)=some n) ?_ ?_
         ·refine gD 7 [1,3] cP (bC 175 h ?_ ?_)<;>intro _ h
          ·refine gd 1<|rB [7] cP (fun eh ei=>ah 6 [0,1,2,7,3,1,4,2,5,3] ei ?_);obtain⟨ih,cR,h⟩:=ob h;obtain⟨ej,k0,ek,k1,ii,k2⟩:=afg (eh.entAt (i:=4) rfl) (bv.mono (fun _ _ h=>h)) (aay cR).1;obtain rfl:=ii;refine kGl 3 1 6 rfl ek cR ei<|aQ 7 rfl ?_;have ij:SR K bL wi ig.drew [.box bs g #[sl U G V,.string I,sl W J X,iI B,.bool N,iI O,sl Y S Z,sl d a f] 87,eW br d a f 3 1 ad] [.box bs g #[sl aT aI aU,.string aK,sl aV aL aW,iI aX,.bool aY,iI aZ,sl a0 aM a2,sl av D aw] 87,.box (zz wi) (zz wi) (aS r z l ae ab af ai C aj ak s al am t an ao x ap aq y ar) 62,.box (zz wi) (zz bu) (aC' bg bw aP bH bF bI bJ bn bK) 84,.mp (zz wi) (zz bd) be bf,eW br av D aw 3 1 ba]:=id eh;refine stR (R:=(RInt .i64)) (i:=4) (off:=0) (p:=ih) (p':=1) (v:=iI 1) ij rfl (bv.mono (fun _ _ h=>h)) (aay cR).1 Tys3 ek rfl rfl rfl rfl (by decide) (fun cs_ h_=>by cases h_;rfl) (fun el ik il im=>?_);have io:SR K bL wi ik [.box bs g #[sl U G V,.string I,sl W J X,iI B,.bool N,iI O,sl Y S Z,sl d a f] 87,eW br d a f 3 1 ad] [.box bs g #[sl aT aI aU,.string aK,sl aV aL aW,iI aX,.bool aY,iI aZ,sl a0 aM a2,.slice av (D.set aP.toNat 1).length aw] 87,.box (zz wi) (zz wi) #[iI r,.string z,iI l,.string ae,iI ab,iI af,sl ai C aj,sl ak s al,sl am t an,sl ao x ap,sl aq y ar] 62,.box (zz wi) (zz bu) #[iI bg,.string bw,iI aP,sl bH bF bI,sl bJ bn bK] 84,.mp (zz wi) (zz bd) be bf,.row br (.slice av (D.set aP.toNat 1).length aw) 3 1 (D.set aP.toNat 1).length el]:=by simpa only[List.length_set,List.eraseIdx_zero,List.eraseIdx_cons_succ,List.tail_cons,List.set_cons_succ,List.set_cons_zero,List.nil_append,List.cons_append] using il
           exact go 2 ⟨hE 7,aD<|gx 1 ⟨_,D.set aP.toNat 1,av,aw,el,fK,io,im,adJ bE,h⟩⟩
          ·exact gd 3 ⟨_,D,av,aw,ba,fK,cP,bv.mono (fun _ _ h=>h),bE,h⟩
         ·rintro _ ip⟨eg,bi,cf,ch,cQ,rfl,dk,iq,ir,h⟩;refine gD 5 [4,3] dk ?_;have em:=atO dk;refine cB h (fun _ it=>IH48 it (hG.mono<|((((((ac.trans au).trans ay).trans aB).trans aG).trans aH).trans aN).trans b0) (mf bW b0) bX (mp bY b0) (ms bZ b0) iq ir (Nat.le_trans hbr dk.size) (ms h9 b0)<|pt em) ?_;rintro⟨⟨⟨iu⟩,⟨iv,iw,ix,iy,iz,iA⟩,iB⟩,k3⟩ _ k4⟨eo,ep,eq,es,et,eu,ew,ex,ey,ez,rfl,eC,eD,eF,eH,eI,eJ,eL⟩ h;have eM:=ca eC em;refine go 3 (bC 187 h ?_ ?_)<;>intro _ h
          ·refine gd 12 ?_;cases oj h o;exact rt1 ⟨eo,ep,eq,es,et,eu,ew,ex,ey,ez,rfl,eM.sel [0,1],eD,eF,eH,eI,eJ,eL⟩
          ·exact gd 5<|iCl b7 ((mc dl<|(((((ac.trans au).trans ay).trans aB).trans aG).trans aH).trans aN).len)<|go 3 ⟨_,Nat.lt_succ_self _,_,eo,bm,bD+1,iu,ep,eq,iv,iw,es,et,ix,iy,iz,iA,eu,ew,iB,ex,ey,ez,rfl,fK,(aN.trans b0).trans eC.sub,eM.sel [0,2,4,1],aac b7,eD,eF,eH,eI,eJ,eL,h⟩
theorem anT(k0:Nat) : ∀k,aeE (afw k0 k).f48∧aeC (afw k0 k).f73:=by
 intro k;induction k with
 | zero=>exact⟨by simp[aeE,afw],by simp[aeC,afw]⟩
 | succ k ih=>exact⟨asI k0 (afw k0 k) ih.1 ih.2,atg k0 (afw k0 k) ih.1 ih.2⟩
theorem axu(k:Nat):aeE (f48 k):=(anT k k).1
theorem ay1(k:Nat):aeC (f73 k):=(anT k k).2
theorem aqx(k:Nat):atd (f26 k):=by
 intro K wi c8 d4 d5 d6 d7 h hG c9 da;obtain⟨n,r,h⟩:=rz h;obtain⟨d8⟩:=c8;obtain⟨d9,c1,rfl,db⟩:=aad.open c9;refine en 82 Tryz.func26 rfl ?_;unfold f26 at h;refine gI 8 [] [[nS]] da (fun az ea b5=>ask<|gD 3 [0,1,1] b5<|cB h (fun _ dc=>(awJ k) dc (hG.mono kr) (aad.intro db)<|pt b5) ?_);rintro⟨⟨ec⟩,ed⟩ _ ee⟨dd,ef,rfl,an,de⟩ h;have df:=ca an b5;obtain⟨eg,eh,rfl,dg⟩:=aad.open de;refine gR 15 [0] [[nS]] df (fun ei ej bi=>bC 18 h ?_ ?_)<;>intro _ h
 ·refine gd 3<|bld (cells:=#[nS]) (vs:=[]) rfl (fun w=>by kernel_rfl)<|gR 8 [1] [] bi (fun ek cA=>ngR ?_);cases oj h r;exact arQ rfl (rNl 1 cA rfl) (resT rfl) (resT rfl) ⟨dd,[nS],none,0,rfl,cA.sel [],aad.intro<|RSl.nil _ _ _ _ _ _,RSl.nil _ _ _ _ _ _⟩
 ·refine gD 6 [0,0,1] bi<|cB h (fun _ dh=>(awT k) dh (gm hG an) (aad.intro dg)<|pt bi) ?_;rintro⟨⟨d⟩,di⟩ _ aA⟨aX,el,rfl,ar,dj⟩ h;have dk:=ca ar bi;obtain⟨e,f,rfl,U⟩:=aad.open dj;refine gR 15 [0] [[nS]] dk (fun em eo bj=>bC 27 h ?_ ?_)<;>intro _ h
  ·refine gd 3<|bld (cells:=#[nS]) (vs:=[]) rfl (fun w=>by kernel_rfl)<|gR 8 [2] [] bj (fun ep cC=>ngR ?_);cases oj h r;exact arQ rfl (rNl 2 cC rfl) (resT rfl) (resT rfl) ⟨aX,[nS],none,0,rfl,cC.sel [],aad.intro<|RSl.nil _ _ _ _ _ _,RSl.nil _ _ _ _ _ _⟩
  ·refine gd 9<|wp_label<|gx 1<|wk bj (fun j m=>∃cD aY b6 aB bk bm b7,j cD [2,7] [(6,iI b6),(8,sl bk aB bm)]∧KH.sub aX aY∧m aY [] [.box (zz wi) (zz az) #[nS] 24,.box (zz wi) (zz aA) #[sl e d f] 24,eW (zz wi) bk aB bm 36 1 b7]∧Reps (RSlE Int (fun K=>RInt .i64) 1 8 aY) 1 aB b7∧aB.length*24≤mB∧alP k d b6 aB=some n) ?_ ?_
   ·refine gD 9 [0,1] bj ?_;have cG:=bj.row_ (zz wi) 36 1;refine wl cG (fun j m g_=>∃cH aT ak,∃(au:Nat),∃aG B ao ap aq,g_=ak.length∧j cH [2,7,31,32] [(6,iI aG),(8,sl ao B ap),(33,iI (au:Int))]∧KH.sub aX aT∧m aT [] [.box (zz wi) (zz az) #[nS] 24,.box (zz wi) (zz aA) #[sl e d f] 24,eW (zz wi) ao B ap 36 1 aq]∧d.drop au=ak∧Reps (RSlE Int (fun K=>RInt .i64) 1 8 aT) 1 B aq∧B.length*24≤mB∧afj k d ak au aG B=some n) d.length ?_ ?_
    ·exact⟨_,aX,d,0,di,([]:List (List Int)),none,0,[],rfl,fK,kr,cG.sel [3,1,0],List.drop_zero,abo (R:=(RSlE Int (fun K=>RInt .i64) 1 8 aX)) (size:=1),(by simp),h⟩
    ·rintro _ _ cI⟨cH,aT,ak,au,aG,B,ao,ap,aq,rfl,rfl,A,b8,aZ,b9,cJ,h⟩;rcases ak with _|⟨⟨p,a,l,q,b,o⟩,ak⟩
     ·exact gd 2<|cNl aZ<|go 9 ⟨_,aT,aG,B,ao,ap,aq,fK,A,b8,b9,cJ,h⟩
     ·refine gd 2<|cCl aZ<|go 10<|eN b8 (mf U A) aZ aak.open ?_;rintro eq es et eu ew ex⟨s,t,u,v,rfl,N,O,G⟩;refine gR 4 [0] [[sE,nS,iI 0,vN,iI 0,nS]] b8 (fun ey ez cK=>wk cK (fun j m=>∃cL Y aH a1 bn bo a2 a3 bp bq br bs bu a4 bv bw al a5 a6 bx,j cL [2,6,7,8,10,31,32,33] [(11,pp aH 0)]∧KH.sub aT Y∧m Y [] [.box (zz wi) (zz az) #[nS] 24,.box (zz wi) (zz aA) #[sl e d f] 24,.box (zz wi) (zz cI) (aF p s a t l q b u o v) 52,.box (zz wi) aH #[sl bn a1 bo,.string a2,sl bp a3 bq,iI br,.bool bs,iI bu,sl bv a4 bw,sl a5 al a6] 87,eW (zz wi) ao B ap 36 1 aq,eW (zz wi) a5 al a6 3 1 bx]∧tF Y bn bo a1∧a2.size≤mB∧tP Y bp bq a3∧tS Y bv bw a4∧Reps (RInt .i64) 1 al bx∧al.length*8≤mB∧ap4 k d aG B au l o a1 a2 a3 br bs bu a4 al (afj k d ak)=some n) ?_ ?_)
      ·refine rB [10] cK (fun C cM=>ah 6 [2,0,0,6,4,4,5,1,6,1,7,1,8] cM<|kA 9 (w64<|b - (a.length:Int)) rfl cM<|an3 (i:=0) (j:=1) (k:=3) ?_ ?_ ?_)
       ·refine opQ (i:=0) rfl<|gP 3 [0,2,1] C<|wB (fq [0,1,2,3] C) (fun dl=>an2 (i:=1) (j:=3) ?_ ?_)
        ·refine opQ (i:=1) rfl<|gP 3 [0,0,6] C<|wB (fq [0,1,2,3] C) (fun dm=>aQ 3 rfl<|cB h (fun _ cb=>(aiB k) cb (hG.mono<|(an.sub.trans ar.sub).trans A) (aak.intro N O G)<|pt C) ?_);rintro g _ dn⟨cc,dp,dq,dr,rfl,X,ce,ds⟩ h;have cf:=ca X C;have a7:=cf.lower_ (i:=0) rfl C.size;refine go 2<|wB (fwOf (is:=[1,2,3,4]) a7 X.sub rfl) (fun a8=>aQ 10 rfl ?_);obtain⟨S,h⟩:=aaQ h;exact apZ (i:=0) a7 rfl aeP (by rw[Tyk3];rfl) Tyi3 (by decide) rfl rfl ce (Nat.le_refl _) S (fun y z Z ab V ac=>go 2 ⟨hE 10,kH 11 (.agg #[sl e d f,.string p,sl s a t,iI l,.bool q,iI b,sl u o v,.slice y (g++List.replicate (w64<|b - (a.length:Int)).toNat (0:Int)).length z]) rfl (fun w=>ae3 (cells:=#[sl e d f,.string p,sl s a t,iI l,.bool q,iI b,sl u o v,.slice y (g++List.replicate (w64<|b - (a.length:Int)).toNat (0:Int)).length z]) (vs:=[(0,.agg #[sl e d f]),(1,.agg<|aF p s a t l q b u o v),(2,.slice y (g++List.replicate (w64<|b - (a.length:Int)).toNat (0:Int)).length z)]) rfl (fun w=>by kernel_rfl)) 10<|aQ 12 rfl<|gR 3 [] [] V (fun a9 ad=>⟨hE 10,ag 1 [13] (hE 10)<|aD<|gx 1 ⟨_,cc,zz ab,d,e,f,p,a,s,t,l,q,b,o,u,v,g++List.replicate (w64<|b - (a.length:Int)).toNat (0:Int),y,z,Z,fK,X.sub,ad.sel [3,4,2,0,5,1],mf U<|A.trans X.sub,N,mp O X.sub,ms G X.sub,ac,abx S,h⟩⟩)⟩)
        ·refine opQ (i:=3) rfl<|cB h (fun _ ch=>(aiB k) ch (hG.mono<|(an.sub.trans ar.sub).trans A) (aak.intro N O G)<|pt C) ?_;rintro g _ dt⟨ba,du,dv,dw,rfl,D,bb,dx⟩ h;have ci:=ca D C;have ae:=ci.lower_ (i:=0) rfl C.size;refine go 2<|wB (fwOf (is:=[1,2,3,4]) ae D.sub rfl) (fun cj=>an2 (i:=1) (j:=10) ?_ ?_)
         ·refine opQ (i:=1) rfl<|gP 3 [0,1,6] ae<|wB (fwOf (is:=[1,2,3,4]) ae D.sub rfl) (fun a8=>aQ 10 rfl ?_);obtain⟨S,h⟩:=aaQ h;exact apZ (i:=0) ae rfl aeP (by rw[Tyk3];rfl) Tyi3 (by decide) rfl rfl bb (Nat.le_refl _) S (fun y z Z ab V ac=>go 2 ⟨hE 10,kH 11 (.agg #[sl e d f,.string p,sl s a t,iI l,.bool q,iI b,sl u o v,.slice y (g++List.replicate (w64<|b - (a.length:Int)).toNat (0:Int)).length z]) rfl (fun w=>ae3 (cells:=#[sl e d f,.string p,sl s a t,iI l,.bool q,iI b,sl u o v,.slice y (g++List.replicate (w64<|b - (a.length:Int)).toNat (0:Int)).length z]) (vs:=[(0,.agg #[sl e d f]),(1,.agg<|aF p s a t l q b u o v),(2,.slice y (g++List.replicate (w64<|b - (a.length:Int)).toNat (0:Int)).length z)]) rfl (fun w=>by kernel_rfl)) 10<|aQ 12 rfl<|gR 3 [] [] V (fun a9 ad=>⟨hE 10,ag 1 [13] (hE 10)<|aD<|gx 1 ⟨_,ba,zz ab,d,e,f,p,a,s,t,l,q,b,o,u,v,g++List.replicate (w64<|b - (a.length:Int)).toNat (0:Int),y,z,Z,fK,D.sub,ad.sel [3,4,2,0,5,1],mf U<|A.trans D.sub,N,mp O D.sub,ms G D.sub,ac,abx S,h⟩⟩)⟩)
         ·refine opQ (i:=10) rfl ?_;obtain⟨af,h⟩:=aaQ h;exact apZ (i:=0) ae rfl aeP (by rw[Tyk3];rfl) Tyi3 (by decide) rfl rfl bb (Nat.le_refl _) af (fun I J aI aK ai aL=>go 2 ⟨hE 10,aQ 1 rfl<|gP 3 [0,1,6] ai ⟨hE 10,kH 11 (.agg #[sl e d f,.string p,sl s a t,iI l,.bool q,iI b,sl u o v,.slice I (g++List.replicate (w64<|b - (a.length:Int)).toNat (0:Int)).length J]) rfl (fun w=>ae3 (cells:=#[sl e d f,.string p,sl s a t,iI l,.bool q,iI b,sl u o v,.slice I (g++List.replicate (w64<|b - (a.length:Int)).toNat (0:Int)).length J]) (vs:=[(0,.agg #[sl e d f]),(1,.agg<|aF p s a t l q b u o v),(2,.slice I (g++List.replicate (w64<|b - (a.length:Int)).toNat (0:Int)).length J)]) rfl (fun w=>by kernel_rfl)) 10<|aQ 12 rfl<|gR 3 [] [] ai (fun ck aM=>⟨hE 10,ag 1 [13] (hE 10)<|aD<|gx 1 ⟨_,ba,zz aK,d,e,f,p,a,s,t,l,q,b,o,u,v,g++List.replicate (w64<|b - (a.length:Int)).toNat (0:Int),I,J,aI,fK,D.sub,aM.sel [3,4,2,0,5,1],mf U<|A.trans D.sub,N,mp O D.sub,ms G D.sub,aL,abx af,h⟩⟩)⟩⟩)
       ·refine opQ (i:=1) rfl<|gP 3 [0,0,6] C<|wB (fq [0,1,2,3] C) (fun dl=>an2 (i:=0) (j:=3) ?_ ?_)
        ·refine opQ (i:=0) rfl<|gP 3 [0,2,1] C<|wB (fq [0,1,2,3] C) (fun dm=>aQ 3 rfl<|cB h (fun _ cb=>(aiB k) cb (hG.mono<|(an.sub.trans ar.sub).trans A) (aak.intro N O G)<|pt C) ?_);rintro g _ dn⟨cc,dp,dq,dr,rfl,X,ce,ds⟩ h;have cf:=ca X C;have a7:=cf.lower_ (i:=0) rfl C.size;refine go 2<|wB (fwOf (is:=[1,2,3,4]) a7 X.sub rfl) (fun a8=>aQ 10 rfl ?_);obtain⟨S,h⟩:=aaQ h;exact apZ (i:=0) a7 rfl aeP (by rw[Tyk3];rfl) Tyi3 (by decide) rfl rfl ce (Nat.le_refl _) S (fun y z Z ab V ac=>go 2 ⟨hE 10,kH 11 (.agg #[sl e d f,.string p,sl s a t,iI l,.bool q,iI b,sl u o v,.slice y (g++List.replicate (w64<|b - (a.length:Int)).toNat (0:Int)).length z]) rfl (fun w=>ae3 (cells:=#[sl e d f,.string p,sl s a t,iI l,.bool q,iI b,sl u o v,.slice y (g++List.replicate (w64<|b - (a.length:Int)).toNat (0:Int)).length z]) (vs:=[(0,.agg #[sl e d f]),(1,.agg<|aF p s a t l q b u o v),(2,.slice y (g++List.replicate (w64<|b - (a.length:Int)).toNat (0:Int)).length z)]) rfl (fun w=>by kernel_rfl)) 10<|aQ 12 rfl<|gR 3 [] [] V (fun a9 ad=>⟨hE 10,ag 1 [13] (hE 10)<|aD<|gx 1 ⟨_,cc,zz ab,d,e,f,p,a,s,t,l,q,b,o,u,v,g++List.replicate (w64<|b - (a.length:Int)).toNat (0:Int),y,z,Z,fK,X.sub,ad.sel [3,4,2,0,5,1],mf U<|A.trans X.sub,N,mp O X.sub,ms G X.sub,ac,abx S,h⟩⟩)⟩)
        ·refine opQ (i:=3) rfl<|cB h (fun _ ch=>(aiB k) ch (hG.mono<|(an.sub.trans ar.sub).trans A) (aak.intro N O G)<|pt C) ?_;rintro g _ dt⟨ba,du,dv,dw,rfl,D,bb,dx⟩ h;have ci:=ca D C;have ae:=ci.lower_ (i:=0) rfl C.size;refine go 2<|wB (fwOf (is:=[1,2,3,4]) ae D.sub rfl) (fun cj=>an2 (i:=0) (j:=10) ?_ ?_)
         ·refine opQ (i:=0) rfl<|gP 3 [0,3,1] ae<|wB (fwOf (is:=[1,2,3,4]) ae D.sub rfl) (fun a8=>aQ 10 rfl ?_);obtain⟨S,h⟩:=aaQ h;exact apZ (i:=0) ae rfl aeP (by rw[Tyk3];rfl) Tyi3 (by decide) rfl rfl bb (Nat.le_refl _) S (fun y z Z ab V ac=>go 2 ⟨hE 10,kH 11 (.agg #[sl e d f,.string p,sl s a t,iI l,.bool q,iI b,sl u o v,.slice y (g++List.replicate (w64<|b - (a.length:Int)).toNat (0:Int)).length z]) rfl (fun w=>ae3 (cells:=#[sl e d f,.string p,sl s a t,iI l,.bool q,iI b,sl u o v,.slice y (g++List.replicate (w64<|b - (a.length:Int)).toNat (0:Int)).length z]) (vs:=[(0,.agg #[sl e d f]),(1,.agg<|aF p s a t l q b u o v),(2,.slice y (g++List.replicate (w64<|b - (a.length:Int)).toNat (0:Int)).length z)]) rfl (fun w=>by kernel_rfl)) 10<|aQ 12 rfl<|gR 3 [] [] V (fun a9 ad=>⟨hE 10,ag 1 [13] (hE 10)<|aD<|gx 1 ⟨_,ba,zz ab,d,e,f,p,a,s,t,l,q,b,o,u,v,g++List.replicate (w64<|b - (a.length:Int)).toNat (0:Int),y,z,Z,fK,D.sub,ad.sel [3,4,2,0,5,1],mf U<|A.trans D.sub,N,mp O D.sub,ms G D.sub,ac,abx S,h⟩⟩)⟩)
         ·refine opQ (i:=10) rfl ?_;obtain⟨af,h⟩:=aaQ h;exact apZ (i:=0) ae rfl aeP (by rw[Tyk3];rfl) Tyi3 (by decide) rfl rfl bb (Nat.le_refl _) af (fun I J aI aK ai aL=>go 2 ⟨hE 10,aQ 0 rfl<|gP 3 [0,3,1] ai ⟨hE 10,kH 11 (.agg #[sl e d f,.string p,sl s a t,iI l,.bool q,iI b,sl u o v,.slice I (g++List.replicate (w64<|b - (a.length:Int)).toNat (0:Int)).length J]) rfl (fun w=>ae3 (cells:=#[sl e d f,.string p,sl s a t,iI l,.bool q,iI b,sl u o v,.slice I (g++List.replicate (w64<|b - (a.length:Int)).toNat (0:Int)).length J]) (vs:=[(0,.agg #[sl e d f]),(1,.agg<|aF p s a t l q b u o v),(2,.slice I (g++List.replicate (w64<|b - (a.length:Int)).toNat (0:Int)).length J)]) rfl (fun w=>by kernel_rfl)) 10<|aQ 12 rfl<|gR 3 [] [] ai (fun ck aM=>⟨hE 10,ag 1 [13] (hE 10)<|aD<|gx 1 ⟨_,ba,zz aK,d,e,f,p,a,s,t,l,q,b,o,u,v,g++List.replicate (w64<|b - (a.length:Int)).toNat (0:Int),I,J,aI,fK,D.sub,aM.sel [3,4,2,0,5,1],mf U<|A.trans D.sub,N,mp O D.sub,ms G D.sub,aL,abx af,h⟩⟩)⟩⟩)
       ·refine opQ (i:=3) rfl<|cB h (fun _ dy=>(aiB k) dy (hG.mono<|(an.sub.trans ar.sub).trans A) (aak.intro N O G)<|pt C) ?_;rintro g _ eC⟨aU,eD,eF,eH,rfl,x,bd,eI⟩ h;have dz:=ca x C;have W:=dz.lower_ (i:=0) rfl C.size;refine go 2<|wB (fwOf (is:=[1,2,3,4]) W x.sub rfl) (fun eJ=>an3 (i:=0) (j:=1) (k:=10) ?_ ?_ ?_)
        ·refine opQ (i:=0) rfl<|gP 3 [0,3,1] W<|wB (fwOf (is:=[1,2,3,4]) W x.sub rfl) (fun cj=>an2 (i:=1) (j:=10) ?_ ?_)
         ·refine opQ (i:=1) rfl<|gP 3 [0,1,6] W<|wB (fwOf (is:=[1,2,3,4]) W x.sub rfl) (fun a8=>aQ 10 rfl ?_);obtain⟨S,h⟩:=aaQ h;exact apZ (i:=0) W rfl aeP (by rw[Tyk3];rfl) Tyi3 (by decide) rfl rfl bd (Nat.le_refl _) S (fun y z Z ab V ac=>go 2 ⟨hE 10,kH 11 (.agg #[sl e d f,.string p,sl s a t,iI l,.bool q,iI b,sl u o v,.slice y (g++List.replicate (w64<|b - (a.length:Int)).toNat (0:Int)).length z]) rfl (fun w=>ae3 (cells:=#[sl e d f,.string p,sl s a t,iI l,.bool q,iI b,sl u o v,.slice y (g++List.replicate (w64<|b - (a.length:Int)).toNat (0:Int)).length z]) (vs:=[(0,.agg #[sl e d f]),(1,.agg<|aF p s a t l q b u o v),(2,.slice y (g++List.replicate (w64<|b - (a.length:Int)).toNat (0:Int)).length z)]) rfl (fun w=>by kernel_rfl)) 10<|aQ 12 rfl<|gR 3 [] [] V (fun a9 ad=>⟨hE 10,ag 1 [13] (hE 10)<|aD<|gx 1 ⟨_,aU,zz ab,d,e,f,p,a,s,t,l,q,b,o,u,v,g++List.replicate (w64<|b - (a.length:Int)).toNat (0:Int),y,z,Z,fK,x.sub,ad.sel [3,4,2,0,5,1],mf U<|A.trans x.sub,N,mp O x.sub,ms G x.sub,ac,abx S,h⟩⟩)⟩)
         ·refine opQ (i:=10) rfl ?_;obtain⟨af,h⟩:=aaQ h;exact apZ (i:=0) W rfl aeP (by rw[Tyk3];rfl) Tyi3 (by decide) rfl rfl bd (Nat.le_refl _) af (fun I J aI aK ai aL=>go 2 ⟨hE 10,aQ 1 rfl<|gP 3 [0,1,6] ai ⟨hE 10,kH 11 (.agg #[sl e d f,.string p,sl s a t,iI l,.bool q,iI b,sl u o v,.slice I (g++List.replicate (w64<|b - (a.length:Int)).toNat (0:Int)).length J]) rfl (fun w=>ae3 (cells:=#[sl e d f,.string p,sl s a t,iI l,.bool q,iI b,sl u o v,.slice I (g++List.replicate (w64<|b - (a.length:Int)).toNat (0:Int)).length J]) (vs:=[(0,.agg #[sl e d f]),(1,.agg<|aF p s a t l q b u o v),(2,.slice I (g++List.replicate (w64<|b - (a.length:Int)).toNat (0:Int)).length J)]) rfl (fun w=>by kernel_rfl)) 10<|aQ 12 rfl<|gR 3 [] [] ai (fun ck aM=>⟨hE 10,ag 1 [13] (hE 10)<|aD<|gx 1 ⟨_,aU,zz aK,d,e,f,p,a,s,t,l,q,b,o,u,v,g++List.replicate (w64<|b - (a.length:Int)).toNat (0:Int),I,J,aI,fK,x.sub,aM.sel [3,4,2,0,5,1],mf U<|A.trans x.sub,N,mp O x.sub,ms G x.sub,aL,abx af,h⟩⟩)⟩⟩)
        ·refine opQ (i:=1) rfl<|gP 3 [0,1,6] W<|wB (fwOf (is:=[1,2,3,4]) W x.sub rfl) (fun cj=>an2 (i:=0) (j:=10) ?_ ?_)
         ·refine opQ (i:=0) rfl<|gP 3 [0,3,1] W<|wB (fwOf (is:=[1,2,3,4]) W x.sub rfl) (fun a8=>aQ 10 rfl ?_);obtain⟨S,h⟩:=aaQ h;exact apZ (i:=0) W rfl aeP (by rw[Tyk3];rfl) Tyi3 (by decide) rfl rfl bd (Nat.le_refl _) S (fun y z Z ab V ac=>go 2 ⟨hE 10,kH 11 (.agg #[sl e d f,.string p,sl s a t,iI l,.bool q,iI b,sl u o v,.slice y (g++List.replicate (w64<|b - (a.length:Int)).toNat (0:Int)).length z]) rfl (fun w=>ae3 (cells:=#[sl e d f,.string p,sl s a t,iI l,.bool q,iI b,sl u o v,.slice y (g++List.replicate (w64<|b - (a.length:Int)).toNat (0:Int)).length z]) (vs:=[(0,.agg #[sl e d f]),(1,.agg<|aF p s a t l q b u o v),(2,.slice y (g++List.replicate (w64<|b - (a.length:Int)).toNat (0:Int)).length z)]) rfl (fun w=>by kernel_rfl)) 10<|aQ 12 rfl<|gR 3 [] [] V (fun a9 ad=>⟨hE 10,ag 1 [13] (hE 10)<|aD<|gx 1 ⟨_,aU,zz ab,d,e,f,p,a,s,t,l,q,b,o,u,v,g++List.replicate (w64<|b - (a.length:Int)).toNat (0:Int),y,z,Z,fK,x.sub,ad.sel [3,4,2,0,5,1],mf U<|A.trans x.sub,N,mp O x.sub,ms G x.sub,ac,abx S,h⟩⟩)⟩)
         ·refine opQ (i:=10) rfl ?_;obtain⟨af,h⟩:=aaQ h;exact apZ (i:=0) W rfl aeP (by rw[Tyk3];rfl) Tyi3 (by decide) rfl rfl bd (Nat.le_refl _) af (fun I J aI aK ai aL=>go 2 ⟨hE 10,aQ 0 rfl<|gP 3 [0,3,1] ai ⟨hE 10,kH 11 (.agg #[sl e d f,.string p,sl s a t,iI l,.bool q,iI b,sl u o v,.slice I (g++List.replicate (w64<|b - (a.length:Int)).toNat (0:Int)).length J]) rfl (fun w=>ae3 (cells:=#[sl e d f,.string p,sl s a t,iI l,.bool q,iI b,sl u o v,.slice I (g++List.replicate (w64<|b - (a.length:Int)).toNat (0:Int)).length J]) (vs:=[(0,.agg #[sl e d f]),(1,.agg<|aF p s a t l q b u o v),(2,.slice I (g++List.replicate (w64<|b - (a.length:Int)).toNat (0:Int)).length J)]) rfl (fun w=>by kernel_rfl)) 10<|aQ 12 rfl<|gR 3 [] [] ai (fun ck aM=>⟨hE 10,ag 1 [13] (hE 10)<|aD<|gx 1 ⟨_,aU,zz aK,d,e,f,p,a,s,t,l,q,b,o,u,v,g++List.replicate (w64<|b - (a.length:Int)).toNat (0:Int),I,J,aI,fK,x.sub,aM.sel [3,4,2,0,5,1],mf U<|A.trans x.sub,N,mp O x.sub,ms G x.sub,aL,abx af,h⟩⟩)⟩⟩)
        ·refine opQ (i:=10) rfl ?_;obtain⟨cl,h⟩:=aaQ h;refine apZ (i:=0) W rfl aeP (by rw[Tyk3];rfl) Tyi3 (by decide) rfl rfl bd (Nat.le_refl _) cl (fun av aw cN cO aV cP=>go 2 ⟨hE 10,an2 (i:=0) (j:=1) ?_ ?_⟩)
         ·exact opQ (i:=0) rfl<|gP 3 [0,3,1] aV ⟨hE 10,aQ 1 rfl<|gP 3 [0,1,6] aV ⟨hE 10,kH 11 (.agg #[sl e d f,.string p,sl s a t,iI l,.bool q,iI b,sl u o v,.slice av (g++List.replicate (w64<|b - (a.length:Int)).toNat (0:Int)).length aw]) rfl (fun w=>ae3 (cells:=#[sl e d f,.string p,sl s a t,iI l,.bool q,iI b,sl u o v,.slice av (g++List.replicate (w64<|b - (a.length:Int)).toNat (0:Int)).length aw]) (vs:=[(0,.agg #[sl e d f]),(1,.agg<|aF p s a t l q b u o v),(2,.slice av (g++List.replicate (w64<|b - (a.length:Int)).toNat (0:Int)).length aw)]) rfl (fun w=>by kernel_rfl)) 10<|aQ 12 rfl<|gR 3 [] [] aV (fun dA V=>⟨hE 10,ag 1 [13] (hE 10)<|aD<|gx 1 ⟨_,aU,zz cO,d,e,f,p,a,s,t,l,q,b,o,u,v,g++List.replicate (w64<|b - (a.length:Int)).toNat (0:Int),av,aw,cN,fK,x.sub,V.sel [3,4,2,0,5,1],mf U<|A.trans x.sub,N,mp O x.sub,ms G x.sub,cP,abx cl,h⟩⟩)⟩⟩
         ·exact opQ (i:=1) rfl<|gP 3 [0,1,6] aV ⟨hE 10,aQ 0 rfl<|gP 3 [0,3,1] aV ⟨hE 10,kH 11 (.agg #[sl e d f,.string p,sl s a t,iI l,.bool q,iI b,sl u o v,.slice av (g++List.replicate (w64<|b - (a.length:Int)).toNat (0:Int)).length aw]) rfl (fun w=>ae3 (cells:=#[sl e d f,.string p,sl s a t,iI l,.bool q,iI b,sl u o v,.slice av (g++List.replicate (w64<|b - (a.length:Int)).toNat (0:Int)).length aw]) (vs:=[(0,.agg #[sl e d f]),(1,.agg<|aF p s a t l q b u o v),(2,.slice av (g++List.replicate (w64<|b - (a.length:Int)).toNat (0:Int)).length aw)]) rfl (fun w=>by kernel_rfl)) 10<|aQ 12 rfl<|gR 3 [] [] aV (fun dA V=>⟨hE 10,ag 1 [13] (hE 10)<|aD<|gx 1 ⟨_,aU,zz cO,d,e,f,p,a,s,t,l,q,b,o,u,v,g++List.replicate (w64<|b - (a.length:Int)).toNat (0:Int),av,aw,cN,fK,x.sub,V.sel [3,4,2,0,5,1],mf U<|A.trans x.sub,N,mp O x.sub,ms G x.sub,cP,abx cl,h⟩⟩)⟩⟩
      ·rintro _ dB⟨cL,Y,aH,a1,bn,bo,a2,a3,bp,bq,br,bs,bu,a4,bv,bw,al,a5,a6,bx,rfl,ax,bz,dC,dD,dE,dF,dG,dH,h⟩;refine wk bz (fun j m=>∃cQ am be bB bD bE bF bG bH bI cm cn co bJ bK bL aj bM bP cq,j cQ [2,7,8,11,31,32,33] [(6,iI be)]∧KH.sub Y am∧m am [] [.box (zz wi) (zz az) #[nS] 24,.box (zz wi) (zz aA) #[sl e d f] 24,.box (zz wi) aH #[sl bD bB bE,.string bF,sl bH bG bI,iI cm,.bool cn,iI co,sl bK bJ bL,sl bM aj bP] 87,eW (zz wi) ao B ap 36 1 aq,eW (zz wi) bM aj bP 3 1 cq]∧tF am bD bE bB∧bF.size≤mB∧tP am bH bI bG∧tS am bK bL bJ∧Reps (RInt .i64) 1 aj cq∧aj.length*8≤mB∧akW k d B au be aj (afj k d ak)=some n) ?_ ?_
       ·refine gD 6 [5,3] bz ?_;have cR:SR K Y wi dB [] [.box (zz wi) aH #[sl bn a1 bo,.string a2,sl bp a3 bq,iI br,.bool bs,iI bu,sl bv a4 bw,sl a5 al a6] 87,eW (zz wi) a5 al a6 3 1 bx,.box (zz wi) (zz az) #[nS] 24,.box (zz wi) (zz aA) #[sl e d f] 24,.box (zz wi) (zz cI) (aF p s a t l q b u o v) 52,eW (zz wi) ao B ap 36 1 aq]:=bz.sel [3,5,0,1,2,4];refine cB h (fun _ dI=>(axu k) dI (hG.mono<|((an.sub.trans ar.sub).trans A).trans ax) dC dD dE dF dG dH (Nat.le_trans (Nat.le_refl _) bz.size) (ms G ax)<|pt cR) ?_;rintro⟨⟨⟨bQ⟩,⟨bR,bS,bT,bU,bV,bW⟩,aN⟩,eL⟩ _ eM⟨cr,bX,bY,bZ,b0,b1,b2,bf,bg,b3,rfl,aW,cs,ct,cu,cw,cx,cy⟩ h;have aP:=ca aW cR;refine go 4 (bC 50 h ?_ ?_)<;>intro _ h
        ·exact gd 6 ⟨_,cr,23,bQ,bX,bY,bR,bS,bZ,b0,bT,bU,bV,bW,b1,b2,aN,bf,bg,b3,fK,aW.sub,aP.sel [2,3,0,5,1],cs,ct,cu,cw,cx,cy,h⟩
        ·refine gd 1<|wk aP (fun j m=>∃cS bh cz,j cS [2,6,7,8,11,31,32,33] [(56,.bool cz)]∧KH.sub cr bh∧m bh [] [.box (zz wi) (zz az) #[nS] 24,.box (zz wi) (zz aA) #[sl e d f] 24,.box (zz wi) aH #[sl bX bQ bY,.string bR,sl bZ bS b0,iI bT,.bool bU,iI bV,sl b1 bW b2,sl bf aN bg] 87,eW (zz wi) ao B ap 36 1 aq,eW (zz wi) bf aN bg 3 1 b3]∧anf k d aG B au aN cz (afj k d ak)=some n) ?_ ?_
         ·refine gD 5 [2,5] aP (bO 60 h ?_ ?_)<;>intro _ h
          ·refine gP 5 [5,5] aP<|cB h (fun _ dJ=>(atJ k) dJ (hG.mono<|(((an.sub.trans ar.sub).trans A).trans ax).trans aW.sub) (ms G<|ax.trans aW.sub)<|pt aP) ?_;rintro dK _ eO⟨dL,rfl,cU⟩ h;have dM:=ca cU aP;exact go 6 ⟨_,dL,!dK,fK,cU.sub,dM.sel [2,3,0,5,1],h⟩
          ·exact go 8 ⟨_,cr,false,fK,kr,aP.sel [2,3,0,5,1],h⟩
         ·rintro _ eP⟨cS,bh,cz,rfl,ay,cV,h⟩;refine bC 56 h ?_ ?_<;>intro _ h
          ·exact gd 6 ⟨_,bh,26,bQ,bX,bY,bR,bS,bZ,b0,bT,bU,bV,bW,b1,b2,aN,bf,bg,b3,fK,aW.sub.trans ay,cV,mf cs ay,ct,mp cu ay,ms cw ay,cx.mono (fun _ _ h=>h),cy,h⟩
          ·exact gd 4 ⟨_,bh,aG,bQ,bX,bY,bR,bS,bZ,b0,bT,bU,bV,bW,b1,b2,aN,bf,bg,b3,fK,aW.sub.trans ay,cV,mf cs ay,ct,mp cu ay,ms cw ay,cx.mono (fun _ _ h=>h),cy,h⟩
       ·rintro _ eQ⟨cQ,am,be,bB,bD,bE,bF,bG,bH,bI,cm,cn,co,bJ,bK,bL,aj,bM,bP,cq,rfl,b4,cW,eR,eS,eT,eU,dN,dO,h⟩;refine gd 7 (bC 67 h ?_ ?_)<;>intro _ h
        ·exact gd 8 ⟨_,am,be,B,ao,ap,aq,fK,(A.trans ax).trans b4,cW.sel [0,1,3],b9.mono (fun _ _ h=>RSlE.mono (R:=fun K=>RInt .i64) (fun _ _ _ h=>h) (ax.trans b4) h),cJ,h⟩
        ·refine gI 10 [7,3,36] [] cW (fun eV dP=>?_);obtain⟨cY,dQ,cZ,dR⟩:=abD (i:=5) (bytes:=8) (R:=fun K=>(RInt .i64)) dP rfl (Nat.le_refl _) dN dO (fun hs=>(fun _ _ h=>h));refine aJ h 4 0 dQ rfl rfl (b9.mono (fun _ _ h=>RSlE.mono (R:=fun K=>RInt .i64) (fun _ _ _ h=>h) ((ax.trans b4).trans cZ) h)) ⟨_,_,rfl,dR⟩ ?_;rintro c2 c3 c4 dS dT dU dV h;have dW:=akF dT;exact go 5<|iCl aZ ((mf U A).len)<|go 3 ⟨_,Nat.lt_succ_self _,_,cY,ak,au+1,be,B++[aj],c2,c3,c4,rfl,fK,((A.trans ax).trans b4).trans cZ,dW.sel [0,1,3],aac aZ,dU,aav dV,h⟩
   ·rintro _ eX⟨cD,aY,b6,aB,bk,bm,b7,rfl,dX,c5,dY,dZ,h⟩;refine gd 7 (bC 77 h ?_ ?_)<;>intro _ h
    ·refine gd 3<|bld (cells:=#[nS]) (vs:=[]) rfl (fun w=>by kernel_rfl)<|gR 8 [0] [] c5 (fun eY c6=>ngR ?_);cases oj h r;exact arQ rfl (rNl 0 c6 rfl) (resT rfl) (resT rfl) ⟨aY,[nS],none,0,rfl,c6.sel [],aad.intro<|RSl.nil _ _ _ _ _ _,RSl.nil _ _ _ _ _ _⟩
    ·refine gI 13 [0,1,1,0] [] c5 (fun eZ c7=>ngR ?_);obtain⟨d0,d1,d2,d3⟩:=abD (i:=2) (bytes:=24) (R:=fun K=>(RSlE Int (fun K=>(RInt .i64)) 1 8 K)) c7 rfl (Nat.le_refl _) dY dZ (fun hs=>(fun _ _ h=>RSlE.mono (R:=fun K=>(RInt .i64)) (fun _ _ _ h=>h) hs h));cases oj h r;exact arQ rfl (rNl 0 c7 rfl) (resT rfl) (resT rfl) ⟨d0,[sl e d f],bk,bm,rfl,d1.sel [],aad.intro<|mf U<|dX.trans d2,d3⟩
theorem awz(k:Nat):asO (f17 k):=by
 intro K wi A ab d ac ad h hG B C;obtain⟨n,o,h⟩:=rz h;obtain⟨ae⟩:=A;obtain⟨af,c1,rfl,D⟩:=aad.open B;refine en 34 Tryz.func17 rfl ?_;unfold f17 at h;refine gI 10 [0,0,1] [] C (fun ai r=>cB h (fun _ G=>(aqx k) G (hG.mono kr) (aad.intro D)<|pt r) ?_);rintro⟨⟨aj⟩,f,s⟩ _ ak⟨e,al,am,an,rfl,I,J,N⟩ h;have O:=ca I r;obtain⟨ao,ap,rfl,aq⟩:=aad.open J;refine gR 10 [0] [[nS]] O (fun ar au a=>wk a (fun j m=>∃t g,j t [1,7] [(8,iI g)]∧m e [] []∧alA k d f g=some n) ?_ ?_)
 ·refine wk a (fun j m=>∃u l,j u [1,7,8] [(26,.bool l)]∧m e [] []∧aig k d f s l=some n) ?_ ?_
  ·refine gd 4 (bO 17 h ?_ ?_)<;>intro _ h
   ·refine go 6 (bO 20 h ?_ ?_)<;>intro _ h
    ·exact go 9 ⟨_,true,fK,a.sel [],h⟩
    ·exact go 13 ⟨_,decide<|d≥(f.length:Int),fK,a.sel [],h⟩
   ·exact go 11 ⟨_,false,fK,a.sel [],h⟩
  ·rintro _ av⟨u,l,rfl,x,h⟩;refine bC 26 h ?_ ?_<;>intro _ h
   ·exact gd 5 ⟨_,2,fK,x,h⟩
   ·exact gd 3 ⟨_,s,fK,x,h⟩
 ·rintro _ aw⟨t,g,rfl,p,h⟩;refine gd 7 (bC 28 h ?_ ?_)<;>intro _ h
  ·refine gd 10 ?_;cases oj h o;exact rt2 ⟨e,none,0,rfl,p,RSl.nil _ _ _ _ _ _⟩
  ·refine gd 7 ?_;obtain⟨S,q,h⟩:=ob h;obtain⟨U,V,ax,W,ay,X,Y⟩:=(N).row.at_ (aay q).1;obtain⟨y,z,rfl,Z⟩:=Y;refine iGl 36 1 W q<|ld1 (v:=sl y S z) ayg rfl (p.cell<|kr.cell<|X 0 _ rfl)<|go 5 ?_;cases oj h o;exact rt2 ⟨e,y,z,rfl,p,Z⟩
theorem awN(k:Nat):asJ (f18 k):=by
 intro K wi D ak d al am h hG G I;obtain⟨n,o,h⟩:=rz h;obtain⟨an⟩:=D;obtain⟨ao,c1,rfl,J⟩:=aad.open G;refine en 38 Tryz.func18 rfl ?_;unfold f18 at h;refine gI 10 [0,0,1] [] I (fun ap r=>cB h (fun _ N=>(aqx k) N (hG.mono kr) (aad.intro J)<|pt r) ?_);rintro⟨⟨e⟩,aq,s⟩ _ t⟨g,ar,au,av,rfl,u,O,aw⟩ h;have S:=ca u r;obtain⟨x,y,rfl,U⟩:=aad.open O;refine gR 10 [0] [[nS]] S (fun ax ay a=>wk a (fun j m=>∃z l,j z [1,6] [(8,iI l)]∧m g [] [.box (zz wi) (zz t) #[sl x e y] 24]∧alf k d e l=some n) ?_ ?_)
 ·refine wk a (fun j m=>∃A p,j A [1,6,8] [(27,.bool p)]∧m g [] [.box (zz wi) (zz t) #[sl x e y] 24]∧aiE k d e s p=some n) ?_ ?_
  ·refine gd 4 (bO 17 h ?_ ?_)<;>intro _ h
   ·refine go 6 (bO 20 h ?_ ?_)<;>intro _ h
    ·exact go 10 ⟨_,true,fK,a.sel [0],h⟩
    ·exact gP 15 [0,1] a ⟨_,decide<|d≥(e.length:Int),fK,a.sel [0],h⟩
   ·exact go 12 ⟨_,false,fK,a.sel [0],h⟩
  ·rintro _ az⟨A,p,rfl,B,h⟩;refine bC 27 h ?_ ?_<;>intro _ h
   ·exact gd 5 ⟨_,2,fK,B,h⟩
   ·exact gd 3 ⟨_,s,fK,B,h⟩
 ·rintro _ aA⟨z,l,rfl,f,h⟩;refine gd 7 (bC 29 h ?_ ?_)<;>intro _ h
  ·refine gd 10 ?_;cases oj h o;exact rt2 ⟨g,rfl,f.sel []⟩
  ·refine gD 8 [0,1] f ?_;obtain⟨⟨aB,aG,aH,aI,aK,V⟩,q,h⟩:=ob h;obtain⟨W,C,aL,X,aM,Y,Z⟩:=(U).row.at_ (aay q).1;obtain⟨aN,aP,ab,ac,rfl,aT,aU,ad⟩:=aak.open Z;refine iGl 52 6 X q<|fd (C+d.toNat*6+5) ahg rfl<|ld1 (v:=sl ab V ac) akU rfl (f.cell<|kr.cell<|Y 5 _ rfl)<|cB h (fun _ ae=>(atJ k) ae (gm hG u) ad<|pt f) ?_;rintro aV _ aW⟨af,rfl,ai⟩ h;have aj:=ca ai f;refine go 5 ?_;cases oj h o;exact rt2 ⟨af,rfl,aj.sel []⟩
theorem awU(k:Nat):asi (f19 k):=by
 intro K wi l U V C W X Y h hG r D p;obtain⟨r_,n,h⟩:=rz h;refine en 26 Tryz.func19 rfl ?_;unfold f19 at h;refine gd 15 (bC 10 h ?_ ?_)<;>intro _ h
 ·refine gd 8 ?_;cases oj h n;exact rt1 ⟨K,rfl,p⟩
 ·refine gd 10<|wl p (fun j m g_=>∃s d,∃(a:Nat),g_=d.length∧j s [0,1] [(5,iI (a:Int))]∧m K [] []∧l.drop a=d∧alE k C d a=some r_) l.length ?_ ?_
  ·exact⟨_,l,0,rfl,fK,p,List.drop_zero,h⟩
  ·rintro _ _ Z⟨s,d,a,rfl,rfl,t,e,h⟩;rcases d with _|⟨u,d⟩
   ·refine gd 6<|cNl e<|go 14 ?_;cases oj h n;exact rt1 ⟨K,rfl,t⟩
   ·refine gd 6<|cCl e<|go 8<|rB [] t (fun g f=>ah 2 [0,1] f ?_);obtain⟨x,y,ab,G,ac,I,J⟩:=(r).row.at_ (aaB e);obtain rfl:=J;refine kK 2 (pp x<|y+a*1) rfl (fun w=>aiw (b:=x) (o:=y) (i:=a) aeP Tys3 rfl G rfl<|aaR e) f<|tT 3 (iI u) [] rfl (fq [] g) (fun w hF=>acE (v:=iI u) Tya3 rfl<|hF.cell<|kr.cell<|I 0 _ rfl)<|ah 2 [4,5] f ?_;obtain⟨z,q,h⟩:=ob h;obtain⟨A,B,ad,N,ae,O,S⟩:=(D).row.at_ (aay q).1;obtain rfl:=S;refine kGl 3 1 6 rfl N q f (tT 7 (iI z) [] rfl (fq [] g) (fun w hF=>acE (v:=iI z) Tya3 rfl<|hF.cell<|kr.cell<|O 0 _ rfl)<|ah 1 [8] f<|aD<|gx 1<|bC 25 h ?_ ?_)<;>intro _ h
    ·refine gd 12 ?_;cases oj h n;exact rt1 ⟨K,rfl,g⟩
    ·exact gd 6<|iCl e ((r).len)<|go 3 ⟨_,Nat.lt_succ_self _,_,d,a+1,rfl,fK,g,aac e,h⟩
theorem axr(k:Nat):ar4 (f20 k):=by
 intro K wi g v x y h hG i j;obtain⟨r_,n,h⟩:=rz h;obtain⟨z⟩:=g;obtain⟨A,c1,rfl,a⟩:=aad.open i;refine en 19 Tryz.func20 rfl ?_;unfold f20 at h;refine gI 7 [] [] j (fun B l=>rB [] l (fun b d=>ah 5 [0,0,1,1,2,0,3,1,4] d ?_));obtain⟨⟨C,D,G,I,J,N⟩,m,h⟩:=ob h;refine eB 5 6 rfl rfl d a m aak.open ?_;rintro O S U V W o⟨X,Y,Z,ab,rfl,ac,ad,ae⟩;refine aQ 7 rfl<|cB h (fun _ p=>(atT k) p (hG.mono kr) a o<|pt b) ?_;rintro⟨af,ai⟩ _ aj⟨q,r,s,rfl,e,t⟩ h;have f:=ca e b;refine go 2<|wB (fwOf (is:=[0]) f e.sub rfl) (fun u=>ah 5 [8,9,10,11,12] u<|aD<|gx 8 ?_);cases oj h n;exact rt1 ⟨q,r,s,rfl,f.sel [],t⟩
theorem asx(k:Nat)(F:aoV)(IH45:afl F.f45):afl (aqv k F):=by
 intro K wi t ab ac x ad h hG y q;obtain⟨n,o,h⟩:=rz h;refine en 31 Tryz.func45 rfl ?_;unfold aqv at h;refine gd 12 (bC 8 h ?_ ?_)<;>intro _ h
 ·refine gd 8 ?_;cases oj h o;exact rt1 ⟨K,rfl,q⟩
 ·refine gd 8<|wk q (fun j m=>∃z s u,j z [] [(5,iI u)]∧KH.sub K s∧m s [] []∧arz k F u=some n) ?_ ?_
  ·refine gd 6<|wl q (fun j m g_=>∃A l d,∃(e:Nat),∃a,g_=d.length∧j A [0,1] [(5,iI a),(6,iI (e:Int))]∧KH.sub K l∧m l [] []∧t.drop e=d∧alx k F x d e a=some n) t.length ?_ ?_
   ·exact⟨_,K,t,0,0,rfl,fK,kr,q,List.drop_zero,h⟩
   ·rintro _ _ ae⟨A,l,d,e,a,rfl,rfl,f,p,g,h⟩;rcases d with _|⟨⟨af,ai,aj,ak,G⟩,d⟩
    ·exact gd 6<|cNl g<|go 12 ⟨_,l,a,fK,f,p,h⟩
    ·refine gd 6 (cCl g<|go 8<|bC 16 h ?_ ?_)<;>intro _ h
     ·refine gd 7<|bar (r:=(w64<|a+1)) rfl rfl rfl<|go 2 ?_;obtain⟨I,B,al,J,am,N,O⟩:=((me y f)).row.at_ (aaB g);obtain⟨S,U,rfl,an,V⟩:=aai.open O;refine iNl 35 5 J g<|fd (B+e*5+4) av8 rfl<|ld1 (v:=sl S G U) axh rfl (p.cell<|kr.cell<|N 4 _ rfl)<|go 1<|bar (r:=(w64<|x+1)) rfl rfl rfl<|cB h (fun _ W=>IH45 W (hG.mono f) V<|pt p) ?_;rintro C _ ao⟨X,rfl,D⟩ h;have Y:=ca D p;exact bar (r:=(w64<|(w64<|a+1)+C)) rfl rfl rfl<|go 6<|iCl g ((me y f).len)<|go 3 ⟨_,Nat.lt_succ_self _,_,X,d,e+1,w64<|(w64<|a+1)+C,rfl,fK,f.trans D.sub,Y,aac g,h⟩
     ·exact gd 6 ⟨_,l,a,fK,f,p,h⟩
  ·rintro _ ap⟨z,s,u,rfl,aq,Z,h⟩;refine gd 7 ?_;cases oj h o;exact rt1 ⟨s,rfl,Z⟩
theorem asZ(k0:Nat) : ∀k,afl (akS k0 k).f45:=by
 intro k;induction k with
 | zero=>simp[afl,akS]
 | succ k ih=>exact asx k0 (akS k0 k) ih
theorem atI(k:Nat):afl (f45 k):=(asZ k k)
theorem asc(k:Nat)(F:amo)(IH24:afi F.f24):afi (ao0 k F):=by
 intro K wi af bK bL d bM h hG ar Y;obtain⟨n,r,h⟩:=rz h;refine en 85 Tryz.func24 rfl ?_;unfold ao0 at h;refine gd 12 (bC 10 h ?_ ?_)<;>intro _ h
 ·refine gd 8 ?_;cases oj h r;exact rt1 ⟨K,rfl,Y⟩
 ·refine gd 8<|wk Y (fun j m=>∃au Z ai,j au [] [(5,iI ai)]∧KH.sub K Z∧m Z [] []∧aq8 k F ai=some n) ?_ ?_
  ·refine gd 6<|wl Y (fun j m g_=>∃av I u,∃(A:Nat),∃e,g_=u.length∧j av [0,1] [(5,iI e),(6,iI (A:Int))]∧KH.sub K I∧m I [] []∧af.drop A=u∧ahA k F d u A e=some n) af.length ?_ ?_
   ·exact⟨_,K,af,0,0,rfl,fK,kr,Y,List.drop_zero,h⟩
   ·rintro _ _ aV⟨av,I,u,A,e,rfl,rfl,q,O,S,h⟩;rcases u with _|⟨⟨aW,aX,aY,aZ,a2,a3,a4,a5,a6,a7,ab⟩,u⟩
    ·exact gd 6<|cNl S<|go 12 ⟨_,I,e,fK,q,O,h⟩
    ·refine gd 6 (cCl S<|go 8<|bC 18 h ?_ ?_)<;>intro _ h
     ·refine gd 3<|wk O (fun j m=>∃aw ac ad,j aw [0,1,6] [(5,iI ad)]∧KH.sub I ac∧m ac [] []∧apJ k F A ad (ahA k F d u)=some n) ?_ ?_
      ·refine gd 5<|eN O (ms ar q) S aag.open ?_;rintro bP bQ bR bS bT bU⟨a8,a9,ba,bb,bd,be,bf,bg,bh,bi,rfl,bV,bW,bj,bk,bm,bn,ax⟩;refine gR 5 [0] [[iI 0,sE,iI 0,sE,iI 0,iI 0,nS,nS,nS,nS,nS]] O (fun bX bY bo=>rB [] bo (fun ay t=>ah 1 [0] t<|kA 1 (w64<|e+1) rfl t<|ah 3 [2,6,3,1,4] t<|kA 5 (w64<|d+1) rfl t<|ah 3 [8,7,9,1,10] t<|kA 11 (w64<|d+1) rfl t<|ah 3 [14,8,15,1,16] t<|kA 17 (w64<|d+1) rfl t<|ah 3 [20,9,21,1,22] t<|kA 23 (w64<|d+1) rfl t<|aQ 6 rfl<|cB h (fun _ bp=>(atI k) bp (hG.mono q) bj<|pt ay) ?_));rintro x _ bZ⟨b0,rfl,a⟩ h;have aj:=ca a ay;refine go 2<|wB (fwOf (is:=[0]) aj a.sub rfl) (fun bq=>kA 7 (w64<|(w64<|e+1)+x) rfl bq<|aQ 12 rfl<|cB h (fun _ br=>IH24 br (hG.mono<|q.trans a.sub) (ms bk a.sub)<|pt aj) ?_);rintro B _ b1⟨b2,rfl,f⟩ h;have ak:=ca f aj;refine go 2<|wB (fwOf (is:=[0]) ak (a.sub.trans f.sub) rfl) (fun bs=>kA 13 (w64<|(w64<|(w64<|e+1)+x)+B) rfl bs<|aQ 18 rfl<|cB h (fun _ bu=>IH24 bu (hG.mono<|(q.trans a.sub).trans f.sub) (ms bm<|a.sub.trans f.sub)<|pt ak) ?_);rintro U _ b3⟨b4,rfl,s⟩ h;have al:=ca s ak;refine go 2<|wB (fwOf (is:=[0]) al ((a.sub.trans f.sub).trans s.sub) rfl) (fun bv=>kA 19 (w64<|(w64<|(w64<|(w64<|e+1)+x)+B)+U) rfl bv<|aQ 24 rfl<|cB h (fun _ bw=>IH24 bw (hG.mono<|((q.trans a.sub).trans f.sub).trans s.sub) (ms bn<|(a.sub.trans f.sub).trans s.sub)<|pt al) ?_);rintro am _ b5⟨az,rfl,y⟩ h;have an:=ca y al;refine go 2<|wB (fwOf (is:=[0]) an (((a.sub.trans f.sub).trans s.sub).trans y.sub) rfl) (fun aA=>kA 25 (w64<|(w64<|(w64<|(w64<|(w64<|e+1)+x)+B)+U)+am) rfl aA<|ah 1 [26] aA<|aD<|gx 7<|wl an (fun j m g_=>∃aB V C,∃(g:Nat),∃l,g_=C.length∧j aB [0,1,6,7] [(5,iI l),(8,iI (g:Int))]∧KH.sub az V∧m V [] [.box (zz wi) (zz aV) (aS aW aX aY aZ a2 a3 a8 a4 a9 ba a5 bb bd a6 be bf a7 bg bh ab bi) 62]∧ab.drop g=C∧akM k F d A (ahA k F d u) C g l=some n) ab.length ?_ ?_)
       ·exact⟨_,az,ab,0,w64<|(w64<|(w64<|(w64<|(w64<|e+1)+x)+B)+U)+am,rfl,fK,kr,an,List.drop_zero,h⟩
       ·rintro _ _ b6⟨aB,V,C,g,l,rfl,rfl,D,W,G,h⟩;rcases C with _|⟨⟨b7,b8,b9,aG,aH⟩,C⟩
        ·exact gD 7 [10,1] W<|cNl G<|go 13 ⟨_,V,l,fK,(((a.sub.trans f.sub).trans s.sub).trans y.sub).trans D,W.sel [],h⟩
        ·refine gD 7 [10,1] W (cCl G<|go 8<|bC 59 h ?_ ?_)<;>intro _ h
         ·refine gd 5<|rB [] W (fun ae p=>ah 1 [0] p<|kA 1 (w64<|l+1) rfl p<|ah 3 [2,10,3,1,4] p ?_);obtain⟨J,z,cb,aI,cc,aK,bx⟩:=((mc ax ((((a.sub.trans f.sub).trans s.sub).trans y.sub).trans D))).row.at_ (aaB G);obtain⟨aL,aM,aN,aP,rfl,ce,bz,bB⟩:=aar.open bx;refine kK 5 (pp J<|z+g*5) rfl (fun w=>aiw (b:=J) (o:=z) (i:=g) aws axf rfl aI rfl<|aaR G) p<|kK 6 (pp J<|z+g*5+3) rfl (fun w=>aeU (o':=z+g*5+3) auG rfl rfl) p<|tT 7 (sl aL aG aM) [] rfl (fq [0] ae) (fun w hF=>acE (v:=sl aL aG aM) axh rfl<|hF.cell<|kr.cell<|aK 3 _ rfl)<|ah 1 [8] p<|kA 9 (w64<|d+1) rfl p<|ah 3 [12,10,13,1,14] p<|kK 15 (pp J<|z+g*5) rfl (fun w=>aiw (b:=J) (o:=z) (i:=g) aws axf rfl aI rfl<|aaR G) p<|kK 16 (pp J<|z+g*5+4) rfl (fun w=>aeU (o':=z+g*5+4) ams rfl rfl) p<|tT 17 (sl aN aH aP) [] rfl (fq [0] ae) (fun w hF=>acE (v:=sl aN aH aP) akU rfl<|hF.cell<|kr.cell<|aK 4 _ rfl)<|ah 1 [18] p<|kA 19 (w64<|d+1) rfl p<|aQ 10 rfl<|cB h (fun _ bD=>(atI k) bD (hG.mono<|((((q.trans a.sub).trans f.sub).trans s.sub).trans y.sub).trans D) bz<|pt ae) ?_;rintro X _ cf⟨ch,rfl,N⟩ h;have ao:=ca N ae;refine go 2<|wB (fwOf (is:=[0]) ao N.sub rfl) (fun bE=>kA 11 (w64<|(w64<|l+1)+X) rfl bE<|aQ 20 rfl<|cB h (fun _ bF=>IH24 bF (hG.mono<|(((((q.trans a.sub).trans f.sub).trans s.sub).trans y.sub).trans D).trans N.sub) (ms bB N.sub)<|pt ao) ?_);rintro ap _ ci⟨bG,rfl,aq⟩ h;have aT:=ca aq ao;exact go 2<|wB (fwOf (is:=[0]) aT (N.sub.trans aq.sub) rfl) (fun aU=>kA 21 (w64<|(w64<|(w64<|l+1)+X)+ap) rfl aU<|ah 1 [22] aU<|aD<|gx 4<|iCl G ((mc ax<|(((a.sub.trans f.sub).trans s.sub).trans y.sub).trans D).len)<|go 3 ⟨_,Nat.lt_succ_self _,_,bG,C,g+1,w64<|(w64<|(w64<|l+1)+X)+ap,rfl,fK,(D.trans N.sub).trans aq.sub,aT,aac G,h⟩)
         ·exact gd 7 ⟨_,V,l,fK,(((a.sub.trans f.sub).trans s.sub).trans y.sub).trans D,W.sel [],h⟩
      ·rintro _ cj⟨aw,ac,ad,rfl,bH,bI,h⟩;exact gd 2<|iCl S ((ms ar q).len)<|go 3 ⟨_,Nat.lt_succ_self _,_,ac,u,A+1,ad,rfl,fK,q.trans bH,bI,aac S,h⟩
     ·exact gd 6 ⟨_,I,e,fK,q,O,h⟩
  ·rintro _ ck⟨au,Z,ai,rfl,cl,bJ,h⟩;refine gd 7 ?_;cases oj h r;exact rt1 ⟨Z,rfl,bJ⟩
theorem atk(k0:Nat) : ∀k,afi (ajw k0 k).f24:=by
 intro k;induction k with
 | zero=>simp[afi,ajw]
 | succ k ih=>exact asc k0 (ajw k0 k) ih
theorem awC(k:Nat):afi (f24 k):=(atk k k)
theorem ax7(k:Nat):au3 (f8 k):=by
 intro K wi D ae af h hG G I;obtain⟨n,o,h⟩:=rz h;obtain⟨q⟩:=D;obtain⟨J,c1,rfl,x⟩:=aad.open G;refine en 28 Tryz.func8 rfl ?_;unfold f8 at h;refine gI 11 [] [] I (fun ai t=>wk t (fun j m=>∃y s u,j y [] [(3,iI u)]∧KH.sub K s∧m s [] []∧auK k u=some n) ?_ ?_)
 ·refine gd 6<|wl t (fun j m g_=>∃z p e,∃(f:Nat),∃a,g_=e.length∧j z [1] [(3,iI a),(4,iI (f:Int))]∧KH.sub K p∧m p [] [.box (zz wi) (zz wi) #[sl J q c1] 24]∧q.drop f=e∧avb k e f a=some n) q.length ?_ ?_
  ·exact⟨_,K,q,0,0,rfl,fK,kr,t,List.drop_zero,h⟩
  ·rintro _ _ aj⟨z,p,e,f,a,rfl,rfl,g,d,l,h⟩;rcases e with _|⟨⟨ak,al,am,an,ao,N⟩,e⟩
   ·exact gD 7 [0,1] d<|cNl l<|go 12 ⟨_,p,a,fK,g,d.sel [],h⟩
   ·refine gD 7 [0,1] d (cCl l<|go 8<|bC 13 h ?_ ?_)<;>intro _ h
    ·refine gd 7<|bar (r:=(w64<|a+1)) rfl rfl rfl<|gP 3 [0,1] d ?_;obtain⟨O,A,ap,S,aq,U,V⟩:=((mf x g)).row.at_ (aaB l);obtain⟨ar,au,W,X,rfl,av,aw,Y⟩:=aak.open V;refine iNl 52 6 S l<|fd (A+f*6+5) ahg rfl<|ld1 (v:=sl W N X) akU rfl (d.cell<|kr.cell<|U 5 _ rfl)<|cB h (fun _ Z=>(awC k) Z (hG.mono g) Y<|pt d) ?_;rintro B _ ax⟨ab,rfl,C⟩ h;have ac:=ca C d;exact bar (r:=(w64<|(w64<|a+1)+B)) rfl rfl rfl<|go 6<|iCl l ((mf x g).len)<|go 3 ⟨_,Nat.lt_succ_self _,_,ab,e,f+1,w64<|(w64<|a+1)+B,rfl,fK,g.trans C.sub,ac,aac l,h⟩
    ·exact gd 6 ⟨_,p,a,fK,g,d.sel [],h⟩
 ·rintro _ ay⟨y,s,u,rfl,az,ad,h⟩;refine gd 8 ?_;cases oj h o;exact rt1 ⟨s,rfl,ad⟩
theorem atS(k:Nat):asd (f10 k):=by
 intro K wi d t u v h hG e f;obtain⟨Z,n,h⟩:=rz h;obtain⟨x⟩:=d;obtain⟨y,c1,rfl,g⟩:=aad.open e;refine en 15 Tryz.func10 rfl ?_;unfold f10 at h;refine gI 10 [0,1,1] [[nS]] f (fun z A a=>cB h (fun _ i=>(aqx k) i (hG.mono kr) (aad.intro g)<|pt a) ?_);rintro⟨⟨j⟩,B,C⟩ _ D⟨l,G,I,J,rfl,m,o,N⟩ h;have p:=ca m a;obtain⟨q,r,rfl,s⟩:=aad.open o;refine gR 19 [0,0,0,1,1] [[nS]] p (fun O S U b=>?_);cases oj h n;exact aby rfl (rNl 1 b rfl) (resT rfl) ⟨l,[sl q j r],rfl,b.sel [],aad.intro s⟩
theorem awQ(k:Nat):asr (f30 k):=by
 intro K wi e g h hG a;obtain⟨y,z,h⟩:=rz h;refine en 9 Tryz.func30 rfl ?_;unfold f30 at h;refine gd 5<|wk a (fun j m=>∃d b,j d [] [(2,.bool b)]∧m K [] []∧apm k b=some y) ?_ ?_
 ·refine gd 4 (bO 5 h ?_ ?_)<;>intro _ h
  ·exact go 6 ⟨_,true,fK,a,h⟩
  ·exact go 8 ⟨_,decide<|e>6,fK,a,h⟩
 ·rintro _ i⟨d,b,rfl,f,h⟩;refine gd 1 ?_;cases oj h z;exact rt1 ⟨K,rfl,f⟩
theorem amy(k:Nat):ajd (aji k):=by
 intro K wi p I J N h hG q r;obtain⟨n,o,h⟩:=rz h;refine en 19 Tryz.func52 rfl ?_;unfold aji at h;refine gd 14<|wl r (fun j m g_=>∃s f a,∃(d:Nat),g_=a.length∧j s [0,1,7] [(8,iI (d:Int))]∧KH.sub K f∧m f [] []∧p.drop d=a∧ae7 k a d=some n) p.length ?_ ?_
 ·exact⟨_,K,p,0,rfl,fK,kr,r,List.drop_zero,h⟩
 ·rintro _ _ O⟨s,f,a,d,rfl,rfl,g,l,e,h⟩;rcases a with _|⟨y,a⟩
  ·refine gd 2<|cNl e<|go 15 ?_;cases oj h o;exact rt1 ⟨f,rfl,l⟩
  ·refine gd 2<|cCl e<|go 19 ?_;obtain⟨z,A,S,B,U,C,D⟩:=((q.mono g (fun _ _ h=>h))).row.at_ (aaB e);obtain rfl:=D;refine iNl 3 1 B e<|ld1 (v:=iI y) Tya3 rfl (l.cell<|kr.cell<|C 0 _ rfl)<|cB h (fun _ G=>(awQ k) G (hG.mono g)<|pt l) ?_;rintro V _ W⟨t,rfl,u⟩ h;have x:=ca u l;refine go 2 (bC 16 h ?_ ?_)<;>intro _ h
   ·refine gd 13 ?_;cases oj h o;exact rt1 ⟨t,rfl,x⟩
   ·exact gd 5<|iCl e ((q.mono g (fun _ _ h=>h)).len)<|go 3 ⟨_,Nat.lt_succ_self _,_,t,a,d+1,rfl,fK,g.trans u.sub,x,aac e,h⟩
theorem amw(k:Nat):ajO (ajI k):=by
 intro K wi j l m b h hG d a;obtain⟨y,z,h⟩:=rz h;refine en 9 Tryz.func29 rfl ?_;unfold ajI at h;refine gd 9<|cB h (fun _ e=>(amy k) e (hG.mono kr) d<|pt a) ?_;rintro b _ o⟨f,rfl,g⟩ h;have i:=ca g a;refine go 5 ?_;cases oj h z;exact rt1 ⟨f,rfl,i⟩
theorem axP(k:Nat):as4 (f31 k):=by
 intro K wi d q a r h hG e f;obtain⟨Z,n,h⟩:=rz h;obtain⟨s,t,u,v,x⟩:=d;obtain⟨y,z,rfl,g,i⟩:=aai.open e;refine en 10 Tryz.func31 rfl ?_;unfold f31 at h;refine gI 9 [] [] f (fun A j=>bld (cells:=#[iI 0,iI 0,.bool a]) (vs:=[(2,.bool a)]) rfl (fun w=>by kernel_rfl)<|gR 7 [0,0,1,5] [[iI 0,iI 0,vN]] j (fun B C b=>cB h (fun _ l=>(awE k) l (hG.mono kr) (aai.intro g i)<|pt b) ?_));rintro⟨⟨D,G,I⟩,J⟩ _ N⟨m,rfl,o⟩ h;have p:=ca o b;refine go 4 ?_;cases oj h n;exact rt1 ⟨m,rfl,p.sel []⟩
theorem aso(k:Nat)(F:afb)(IH32:acw F.f32)(IH1005440:aaY F.f1005440)(IH1005532:aa2 F.f1005532)(IH1008147:aa3 F.f1008147)(IH1008221:aa7 F.f1008221)(IH1011347:aa1 F.f1011347):acw (auw k F):=by
 intro K wi o B C D h hG p q;obtain⟨r_,n,h⟩:=rz h;obtain⟨G,I,J,N,O⟩:=o;obtain⟨S,U,rfl,V,e⟩:=aai.open p;refine en 25 Tryz.func32 rfl ?_;unfold auw at h;refine gI 7 [] [] q (fun f W a=>wk a (fun j m=>∃g b d,j g [] [(4,.bool d)]∧KH.sub K b∧m b [] []∧alq k F d=some r_) ?_ ?_)
 ·refine gD 5 [0,2] a (bO 8 h ?_ ?_)<;>intro _ h
  ·refine gP 16 [4,2] a<|mkf (us:=[]) (vs:=[pp (zz f) 0]) rfl rfl<|go 1<|cB h (fun _ r=>IH1005440 r (hG.mono kr) e<|pt a) ?_;rintro s _ X⟨t,rfl,i⟩ h;have u:=ca i a;exact go 4 ⟨_,t,s,fK,i.sub,u.sel [],h⟩
  ·refine gP 8 [3,2] a (bO 12 h ?_ ?_)<;>intro _ h
   ·refine gP 12 [3,2,1] a (bO 19 h ?_ ?_)<;>intro _ h
    ·refine gP 5 [4,2] a<|mkf (us:=[]) (vs:=[pp (zz f) 0]) rfl rfl<|go 1<|cB h (fun _ v=>IH1005440 v (hG.mono kr) e<|pt a) ?_;rintro x _ Y⟨y,rfl,l⟩ h;have z:=ca l a;exact go 4 ⟨_,y,x,fK,l.sub,z.sel [],h⟩
    ·exact go 8 ⟨_,K,false,fK,kr,a.sel [],h⟩
   ·exact go 16 ⟨_,K,false,fK,kr,a.sel [],h⟩
 ·rintro _ Z⟨g,b,d,rfl,ab,A,h⟩;refine gd 1 ?_;cases oj h n;exact rt1 ⟨b,rfl,A⟩
theorem akm(k:Nat)(F:afb)(IH32:acw F.f32)(IH1005440:aaY F.f1005440)(IH1005532:aa2 F.f1005532)(IH1008147:aa3 F.f1008147)(IH1008221:aa7 F.f1008221)(IH1011347:aa1 F.f1011347):aaY (af2 k F):=by
 intro K wi j l m g bs s o h hG b a;obtain⟨y,z,h⟩:=rz h;refine en 9 Tryz.func54 rfl ?_;unfold af2 at h;refine gI 9 [] [] a (fun p a=>mkf (us:=[]) (vs:=[pp (zz wi) 0]) rfl rfl<|cB h (fun _ d=>IH1008147 d (hG.mono kr) b<|pt a) ?_);rintro q _ r⟨e,rfl,f⟩ h;have i:=ca f a;refine go 5 ?_;cases oj h z;exact rt1 ⟨e,rfl,i.sel [1]⟩
theorem ajX(k:Nat)(F:afb)(IH32:acw F.f32)(IH1005440:aaY F.f1005440)(IH1005532:aa2 F.f1005532)(IH1008147:aa3 F.f1008147)(IH1008221:aa7 F.f1008221)(IH1011347:aa1 F.f1011347):aa2 (af8 k F):=by
 intro K wi b p g bs s q h hG d e;obtain⟨Z,n,h⟩:=rz h;obtain⟨r,t,u,v,x⟩:=b;obtain⟨y,z,rfl,f,i⟩:=aai.open d;refine en 7 Tryz.func55 rfl ?_;unfold af8 at h;refine gI 10 [0,0,5,2] [] e (fun A a=>cB h (fun _ j=>IH32 j (hG.mono kr) (aai.intro f i)<|pt a) ?_);rintro B _ C⟨l,rfl,m⟩ h;have o:=ca m a;refine go 4 ?_;cases oj h n;exact rt1 ⟨l,rfl,o.sel [1]⟩
theorem akE(k:Nat)(F:afb)(IH32:acw F.f32)(IH1005440:aaY F.f1005440)(IH1005532:aa2 F.f1005532)(IH1008147:aa3 F.f1008147)(IH1008221:aa7 F.f1008221)(IH1011347:aa1 F.f1011347):aa3 (agr k F):=by
 intro K wi l m o g bs gA bsA sA b h hG d a;obtain⟨y,z,h⟩:=rz h;refine en 9 Tryz.func81 rfl ?_;unfold agr at h;refine gd 9<|cB h (fun _ e=>IH1011347 e (hG.mono kr) d<|pt a) ?_;rintro b _ p⟨f,rfl,i⟩ h;have j:=ca i a;refine go 5 ?_;cases oj h z;exact rt1 ⟨f,rfl,j⟩
theorem ajA(k:Nat)(F:afb)(IH32:acw F.f32)(IH1005440:aaY F.f1005440)(IH1005532:aa2 F.f1005532)(IH1008147:aa3 F.f1008147)(IH1008221:aa7 F.f1008221)(IH1011347:aa1 F.f1011347):aa7 (afR k F):=by
 intro K wi m z g bs gA bsA sA A h hG o p;obtain⟨Z,n,h⟩:=rz h;obtain⟨a,b,d,e,f⟩:=m;obtain⟨i,j,rfl,q,r⟩:=aai.open o;refine en 8 Tryz.func82 rfl ?_;unfold afR at h;refine gI 10 [2,0,0,5] [] p (fun s t=>?_);have l:=p201 t;obtain⟨B,u,h⟩:=ob h;refine clV (caps:=#[pp gA 0]) (vs:=[.agg (aE a b d e i f j),pp gA 0]) rfl ayk rfl (IH1005532 u (hG.mono kr) (aai.intro q r)<|pt l) ?_;rintro _ C⟨v,rfl,x⟩;have y:=ca x l;refine go 5 ?_;cases oj h n;exact rt1 ⟨v,rfl,y.sel [2,0]⟩
theorem ajZ(k:Nat)(F:afb)(IH32:acw F.f32)(IH1005440:aaY F.f1005440)(IH1005532:aa2 F.f1005532)(IH1008147:aa3 F.f1008147)(IH1008221:aa7 F.f1008221)(IH1011347:aa1 F.f1011347):aa1 (aga k F):=by
 intro K wi i J N g bs gA bsA sA O h hG o p;obtain⟨r_,n,h⟩:=rz h;refine en 19 Tryz.func113 rfl ?_;unfold aga at h;refine gd 14<|wl p (fun j m g_=>∃q b a,∃(d:Nat),g_=a.length∧j q [0,1,7] [(8,iI (d:Int))]∧KH.sub K b∧m b [1,0] []∧i.drop d=a∧ae1 k F sA a d=some r_) i.length ?_ ?_
 ·exact⟨_,K,i,0,rfl,fK,kr,p.sel [1,0],List.drop_zero,h⟩
 ·rintro _ _ v⟨q,b,a,d,rfl,rfl,f,l,e,h⟩;rcases a with _|⟨⟨x,y,z,A,B⟩,a⟩
  ·refine gd 2<|cNl e<|go 15 ?_;cases oj h n;exact rt1 ⟨b,rfl,l.sel [1,0]⟩
  ·refine gd 2<|cCl e<|go 19<|eN l (me o f) e aai.open ?_;rintro S U V W X C⟨D,G,rfl,Y,Z⟩;have r:=p10 l;obtain⟨ab,I,h⟩:=ob h;refine clV (caps:=#[pp g 0]) (vs:=[.agg (aE x y z A D B G),pp g 0]) rfl ayL rfl (IH1008221 I (hG.mono f) C<|pt r) ?_;rintro _ ac⟨s,rfl,t⟩;have u:=ca t r;refine go 2 (bC 16 h ?_ ?_)<;>intro _ h
   ·refine gd 13 ?_;cases oj h n;exact rt1 ⟨s,rfl,u⟩
   ·exact gd 5<|iCl e ((me o f).len)<|go 3 ⟨_,Nat.lt_succ_self _,_,s,a,d+1,rfl,fK,f.trans t.sub,u.sel [1,0],aac e,h⟩
theorem aeM(k0:Nat) : ∀k,acw (acb k0 k).f32∧aaY (acb k0 k).f1005440∧aa2 (acb k0 k).f1005532∧aa3 (acb k0 k).f1008147∧aa7 (acb k0 k).f1008221∧aa1 (acb k0 k).f1011347:=by
 intro k;induction k with
 | zero=>exact⟨by simp[acw,acb],by simp[aaY,acb],by simp[aa2,acb],by simp[aa3,acb],by simp[aa7,acb],by simp[aa1,acb]⟩
 | succ k ih=>exact⟨aso k0 (acb k0 k) ih.1 ih.2.1 ih.2.2.1 ih.2.2.2.1 ih.2.2.2.2.1 ih.2.2.2.2.2,akm k0 (acb k0 k) ih.1 ih.2.1 ih.2.2.1 ih.2.2.2.1 ih.2.2.2.2.1 ih.2.2.2.2.2,ajX k0 (acb k0 k) ih.1 ih.2.1 ih.2.2.1 ih.2.2.2.1 ih.2.2.2.2.1 ih.2.2.2.2.2,akE k0 (acb k0 k) ih.1 ih.2.1 ih.2.2.1 ih.2.2.2.1 ih.2.2.2.2.1 ih.2.2.2.2.2,ajA k0 (acb k0 k) ih.1 ih.2.1 ih.2.2.1 ih.2.2.2.1 ih.2.2.2.2.1 ih.2.2.2.2.2,ajZ k0 (acb k0 k) ih.1 ih.2.1 ih.2.2.1 ih.2.2.2.1 ih.2.2.2.2.1 ih.2.2.2.2.2⟩
theorem axd(k:Nat):acw (f32 k):=(aeM k k).1
theorem au7(k:Nat):aaY (f1005440 k):=(aeM k k).2.1
theorem avS(k:Nat):aa2 (f1005532 k):=(aeM k k).2.2.1
theorem aul(k:Nat):aa3 (f1008147 k):=(aeM k k).2.2.2.1
theorem avH(k:Nat):aa7 (f1008221 k):=(aeM k k).2.2.2.2.1
theorem aup(k:Nat):aa1 (f1011347 k):=(aeM k k).2.2.2.2.2
theorem awB(k:Nat):asV (f13 k):=by
 intro K wi G ad I ae af ai aj h hG J r N;obtain⟨r_,n,h⟩:=rz h;obtain⟨s,t,u,v,x⟩:=G;obtain⟨O,S,rfl,i,l⟩:=aai.open J;refine en 29 Tryz.func13 rfl ?_;unfold f13 at h;refine gI 10 [] [] N (fun ak y=>cB h (fun _ U=>(amw k) U (hG.mono kr) r<|pt y) ?_);rintro V _ al⟨W,rfl,a⟩ h;have d:=ca a y;refine go 4<|wk d (fun j m=>∃z e o,j z [1,2] [(22,.bool o)]∧KH.sub W e∧m e [] [.box (zz wi) (zz wi) (aE s t u v O x S) 35]∧anq k s t u v x I o=some r_) ?_ ?_
 ·refine gD 2 [0,0,5] d<|cB h (fun _ X=>(axP k) X (gm hG a) (aai.intro i<|me l a.sub)<|pt d) ?_;rintro am _ an⟨Y,rfl,b⟩ h;have f:=ca b d;refine go 2 (bO 13 h ?_ ?_)<;>intro _ h
  ·exact go 11 ⟨_,Y,true,fK,b.sub,f,h⟩
  ·refine gP 7 [0,0,5] f<|cB h (fun _ Z=>(axd k) Z (hG.mono<|a.sub.trans b.sub) (aai.intro i<|me l<|a.sub.trans b.sub)<|pt f) ?_;rintro ao _ ap⟨A,rfl,p⟩ h;have B:=ca p f;refine go 4 (bO 20 h ?_ ?_)<;>intro _ h
   ·exact go 4 ⟨_,A,true,fK,b.sub.trans p.sub,B,h⟩
   ·exact go 5 ⟨_,A,V,fK,b.sub.trans p.sub,B,h⟩
 ·rintro _ aq⟨z,e,o,rfl,q,g,h⟩;refine bC 22 h ?_ ?_<;>intro _ h
  ·refine gd 9 ?_;cases oj h n;exact rt2 ⟨e,rfl,g.sel []⟩
  ·refine gD 7 [0,0,5] g<|cB h (fun _ ab=>(alO k) ab (hG.mono<|a.sub.trans q) (aai.intro i<|me l<|a.sub.trans q) (r.mono (a.sub.trans q) (fun _ _ h=>h))<|pt g) ?_;rintro ar _ au⟨C,rfl,ac⟩ h;have D:=ca ac g;refine go 10 (bC 27 h ?_ ?_)<;>intro _ h
   ·refine gd 9 ?_;cases oj h n;exact rt2 ⟨C,rfl,D.sel []⟩
   ·refine gd 11 ?_;cases oj h n;exact rt2 ⟨C,rfl,D.sel []⟩
theorem at3(k:Nat):asE (f25 k):=by
 intro K wi a d f G h hG o g;obtain⟨Z,n,h⟩:=rz h;refine en 14 Tryz.func25 rfl ?_;unfold f25 at h;refine gI 7 [] [[nS]] g (fun j g=>bld (cells:=#[iI 2,iI 1,sE,iI 0,nS]) (vs:=[(0,iI 2),(1,iI 1)]) rfl (fun w=>by kernel_rfl)<|gR 2 [35] [] g (fun I p=>bld (cells:=#[iI 21,sE,iI 0,sE,iI 0,iI 0,.slice (some ⟨zz j,0,none⟩) 1 1,sl d a f,nS,nS,nS]) (vs:=[(0,iI 21),(6,.slice (some ⟨zz j,0,none⟩) 1 1),(7,sl d a f)]) rfl (fun w=>by kernel_rfl)<|gR 6 [0] [[iI 0,sE,iI 0,sE,iI 0,iI 0,nS,nS,nS,nS,nS]] p (fun J b q=>bld (cells:=#[.string ⟨#[109,97,105,110]⟩,nS,iI 0,vN,iI 0,nS]) (vs:=[(0,.string ⟨#[109,97,105,110]⟩)]) rfl (fun w=>by kernel_rfl)<|gR 2 [0,0,11,62] [] q (fun l r=>bld (cells:=#[.string ⟨#[102]⟩,nS,iI 1,vN,iI 0,.slice (some ⟨zz b,0,none⟩) 1 1]) (vs:=[(0,.string ⟨#[102]⟩),(2,iI 1),(5,.slice (some ⟨zz b,0,none⟩) 1 1)]) rfl (fun w=>by kernel_rfl)<|bsl (e:=52) (cells:=#[.string ⟨#[109,97,105,110]⟩,nS,iI 0,vN,iI 0,nS,.string ⟨#[102]⟩,nS,iI 1,vN,iI 0,.slice (some ⟨zz b,0,none⟩) 1 1]) (vs:=[(0,.agg #[.string ⟨#[109,97,105,110]⟩,nS,iI 0,vN,iI 0,nS]),(1,.agg #[.string ⟨#[102]⟩,nS,iI 1,vN,iI 0,.slice (some ⟨zz b,0,none⟩) 1 1])]) r rfl (fun w=>by kernel_rfl) (fun N s=>bld (cells:=#[.slice (some ⟨zz l,0,none⟩) 2 2]) (vs:=[(0,.slice (some ⟨zz l,0,none⟩) 2 2)]) rfl (fun w=>by kernel_rfl)<|gR 4 [4] [] s (fun O m=>?_))))));obtain⟨t,u,v,x⟩:=frzI (i:=3) (bytes:=64) (xs:=[(aah.mk 2 1 ⟨#[]⟩ 0 [])]) (R:=fun K=>(aai K)) m rfl (Nat.le_refl _) ⟨[iI 2,iI 1,sE,iI 0,nS],_,rfl,rfl,(aai.intro (by decide) (RSl.nil _ _ _ _ _ _)),(abo (R:=(aai K)) (size:=5))⟩ rfl (Nat.le_of_ble_eq_true rfl) (fun hs=>(fun _ _ h=>aai.mono hs h));obtain⟨y,z,S,A⟩:=frzI (i:=1) (bytes:=184) (xs:=[(aae.mk 21 ⟨#[]⟩ 0 ⟨#[]⟩ 0 0 [(aah.mk 2 1 ⟨#[]⟩ 0 [])] a [] [] [])]) (R:=fun K=>(aag K)) u rfl (Nat.le_refl _) ⟨[iI 21,sE,iI 0,sE,iI 0,iI 0,.slice (some ⟨(zz j),0,none⟩) [(aah.mk 2 1 ⟨#[]⟩ 0 [])].length 1,sl d a f,nS,nS,nS],_,rfl,rfl,(aag.intro (by decide) (by decide) x (ms o v) (RSl.nil _ _ _ _ _ _) (RSl.nil _ _ _ _ _ _) (RSl.nil _ _ _ _ _ _)),(abo (R:=(aag t)) (size:=11))⟩ rfl (Nat.le_of_ble_eq_true rfl) (fun hs=>(fun _ _ h=>aag.mono hs h));obtain⟨B,C,U,D⟩:=frzI (i:=0) (bytes:=88) (xs:=[(aab.mk ⟨#[109,97,105,110]⟩ [] 0 false 0 []),(aab.mk ⟨#[102]⟩ [] 1 false 0 [(aae.mk 21 ⟨#[]⟩ 0 ⟨#[]⟩ 0 0 [(aah.mk 2 1 ⟨#[]⟩ 0 [])] a [] [] [])])]) (R:=fun K=>(aak K)) z rfl (Nat.le_refl _) ⟨[.string ⟨#[109,97,105,110]⟩,nS,iI 0,vN,iI 0,nS],_,rfl,rfl,(aak.intro (by decide) (RSl.nil _ _ _ _ _ _) (RSl.nil _ _ _ _ _ _)),⟨[.string ⟨#[102]⟩,nS,iI 1,vN,iI 0,.slice (some ⟨(zz b),0,none⟩) [(aae.mk 21 ⟨#[]⟩ 0 ⟨#[]⟩ 0 0 [(aah.mk 2 1 ⟨#[]⟩ 0 [])] a [] [] [])].length 1],_,rfl,rfl,(aak.intro (by decide) (RSl.nil _ _ _ _ _ _) A),(abo (R:=(aak y)) (size:=6))⟩⟩ rfl (Nat.le_of_ble_eq_true rfl) (fun hs=>(fun _ _ h=>aak.mono hs h));cases oj h n;exact adq rfl (rNl 4 m rfl) ⟨B,[.slice (some ⟨zz l,0,none⟩) [(aab.mk ⟨#[109,97,105,110]⟩ [] 0 false 0 []),(aab.mk ⟨#[102]⟩ [] 1 false 0 [(aae.mk 21 ⟨#[]⟩ 0 ⟨#[]⟩ 0 0 [(aah.mk 2 1 ⟨#[]⟩ 0 [])] a [] [] [])])].length 2],rfl,C.sel [],aad.intro D⟩
theorem awa(k:Nat):awq (f9 k):=by
 intro K wi al h hG o;obtain⟨r_,n,h⟩:=rz h;refine en 48 Tryz.func9 rfl ?_;unfold f9 at h;refine gd 7<|cB h (fun _ B=>(at3 k) B (hG.mono kr) (RSl.nil _ _ _ _ _ _)<|pt o) ?_;rintro⟨am⟩ _ an⟨ao,ap,rfl,b,p⟩ h;have q:=ca b o;obtain⟨aq,ar,rfl,au⟩:=aad.open p;refine cB h (fun _ C=>(atS k) C (gm hG b) p<|pt q) ?_;rintro⟨⟨av⟩,aw⟩ _ ax⟨D,ay,rfl,d,G⟩ h;have I:=ca d q;obtain⟨az,aA,rfl,aB⟩:=aad.open G;refine gR 10 [0] [[nS]] I (fun aG aH J=>bld (cells:=#[iI 18,sE,iI 0,sE,iI 0,iI 0,nS,nS,nS,nS,nS]) (vs:=[(0,iI 18)]) rfl (fun w=>by kernel_rfl)<|gR 1 [62] [] J (fun aI N=>?_));obtain⟨aK,r,f,O⟩:=frzI (i:=0) (bytes:=184) (xs:=[(aae.mk 18 ⟨#[]⟩ 0 ⟨#[]⟩ 0 0 [] [] [] [] [])]) (R:=fun K=>(aag K)) N rfl (Nat.le_refl _) ⟨[iI 18,sE,iI 0,sE,iI 0,iI 0,nS,nS,nS,nS,nS],_,rfl,rfl,(aag.intro (by decide) (by decide) (RSl.nil _ _ _ _ _ _) (RSl.nil _ _ _ _ _ _) (RSl.nil _ _ _ _ _ _) (RSl.nil _ _ _ _ _ _) (RSl.nil _ _ _ _ _ _)),(abo (R:=(aag D)) (size:=11))⟩ rfl (Nat.le_of_ble_eq_true rfl) (fun hs=>(fun _ _ h=>aag.mono hs h));refine cB h (fun _ S=>(at3 k) S (gm hG r) O<|pt r) ?_;rintro⟨aL⟩ _ aM⟨aN,aP,rfl,g,s⟩ h;have t:=ca g r;obtain⟨aT,aU,rfl,aV⟩:=aad.open s;refine cB h (fun _ U=>(atS k) U (gm hG t) s<|pt t) ?_;rintro⟨⟨aW⟩,aX⟩ _ aY⟨V,aZ,rfl,u,W⟩ h;have X:=ca u t;obtain⟨a0,a1,rfl,a2⟩:=aad.open W;refine gR 10 [0] [[nS]] X (fun a3 v Y=>bld (cells:=#[iI 1,iI 0,sE,iI 0,nS]) (vs:=[(0,iI 1)]) rfl (fun w=>by kernel_rfl)<|bld (cells:=#[iI 4,iI 0,.string ⟨#[120]⟩,iI 1,nS]) (vs:=[(0,iI 4),(2,.string ⟨#[120]⟩),(3,iI 1)]) rfl (fun w=>by kernel_rfl)<|bsl (e:=35) (cells:=#[iI 1,iI 0,sE,iI 0,nS,iI 4,iI 0,.string ⟨#[120]⟩,iI 1,nS]) (vs:=[(0,.agg #[iI 1,iI 0,sE,iI 0,nS]),(1,.agg #[iI 4,iI 0,.string ⟨#[120]⟩,iI 1,nS])]) Y rfl (fun w=>by kernel_rfl) (fun a4 Z=>bld (cells:=#[iI 11,iI 0,sE,iI 0,.slice (some ⟨zz v,0,none⟩) 2 2]) (vs:=[(0,iI 11),(4,.slice (some ⟨zz v,0,none⟩) 2 2)]) rfl (fun w=>by kernel_rfl)<|bsl (e:=3) (cells:=#[iI 3,iI 1]) (vs:=[(0,iI 3),(1,iI 1)]) Z rfl (fun w=>by kernel_rfl) (fun a5 ab=>?_)));obtain⟨a6,ac,ad,ae⟩:=frzI (i:=1) (bytes:=64) (xs:=[(aah.mk 1 0 ⟨#[]⟩ 0 []),(aah.mk 4 0 ⟨#[120]⟩ 1 [])]) (R:=fun K=>(aai K)) ab rfl (Nat.le_refl _) ⟨[iI 1,iI 0,sE,iI 0,nS],_,rfl,rfl,(aai.intro (by decide) (RSl.nil _ _ _ _ _ _)),⟨[iI 4,iI 0,.string ⟨#[120]⟩,iI 1,nS],_,rfl,rfl,(aai.intro (by decide) (RSl.nil _ _ _ _ _ _)),(abo (R:=(aai V)) (size:=5))⟩⟩ rfl (Nat.le_of_ble_eq_true rfl) (fun hs=>(fun _ _ h=>aai.mono hs h));obtain⟨a7,x,y,af⟩:=fzi 0 [3,1] ac rfl;refine cB h (fun _ ai=>(awB k) ai (hG.mono<|(((((b.sub.trans d.sub).trans f).trans g.sub).trans u.sub).trans ad).trans y) (aai.intro (by decide)<|me ae y) af<|pt x) ?_;rintro⟨a8,a9⟩ _ ba⟨z,rfl,aj⟩ h;have a:=ca aj x;refine go 7<|wk a (fun j m=>∃A l,j A [] [(0,.bool l)]∧m z [] []∧aoB k l=some r_) ?_ ?_
 ·refine gd 4 (bO 30 h ?_ ?_)<;>intro _ h
  ·refine go 6 (bO 34 h ?_ ?_)<;>intro _ h
   ·refine go 6 (bO 38 h ?_ ?_)<;>intro _ h
    ·refine go 6 (bO 42 h ?_ ?_)<;>intro _ h
     ·exact go 8 ⟨_,true,fK,a.sel [],h⟩
     ·exact go 8 ⟨_,false,fK,a.sel [],h⟩
    ·exact go 12 ⟨_,false,fK,a.sel [],h⟩
   ·exact go 16 ⟨_,false,fK,a.sel [],h⟩
  ·exact go 20 ⟨_,false,fK,a.sel [],h⟩
 ·rintro _ bb⟨A,l,rfl,ak,h⟩;refine gd 1 ?_;cases oj h n;exact rt1 ⟨z,rfl,ak⟩
theorem ayR(k:Nat):awh (f6 k):=by
 intro K wi au bh t bi h hG av aw;obtain⟨n,o,h⟩:=rz h;obtain⟨ax⟩:=au;obtain⟨bj,c1,rfl,y⟩:=aad.open av;refine en 94 Tryz.func6 rfl ?_;unfold f6 at h;refine gI 10 [0,0,1] [] aw (fun bk U=>cB h (fun _ ay=>(ax7 k) ay (hG.mono kr) (aad.intro y)<|pt U) ?_);rintro bm _ bn⟨bo,rfl,a⟩ h;have u:=ca a U;refine go 3 (bC 13 h ?_ ?_)<;>intro _ h
 ·refine gd 3<|cB h (fun _ az=>(awa k) az (gm hG a)<|pt u) ?_;rintro bp _ bq⟨aA,rfl,aB⟩ h;have aG:=ca aB u;refine go 5 ?_;cases oj h o;exact rt1 ⟨aA,rfl,aG.sel []⟩
 ·refine gD 7 [0,0,1] u<|cB h (fun _ aH=>(awz k) aH (gm hG a) (aad.intro<|mf y a.sub)<|pt u) ?_;rintro⟨V,W⟩ _ br⟨bs,bu,bv,rfl,f,aI⟩ h;have D:=ca f u;refine gP 11 [0,0,1] D<|cB h (fun _ aK=>(awN k) aK (hG.mono<|a.sub.trans f.sub) (aad.intro<|mf y<|a.sub.trans f.sub)<|pt D) ?_;rintro⟨X,Y⟩ _ bw⟨bx,rfl,g⟩ h;have G:=ca g D;refine gP 10 [0,0,1] G<|cB h (fun _ aL=>(axI k) aL (hG.mono<|(a.sub.trans f.sub).trans g.sub) (aad.intro<|mf y<|(a.sub.trans f.sub).trans g.sub)<|pt G) ?_;rintro⟨⟨z⟩,Z⟩ _ ab⟨p,bz,rfl,q,aM⟩ h;have aN:=ca q G;obtain⟨ac,ad,rfl,ae⟩:=aad.open aM;refine gR 8 [0] [[nS]] aN (fun bB bD r=>wk r (fun j m=>∃af I,j af [1,5,6,7,8,9] [(10,iI I)]∧m p [] [.box (zz wi) (zz ab) #[sl ac z ad] 24]∧aoh k t V W X Y z I=some n) ?_ ?_)
  ·refine wk r (fun j m=>∃ai J,j ai [1,5,6,7,8,9,10] [(44,.bool J)]∧m p [] [.box (zz wi) (zz ab) #[sl ac z ad] 24]∧akX k t V W X Y z Z J=some n) ?_ ?_
   ·refine gd 4 (bO 34 h ?_ ?_)<;>intro _ h
    ·refine go 6 (bO 37 h ?_ ?_)<;>intro _ h
     ·exact go 10 ⟨_,true,fK,r.sel [0],h⟩
     ·exact gP 15 [0,2] r ⟨_,decide<|t≥(ax.length:Int),fK,r.sel [0],h⟩
    ·exact go 12 ⟨_,false,fK,r.sel [0],h⟩
   ·rintro _ bE⟨ai,J,rfl,aj,h⟩;refine bC 44 h ?_ ?_<;>intro _ h
    ·exact gd 5 ⟨_,2,fK,aj,h⟩
    ·exact gd 3 ⟨_,Z,fK,aj,h⟩
  ·rintro _ bF⟨af,I,rfl,d,h⟩;refine gd 7 (bC 46 h ?_ ?_)<;>intro _ h
   ·refine gd 1<|wk d (fun j m=>∃ak A N,j ak [] [(4,.bool N)]∧KH.sub p A∧m A [] []∧alK k N=some n) ?_ ?_
    ·refine gd 5 (bO 50 h ?_ ?_)<;>intro _ h
     ·refine go 8 (bO 55 h ?_ ?_)<;>intro _ h
      ·refine go 6 (bO 59 h ?_ ?_)<;>intro _ h
       ·refine go 8 (bO 64 h ?_ ?_)<;>intro _ h
        ·refine go 1<|cB h (fun _ aP=>(awa k) aP (gm hG d)<|pt d) ?_;rintro aT _ bG⟨aU,rfl,al⟩ h;have aV:=ca al d;exact go 4 ⟨_,aU,aT,fK,al.sub,aV.sel [],h⟩
        ·exact go 5 ⟨_,p,false,fK,kr,d.sel [],h⟩
       ·exact go 10 ⟨_,p,false,fK,kr,d.sel [],h⟩
      ·exact go 14 ⟨_,p,false,fK,kr,d.sel [],h⟩
     ·exact go 19 ⟨_,p,false,fK,kr,d.sel [],h⟩
    ·rintro _ bH⟨ak,A,N,rfl,bI,aW,h⟩;refine gd 2 ?_;cases oj h o;exact rt1 ⟨A,rfl,aW⟩
   ·refine gd 3<|wk d (fun j m=>∃am B O,j am [] [(4,.bool O)]∧KH.sub p B∧m B [] []∧amx k O=some n) ?_ ?_
    ·refine gD 4 [0,0,1] d<|cB h (fun _ aX=>(axr k) aX (hG.mono<|((a.sub.trans f.sub).trans g.sub).trans q.sub) (aad.intro ae)<|pt d) ?_;rintro bJ _ bK⟨bL,bM,bP,rfl,e,aY⟩ h;have an:=ca e d;refine cB h (fun _ aZ=>(awU k) aZ (hG.mono<|(((a.sub.trans f.sub).trans g.sub).trans q.sub).trans e.sub) (aI.mono ((g.sub.trans q.sub).trans e.sub) (fun _ _ h=>h)) aY<|pt an) ?_;rintro bQ _ bR⟨ao,rfl,l⟩ h;have s:=ca l an;refine go 1 (bO 72 h ?_ ?_)<;>intro _ h
     ·refine go 6 (bO 76 h ?_ ?_)<;>intro _ h
      ·refine gP 9 [0,1] s ?_;obtain⟨⟨bS,bT,bU,bV,bW,a2⟩,S,h⟩:=ob h;obtain⟨a3,ap,bX,a4,bY,a5,a6⟩:=((mf ae (e.sub.trans l.sub))).row.at_ (aay S).1;obtain⟨bZ,b0,a7,a8,rfl,b1,b2,a9⟩:=aak.open a6;refine iGl 52 6 a4 S<|go 1<|fd (ap+t.toNat*6+5) ahg rfl<|go 1<|ld1 (v:=sl a7 a2 a8) akU rfl (s.cell<|kr.cell<|a5 5 _ rfl)<|go 1<|cB h (fun _ ba=>(auf k) ba (hG.mono<|((((a.sub.trans f.sub).trans g.sub).trans q.sub).trans e.sub).trans l.sub) a9<|pt s) ?_;rintro b3 _ b4⟨aq,rfl,x⟩ h;have C:=ca x s;refine go 4 (bO 87 h ?_ ?_)<;>intro _ h
       ·refine go 6 (bO 91 h ?_ ?_)<;>intro _ h
        ·refine go 1<|cB h (fun _ bb=>(awa k) bb (hG.mono<|(((((a.sub.trans f.sub).trans g.sub).trans q.sub).trans e.sub).trans l.sub).trans x.sub)<|pt C) ?_;rintro bd _ b5⟨be,rfl,ar⟩ h;have bf:=ca ar C;exact go 4 ⟨_,be,bd,fK,((e.sub.trans l.sub).trans x.sub).trans ar.sub,bf.sel [],h⟩
        ·exact go 5 ⟨_,aq,false,fK,(e.sub.trans l.sub).trans x.sub,C.sel [],h⟩
       ·exact go 9 ⟨_,aq,false,fK,(e.sub.trans l.sub).trans x.sub,C.sel [],h⟩
      ·exact go 20 ⟨_,ao,false,fK,e.sub.trans l.sub,s.sel [],h⟩
     ·exact go 24 ⟨_,ao,false,fK,e.sub.trans l.sub,s.sel [],h⟩
    ·rintro _ b6⟨am,B,O,rfl,b7,bg,h⟩;refine gd 1 ?_;cases oj h o;exact rt1 ⟨B,rfl,bg⟩
end Go.Proofs.YtphdlngnegjgcaaGreatDoor
set_option maxRecDepth 512
set_option maxHeartbeats 200000
namespace Go.Proofs.YtphdlngnegjgcaaGreatDoor
open Go
mutual
def szE:aah→Nat | .mk _ _ _ _ l=>szEs l+1
def szEs:List aah→Nat | []=>0 | e::l=>szE e+szEs l
end
mutual
def szS:aae→Nat | .mk _ _ _ _ _ _ a b c d e=>szEs a+szSs b+szSs c+szSs d+szCs e+1
def szSs:List aae→Nat | []=>0 | s::l=>szS s+szSs l
def szC:aap→Nat | .mk _ _ _ a b=>szEs a+szSs b+1
def szCs:List aap→Nat | []=>0 | c::l=>szC c+szCs l
end
def szF:aab→Nat | .mk _ ps _ _ _ b=>ps.length+szSs b+1
def szFs:List aab→Nat | []=>0 | f::l=>szF f+szFs l
def szP:aaa→Nat | .mk fs=>szFs fs+1
theorem anG : ∀l:List aah,l.length≤szEs l
 | []=>by simp
 | .mk _ _ _ _ a::l=>by have:=anG l;simp only[List.length_cons,szEs,szE];omega
theorem anL : ∀l:List aap,l.length≤szCs l
 | []=>by simp
 | .mk _ _ _ _ _::l=>by have:=anL l;simp only[List.length_cons,szCs,szC];omega
theorem ant : ∀l:List aab,l.length≤szFs l
 | []=>by simp
 | .mk _ _ _ _ _ _::l=>by have:=ant l;simp only[List.length_cons,szFs,szF];omega
def afa(c:Int):Bool:=decide (c≥97)&&decide (c≤122)
def ag2(c:Int):Bool:=decide (c≥48)&&decide (c≤57)
def runL:List UInt8→Nat→Bool
 | [],_=>true
 | e::r,i=>(afa e.toNat||(!((i:Int)==0)&&ag2 e.toNat))&&runL r (i+1)
def isN(s:ByteArray):Bool:=runL s.data.toList 0&&!seq s ⟨#[]⟩&&decide ((s.size:Int)≤12)&&!ack.any (seq s)
theorem avu(k:Nat)(c:Int):f139 k c=some (afa c):=by
 unfold f139 ajk afa;cases decide (c≥97)<;>rfl
theorem au2(k:Nat)(c:Int):f140 k c=some (ag2 c):=by
 unfold f140 ajt ag2;cases decide (c≥48)<;>rfl
theorem avy(k:Nat)(c:Int):f135 k c=some (afa c):=by
 unfold f135 aka afa;cases decide (c≥97)<;>rfl
theorem av6(k:Nat)(c:Int):f136 k c=some (ag2 c):=by
 unfold f136 ajU ag2;cases decide (c≥48)<;>rfl
theorem aiI(k:Nat)(a:ByteArray) : ∀(l:List UInt8) (i:Nat),adR k a l i=some (runL l i&&!seq a ⟨#[]⟩)
 | [],i=>by simp[adR,runL]
 | e::l,i=>by
  unfold adR runL;rw[avy];simp only[Option.bind_some,ahh,av6,aiI k a l];cases afa e.toNat<;>cases ((i:Int)==0)<;>cases ag2 e.toNat<;>simp
theorem aiT(k:Nat)(a:ByteArray) : ∀(l:List ByteArray) (i:Nat),∃r,ahD k a l i=some r∧decide (r≥0)=l.any (seq a)
 | [],i=>⟨-1,rfl,rfl⟩
 | e::l,i=>by
  unfold ahD;cases h:seq a e
  ·obtain⟨r,h1,h2⟩:=aiT k a l (i+1);exact⟨r,h1,by simp[h,h2]⟩
  ·exact⟨(i:Int),rfl,by simp[h]⟩
theorem alY(k:Nat)(s:ByteArray):f79 k s=some (isN s):=by
 unfold f79 f111 isN;rw[aiI];simp only[Option.bind_some,akQ];obtain⟨r,h1,h2⟩:=aiT k s ack 0;have h92:f112 k s=some (ack.any (seq s)):=by
  unfold f112 f138 f137 f165;simp[h1,h2]
 rw[h92];simp only[Option.bind_some];cases runL s.data.toList 0<;>cases seq s ⟨#[]⟩<;>cases decide ((s.size:Int)≤12)<;>rfl
theorem agO(a b:ByteArray):seq a b=seq b a:=by
 unfold seq;rw[Bool.eq_iff_iff,beq_iff_eq,beq_iff_eq];exact eq_comm
theorem aiK(k:Nat)(a:ByteArray) : ∀(l:List ByteArray) (i:Nat),ag8 k a l i=some (l.any (seq a))
 | [],i=>rfl
 | e::l,i=>by
  unfold ag8;rw[agO e a];cases h:seq a e
  ·simp[h,aiK k a l]
  ·simp[h]
theorem atq(k:Nat):f167 k=some ack:=rfl
theorem avz(k:Nat)(a:ByteArray):f141 k a=some (ack.any (seq a)):=by
 unfold f141;rw[atq];exact aiK k a ack 0
theorem asb(a:ByteArray):decide ((a.size:Int)≥1)=!seq a ⟨#[]⟩:=by
 unfold seq;rw[ByteArray.toList_eq,ByteArray.toList_eq];obtain⟨⟨l⟩⟩:=a;cases l with
 | nil=>rfl
 | cons x l =>
  have h2:((⟨⟨x::l⟩⟩:ByteArray).size:Int)≥1:=by
   show ((l.length+1:Nat):Int)≥1;omega
  rw[decide_eq_true h2];rfl
theorem aiW(k:Nat)(a:ByteArray) : ∀(l:List UInt8) (i:Nat),adU k a l i=some (runL l i&&!seq a ⟨#[]⟩&&decide ((a.size:Int)≤12)&&!ack.any (seq a))
 | [],i=>by
  unfold adU runL;rw[avz,asb];simp only[Option.bind_some,ahM];cases seq a ⟨#[]⟩<;>cases decide ((a.size:Int)≤12)<;>rfl
 | e::l,i=>by
  unfold adU runL;rw[avu];simp only[Option.bind_some,ah4,au2,aiW k a l];cases afa e.toNat<;>cases ((i:Int)==0)<;>cases ag2 e.toNat<;>simp
theorem ahl(k:Nat)(s:ByteArray):f117 k s=some (isN s):=aiW k s _ 0
def ak3:List UInt8→Bool
 | []=>true
 | e::l=>!decide ((e.toNat:Int)<32)&&!decide ((e.toNat:Int)>126)&&ak3 l
def isT(s:ByteArray):Bool:=ak3 s.data.toList&&decide ((s.size:Int)≤60)
theorem akP(k:Nat)(a:ByteArray) : ∀(l:List UInt8) (i:Nat),aee k a l i=some (ak3 l&&decide ((a.size:Int)≤60))
 | [],i=>by simp[aee,ak3]
 | e::l,i=>by
  unfold aee ak3;simp only[aio,akP k a l];cases decide ((e.toNat:Int)<32)<;>cases decide ((e.toNat:Int)>126)<;>simp
theorem aip(k:Nat)(a:ByteArray) : ∀(l:List UInt8) (i:Nat),aeb k a l i=some (ak3 l&&decide ((a.size:Int)≤60))
 | [],i=>by simp[aeb,ak3]
 | e::l,i=>by
  unfold aeb ak3;simp only[ajK,aip k a l];cases decide ((e.toNat:Int)<32)<;>cases decide ((e.toNat:Int)>126)<;>simp
theorem aw6(k:Nat)(s:ByteArray):f78 k s=some (isT s):=akP k s _ 0
theorem awi(k:Nat)(s:ByteArray):f116 k s=some (isT s):=aip k s _ 0
theorem aaS{x:Int}{n:Nat}(h:x=(n:Int))(h2:n≤4611686018427387904):w64 x=(n:Int):=by
 subst h;unfold w64 IntKind.wrap;simp[IntKind.bits,IntKind.signed];omega
def age(op num:Int)(txt:ByteArray)(len:Nat):Bool :=
 cond (op==1) (decide (num≥0)&&decide (num≤1000000000000)&&seq txt ⟨#[]⟩&&(len:Int)==0)
 (cond (op==2) (decide (num≥0)&&decide (num≤1)&&seq txt ⟨#[]⟩&&(len:Int)==0)
 (cond (op==3) (num==0&&isT txt&&(len:Int)==0)
 (cond (op==4) (num==0&&isN txt&&(len:Int)==0)
 (cond (op==5||op==6) (num==0&&seq txt ⟨#[]⟩&&(len:Int)==1)
  (decide (op≥7)&&decide (op≤19)&&num==0&&seq txt ⟨#[]⟩&&(len:Int)==2)))))
mutual
def gE(z:Bool):aah→Nat→Bool
 | .mk op num txt slot l,a=>decide (a≤16)&&(z||slot==0)&&age op num txt l.length&&gEs z l (a+1)
def gEs(z:Bool):List aah→Nat→Bool
 | [],_=>true
 | e::l,a=>gE z e a&&gEs z l a
end
def NRes(r:Option (aaj×Bool))(g:Bool)(n sz:Nat)(z:Bool):Prop :=
 ∃c,r=some (c,g&&decide (n+sz≤600))∧((g&&decide (n+sz≤600))=true→∃d,c=.mk ((n+sz:Nat):Int) d z)
theorem aiv(k:Nat)(x a b:Int):f77 k x a b=some (decide (x≥a)&&decide (x≤b)):=by
 unfold f77 anU;cases decide (x≥a)<;>rfl
theorem anI(k:Nat)(n:Nat)(d:Int)(z:Bool)(a:Nat)(h:n≤600) :
  f76 k (.mk n d z) a=some (.mk ((n+1:Nat):Int) (imax d a) z,decide (n+1≤600)&&decide (a≤16)):=by
 unfold f76 an4;simp only;rw[aaS (n:=n+1) (by omega) (by omega)];have e1:decide (((n+1:Nat):Int)≤600)=decide (n+1≤600):=by rw[decide_eq_decide];omega
 have e2:decide ((a:Int)≤16)=decide (a≤16):=by rw[decide_eq_decide];omega
 rw[e1,e2];cases decide (n+1≤600)<;>rfl
theorem aqa(k:Nat)(F:agc)(op num:Int)(txt:ByteArray)(l:List aah)(a n d:Int)(q:Bool) :
  ahb k F op num txt l a n d q false=cond (age op num txt l.length) (ade k F l a n d q (l.length:Int) true) (some (.mk n d q,false)):=by
 unfold ahb anY an6 al1 ade aiO age;simp only[aiv,aw6,alY,Option.bind_some,Bool.cond_eq_ite];grind
theorem ad0 : ∀e:aah,1≤szE e
 | .mk _ _ _ _ _=>by simp only[szE];omega
theorem NRes.no{r:Option (aaj×Bool)}{g:Bool}{n sz:Nat}{z:Bool}{c:aaj}(h:r=some (c,false))(hg:(g&&decide (n+sz≤600))=false):NRes r g n sz z :=
 ⟨c,by rw[h,hg],by rw[hg];intro h;cases h⟩
theorem NRes.yes{r:Option (aaj×Bool)}{g:Bool}{n sz:Nat}{z:Bool}{d:Int}(h:r=some (.mk ((n+sz:Nat):Int) d z,true))(hg:(g&&decide (n+sz≤600))=true):NRes r g n sz z :=
 ⟨_,by rw[h,hg],fun _=>⟨d,rfl⟩⟩
theorem nE(k:Nat)(z:Bool) : ∀m,
  (∀e,2*szE e≤m→∀(n:Nat) (d:Int) (a:Nat),n≤600→a≤17→NRes ((aej k m).f53 (.mk n d z) e a) (gE z e a) n (szE e) z) ∧
  (∀l,2*szEs l+1≤m→∀(n:Nat) (d:Int) (a:Nat),n≤600→a≤17→NRes ((aej k m).f80 (.mk n d z) l a) (gEs z l a) n (szEs l) z)
 | 0=>⟨fun e he=>by have:=ad0 e;omega,fun l hl=>by omega⟩
 | m+1=>by
  obtain⟨ihe,ihl⟩:=nE k z m;constructor
  ·intro e he n d a hn ha;obtain⟨op,num,txt,slot,l⟩:=e;simp only[szE] at he;show NRes (aqJ k (aej k m) (.mk n d z) (.mk op num txt slot l) a) _ _ _ _;unfold aqJ;simp only[szE];rw[anI k n d z a hn];simp only[Option.bind_some];have hj : ∀q:Bool,ahb k (aej k m) op num txt l a ((n+1:Nat):Int) (imax d a) z q=cond q (some (.mk ((n+1:Nat):Int) (imax d a) z,false)) (cond (age op num txt l.length) (ade k (aej k m) l a ((n+1:Nat):Int) (imax d a) z (l.length:Int) true) (some (.mk ((n+1:Nat):Int) (imax d a) z,false))):=by
    intro q;cases q
    ·exact aqa _ _ _ _ _ _ _ _ _ _
    ·rfl
   simp only[hj];by_cases h1:n+1≤600∧a≤16
   ·obtain⟨h1,h2⟩:=h1;simp only[h1,h2,decide_true,Bool.and_self,Bool.not_true,cond_false];by_cases h3:(z||slot==0)=true
    ·have h3' : (cond (slot != 0) (!z) false)=false:=by cases z<;>simp_all
     have h4 : ∀(x y:Option (aaj×Bool)),cond (slot != 0) (cond (!z) x y) y=y:=by
      intro x y;cases z<;>simp_all
     rw[h4];by_cases h5:age op num txt l.length=true
     ·simp only[h5,cond_true];unfold ade;simp only[beq_self_eq_true,cond_true];rw[aaS (n:=a+1) (by omega) (by omega)];obtain⟨c,hc,hd⟩:=ihl l (by omega) (n+1) (imax d a) (a+1) h1 (by omega);rw[hc];refine⟨c,?_,?_⟩
      ·obtain⟨c0,c1,c2⟩:=c;have:n+1+szEs l=n+(szEs l+1):=by omega
       simp[aiO,gE,h2,h3,h5,this]
      ·intro hg;have e1:n+(szEs l+1)=n+1+szEs l:=by omega
       rw[e1];refine hd ?_;rw[e1] at hg;simp[gE,h2,h3,h5] at hg;simp[hg]
     ·have h5' : age op num txt l.length=false:=by simpa using h5
      simp only[h5',cond_false];exact .no rfl (by simp[gE,h5'])
    ·have h3' : (z||slot==0)=false:=by simpa using h3
     have h4 : ∀(x y:Option (aaj×Bool)),cond (slot != 0) (cond (!z) x y) y=x:=by
      intro x y;simp only[Bool.or_eq_false_iff,beq_eq_false_iff_ne] at h3';have e:(slot != 0)=true:=bne_iff_ne.mpr h3'.2;rw[e,h3'.1];rfl
     rw[h4];exact .no rfl (by simp[gE,h3'])
   ·have h1' : (decide (n+1≤600)&&decide (a≤16))=false:=by
     simp only[Bool.and_eq_false_iff,decide_eq_false_iff_not];omega
    simp only[h1',Bool.not_false,cond_true];refine .no rfl ?_;simp only[gE,Bool.and_eq_false_iff,decide_eq_false_iff_not];omega
  ·intro l hl n d a hn ha;show NRes (aid k (aej k m) a l 0 n d z) _ _ _ _;have loop : ∀(l:List aah) (i:Nat) (n:Nat) (d:Int),2*szEs l≤m→n≤600→NRes (aid k (aej k m) a l i n d z) (gEs z l a) n (szEs l) z:=by
    intro l;induction l with
    | nil=>intro i n d _ hn;exact .yes rfl (by simp[gEs,szEs,hn])
    | cons e l ih =>
     intro i n d hm hn;obtain⟨e0,e1,e2,e3,e4⟩:=e;unfold aid;simp only[szEs] at hm;obtain⟨c,hc,hd⟩:=ihe (.mk e0 e1 e2 e3 e4) (by omega) n d a hn ha;rw[hc];by_cases hg:(gE z (.mk e0 e1 e2 e3 e4) a&&decide (n+szE (.mk e0 e1 e2 e3 e4)≤600))=true
     ·obtain⟨d',rfl⟩:=hd hg;have hg':=hg;simp only[Bool.and_eq_true,decide_eq_true_eq] at hg';simp only[hg,Option.bind_some,Bool.not_true,cond_false];obtain⟨c2,hc2,hd2⟩:=ih (i+1) _ d' (by omega) hg'.2;have e1:n+(szE (aah.mk e0 e1 e2 e3 e4)+szEs l)=n+szE (aah.mk e0 e1 e2 e3 e4)+szEs l:=by omega
      refine⟨c2,?_,?_⟩
      ·rw[hc2];simp only[gEs,szEs,hg'.1,Bool.true_and,e1]
      ·simp only[gEs,szEs,hg'.1,Bool.true_and,e1];exact hd2
     ·have hg' : (gE z (.mk e0 e1 e2 e3 e4) a&&decide (n+szE (.mk e0 e1 e2 e3 e4)≤600))=false:=by simpa using hg
      obtain⟨c0,c1,c2⟩:=c;simp only[hg',Option.bind_some,Bool.not_false,cond_true];refine .no rfl ?_;simp only[Bool.and_eq_false_iff,decide_eq_false_iff_not,gEs,szEs] at hg' ⊢;rcases hg' with h | h
      ·exact .inl (.inl h)
      ·exact .inr (decide_eq_false (fun h'=>h (by omega)))
   exact loop l 0 n d (by omega) hn
theorem ac6(k:Nat)(n d:Int)(q b:Bool):f115 k (.mk n d q) b=some (.mk n d (q||!b)):=by
 unfold f115;cases b<;>cases q<;>rfl
theorem ajW(k:Nat)(n:Nat)(d:Int)(q:Bool)(a:Nat)(h:n≤600) :
  f114 k (.mk n d q) a=some (.mk ((n+1:Nat):Int) (imax d a) (q||!(decide (n+1≤600)&&decide (a≤16)))):=by
 unfold f114 akD;simp only;rw[aaS (n:=n+1) (by omega) (by omega)];have e1:decide (((n+1:Nat):Int)>600)=!decide (n+1≤600):=by rw[←decide_not,decide_eq_decide];omega
 have e2:decide ((a:Int)>16)=!decide (a≤16):=by rw[←decide_not,decide_eq_decide];omega
 rw[e1,e2];cases decide (n+1≤600)<;>cases decide (a≤16)<;>cases q<;>rfl
theorem bfun{α:Type}(Q:Bool→α) : ∃A B,Q=fun b=>if b=true then A else B :=
 ⟨Q true,Q false,funext fun b=>by cases b<;>rfl⟩
theorem apV(k:Nat)(F:ak9)(op num:Int)(txt:ByteArray)(l:List aah)(a:Int)(x:Bool)(n d:Int)(q:Bool) :
  akT k F op num txt l a x n d q=agE k F a x l 0 n d (q||!age op num txt l.length):=by
 unfold akT anP acl age;have h01:(decide (num≥0)&&decide (num≤1))=(num==0||num==1):=by
  rw[Bool.eq_iff_iff];simp only[Bool.and_eq_true,Bool.or_eq_true,decide_eq_true_eq,beq_iff_eq];omega
 rw[h01];simp only[ac6,awi,ahl,Option.bind_some,Bool.cond_eq_ite];generalize agE k F a x l 0 n d=Q;obtain⟨A,B,rfl⟩:=bfun Q;grind (splits:=40)
def RRes(r:Option aan)(g:Bool)(n sz:Nat)(q:Bool):Prop :=
 ∃x d q',r=some (.mk x d q')∧q'=(q||!(g&&decide (n+sz≤600)))∧(q'=false→x=((n+sz:Nat):Int))
theorem RRes.wrong{r:Option aan}{g:Bool}{n sz:Nat}{x d:Int}(h:r=some (.mk x d true)):RRes r g n sz true :=
 ⟨x,d,true,h,rfl,fun h=>by cases h⟩
theorem RRes.bad{r:Option aan}{g:Bool}{n sz:Nat}{q:Bool}{x d:Int}(h:r=some (.mk x d true))(hg:(g&&decide (n+sz≤600))=false):RRes r g n sz q :=
 ⟨x,d,true,h,by rw[hg];cases q<;>rfl,fun h=>by cases h⟩
theorem ays(g1 g2:Bool)(n s1 s2:Nat):(!(g1&&decide (n+s1≤600))||!(g2&&decide (n+s1+s2≤600)))=!(g1&&g2&&decide (n+(s1+s2)≤600)):=by
 rw[←Nat.add_assoc];by_cases hh:n+s1+s2≤600
 ·have:n+s1≤600:=by omega
  simp only[hh,this,decide_true];cases g1<;>cases g2<;>rfl
 ·simp only[hh,decide_false];cases g1<;>cases g2<;>simp
theorem RRes.bind{r:Option aan}{f:aan→Option aan}{g1 g2:Bool}{n s1 s2:Nat}{q:Bool}(h1:RRes r g1 n s1 q)
  (h2 : ∀x d q',(q'=false→x=((n+s1:Nat):Int)∧n+s1≤600)→RRes (f (.mk x d q')) g2 (n+s1) s2 q'):RRes (r.bind f) (g1&&g2) n (s1+s2) q:=by
 obtain⟨x,d,q',rfl,hq,hx⟩:=h1;obtain⟨x2,d2,q2,h4,h5,h6⟩:=h2 x d q' (fun h=>⟨hx h,by rw[h] at hq;cases q<;>simp at hq;exact hq.2⟩);refine⟨x2,d2,q2,h4,?_,?_⟩
 ·rw[h5,hq,Bool.or_assoc,ays]
 ·rw[←Nat.add_assoc];exact h6
theorem RRes.done{n:Nat}{q:Bool}{x d:Int}(hx:q=false→x=(n:Int)∧n≤600):RRes (some (.mk x d q)) true n 0 q :=
 ⟨x,d,q,rfl,by cases q<;>simp;exact (hx rfl).2,fun h=>(hx h).1⟩
theorem RRes.cast{r:Option aan}{g g' : Bool}{n s s' : Nat}{q:Bool}(h:RRes r g n s q)(hg:g=g')(hs:s=s'):RRes r g' n s' q:=by
 subst hg;subst hs;exact h
theorem RRes.check{r:Option aan}{g b:Bool}{n s:Nat}{q:Bool}(h:RRes r g n s (q||!b)):RRes r (b&&g) n s q:=by
 obtain⟨x,d,q',h1,h2,h3⟩:=h;exact⟨x,d,q',h1,by rw[h2];cases q<;>cases b<;>rfl,h3⟩
theorem rE(k:Nat) : ∀m,
  ∀e,szE e≤m→∀(n:Nat) (d:Int) (a:Nat),n≤600→a≤17→RRes ((akp k m).f84 (.mk n d false) e a false) (gE false e a) n (szE e) false
 | 0=>fun e he=>by have:=ad0 e;omega
 | m+1=>by
  have ihe:=rE k m;intro e he n d a hn ha;have loop:a≤16→∀(l:List aah) (i:Nat) (x:Int) (n:Nat) (d:Int) (q:Bool),szEs l≤m→(q=false→x=(n:Int)∧n≤600)→RRes (agE k (akp k m) a false l i x d q) (gEs false l (a+1)) n (szEs l) q:=by
   intro ha l;induction l with
   | nil=>intro i x n d q _ hx;exact .done hx
   | cons e l ih =>
    intro i x n d q hm hx;obtain⟨e0,e1,e2,e3,e4⟩:=e;unfold agE;cases q with
    | true=>exact .wrong rfl
    | false =>
     obtain⟨rfl,hn⟩:=hx rfl;simp only[szEs] at hm;simp only[Bool.not_false,cond_true];rw[aaS (n:=a+1) (by omega) (by omega)];exact (ihe (.mk e0 e1 e2 e3 e4) (by omega) n d (a+1) hn (by omega)).bind fun x1 d1 q1 h1=>ih (i+1) x1 _ d1 q1 (by omega) h1
  obtain⟨op,num,txt,slot,l⟩:=e;simp only[szE] at he;show RRes (aoH k (akp k m) (.mk n d false) (.mk op num txt slot l) a false) _ _ _ _;unfold aoH;simp only[szE,cond_false,ac6,apV,Option.bind_some];rw[ajW k n d false a hn];simp only[Option.bind_some,Bool.false_or];by_cases ha' : a≤16
  ·obtain⟨x2,d2,q2,h4,h5,h6⟩:=loop ha' l 0 ((n+1:Nat):Int) (n+1) (imax d a) (!(decide (n+1≤600)&&decide (a≤16))||!(slot==0)||!age op num txt l.length) (by omega) (fun hq=>⟨rfl,by simp at hq;omega⟩);have e1:n+(szEs l+1)=n+1+szEs l:=by omega
   refine⟨x2,d2,q2,h4,?_,?_⟩
   ·rw[h5,e1];simp only[gE,ha',decide_true,Bool.false_or,Bool.true_and,Bool.and_true];by_cases hh:n+1+szEs l≤600
    ·have:n+1≤600:=by omega
     simp only[hh,this,decide_true];cases (slot==0)<;>cases age op num txt l.length<;>simp
    ·simp[hh]
   ·rw[e1];exact h6
  ·have loopw : ∀(l:List aah) (i:Nat) (x d:Int),∃x' d',agE k (akp k m) a false l i x d true=some (.mk x' d' true):=by
    intro l i x d;cases l with
    | nil=>exact⟨_,_,rfl⟩
    | cons e l=>obtain⟨_,_,_,_,_⟩:=e;exact⟨_,_,rfl⟩
   have:(!(decide (n+1≤600)&&decide (a≤16))||!(slot==0)||!age op num txt l.length)=true:=by simp[ha']
   rw[this];obtain⟨x',d',h⟩:=loopw l 0 ((n+1:Nat):Int) (imax d a);exact .bad h (by simp[gE,ha'])
mutual
def stE:aah→aah | .mk op num txt _ l=>.mk op num txt 0 (stEs l)
def stEs:List aah→List aah | []=>[] | e::l=>stE e::stEs l
end
theorem afh : ∀l,(stEs l).length=l.length
 | []=>rfl
 | e::l=>by simp[stEs,afh l]
mutual
theorem axw : ∀e,szE (stE e)=szE e
 | .mk _ _ _ _ l=>by simp only[stE,szE,ajq l]
theorem ajq : ∀l,szEs (stEs l)=szEs l
 | []=>rfl
 | e::l=>by simp only[stEs,szEs,axw e,ajq l]
end
mutual
theorem ayN : ∀e a,gE false (stE e) a=gE true e a
 | .mk _ _ _ _ l,a=>by simp[stE,gE,am7 l,afh]
theorem am7 : ∀l a,gEs false (stEs l) a=gEs true l a
 | [],_=>rfl
 | e::l,a=>by simp only[stEs,gEs,ayN e,am7 l]
end
def shp(op:Int):Option (Int×Bool×Int×Int×Bool×Int) :=
 match op with
 | 1=>some (1,false,1,1,false,0) | 2=>some (1,false,1,1,false,0) | 3=>some (2,true,0,600,false,0) | 4=>some (2,true,0,600,false,0)
 | 5=>some (2,false,1,1,false,0) | 6=>some (2,false,1,1,false,1) | 7=>some (1,false,1,1,false,2) | 8=>some (1,false,1,1,false,0)
 | 9=>some (1,false,0,0,false,0) | 10=>some (0,false,2,2,false,0) | 11=>some (0,false,1,1,false,0) | 12=>some (0,false,1,1,false,0)
 | 13=>some (0,false,0,0,false,0) | 14=>some (0,false,1,1,false,0) | 15=>some (0,false,1,1,false,0) | 16=>some (0,false,1,1,false,0)
 | 17=>some (0,false,0,1,false,0) | 18=>some (0,false,0,0,false,0) | 19=>some (0,false,0,0,false,0) | 20=>some (0,false,1,1,true,1)
 | 21=>some (0,false,1,1,true,0) | 22=>some (0,false,0,1,true,1) | 23=>some (0,false,0,0,true,0) | 24=>some (2,false,0,0,true,3)
 | 25=>some (1,false,1,1,true,0) | 26=>some (0,false,1,1,true,0) | 27=>some (0,false,0,0,false,0) | 28=>some (1,true,0,600,true,66)
 | 29=>some (0,false,1,1,false,0) | _=>none
theorem ajg{P:Int→Prop}(op:Int)(h : ∀n:Nat,n<29→P ((n+1:Nat):Int))(h0:op<1∨op>29→P op):P op:=by
 by_cases h1:op<1∨op>29
 ·exact h0 h1
 ·obtain⟨n,rfl⟩ : ∃n:Nat,op=((n+1:Nat):Int):=⟨(op - 1).toNat,by omega⟩;exact h n (by omega)
theorem aeG{op:Int}(h:op<1∨op>29):shp op=none:=by
 unfold shp;split<;>first | rfl | (exfalso;omega)
def toR:Option (Int×Bool×Int×Int×Bool×Int)→abw×Bool
 | none=>(.mk 0 0 0 false false 0,false)
 | some (nm,fr,lo,hi,bd,fl)=>(.mk lo hi nm fr bd fl,true)
theorem avd(k:Nat)(op:Int):f168 k op=some (toR (shp op)):=by
 refine ajg (P:=fun op=>f168 k op=some (toR (shp op))) op ?_ ?_
 ·intro n hn
  match n,hn with
  | 0,_=>rfl | 1,_=>rfl | 2,_=>rfl | 3,_=>rfl | 4,_=>rfl | 5,_=>rfl | 6,_=>rfl | 7,_=>rfl | 8,_=>rfl | 9,_=>rfl
  | 10,_=>rfl | 11,_=>rfl | 12,_=>rfl | 13,_=>rfl | 14,_=>rfl | 15,_=>rfl | 16,_=>rfl | 17,_=>rfl | 18,_=>rfl | 19,_=>rfl
  | 20,_=>rfl | 21,_=>rfl | 22,_=>rfl | 23,_=>rfl | 24,_=>rfl | 25,_=>rfl | 26,_=>rfl | 27,_=>rfl | 28,_=>rfl
  | n+29,h=>omega
 ·intro h;rw[aeG h];have e : ∀c:Int,1≤c→c≤29→(op==c)=false:=fun c h1 h2=>by rw[beq_eq_false_iff_ne];omega
  unfold f168 ahp akA aeg af0 ajB;simp[e,toR]
def toN:Option (Int×Bool×Int×Int×Bool×Int)→Option aaA
 | none=>none
 | some (nm,fr,lo,hi,bd,fl)=>some (.mk nm fr lo (if hi=600 then 601 else hi) bd)
theorem alt(op:Int) : ∀L:List (Int×aaA),(∀x∈L,qI op x.1=false)→mget qI op L=none
 | [],_=>rfl
 | (a,v)::L,h=>by
  unfold mget;rw[if_neg (by rw[h (a,v) (by simp)];simp)];exact alt op L fun x hx=>h x (by simp[hx])
theorem avf(k:Nat)(op:Int):(f189 k).bind (fun r=>some (mget qI op r))=some (toN (shp op)):=by
 refine ajg (P:=fun op=>(f189 k).bind (fun r=>some (mget qI op r))=some (toN (shp op))) op ?_ ?_
 ·intro n hn
  match n,hn with
  | 0,_=>rfl | 1,_=>rfl | 2,_=>rfl | 3,_=>rfl | 4,_=>rfl | 5,_=>rfl | 6,_=>rfl | 7,_=>rfl | 8,_=>rfl | 9,_=>rfl
  | 10,_=>rfl | 11,_=>rfl | 12,_=>rfl | 13,_=>rfl | 14,_=>rfl | 15,_=>rfl | 16,_=>rfl | 17,_=>rfl | 18,_=>rfl | 19,_=>rfl
  | 20,_=>rfl | 21,_=>rfl | 22,_=>rfl | 23,_=>rfl | 24,_=>rfl | 25,_=>rfl | 26,_=>rfl | 27,_=>rfl | 28,_=>rfl
  | n+29,h=>omega
 ·intro h;rw[aeG h];obtain⟨L,hL,hA⟩ : ∃L,f189 k=some L∧(L.all fun x=>decide (1≤x.1)&&decide (x.1≤29))=true:=⟨_,rfl,rfl⟩;rw[hL];simp only[Option.bind_some];rw[alt op L]
  ·rfl
  ·intro x hx;have:=List.all_eq_true.mp hA x hx;simp only[Bool.and_eq_true,decide_eq_true_eq] at this;unfold qI;rw[beq_eq_false_iff_ne];omega
def amq(op:Int)(name:ByteArray)(flag:Int)(l8 l9:Int):Bool :=
 let b0:=(IntKind.i64.wrap (BitVec.ofInt IntKind.i64.bits flag &&& BitVec.ofInt IntKind.i64.bits 1).toNat)==1
 let b1:=(IntKind.i64.wrap (BitVec.ofInt IntKind.i64.bits flag &&& BitVec.ofInt IntKind.i64.bits 2).toNat)==2
 cond (op==6) (decide (flag≥0)&&decide (flag≤1)&&(flag==0||!seq name ⟨#[]⟩)&&l8==0&&l9==0)
 (cond (op==7) (decide (flag≥0)&&decide (flag≤2)&&l8==0&&l9==0)
 (cond (op==22) (decide (flag≥0)&&decide (flag≤1)&&l8==0&&l9==0)
 (cond (op==20) (decide (flag≥0)&&decide (flag≤1)&&(flag==1||l8==0)&&l9==0)
 (cond (op==24) (decide (flag≥1)&&decide (flag≤3)&&((!seq name ⟨#[]⟩)==b0)&&(b0||l8==0)&&(b1||l9==0))
 (cond (op==28) (decide (flag≥0)&&decide (flag≤66)&&decide (flag.tmod 4<3)&&l8==0&&l9==0)
  (flag==0&&l8==0&&l9==0))))))
theorem auI(k:Nat)(op:Int)(name:ByteArray)(s2:Int)(fr:ByteArray)(s4 flag:Int)(l6:List aah)(l7 l8 l9:List aae)(l10:List aap) :
  f190 k (.mk op name s2 fr s4 flag l6 l7 l8 l9 l10)=some (amq op name flag l8.length l9.length):=by
 unfold f190 ajs acF aei amq;simp only[aiv,Option.bind_some,Bool.cond_eq_ite];generalize (IntKind.i64.wrap (BitVec.ofInt IntKind.i64.bits flag &&& BitVec.ofInt IntKind.i64.bits 1).toNat==1)=b0;generalize (IntKind.i64.wrap (BitVec.ofInt IntKind.i64.bits flag &&& BitVec.ofInt IntKind.i64.bits 2).toNat==2)=b1;generalize ((l8.length:Int)==0)=c8;generalize ((l9.length:Int)==0)=c9;generalize seq name ⟨#[]⟩=e;grind (splits:=20)
def aos(nm:Int)(fr:Bool)(name from_:ByteArray):Bool :=
 (seq name ⟨#[]⟩||(!(nm==0)&&isN name))&&(!seq name ⟨#[]⟩||!(nm==1))&&((!seq from_ ⟨#[]⟩)==fr)&&(!fr||isN from_)
def ajj(op lo hi:Int)(bd:Bool)(l6 l7 l10:Int):Bool :=
 decide (l6≥lo)&&decide (l6≤hi)&&(bd||!decide (l7>0))&&(cond (op==27) (decide (l10≥1)&&decide (l10≤4)) (!decide (l10>0)))
section
variable (k:Nat)(F:ach)(op:Int)(name:ByteArray)(s2:Int)(from_:ByteArray)(s4 flag:Int)(l6:List aah)(l7 l8 l9:List aae)(l10:List aap)(a nm:Int)(fr:Bool)(lo hi:Int)(bd:Bool)(n d:Int)(z q:Bool)
theorem aof:abs k F op l6 l7 l8 l9 l10 a lo hi bd n d z q =
  cond (!q&&ajj op lo hi bd l6.length l7.length l10.length) (acd k F l6 l7 l8 l9 l10 a l10 0 n d z) (some (.mk n d z,false)):=by
 unfold abs acj ajj;simp only[aiv,Option.bind_some,Bool.cond_eq_ite];grind (splits:=20)
theorem aij:ads k F op name from_ l6 l7 l8 l9 l10 a nm fr lo hi bd n d z q =
  cond (!q&&aos nm fr name from_&&ajj op lo hi bd l6.length l7.length l10.length) (acd k F l6 l7 l8 l9 l10 a l10 0 n d z) (some (.mk n d z,false)):=by
 unfold ads aos;simp only[alY,aof,Option.bind_some,Bool.cond_eq_ite];grind (splits:=20)
theorem aom:ago k F n d z op name s2 from_ s4 flag l6 l7 l8 l9 l10 a nm fr lo hi bd true =
  (f76 k (.mk n d z) a).bind fun x=>match x with
   | (.mk n1 d1 z1,ok)=>cond (ok&&((s2==0&&s4==0)||z1)&&amq op name flag l8.length l9.length&&aos nm fr name from_&&ajj op lo hi bd l6.length l7.length l10.length)
    (acd k F l6 l7 l8 l9 l10 a l10 0 n1 d1 z1) (some (.mk n1 d1 z1,false)):=by
 unfold ago;simp only[Bool.not_true,cond_false];congr 1;funext x;obtain⟨⟨n1,d1,z1⟩,ok⟩:=x;simp only[auI,aij,Option.bind_some,Bool.cond_eq_ite];grind (splits:=20)
end
def aja(nm:Int)(name:ByteArray):Bool:=(nm==0&&seq name ⟨#[]⟩)||(nm==1&&isN name)||(nm==2&&(seq name ⟨#[]⟩||isN name))
def akw(fr:Bool)(from_:ByteArray):Bool:=cond fr (isN from_) (seq from_ ⟨#[]⟩)
def agN(op:Int)(name:ByteArray)(flag:Int)(l8 l9:Int):Bool :=
 (l8==0||(op==20&&flag==1)||(op==24&&flag.tmod 2==1))&&(l9==0||(op==24&&decide (flag≥2))) &&
 cond (op==6) (flag==0||!seq name ⟨#[]⟩) (cond (op==24) (decide (flag>0)&&((flag.tmod 2==1)==!seq name ⟨#[]⟩)) (cond (op==28) (decide (flag.tmod 4<3)) true))
def ad4(op l10:Int):Bool:=((op==27)==decide (l10>0))&&decide (l10≤4)
section
variable (k:Nat)(F:abk)(op:Int)(name:ByteArray)(s2:Int)(from_:ByteArray)(s4 flag:Int)(l6:List aah)(l7 l8 l9:List aae)(l10:List aap)(a nm:Int)(fr:Bool)(lo hi:Int)(bd:Bool)(n d:Int)(z q:Bool)
theorem aoi:adW k F op l6 l7 l8 l9 l10 a n d q=abI k F l7 l8 l9 l10 a l6 0 n d (q||!ad4 op l10.length):=by
 unfold adW aj0 ad4;simp only[ac6,Option.bind_some,Bool.cond_eq_ite];generalize abI k F l7 l8 l9 l10 a l6 0 n d=Q;obtain⟨A,B,rfl⟩:=bfun Q;grind (splits:=20)
theorem aol:ahC k F op name flag l6 l7 l8 l9 l10 a n d q=abI k F l7 l8 l9 l10 a l6 0 n d (q||!(agN op name flag l8.length l9.length&&ad4 op l10.length)):=by
 unfold ahC aed ahJ agN;simp only[ac6,aoi,Option.bind_some,Bool.cond_eq_ite];generalize abI k F l7 l8 l9 l10 a l6 0 n d=Q;generalize ad4 op l10.length=c;generalize (flag.tmod 2==1)=b0;obtain⟨A,B,rfl⟩:=bfun Q;grind (splits:=30)
theorem aot:adu k F op name from_ flag l6 l7 l8 l9 l10 a nm fr bd n d q=abI k F l7 l8 l9 l10 a l6 0 n d (q||!(aja nm name&&akw fr from_&&(bd||(l7.length:Int)==0)&&agN op name flag l8.length l9.length&&ad4 op l10.length)):=by
 unfold adu ab5 ae4 aja akw;simp only[ac6,ahl,aol,Option.bind_some,Bool.cond_eq_ite];generalize abI k F l7 l8 l9 l10 a l6 0 n d=Q;generalize ad4 op l10.length=c;generalize agN op name flag l8.length l9.length=c2;generalize ((l7.length:Int)==0)=c7;obtain⟨A,B,rfl⟩:=bfun Q;generalize isN name=n1;generalize isN from_=n2;generalize seq name ⟨#[]⟩=e1;generalize seq from_ ⟨#[]⟩=e2;grind (splits:=30)
end
def aov(op:Int)(name from_:ByteArray)(flag:Int)(l6 l7 l8 l9 l10:Nat):Bool :=
 match shp op with
 | none=>false
 | some (nm,fr,lo,hi,bd,fl)=>amq op name flag l8 l9&&aos nm fr name from_&&ajj op lo (if hi=600 then 601 else hi) bd l6 l7 l10
def abL(op:Int)(name from_:ByteArray)(flag:Int)(l6 l7 l8 l9 l10:Nat):Bool :=
 match shp op with
 | none=>false
 | some (nm,fr,lo,hi,bd,fl)=>decide ((l6:Int)≥lo)&&decide ((l6:Int)≤hi)&&decide (flag≥0)&&decide (flag≤fl)&&(aja nm name&&akw fr from_&&(bd||(l7:Int)==0)&&agN op name flag l8 l9&&ad4 op l10)
theorem afP{s:ByteArray}(h:isN s=true):seq s ⟨#[]⟩=false:=by
 unfold isN at h;cases hs:seq s ⟨#[]⟩ with
 | false=>rfl
 | true=>rw[hs] at h;simp at h
theorem bits(flag:Int)(h1:1≤flag)(h2:flag≤3):(IntKind.i64.wrap (BitVec.ofInt IntKind.i64.bits flag &&& BitVec.ofInt IntKind.i64.bits 1).toNat==1)=(flag.tmod 2==1) ∧
  (IntKind.i64.wrap (BitVec.ofInt IntKind.i64.bits flag &&& BitVec.ofInt IntKind.i64.bits 2).toNat==2)=decide (flag≥2):=by
 rcases (by omega:flag=1∨flag=2∨flag=3) with rfl | rfl | rfl<;>exact⟨rfl,rfl⟩
theorem atV(op:Int)(name from_:ByteArray)(flag:Int)(l6 l7 l8 l9 l10:Nat)(h6:l6≤600):aov op name from_ flag l6 l7 l8 l9 l10=abL op name from_ flag l6 l7 l8 l9 l10:=by
 have hn:=@afP name;have hf:=@afP from_;have hb:=bits flag;unfold aov abL amq aos ajj aja akw agN ad4;generalize (IntKind.i64.wrap (BitVec.ofInt IntKind.i64.bits flag &&& BitVec.ofInt IntKind.i64.bits 1).toNat==1)=b0 at hb ⊢;generalize (IntKind.i64.wrap (BitVec.ofInt IntKind.i64.bits flag &&& BitVec.ofInt IntKind.i64.bits 2).toNat==2)=b1 at hb ⊢;generalize isN name=n1 at hn ⊢;generalize isN from_=n2 at hf ⊢;generalize seq name ⟨#[]⟩=e1 at hn ⊢;generalize seq from_ ⟨#[]⟩=e2 at hf ⊢;generalize flag.tmod 2=t2 at hb ⊢;generalize flag.tmod 4=t4;by_cases hop:op<1∨op>29
 ·rw[aeG hop]
 rcases (by omega:op=1∨op=2∨op=3∨op=4∨op=5∨op=6∨op=7∨op=8∨op=9∨op=10∨op=11∨op=12∨op=13∨op=14∨op=15∨op=16∨op=17∨op=18∨op=19∨op=20∨op=21∨op=22∨op=23∨op=24∨op=25∨op=26∨op=27∨op=28∨op=29) with rfl | rfl | rfl | rfl | rfl | rfl | rfl | rfl | rfl | rfl | rfl | rfl | rfl | rfl | rfl | rfl | rfl | rfl | rfl | rfl | rfl | rfl | rfl | rfl | rfl | rfl | rfl | rfl | rfl <;>
  simp only[shp,Int.reduceBEq,cond_true,cond_false,Int.reduceEq,if_true,if_false]<;>grind (splits:=20)
end Go.Proofs.YtphdlngnegjgcaaGreatDoor
namespace Go.Proofs.YtphdlngnegjgcaaGreatDoor
open Go
def agh(kind:Int)(name:ByteArray)(len:Int):Bool :=
 decide (kind≥1)&&decide (kind≤4)&&len==(cond (kind==2) 2 (cond (kind==4) 0 1))&&cond (kind==1) (isN name) (seq name ⟨#[]⟩)
mutual
def gS(z:Bool):aae→Nat→Bool
 | .mk op name s2 fr s4 flag l6 l7 l8 l9 l10,a=>decide (a≤16)&&(z||(s2==0&&s4==0))&&abL op name fr flag l6.length l7.length l8.length l9.length l10.length &&
  (gEs z l6 (a+1)&&(gSs z l7 (a+1)&&(gSs z l8 (a+1)&&(gSs z l9 (a+1)&&gCs z l10 (a+1)))))
def gSs(z:Bool):List aae→Nat→Bool
 | [],_=>true
 | s::l,a=>gS z s a&&gSs z l a
def gC(z:Bool):aap→Nat→Bool
 | .mk kind name slot es b,a=>decide (a≤16)&&(z||slot==0)&&agh kind name es.length&&(gEs z es (a+1)&&gSs z b (a+1))
def gCs(z:Bool):List aap→Nat→Bool
 | [],_=>true
 | .mk kind name slot es b::l,a=>(!(kind==4)||l.isEmpty)&&gC z (.mk kind name slot es b) a&&gCs z l a
end
theorem aaP : ∀e:aae,1≤szS e
 | .mk _ _ _ _ _ _ _ _ _ _ _=>by simp only[szS];omega
theorem abt : ∀e:aap,1≤szC e
 | .mk _ _ _ _ _=>by simp only[szC];omega
theorem NRes.bind{r:Option (aaj×Bool)}{f:aaj×Bool→Option (aaj×Bool)}{g1 g2:Bool}{n s1 s2:Nat}{z:Bool}(h1:NRes r g1 n s1 z)
  (hf : ∀c,∃c',f (c,false)=some (c',false)) (h2 : ∀d,n+s1≤600→NRes (f (.mk ((n+s1:Nat):Int) d z,true)) g2 (n+s1) s2 z):NRes (r.bind f) (g1&&g2) n (s1+s2) z:=by
 obtain⟨c,rfl,hc⟩:=h1;by_cases hg:(g1&&decide (n+s1≤600))=true
 ·obtain⟨d,rfl⟩:=hc hg;rw[Bool.and_eq_true,decide_eq_true_eq] at hg;obtain⟨h3,h4⟩:=hg;subst h3;simp only[h4,decide_true,Bool.and_self,Bool.true_and,Option.bind_some];obtain⟨c,h5,h6⟩:=h2 d h4;rw[Nat.add_assoc] at h5 h6;exact⟨c,h5,h6⟩
 ·have hg' : (g1&&decide (n+s1≤600))=false:=by simpa using hg
  rw[hg'];obtain⟨c',h⟩:=hf c;refine .no h ?_;rw[Bool.and_eq_false_iff,decide_eq_false_iff_not] at hg' ⊢;rcases hg' with h | h
  ·left;rw[h];rfl
  ·right;omega
theorem NRes.conv{r:Option (aaj×Bool)}{g g' : Bool}{n s n' s' : Nat}{z:Bool}(h:NRes r g n s z)(hs:n+s=n'+s')(hg:n+s≤600→g=g'):NRes r g' n' s' z:=by
 unfold NRes at h ⊢;rw[←hs];have:(g&&decide (n+s≤600))=(g'&&decide (n+s≤600)):=by
  by_cases h:n+s≤600
  ·rw[hg h]
  ·simp[h]
 rwa [←this]
theorem aoO(k:Nat)(z:Bool)(l:List aah)(hk:2*szEs l+1≤k)(n:Nat)(d:Int)(a:Nat)(hn:n≤600)(ha:a≤17):NRes (f80 k (.mk n d z) l a) (gEs z l a) n (szEs l) z :=
 (nE k z k).2 l hk n d a hn ha
theorem ayd(kind:Int):mget qI kind (mput qI 4 0 (mput qI 3 1 (mput qI 2 2 (mput qI 1 1 ([]:List (Int×Int)))))) =
  cond (decide (kind≥1)&&decide (kind≤4)) (some (cond (kind==2) 2 (cond (kind==4) 0 1))) none:=by
 have e:mput qI 4 0 (mput qI 3 1 (mput qI 2 2 (mput qI 1 1 ([]:List (Int×Int)))))=[(1,1),(2,2),(3,1),(4,0)]:=rfl;rw[e];unfold mget mget mget mget mget qI;simp only[Bool.cond_eq_ite];grind
theorem ao3(k:Nat)(F:ach)(kind:Int)(name:ByteArray)(slot:Int)(es:List aah)(b:List aae)(a n d:Int)(z:Bool) :
  aiU k F (.mk n d z) (.mk kind name slot es b) a=cond (decide (kind≥1)&&decide (kind≤4)) ((f76 k (.mk n d z) a).bind fun x=>match x with
   | (.mk n1 d1 z1,ok)=>cond (ok&&(z1||slot==0)&&agh kind name es.length) (aci k F es b a n1 d1 z1 false) (some (.mk n1 d1 z1,false))) (some (.mk n d z,false)):=by
 unfold aiU;simp only[ayd];by_cases hk:(decide (kind≥1)&&decide (kind≤4))=true
 ·simp only[hk,cond_true,ael];congr 1;funext x;obtain⟨⟨n1,d1,z1⟩,ok⟩:=x;unfold aci;have hn:=@afP name;simp only[alY,Option.bind_some,agh,hk,Bool.true_and];generalize (cond (kind==2) (2:Int) (cond (kind==4) 0 1))=e;generalize isN name=n1 at hn ⊢;generalize seq name ⟨#[]⟩=e1 at hn ⊢;simp only[Bool.cond_eq_ite];grind (splits:=20)
 ·have hk' : (decide (kind≥1)&&decide (kind≤4))=false:=by simpa using hk
  simp only[hk',cond_false,ael]
theorem aqO{op lo hi:Int}{bd:Bool}{l6 l7:Int}{l10:Nat}(h:ajj op lo hi bd l6 l7 l10=true):l10≤4:=by
 unfold ajj at h;cases hop:(op==27)<;>simp only[hop,cond_true,cond_false,Bool.and_eq_true,Bool.not_eq_true',decide_eq_true_eq,decide_eq_false_iff_not] at h<;>omega
theorem nSt(k:Nat)(z:Bool) : ∀m,m≤k →
  (∀s,2*szS s≤m→∀(n:Nat) (d:Int) (a:Nat),n≤600→a≤17→NRes ((abl k m).f177 (.mk n d z) s a) (gS z s a) n (szS s) z) ∧
  (∀l,2*szSs l+1≤m→∀(n:Nat) (d:Int) (a:Nat),n≤600→a≤17→NRes ((abl k m).f156 (.mk n d z) l a) (gSs z l a) n (szSs l) z) ∧
  (∀c,2*szC c≤m→∀(n:Nat) (d:Int) (a:Nat),n≤600→a≤17→NRes ((abl k m).f191 (.mk n d z) c a) (gC z c a) n (szC c) z)
 | 0,_=>⟨fun e he=>by have:=aaP e;omega,fun l hl=>by omega,fun c hc=>by have:=abt c;omega⟩
 | m+1,hmk=>by
  obtain⟨ihs,ihl,ihc⟩:=nSt k z m (by omega);refine⟨?_,?_,?_⟩
  ·intro s hs n d a hn ha;obtain⟨op,name,s2,fr,s4,flag,l6,l7,l8,l9,l10⟩:=s;simp only[szS] at hs;show NRes (alG k (abl k m) (.mk n d z) (.mk op name s2 fr s4 flag l6 l7 l8 l9 l10) a) _ _ _ _;have tail : ∀(n:Nat) (d:Int),a≤16→n≤600→NRes (acd k (abl k m) l6 l7 l8 l9 l10 a [] l10.length n d z) (gEs z l6 (a+1)&&(gSs z l7 (a+1)&&(gSs z l8 (a+1)&&gSs z l9 (a+1)))) n (szEs l6+(szSs l7+(szSs l8+szSs l9))) z:=by
    intro n d ha hn;unfold acd;rw[aaS (n:=a+1) (by omega) (by omega)];refine (aoO k z l6 (by omega) n d (a+1) hn (by omega)).bind (fun c=>by obtain⟨_,_,_⟩:=c;exact⟨_,rfl⟩) fun d hn=>?_
    refine (ihl l7 (by omega) _ d (a+1) hn (by omega)).bind (fun c=>by obtain⟨_,_,_⟩:=c;exact⟨_,rfl⟩) fun d hn=>?_
    refine (ihl l8 (by omega) _ d (a+1) hn (by omega)).bind (fun c=>by obtain⟨_,_,_⟩:=c;exact⟨_,rfl⟩) fun d hn=>?_
    refine ((ihl l9 (by omega) _ d (a+1) hn (by omega)).bind (g2:=true) (s2:=0) (fun c=>by obtain⟨_,_,_⟩:=c;exact⟨_,rfl⟩) fun d hn=>?_).conv (by omega) (fun _=>by simp);exact .yes rfl (by simp[hn])
   have loop:a≤16→l10.length≤4→∀(rest:List aap) (i:Nat) (n:Nat) (d:Int),2*szCs rest≤m→i+rest.length=l10.length→n≤600 →
     NRes (acd k (abl k m) l6 l7 l8 l9 l10 a rest i n d z) (gCs z rest (a+1)&&(gEs z l6 (a+1)&&(gSs z l7 (a+1)&&(gSs z l8 (a+1)&&gSs z l9 (a+1))))) n (szCs rest+(szEs l6+(szSs l7+(szSs l8+szSs l9)))) z:=by
    intro ha h10 rest;induction rest with
    | nil =>
     intro i n d _ hi hn;obtain rfl:i=l10.length:=by simpa using hi
     exact (tail n d ha hn).conv (by simp[szCs]) (fun _=>by simp[gCs])
    | cons c rest ih =>
     intro i n d hm hi hn;obtain⟨e0,e1,e2,e3,e4⟩:=c;simp only[szCs,List.length_cons] at hm hi;unfold acd;rw[aaS (x:=(a:Int)+1) (n:=a+1) (by omega) (by omega),aaS (x:=(l10.length:Int) - 1) (n:=l10.length - 1) (by omega) (by omega)];have step:NRes (((abl k m).f191 (.mk n d z) (.mk e0 e1 e2 e3 e4) ((a+1:Nat):Int)).bind fun q_=>match q_ with | (.mk z1467_0 z1467_1 z1467_2,r1468)=>(ahx k (abl k m) i z1467_0 z1467_1 z1467_2 (!r1468) (acd k (abl k m) l6 l7 l8 l9 l10 a rest)))
       (gC z (.mk e0 e1 e2 e3 e4) (a+1)&&(gCs z rest (a+1)&&(gEs z l6 (a+1)&&(gSs z l7 (a+1)&&(gSs z l8 (a+1)&&gSs z l9 (a+1)))))) n (szC (.mk e0 e1 e2 e3 e4)+(szCs rest+(szEs l6+(szSs l7+(szSs l8+szSs l9))))) z :=
      (ihc (.mk e0 e1 e2 e3 e4) (by omega) n d (a+1) hn (by omega)).bind (fun c=>by obtain⟨_,_,_⟩:=c;exact⟨_,rfl⟩) fun d hn=>ih (i+1) _ d (by omega) (by omega) hn
     by_cases h4:(e0==4)=true
     ·simp only[h4,cond_true];by_cases hl:i<l10.length - 1
      ·have:((i:Int)<((l10.length - 1:Nat):Int)):=by omega
       simp only[this,decide_true,cond_true];refine .no rfl ?_;have:rest.isEmpty=false:=by cases rest with
        | nil=>simp at hi;omega
        | cons=>rfl
       simp[gCs,h4,this]
      ·have : ¬((i:Int)<((l10.length - 1:Nat):Int)):=by omega
       simp only[this,decide_false,cond_false];have:rest.isEmpty=true:=by cases rest with
        | nil=>rfl
        | cons=>simp at hi;omega
       exact step.conv (by simp only[szCs];omega) (fun _=>by simp[gCs,this,Bool.and_assoc])
     ·have h4' : (e0==4)=false:=by simpa using h4
      simp only[h4',cond_false];exact step.conv (by simp only[szCs];omega) (fun _=>by simp[gCs,h4',Bool.and_assoc])
   unfold alG;obtain⟨L,hL⟩ : ∃L,f189 k=some L:=⟨_,rfl⟩;have hg:=avf k op;rw[hL] at hg ⊢;simp only[Option.bind_some,Option.some.injEq] at hg ⊢;rw[hg];cases hsh:shp op with
   | none =>
    have:abL op name fr flag l6.length l7.length l8.length l9.length l10.length=false:=by unfold abL;rw[hsh]
    refine .no (c:=.mk n d z) ?_ (by simp[gS,this]);simp only[toN,ael];unfold ago;simp only[Bool.not_false,cond_true,aij];rfl
   | some t =>
    obtain⟨nm,frm,lo,hi,bd,fl⟩:=t;simp only[toN,ael,aom,anI k n d z a hn,Option.bind_some];have hN:aov op name fr flag l6.length l7.length l8.length l9.length l10.length=(amq op name flag l8.length l9.length&&aos nm frm name fr&&ajj op lo (if hi=600 then 601 else hi) bd l6.length l7.length l10.length):=by unfold aov;rw[hsh]
    rw[Bool.and_assoc,Bool.and_assoc,←Bool.and_assoc (amq _ _ _ _ _),←hN];have hl6:=anG l6;by_cases h1:n+1≤600∧a≤16
    ·obtain⟨h1,h2⟩:=h1;by_cases h3:((s2==0&&s4==0)||z)=true
     ·by_cases h4:aov op name fr flag l6.length l7.length l8.length l9.length l10.length=true
      ·have h10:l10.length≤4:=by
        rw[hN] at h4;rw[Bool.and_eq_true] at h4;exact aqO h4.2
       simp only[h1,h2,h3,h4,decide_true,Bool.and_self,cond_true];refine (loop h2 h10 l10 0 (n+1) (imax d a) (by omega) (by omega) h1).conv (by simp only[szS];omega) (fun hh=>?_);have h5:abL op name fr flag l6.length l7.length l8.length l9.length l10.length=true:=by rw[←atV _ _ _ _ _ _ _ _ _ (by omega)];exact h4
       simp only[gS,h2,decide_true,h5];rw[Bool.or_comm] at h3;simp only[h3,Bool.and_self,Bool.true_and];cases gCs z l10 (a+1)<;>cases gEs z l6 (a+1)<;>cases gSs z l7 (a+1)<;>cases gSs z l8 (a+1)<;>cases gSs z l9 (a+1)<;>rfl
      ·have h4' : aov op name fr flag l6.length l7.length l8.length l9.length l10.length=false:=by simpa using h4
       simp only[h4',Bool.and_false,cond_false];refine .no rfl ?_;by_cases hh:n+szS (.mk op name s2 fr s4 flag l6 l7 l8 l9 l10)≤600
       ·have h5:abL op name fr flag l6.length l7.length l8.length l9.length l10.length=false:=by
         rw[←atV _ _ _ _ _ _ _ _ _ (by simp only[szS] at hh;omega)];exact h4'
        simp[gS,h5]
       ·simp[hh]
     ·have h3' : ((s2==0&&s4==0)||z)=false:=by simpa using h3
      simp only[h3',Bool.false_and,Bool.and_false,cond_false];refine .no rfl ?_;rw[Bool.or_comm] at h3';simp only[gS,h3',Bool.false_and,Bool.and_false]
    ·have h1' : (decide (n+1≤600)&&decide (a≤16))=false:=by
      simp only[Bool.and_eq_false_iff,decide_eq_false_iff_not];omega
     simp only[h1',Bool.false_and,cond_false];refine .no rfl ?_;rw[Bool.and_eq_false_iff,decide_eq_false_iff_not];by_cases h2:a≤16
     ·right;simp only[szS];omega
     ·left;simp[gS,h2]
  ·intro l hl n d a hn ha;show NRes (af1 k (abl k m) a l 0 n d z) _ _ _ _;have loop : ∀(l:List aae) (i:Nat) (n:Nat) (d:Int),2*szSs l≤m→n≤600→NRes (af1 k (abl k m) a l i n d z) (gSs z l a) n (szSs l) z:=by
    intro l;induction l with
    | nil=>intro i n d _ hn;exact .yes rfl (by simp[gSs,szSs,hn])
    | cons e l ih =>
     intro i n d hm hn;obtain⟨e0,e1,e2,e3,e4,e5,e6,e7,e8,e9,e10⟩:=e;unfold af1;simp only[szSs] at hm;exact (ihs (.mk e0 e1 e2 e3 e4 e5 e6 e7 e8 e9 e10) (by omega) n d a hn ha).bind (fun c=>by obtain⟨_,_,_⟩:=c;exact⟨_,rfl⟩) fun d hn=>ih (i+1) _ d (by omega) hn
   exact loop l 0 n d (by omega) hn
  ·intro c hc n d a hn ha;obtain⟨kind,name,slot,es,b⟩:=c;simp only[szC] at hc;show NRes (aiU k (abl k m) (.mk n d z) (.mk kind name slot es b) a) _ _ _ _;rw[ao3];by_cases hk:(decide (kind≥1)&&decide (kind≤4))=true
   ·simp only[hk,cond_true];rw[anI k n d z a hn];simp only[Option.bind_some];by_cases h1:n+1≤600∧a≤16
    ·obtain⟨h1,h2⟩:=h1;by_cases h3:((z||slot==0)&&agh kind name es.length)=true
     ·rw[Bool.and_assoc,h3];simp only[h1,h2,decide_true,Bool.and_self,cond_true];unfold aci;simp only[cond_false];rw[aaS (x:=(a:Int)+1) (n:=a+1) (by omega) (by omega)];refine NRes.conv (g:=gEs z es (a+1)&&(gSs z b (a+1)&&true)) (n:=n+1) (s:=szEs es+(szSs b+0)) ?_ (by simp only[szC];omega) (fun _=>?_)
      ·refine (aoO k z es (by omega) (n+1) _ (a+1) h1 (by omega)).bind (fun c=>by obtain⟨_,_,_⟩:=c;exact⟨_,rfl⟩) fun d hn=>?_
       refine (ihl b (by omega) _ d (a+1) hn (by omega)).bind (fun c=>by obtain⟨_,_,_⟩:=c;exact⟨_,rfl⟩) fun d hn=>?_
       exact .yes rfl (by simp[hn])
      ·simp only[gC,h2,decide_true,Bool.true_and,Bool.and_true,h3]
     ·have h3' : ((z||slot==0)&&agh kind name es.length)=false:=by simpa using h3
      rw[Bool.and_assoc,h3',Bool.and_false];refine .no rfl ?_;rw[gC,Bool.and_assoc (decide (a≤16)),h3'];simp
    ·have h1' : (decide (n+1≤600)&&decide (a≤16))=false:=by
      simp only[Bool.and_eq_false_iff,decide_eq_false_iff_not];omega
     simp only[h1',Bool.false_and,cond_false];refine .no rfl ?_;rw[Bool.and_eq_false_iff,decide_eq_false_iff_not];by_cases h2:a≤16
     ·right;simp only[szC];omega
     ·left;simp[gC,h2]
   ·have hk' : (decide (kind≥1)&&decide (kind≤4))=false:=by simpa using hk
    simp only[hk',cond_false];exact .no rfl (by simp only[gC,agh,hk',Bool.false_and,Bool.and_false])
section
variable (k:Nat)(F:abk)(op:Int)(name:ByteArray)(s2:Int)(from_:ByteArray)(s4 flag:Int)(l6:List aah)(l7 l8 l9:List aae)(l10:List aap)(a nm:Int)(fr:Bool)(lo hi:Int)(bd:Bool)(n d:Int)(z q:Bool)
theorem apj:aiV k F (.mk n d false) (.mk op name s2 from_ s4 flag l6 l7 l8 l9 l10) a=(f114 k (.mk n d false) a).bind fun x=>match x with
  | .mk n1 d1 q1=>abI k F l7 l8 l9 l10 a l6 0 n1 d1 (q1||!((s2==0&&s4==0)&&abL op name from_ flag l6.length l7.length l8.length l9.length l10.length)):=by
 unfold aiV;simp only[cond_false];congr 1;funext x;obtain⟨n1,d1,q1⟩:=x;simp only[avd,Option.bind_some,ac6,aot,abL];cases shp op with
 | none =>
  simp only[toR,cond_false,Bool.and_false,Bool.not_false,Bool.or_true,Bool.true_or]
 | some t =>
  obtain⟨nm,frm,lo,hi,bd,fl⟩:=t;simp only[toR,cond_true];generalize (aja nm name&&akw frm from_&&(bd||((l7.length:Int)==0))&&agN op name flag l8.length l9.length&&ad4 op l10.length)=g;generalize abI k F l7 l8 l9 l10 a l6 0 n1 d1=Q;obtain⟨A,B,rfl⟩:=bfun Q;simp only[Bool.cond_eq_ite];grind (splits:=20)
theorem arj(kind:Int)(slot:Int)(es:List aah)(b:List aae):air k F (.mk n d q) (.mk kind name slot es b) a=(f114 k (.mk n d q) a).bind fun x=>match x with
  | .mk n1 d1 q1=>ac3 k F b a es 0 n1 d1 (q1||!((slot==0)&&agh kind name es.length)):=by
 unfold air;simp only;congr 1;funext x;obtain⟨n1,d1,q1⟩:=x;unfold ahK agj ae0;simp only[Option.bind_some,ac6,ahl,agh];generalize ac3 k F b a es 0 n1 d1=Q;obtain⟨A,B,rfl⟩:=bfun Q;generalize (slot==0)=b5;generalize isN name=b6;generalize seq name ⟨#[]⟩=b7;simp only[Bool.cond_eq_ite];grind (splits:=20)
end
theorem aii(k:Nat)(F:abk)(a:Int)(l:List aae)(i:Nat)(x d:Int):ae5 k F a l i x d true=some (.mk x d true):=by
 cases l with
 | nil=>rfl
 | cons e l=>obtain⟨_,_,_,_,_,_,_,_,_,_,_⟩:=e;rfl
theorem RRes.conv{r:Option aan}{g g' : Bool}{n s n' s' : Nat}{q q' : Bool}(h:RRes r g n s q)(hs:n+s=n'+s')(hg:(q||!(g&&decide (n+s≤600)))=(q'||!(g'&&decide (n'+s'≤600)))):RRes r g' n' s' q':=by
 obtain⟨x,d,q1,h1,h2,h3⟩:=h;exact⟨x,d,q1,h1,by rw[h2,hg],by rw[←hs];exact h3⟩
theorem RRes.node{r:Option aan}{g b:Bool}{n s a:Nat}(h:RRes r g (n+1) s (!(decide (n+1≤600)&&decide (a≤16))||!b)):RRes r (decide (a≤16)&&b&&g) n (s+1) false:=by
 refine h.conv (by omega) ?_;have e:n+(s+1)=n+1+s:=by omega
 rw[e];by_cases hh:n+1+s≤600
 ·have:n+1≤600:=by omega
  simp only[hh,this,decide_true];cases decide (a≤16)<;>cases b<;>cases g<;>rfl
 ·simp[hh]
theorem arr(k:Nat)(e:aah)(hk:szE e≤k)(n:Nat)(d:Int)(a:Nat)(hn:n≤600)(ha:a≤17):RRes (f84 k (.mk n d false) e a false) (gE false e a) n (szE e) false :=
 rE k k e hk n d a hn ha
theorem aqn{n a:Nat}{b:Bool}:(!(decide (n+1≤600)&&decide (a≤16))||!b)=false→((n+1:Nat):Int)=((n+1:Nat):Int)∧n+1≤600:=by
 intro h;simp at h;exact⟨rfl,by omega⟩
theorem aqV{op flag:Int}{name fr:ByteArray}{l6 l7 l8 l9 l10:Nat}(h:abL op name fr flag l6 l7 l8 l9 l10=true):l10≤1000:=by
 unfold abL at h;cases hs:shp op with
 | none=>rw[hs] at h;cases h
 | some t =>
  obtain⟨nm,frm,lo,hi,bd,fl⟩:=t;rw[hs] at h;simp only[Bool.and_eq_true,ad4,decide_eq_true_eq] at h;have:=h.2.2.2;omega
theorem rS(k:Nat) : ∀m,m≤k →
  (∀s,2*szS s≤m→∀(n:Nat) (d:Int) (a:Nat),n≤600→a≤17→RRes ((aaX k m).f142 (.mk n d false) s a) (gS false s a) n (szS s) false) ∧
  (∀l,2*szSs l+1≤m→∀(x:Int) (n:Nat) (d:Int) (q:Bool) (a:Nat),(q=false→x=(n:Int)∧n≤600)→a≤17→RRes ((aaX k m).f118 (.mk x d q) l a) (gSs false l a) n (szSs l) q) ∧
  (∀c,2*szC c≤m→∀(n:Nat) (d:Int) (a:Nat),n≤600→a≤17→RRes ((aaX k m).f169 (.mk n d false) c a) (gC false c a) n (szC c) false)
 | 0,_=>⟨fun e he=>by have:=aaP e;omega,fun l hl=>by omega,fun c hc=>by have:=abt c;omega⟩
 | m+1,hmk=>by
  obtain⟨ihs,ihl,ihc⟩:=rS k m (by omega);refine⟨?_,?_,?_⟩
  ·intro s hs n d a hn ha;obtain⟨op,name,s2,fr,s4,flag,l6,l7,l8,l9,l10⟩:=s;simp only[szS] at hs;show RRes (aiV k (aaX k m) (.mk n d false) (.mk op name s2 fr s4 flag l6 l7 l8 l9 l10) a) _ _ _ _;rw[apj,ajW k n d false a hn];simp only[Option.bind_some,Bool.false_or];have cs:a≤16→l10.length≤1000→∀(rest:List aap) (i:Nat) (x:Int) (n:Nat) (d:Int) (q:Bool),2*szCs rest≤m→i+rest.length=l10.length→(q=false→x=(n:Int)∧n≤600) →
     RRes (acU k (aaX k m) l10 a rest i x d q) (gCs false rest (a+1)) n (szCs rest) q:=by
    intro ha h10 rest;induction rest with
    | nil=>intro i x n d q _ _ hx;exact .done hx
    | cons c rest ih =>
     intro i x n d q hm hi hx;obtain⟨e0,e1,e2,e3,e4⟩:=c;simp only[szCs,List.length_cons] at hm hi;unfold acU;cases q with
     | true=>exact .wrong rfl
     | false =>
      obtain⟨rfl,hn⟩:=hx rfl;simp only[Bool.not_false,cond_true];rw[aaS (x:=(a:Int)+1) (n:=a+1) (by omega) (by omega),aaS (x:=(l10.length:Int) - 1) (n:=l10.length - 1) (by omega) (by omega)];refine ((ihc (.mk e0 e1 e2 e3 e4) (by omega) n d (a+1) hn (by omega)).bind (g2:=(!(e0==4)||rest.isEmpty)&&gCs false rest (a+1)) (s2:=szCs rest) fun x1 d1 q1 h1=>?_).cast ?_ (by simp only[szCs])
      ·have hb:(cond (e0 != 4) ((f115 k (aan.mk x1 d1 q1) true).bind fun q_=>match q_ with | .mk z931_0 z931_1 z931_2=>(aeI k (aaX k m) i z931_0 z931_1 z931_2 (acU k (aaX k m) l10 a rest))) ((f115 k (aan.mk x1 d1 q1) ((i:Int)==((l10.length - 1:Nat):Int))).bind fun q_=>match q_ with | .mk z938_0 z938_1 z938_2=>(aeI k (aaX k m) i z938_0 z938_1 z938_2 (acU k (aaX k m) l10 a rest)))) =
         acU k (aaX k m) l10 a rest (i+1) x1 d1 (q1||!(!(e0==4)||rest.isEmpty)):=by
        have hl:((i:Int)==((l10.length - 1:Nat):Int))=rest.isEmpty:=by
         cases rest with
         | nil=>simp at hi ⊢;omega
         | cons _ _=>simp at hi ⊢;omega
        simp only[ac6,Option.bind_some,hl,bne];unfold aeI;cases (e0==4)<;>cases rest.isEmpty<;>simp
       rw[hb];refine (ih (i+1) x1 _ d1 _ (by omega) (by omega) (fun h=>h1 ?_)).check;simp at h;exact h.1
      ·simp only[gCs];cases (!(e0==4)||rest.isEmpty)<;>cases gC false (.mk e0 e1 e2 e3 e4) (a+1)<;>rfl
   have fw : ∀(x d:Int) (l:List aae) (a:Int),(aaX k m).f118 (.mk x d true) l a=some (.mk x d true):=by
    intro x d l a;cases m with
    | zero=>omega
    | succ m=>exact aii _ _ _ _ _ _ _
   have w1 : ∀(x d:Int) (rest:List aap) (i:Nat),acU k (aaX k m) l10 a rest i x d true=some (.mk x d true):=by
    intro x d rest i;cases rest with
    | nil=>rfl
    | cons c l=>obtain⟨_,_,_,_,_⟩:=c;rfl
   have w2 : ∀(x d:Int) (l:List aah) (i:Nat),abI k (aaX k m) l7 l8 l9 l10 a l i x d true=some (.mk x d true):=by
    intro x d l i;cases l with
    | nil=>unfold abI ae8;simp only[fw,Option.bind_some,w1]
    | cons c l=>obtain⟨_,_,_,_,_⟩:=c;unfold abI ae8;simp only[fw,Option.bind_some,w1,Bool.not_true,cond_false]
   have tail:a≤16→l10.length≤1000→∀(x:Int) (n:Nat) (d:Int) (q:Bool),(q=false→x=(n:Int)∧n≤600) →
     RRes (ae8 k (aaX k m) l7 l8 l9 l10 a x d q) (gSs false l7 (a+1)&&(gSs false l8 (a+1)&&(gSs false l9 (a+1)&&gCs false l10 (a+1)))) n (szSs l7+(szSs l8+(szSs l9+szCs l10))) q:=by
    intro ha h10 x n d q hx;unfold ae8;rw[aaS (x:=(a:Int)+1) (n:=a+1) (by omega) (by omega)];refine (ihl l7 (by omega) x n d q (a+1) hx (by omega)).bind fun x d q hx=>?_
    refine (ihl l8 (by omega) x _ d q (a+1) hx (by omega)).bind fun x d q hx=>?_
    refine (ihl l9 (by omega) x _ d q (a+1) hx (by omega)).bind fun x d q hx=>?_
    exact cs ha h10 l10 0 x _ d q (by omega) (by omega) hx
   have loop:a≤16→l10.length≤1000→∀(l:List aah) (i:Nat) (x:Int) (n:Nat) (d:Int) (q:Bool),szEs l≤m→(q=false→x=(n:Int)∧n≤600) →
     RRes (abI k (aaX k m) l7 l8 l9 l10 a l i x d q) (gEs false l (a+1)&&(gSs false l7 (a+1)&&(gSs false l8 (a+1)&&(gSs false l9 (a+1)&&gCs false l10 (a+1))))) n (szEs l+(szSs l7+(szSs l8+(szSs l9+szCs l10)))) q:=by
    intro ha h10 l;induction l with
    | nil =>
     intro i x n d q _ hx;unfold abI;exact (tail ha h10 x n d q hx).cast (by simp[gEs]) (by simp[szEs])
    | cons e l ih =>
     intro i x n d q hm hx;cases q with
     | true=>rw[w2];exact .wrong rfl
     | false =>
      obtain⟨rfl,hn⟩:=hx rfl;obtain⟨e0,e1,e2,e3,e4⟩:=e;unfold abI;simp only[szEs] at hm;simp only[Bool.not_false,cond_true];rw[aaS (x:=(a:Int)+1) (n:=a+1) (by omega) (by omega)];refine ((arr k (.mk e0 e1 e2 e3 e4) (by omega) n d (a+1) hn (by omega)).bind fun x1 d1 q1 h1=>ih (i+1) x1 _ d1 q1 (by omega) h1).cast ?_ ?_
      ·simp only[gEs,Bool.and_assoc]
      ·simp only[szEs];omega
   by_cases hq:(decide (n+1≤600)&&decide (a≤16))=true∧((s2==0&&s4==0)&&abL op name fr flag l6.length l7.length l8.length l9.length l10.length)=true
   ·have ha' : a≤16:=by have:=hq.1;simp at this;exact this.2
    have h10:l10.length≤1000:=by
     have h:=hq.2;rw[Bool.and_eq_true] at h;exact aqV h.2
    refine RRes.cast (RRes.node (a:=a) (loop ha' h10 l6 0 _ (n+1) _ _ (by omega) aqn)) ?_ ?_
    ·simp only[gS,Bool.false_or,←Bool.and_assoc]
    ·simp only[szS];omega
   ·have hq' : (!(decide (n+1≤600)&&decide (a≤16))||!((s2==0&&s4==0)&&abL op name fr flag l6.length l7.length l8.length l9.length l10.length))=true:=by
     rw[←Bool.not_and,Bool.not_eq_true'];rw[←Bool.and_eq_true] at hq;simpa using hq
    rw[hq',w2];refine .bad rfl ?_;simp only[gS,szS,Bool.false_or];by_cases h1:n+1≤600
    ·by_cases h2:a≤16
     ·have:((s2==0&&s4==0)&&abL op name fr flag l6.length l7.length l8.length l9.length l10.length)=false:=by
       cases h:((s2==0&&s4==0)&&abL op name fr flag l6.length l7.length l8.length l9.length l10.length) with
       | false=>rfl
       | true=>exact absurd ⟨by simp[h1,h2],h⟩ hq
      rw[Bool.and_assoc (decide (a≤16)),this];simp
     ·simp[h2]
    ·have : ¬(n+(szEs l6+szSs l7+szSs l8+szSs l9+szCs l10+1)≤600):=by omega
     simp[this]
  ·intro l hl x n d q a hx ha;show RRes (ae5 k (aaX k m) a l 0 x d q) _ _ _ _;have loop : ∀(l:List aae) (i:Nat) (x:Int) (n:Nat) (d:Int) (q:Bool),2*szSs l≤m→(q=false→x=(n:Int)∧n≤600)→RRes (ae5 k (aaX k m) a l i x d q) (gSs false l a) n (szSs l) q:=by
    intro l;induction l with
    | nil=>intro i x n d q _ hx;exact .done hx
    | cons e l ih =>
     intro i x n d q hm hx;obtain⟨e0,e1,e2,e3,e4,e5,e6,e7,e8,e9,e10⟩:=e;unfold ae5;cases q with
     | true=>exact .wrong rfl
     | false =>
      obtain⟨rfl,hn⟩:=hx rfl;simp only[szSs] at hm;simp only[Bool.not_false,cond_true];exact (ihs (.mk e0 e1 e2 e3 e4 e5 e6 e7 e8 e9 e10) (by omega) n d a hn ha).bind fun x1 d1 q1 h1=>ih (i+1) x1 _ d1 q1 (by omega) h1
   exact loop l 0 x n d q (by omega) hx
  ·intro c hc n d a hn ha;obtain⟨kind,name,slot,es,b⟩:=c;simp only[szC] at hc;show RRes (air k (aaX k m) (.mk n d false) (.mk kind name slot es b) a) _ _ _ _;rw[arj,ajW k n d false a hn];simp only[Option.bind_some,Bool.false_or];have loop:a≤16→∀(l:List aah) (i:Nat) (x:Int) (n:Nat) (d:Int) (q:Bool),szEs l≤m→(q=false→x=(n:Int)∧n≤600)→RRes (ac3 k (aaX k m) b a l i x d q) (gEs false l (a+1)&&gSs false b (a+1)) n (szEs l+szSs b) q:=by
    intro ha l;induction l with
    | nil =>
     intro i x n d q _ hx;unfold ac3 aeT;rw[aaS (x:=(a:Int)+1) (n:=a+1) (by omega) (by omega)];refine ((ihl b (by omega) x n d q (a+1) hx (by omega)).bind (g2:=true) (s2:=0) fun x1 d1 q1 h1=>.done h1).cast ?_ ?_
     ·simp[gEs]
     ·simp[szEs]
    | cons e l ih =>
     intro i x n d q hm hx;obtain⟨e0,e1,e2,e3,e4⟩:=e;unfold ac3;simp only[szEs] at hm;cases q with
     | true =>
      unfold aeT;simp only[Bool.not_true,cond_false];obtain⟨x1,d1,q1,h1,h2,h3⟩:=ihl b (by omega) x n d true ((a+1)) hx (by omega);rw[aaS (x:=(a:Int)+1) (n:=a+1) (by omega) (by omega),h1];simp at h2;subst h2
      exact .wrong rfl
     | false =>
      obtain⟨rfl,hn⟩:=hx rfl;simp only[Bool.not_false,cond_true];rw[aaS (x:=(a:Int)+1) (n:=a+1) (by omega) (by omega)];refine ((arr k (.mk e0 e1 e2 e3 e4) (by omega) n d (a+1) hn (by omega)).bind fun x1 d1 q1 h1=>ih (i+1) x1 _ d1 q1 (by omega) h1).cast ?_ ?_
      ·simp only[gEs,Bool.and_assoc]
      ·simp only[szEs];omega
   have fw : ∀(x d:Int) (l:List aae) (a:Int),(aaX k m).f118 (.mk x d true) l a=some (.mk x d true):=by
    intro x d l a;cases m with
    | zero=>omega
    | succ m=>exact aii _ _ _ _ _ _ _
   have w2 : ∀(x d:Int) (l:List aah) (i:Nat),ac3 k (aaX k m) b a l i x d true=some (.mk x d true):=by
    intro x d l i;cases l with
    | nil=>unfold ac3 aeT;simp only[fw,Option.bind_some]
    | cons c l=>obtain⟨_,_,_,_,_⟩:=c;unfold ac3 aeT;simp only[fw,Option.bind_some,Bool.not_true,cond_false]
   by_cases ha' : a≤16
   ·refine RRes.cast (RRes.node (a:=a) (loop ha' es 0 _ (n+1) _ _ (by omega) aqn)) ?_ ?_
    ·simp only[gC,Bool.false_or,←Bool.and_assoc]
    ·simp only[szC]
   ·have hq' : (!(decide (n+1≤600)&&decide (a≤16))||!((slot==0)&&agh kind name es.length))=true:=by simp[ha']
    rw[hq',w2];exact .bad rfl (by simp[gC,ha'])
end Go.Proofs.YtphdlngnegjgcaaGreatDoor
namespace Go.Proofs.YtphdlngnegjgcaaGreatDoor
open Go
def okP:List aat→Bool
 | []=>true
 | .mk nm kd::l=>isN nm&&decide (kd≥1)&&decide (kd≤6)&&okP l
def agM(z:Bool)(name:ByteArray)(np:Nat)(res:Int)(f3:Bool)(s4:Int):Bool :=
 isN name&&decide (np≤4)&&(z||s4==0)&&(!f3||res==0)&&decide (res≥0)&&decide (res≤6)
def gFs(z:Bool):List aab→Bool
 | []=>true
 | .mk name ps res f3 s4 b::l=>agM z name ps.length res f3 s4&&(okP ps&&(gSs z b 1&&gFs z l))
def cnF:aab→Nat | .mk _ _ _ _ _ b=>szSs b+1
def cnFs:List aab→Nat | []=>0 | f::l=>cnF f+cnFs l
def wf(z:Bool):aaa→Bool
 | .mk fs=>decide (1≤fs.length)&&decide (fs.length≤16)&&gFs z fs&&decide (cnFs fs≤600)
section
variable (k i:Nat)(body:List aae)(n d:Int)(z q:Bool)(nx:Nat→Int→Int→Bool→Option (aaj×Bool))
theorem aie : ∀(ps:List aat) (j:Nat),acG k i body n d z nx ps j=cond (okP ps) (acG k i body n d z nx [] 0) (some (.mk n d z,false))
 | [],j=>rfl
 | .mk nm kd::ps,j=>by
  have ih:=aie ps;generalize acG k i body n d z nx [] 0=A at ih ⊢;rw[acG];simp only[alY,aiv,Option.bind_some,ajY,ih,okP];cases isN nm<;>cases decide (kd≥1)<;>cases decide (kd≤6)<;>rfl
theorem aoz(ps:List aat):acq k i ps body n d z q nx=cond (!q&&okP ps) (acG k i body n d z nx [] 0) (some (.mk n d z,false)):=by
 unfold acq;rw[aie];cases q<;>rfl
end
theorem asA(k:Nat)(z:Bool)(l:List aae)(hk:2*szSs l+1≤k)(n:Nat)(d:Int)(a:Nat)(hn:n≤600)(ha:a≤17):NRes (f156 k (.mk n d z) l a) (gSs z l a) n (szSs l) z :=
 (nSt k z k (Nat.le_refl k)).2.1 l hk n d a hn ha
theorem asG(k:Nat)(l:List aae)(hk:2*szSs l+1≤k)(x:Int)(n:Nat)(d:Int)(q:Bool)(a:Nat)(hx:q=false→x=(n:Int)∧n≤600)(ha:a≤17):RRes (f118 k (.mk x d q) l a) (gSs false l a) n (szSs l) q :=
 (rS k k (Nat.le_refl k)).2.1 l hk x n d q a hx ha
theorem aon(k:Nat)(name:ByteArray)(ps:List aat)(res:Int)(f3:Bool)(s4:Int)(b:List aae)(l:List aab)(i:Nat)(n d:Int)(z:Bool) :
  abp k (.mk name ps res f3 s4 b::l) i n d z=(f76 k (.mk n d z) 0).bind fun x=>match x with
   | (.mk n1 d1 z1,ok)=>cond (ok&&agM z1 name ps.length res f3 s4&&okP ps) (acG k i b n1 d1 z1 (abp k l) [] 0) (some (.mk n1 d1 z1,false)):=by
 rw[abp];congr 1;funext x;obtain⟨⟨n1,d1,z1⟩,ok⟩:=x;simp only[alY,aiv,Option.bind_some,aoz,agM];have e:decide ((ps.length:Int)>4)=!decide (ps.length≤4):=by rw[←decide_not,decide_eq_decide];omega
 rw[e];simp only[Bool.cond_eq_ite];grind (splits:=20)
theorem nFs(k:Nat)(z:Bool) : ∀(l:List aab) (i:Nat) (n:Nat) (d:Int),2*szFs l+1≤k→n≤600→NRes (abp k l i n d z) (gFs z l) n (cnFs l) z
 | [],i,n,d,hk,hn=>.yes rfl (by simp[gFs,cnFs,hn])
 | .mk name ps res f3 s4 b::l,i,n,d,hk,hn=>by
  simp only[szFs,szF] at hk;rw[aon];have e0:((0:Nat):Int)=0:=rfl;rw[←e0,anI k n d z 0 hn,e0];simp only[Option.bind_some,Nat.zero_le,decide_true,Bool.and_true];by_cases h1:n+1≤600
  ·by_cases h2:(agM z name ps.length res f3 s4&&okP ps)=true
   ·rw[Bool.and_assoc,h2];simp only[h1,decide_true,Bool.and_self,cond_true];rw[acG];refine ((asA k z b (by omega) (n+1) (imax d 0) 1 h1 (by omega)).bind (f:=fun q_=>match q_ with | (.mk z10628_0 z10628_1 z10628_2,r10629)=>(cond (!r10629) (some ((aaj.mk z10628_0 z10628_1 z10628_2),false)) (abp k l (i+1) z10628_0 z10628_1 z10628_2)))
     (fun c=>by obtain⟨_,_,_⟩:=c;exact⟨_,rfl⟩) fun d hn=>nFs k z l (i+1) _ d (by omega) hn).conv (by simp only[cnFs,cnF];omega) (fun _=>?_)
    rw[Bool.and_eq_true] at h2;simp only[gFs,h2.1,h2.2,Bool.true_and]
   ·have h2' : (agM z name ps.length res f3 s4&&okP ps)=false:=by simpa using h2
    rw[Bool.and_assoc,h2',Bool.and_false];refine .no rfl ?_;rw[gFs,←Bool.and_assoc,h2'];simp
  ·simp only[h1,decide_false,Bool.false_and,cond_false];refine .no rfl ?_;have : ¬(n+(szSs b+1+cnFs l)≤600):=by omega
   simp[cnFs,cnF,this]
theorem aud(k:Nat)(p:aaa)(z:Bool)(hk:2*szP p+1≤k):f99 k p z=some (wf z p):=by
 obtain⟨fs⟩:=p;simp only[szP] at hk;unfold f99 f128;simp only[aiv,Option.bind_some];have e1:(decide ((fs.length:Int)≥1)&&decide ((fs.length:Int)≤16))=(decide (1≤fs.length)&&decide (fs.length≤16)):=by
  congr 1
  ·rw[decide_eq_decide];omega
  ·rw[decide_eq_decide];omega
 rw[e1];by_cases h:(decide (1≤fs.length)&&decide (fs.length≤16))=true
 ·rw[h];simp only[Bool.not_true,cond_false];obtain⟨c,h1,h2⟩:=nFs k z fs 0 0 0 (by omega) (by omega);have e0:((0:Nat):Int)=0:=rfl;rw[e0] at h1;rw[h1];obtain⟨_,_,_⟩:=c;simp only[Option.bind_some,wf,h,Nat.zero_add,Bool.true_and]
 ·have h' : (decide (1≤fs.length)&&decide (fs.length≤16))=false:=by simpa using h
  rw[h'];simp only[Bool.not_false,cond_true,Option.bind_some,wf,h',Bool.false_and]
section
variable (k i:Nat)(body:List aae)(d:Int)(nx:Nat→Int→Int→Bool→Option aan)
theorem akH : ∀(ps:List aat) (j:Nat) (x d:Int) (q:Bool),afv k i body nx ps j x d q=agy k i body x d (q||!okP ps) nx
 | [],j,x,d,q=>by simp[afv,okP]
 | .mk nm kd::ps,j,x,d,q=>by
  unfold afv;simp only[ahl,ac6,Option.bind_some,al9,akH ps,okP];cases q<;>cases isN nm<;>cases decide (kd≥1)<;>cases decide (kd≤6)<;>rfl
end
theorem arF(k:Nat)(name:ByteArray)(ps:List aat)(res:Int)(f3:Bool)(s4:Int)(b:List aae)(l:List aab)(i:Nat)(n d:Int) :
  abV k (.mk name ps res f3 s4 b::l) i n d false=(f114 k (.mk n d false) 0).bind fun x=>match x with
   | .mk n1 d1 q1=>agy k i b n1 d1 (q1||!(agM false name ps.length res f3 s4&&okP ps)) (abV k l):=by
 rw[abV];simp only[Bool.not_false,cond_true];congr 1;funext x;obtain⟨n1,d1,q1⟩:=x;simp only[ahl,ac6,Option.bind_some,afk,akH,agM];have e:decide ((ps.length:Int)≤4)=decide (ps.length≤4):=by rw[decide_eq_decide];omega
 rw[e];have hQ : ∃A B,(fun q=>agy k i b n1 d1 q (abV k l))=fun b=>if b=true then A else B:=bfun _
 obtain⟨A,B,hQ⟩:=hQ;have hQ' : ∀q,agy k i b n1 d1 q (abV k l)=if q=true then A else B:=fun q=>congrFun hQ q
 simp only[hQ'];generalize decide (ps.length≤4)=b2;generalize isN name=b1;generalize okP ps=b3;generalize (s4==0)=b4;generalize (res==0)=b5;simp only[Bool.cond_eq_ite];grind (splits:=20)
theorem rFs(k:Nat) : ∀(l:List aab) (i:Nat) (x:Int) (n:Nat) (d:Int) (q:Bool),2*szFs l+1≤k→(q=false→x=(n:Int)∧n≤600)→RRes (abV k l i x d q) (gFs false l) n (cnFs l) q
 | [],i,x,n,d,q,hk,hx=>.done hx
 | .mk name ps res f3 s4 b::l,i,x,n,d,q,hk,hx=>by
  simp only[szFs,szF] at hk;cases q with
  | true=>exact .wrong rfl
  | false =>
   obtain⟨rfl,hn⟩:=hx rfl;rw[arF];have e0:((0:Nat):Int)=0:=rfl;rw[←e0,ajW k n d false 0 hn,e0];simp only[Option.bind_some,Bool.false_or];unfold agy;refine RRes.cast (RRes.node (a:=0) (b:=agM false name ps.length res f3 s4&&okP ps) (g:=gSs false b 1&&gFs false l) (s:=szSs b+cnFs l) ?_) ?_ ?_
   ·exact (asG k b (by omega) _ (n+1) _ _ 1 (fun h=>by simp at h;exact⟨rfl,by omega⟩) (by omega)).bind fun x d q hx=>rFs k l (i+1) x _ d q (by omega) hx
   ·simp only[gFs,Nat.zero_le,decide_true,Bool.true_and,Bool.and_assoc]
   ·simp only[cnFs,cnF];omega
theorem at4(k:Nat)(p:aaa)(hk:2*szP p+1≤k):f59 k p=some (wf false p):=by
 obtain⟨fs⟩:=p;simp only[szP] at hk;unfold f59 f85;simp only[ac6,Option.bind_some,anj];have e:(cond (decide ((fs.length:Int)≥1)) (abV k fs 0 0 0 (false||!decide ((fs.length:Int)≤16))) (abV k fs 0 0 0 (false||!false)))=abV k fs 0 0 0 (!(decide (1≤fs.length)&&decide (fs.length≤16))):=by
  have e1:decide ((fs.length:Int)≥1)=decide (1≤fs.length):=by rw[decide_eq_decide];omega
  have e2:decide ((fs.length:Int)≤16)=decide (fs.length≤16):=by rw[decide_eq_decide];omega
  rw[e1,e2];cases decide (1≤fs.length)<;>rfl
 rw[e];have e0:((0:Nat):Int)=0:=rfl;obtain⟨x,d,q',h1,h2,h3⟩:=rFs k fs 0 0 0 0 (!(decide (1≤fs.length)&&decide (fs.length≤16))) (by omega) (fun _=>⟨rfl,by omega⟩);rw[h1];simp only[Option.bind_some,wf,h2,Nat.zero_add];cases decide (1≤fs.length)<;>cases decide (fs.length≤16)<;>cases gFs false fs<;>cases decide (cnFs fs≤600)<;>rfl
mutual
def stS:aae→aae | .mk op name _ fr _ flag l6 l7 l8 l9 l10=>.mk op name 0 fr 0 flag (stEs l6) (stSs l7) (stSs l8) (stSs l9) (stCs l10)
def stSs:List aae→List aae | []=>[] | s::l=>stS s::stSs l
def stC:aap→aap | .mk kind name _ es b=>.mk kind name 0 (stEs es) (stSs b)
def stCs:List aap→List aap | []=>[] | c::l=>stC c::stCs l
end
def stF:aab→aab | .mk name ps res f3 _ b=>.mk name ps res f3 0 (stSs b)
def stFs:List aab→List aab | []=>[] | f::l=>stF f::stFs l
def stP:aaa→aaa | .mk fs=>.mk (stFs fs)
theorem ang : ∀l,(stSs l).length=l.length
 | []=>rfl
 | e::l=>by simp[stSs,ang l]
theorem anH : ∀l,(stCs l).length=l.length
 | []=>rfl
 | e::l=>by simp[stCs,anH l]
theorem aoa : ∀l,(stFs l).length=l.length
 | []=>rfl
 | e::l=>by simp[stFs,aoa l]
mutual
theorem awW : ∀e,szS (stS e)=szS e
 | .mk _ _ _ _ _ _ _ l7 l8 l9 l10=>by simp only[stS,szS,ajq,aep l7,aep l8,aep l9,arA l10]
theorem aep : ∀l,szSs (stSs l)=szSs l
 | []=>rfl
 | e::l=>by simp only[stSs,szSs,awW e,aep l]
theorem axD : ∀e,szC (stC e)=szC e
 | .mk _ _ _ _ b=>by simp only[stC,szC,ajq,aep b]
theorem arA : ∀l,szCs (stCs l)=szCs l
 | []=>rfl
 | e::l=>by simp only[stCs,szCs,axD e,arA l]
end
mutual
theorem ayB : ∀e a,gS false (stS e) a=gS true e a
 | .mk _ _ _ _ _ _ _ l7 l8 l9 l10,a=>by simp[stS,gS,am7,aiq l7,aiq l8,aiq l9,atA l10,afh,ang,anH]
theorem aiq : ∀l a,gSs false (stSs l) a=gSs true l a
 | [],_=>rfl
 | e::l,a=>by simp only[stSs,gSs,ayB e,aiq l]
theorem ayA : ∀e a,gC false (stC e) a=gC true e a
 | .mk _ _ _ _ b,a=>by simp[stC,gC,am7,aiq b,afh]
theorem atA : ∀l a,gCs false (stCs l) a=gCs true l a
 | [],_=>rfl
 | .mk k nm s es b::l,a=>by
  have h:=ayA (.mk k nm s es b) a;simp only[stC] at h;have e:(stCs l).isEmpty=l.isEmpty:=by cases l<;>rfl
  simp only[stCs,stC,gCs,h,atA l,e]
end
theorem aqt : ∀l,szFs (stFs l)=szFs l
 | []=>rfl
 | .mk _ _ _ _ _ b::l=>by simp only[stFs,stF,szFs,szF,aep,aqt l]
theorem art : ∀l,cnFs (stFs l)=cnFs l
 | []=>rfl
 | .mk _ _ _ _ _ b::l=>by simp only[stFs,stF,cnFs,cnF,aep,art l]
theorem atG : ∀l,gFs false (stFs l)=gFs true l
 | []=>rfl
 | .mk _ _ _ _ _ b::l=>by simp[stFs,stF,gFs,aiq,atG l,agM]
theorem at1 : ∀p,szP (stP p)=szP p
 | .mk fs=>by simp only[stP,szP,aqt]
theorem ayr : ∀p,wf false (stP p)=wf true p
 | .mk fs=>by simp only[stP,wf,atG,aoa,art]
def maxB:Nat:=140737488355328
mutual
def fitE:aah→Prop | .mk _ _ _ _ l=>l.length*64≤maxB∧aeX l
def aeX:List aah→Prop | []=>True | e::l=>fitE e∧aeX l
end
mutual
def fitS:aae→Prop | .mk _ _ _ _ _ _ l6 l7 l8 l9 l10=>(l6.length*64≤maxB∧aeX l6)∧(l7.length*184≤maxB∧ad8 l7)∧(l8.length*184≤maxB∧ad8 l8)∧(l9.length*184≤maxB∧ad8 l9)∧(l10.length*80≤maxB∧ajH l10)
def ad8:List aae→Prop | []=>True | e::l=>fitS e∧ad8 l
def fitC:aap→Prop | .mk _ _ _ l b=>(l.length*64≤maxB∧aeX l)∧(b.length*184≤maxB∧ad8 b)
def ajH:List aap→Prop | []=>True | e::l=>fitC e∧ajH l
end
def fitF:aab→Prop | .mk _ ps _ _ _ b=>ps.length*24≤maxB∧(b.length*184≤maxB∧ad8 b)
def aku:List aab→Prop | []=>True | e::l=>fitF e∧aku l
def fitP:aaa→Prop | .mk fs=>fs.length*88≤maxB∧aku fs
theorem aaE{α:Type}{a:Nat}{x:Option α}(h:a≤maxB):aaC (decide (a≤140737488355328)) x=x:=by
 unfold maxB at h;unfold aaC;rw[decide_eq_true h];rfl
theorem aaU{α:Type}(xs:List α)(e:α):(xs++[e]).length=xs.length+1:=by simp
theorem amv(k:Nat) : ∀m l,szEs l+1≤m→l.length*64≤maxB→aeX l→(agC k m).f121 l=some l
 | 0,l,h,_,_=>by omega
 | m+1,l,h,hl,hf=>by
  show ae6 k (agC k m) l 0 []=some l;have loop : ∀(l:List aah) (i:Nat) (xs:List aah),szEs l≤m→(xs.length+l.length)*64≤maxB→aeX l→ae6 k (agC k m) l i xs=some (xs++l):=by
   intro l;induction l with
   | nil=>intro i xs _ _ _;simp[ae6]
   | cons e l ih =>
    intro i xs hm hl hf;obtain⟨e0,e1,e2,e3,e4⟩:=e;simp only[szEs,szE,aeX,fitE,List.length_cons] at hm hl hf;unfold ae6;rw[amv k m e4 (by omega) hf.1.1 hf.1.2];simp only[Option.bind_some];rw[aaE (by omega),ih (i+1) _ (by omega) (by rw[aaU];omega) hf.2];simp
  exact loop l 0 [] (by omega) (by simpa using hl) hf
theorem apU(k:Nat) : ∀m l,szEs l+1≤m→l.length*64≤maxB→aeX l→(akI k m).f90 l=some (stEs l)
 | 0,l,h,_,_=>by omega
 | m+1,l,h,hl,hf=>by
  show ahw k (akI k m) l 0 []=some (stEs l);have loop : ∀(l:List aah) (i:Nat) (xs:List aah),szEs l≤m→(xs.length+l.length)*64≤maxB→aeX l→ahw k (akI k m) l i xs=some (xs++stEs l):=by
   intro l;induction l with
   | nil=>intro i xs _ _ _;simp[ahw,stEs]
   | cons e l ih =>
    intro i xs hm hl hf;obtain⟨e0,e1,e2,e3,e4⟩:=e;simp only[szEs,szE,aeX,fitE,List.length_cons] at hm hl hf;unfold ahw;rw[apU k m e4 (by omega) hf.1.1 hf.1.2];simp only[Option.bind_some];rw[aaE (by omega),ih (i+1) _ (by omega) (by rw[aaU];omega) hf.2];simp[stEs,stE]
  exact loop l 0 [] (by omega) (by simpa using hl) hf
theorem cE(k:Nat) : ∀m,(∀e,2*szE e≤m→fitE e→(aaT k m).f1017823 e=some (stE e)) ∧
  (∀l,2*szEs l+1≤m→l.length*64≤maxB→aeX l→(aaT k m).f1015923 l=some (stEs l))
 | 0=>⟨fun e h=>by have:=ad0 e;omega,fun l h=>by omega⟩
 | m+1=>by
  obtain⟨ihe,ihl⟩:=cE k m;constructor
  ·intro e h hf;obtain⟨e0,e1,e2,e3,e4⟩:=e;simp only[szE,fitE] at h hf;show adA k (aaT k m) (.mk e0 e1 e2 e3 e4)=_;unfold adA;simp only;rw[ihl e4 (by omega) hf.1 hf.2];simp[f157,stE]
  ·intro l h hl hf;show ab6 k (aaT k m) l 0 []=_;have loop : ∀(l:List aah) (i:Nat) (xs:List aah),2*szEs l≤m→(xs.length+l.length)*64≤maxB→aeX l→ab6 k (aaT k m) l i xs=some (xs++stEs l):=by
    intro l;induction l with
    | nil=>intro i xs _ _ _;simp[ab6,stEs]
    | cons e l ih =>
     intro i xs hm hl hf;obtain⟨e0,e1,e2,e3,e4⟩:=e;simp only[szEs,aeX,List.length_cons] at hm hl hf;unfold ab6;rw[ihe (.mk e0 e1 e2 e3 e4) (by omega) hf.1];simp only[Option.bind_some,stE];rw[aaE (by omega),ih (i+1) _ (by omega) (by rw[aaU];omega) hf.2];simp[stEs,stE]
   exact loop l 0 [] (by omega) (by simpa using hl) hf
theorem alh(k:Nat) : ∀m l,szSs l+1≤m→szSs l+1≤k→l.length*184≤maxB→ad8 l→(ajz k m).f89 l=some l
 | 0,l,h,_,_,_=>by omega
 | m+1,l,h,hk,hl,hf=>by
  show agF k (ajz k m) l 0 []=some l;have cs : ∀(xs:List aae) (i:Nat) (e0:Int) (e1:ByteArray) (e2:Int) (e3:ByteArray) (e4 e5:Int) (r6:List aah) (r7 r8 r9:List aae) (nx:Nat→List aae→Option (List aae)) (l:List aap) (j:Nat) (ys:List aap),szCs l≤m→szCs l≤k →
    (ys.length+l.length)*80≤maxB→(xs.length+1)*184≤maxB→ajH l→ais k (ajz k m) xs i e0 e1 e2 e3 e4 e5 r6 r7 r8 r9 nx l j ys=nx (i+1) (xs++[.mk e0 e1 e2 e3 e4 e5 r6 r7 r8 r9 (ys++l)]):=by
   intro xs i e0 e1 e2 e3 e4 e5 r6 r7 r8 r9 nx l;induction l with
   | nil=>intro j ys _ _ _ hx _;unfold ais;rw[aaE hx];simp
   | cons c l ih =>
    intro j ys hm hk hl hx hf;obtain⟨c0,c1,c2,c3,c4⟩:=c;simp only[szCs,szC,ajH,fitC,List.length_cons] at hm hl hf hk;unfold ais f121;rw[amv k k c3 (by omega) hf.1.1.1 hf.1.1.2];simp only[Option.bind_some];rw[alh k m c4 (by omega) (by omega) hf.1.2.1 hf.1.2.2];simp only[Option.bind_some];rw[aaE (by omega),ih (j+1) _ (by omega) (by omega) (by rw[aaU];omega) hx hf.2];simp
  have loop : ∀(l:List aae) (i:Nat) (xs:List aae),szSs l≤m→szSs l≤k→(xs.length+l.length)*184≤maxB→ad8 l→agF k (ajz k m) l i xs=some (xs++l):=by
   intro l;induction l with
   | nil=>intro i xs _ _ _ _;simp[agF]
   | cons e l ih =>
    intro i xs hm hk hl hf;obtain⟨e0,e1,e2,e3,e4,e5,e6,e7,e8,e9,e10⟩:=e;simp only[szSs,szS,ad8,fitS,List.length_cons] at hm hl hf hk;obtain⟨⟨⟨h6,h6'⟩,⟨h7,h7'⟩,⟨h8,h8'⟩,⟨h9,h9'⟩,h10,h10'⟩,hf⟩:=hf;unfold agF f121;rw[amv k k e6 (by omega) h6 h6',alh k m e7 (by omega) (by omega) h7 h7',alh k m e8 (by omega) (by omega) h8 h8',alh k m e9 (by omega) (by omega) h9 h9'];simp only[Option.bind_some];rw[cs xs i e0 e1 e2 e3 e4 e5 e6 e7 e8 e9 _ e10 0 [] (by omega) (by omega) (by simpa using h10) (by omega) h10',ih (i+1) _ (by omega) (by omega) (by rw[aaU];omega) hf];simp
  exact loop l 0 [] (by omega) (by omega) (by simpa using hl) hf
theorem akZ(k:Nat) : ∀m l,szSs l+1≤m→szSs l+1≤k→l.length*184≤maxB→ad8 l→(ai8 k m).f63 l=some (stSs l)
 | 0,l,h,_,_,_=>by omega
 | m+1,l,h,hk,hl,hf=>by
  show agA k (ai8 k m) l 0 []=some (stSs l);have cs : ∀(xs:List aae) (i:Nat) (e0:Int) (e1:ByteArray) (e3:ByteArray) (e5:Int) (r6:List aah) (r7 r8 r9:List aae) (nx:Nat→List aae→Option (List aae)) (l:List aap) (j:Nat) (ys:List aap),szCs l≤m→szCs l≤k →
    (ys.length+l.length)*80≤maxB→(xs.length+1)*184≤maxB→ajH l→ain k (ai8 k m) xs i e0 e1 e3 e5 r6 r7 r8 r9 nx l j ys=nx (i+1) (xs++[.mk e0 e1 0 e3 0 e5 r6 r7 r8 r9 (ys++stCs l)]):=by
   intro xs i e0 e1 e3 e5 r6 r7 r8 r9 nx l;induction l with
   | nil=>intro j ys _ _ _ hx _;unfold ain;rw[aaE hx];simp[stCs]
   | cons c l ih =>
    intro j ys hm hk hl hx hf;obtain⟨c0,c1,c2,c3,c4⟩:=c;simp only[szCs,szC,ajH,fitC,List.length_cons] at hm hl hf hk;unfold ain f90;rw[apU k k c3 (by omega) hf.1.1.1 hf.1.1.2];simp only[Option.bind_some];rw[akZ k m c4 (by omega) (by omega) hf.1.2.1 hf.1.2.2];simp only[Option.bind_some];rw[aaE (by omega),ih (j+1) _ (by omega) (by omega) (by rw[aaU];omega) hx hf.2];simp[stCs,stC]
  have loop : ∀(l:List aae) (i:Nat) (xs:List aae),szSs l≤m→szSs l≤k→(xs.length+l.length)*184≤maxB→ad8 l→agA k (ai8 k m) l i xs=some (xs++stSs l):=by
   intro l;induction l with
   | nil=>intro i xs _ _ _ _;simp[agA,stSs]
   | cons e l ih =>
    intro i xs hm hk hl hf;obtain⟨e0,e1,e2,e3,e4,e5,e6,e7,e8,e9,e10⟩:=e;simp only[szSs,szS,ad8,fitS,List.length_cons] at hm hl hf hk;obtain⟨⟨⟨h6,h6'⟩,⟨h7,h7'⟩,⟨h8,h8'⟩,⟨h9,h9'⟩,h10,h10'⟩,hf⟩:=hf;unfold agA f90;rw[apU k k e6 (by omega) h6 h6',akZ k m e7 (by omega) (by omega) h7 h7',akZ k m e8 (by omega) (by omega) h8 h8',akZ k m e9 (by omega) (by omega) h9 h9'];simp only[Option.bind_some];rw[cs xs i e0 e1 e3 e5 _ _ _ _ _ e10 0 [] (by omega) (by omega) (by simpa using h10) (by omega) h10',ih (i+1) _ (by omega) (by omega) (by rw[aaU];omega) hf];simp[stSs,stS]
  exact loop l 0 [] (by omega) (by omega) (by simpa using hl) hf
theorem ahS(k:Nat) : ∀m l,szSs l+1≤m→2*szSs l+1≤k→l.length*184≤maxB→ad8 l→(afA k m).f130 l false=some (stSs l)
 | 0,l,h,_,_,_=>by omega
 | m+1,l,h,hk,hl,hf=>by
  show acZ k (afA k m) false l 0 []=some (stSs l);have cs : ∀(xs:List aae) (i:Nat) (e0:Int) (e1:ByteArray) (e3:ByteArray) (e5 n1 n2:Int) (r6:List aah) (r7 r8 r9:List aae) (nx:Nat→List aae→Option (List aae)) (l:List aap) (j:Nat) (ys:List aap),szCs l≤m→2*szCs l≤k →
    (ys.length+l.length)*80≤maxB→(xs.length+1)*184≤maxB→ajH l→aeq k (afA k m) false xs i e0 e1 e3 e5 n1 n2 r6 r7 r8 r9 nx l j ys=nx (i+1) (xs++[.mk e0 e1 n1 e3 n2 e5 r6 r7 r8 r9 (ys++stCs l)]):=by
   intro xs i e0 e1 e3 e5 n1 n2 r6 r7 r8 r9 nx l;induction l with
   | nil=>intro j ys _ _ _ hx _;unfold aeq;rw[aaE hx];simp[stCs]
   | cons c l ih =>
    intro j ys hm hk hl hx hf;obtain⟨c0,c1,c2,c3,c4⟩:=c;simp only[szCs,szC,ajH,fitC,List.length_cons] at hm hl hf hk;unfold aeq ajF f1015923;rw[(cE k k).2 c3 (by omega) hf.1.1.1 hf.1.1.2];simp only[Bool.not_false,cond_true,Option.bind_some];rw[ahS k m c4 (by omega) (by omega) hf.1.2.1 hf.1.2.2];simp only[Option.bind_some];rw[aaE (by omega),ih (j+1) _ (by omega) (by omega) (by rw[aaU];omega) hx hf.2];simp[stCs,stC]
  have loop : ∀(l:List aae) (i:Nat) (xs:List aae),szSs l≤m→2*szSs l≤k→(xs.length+l.length)*184≤maxB→ad8 l→acZ k (afA k m) false l i xs=some (xs++stSs l):=by
   intro l;induction l with
   | nil=>intro i xs _ _ _ _;simp[acZ,stSs]
   | cons e l ih =>
    intro i xs hm hk hl hf;obtain⟨e0,e1,e2,e3,e4,e5,e6,e7,e8,e9,e10⟩:=e;simp only[szSs,szS,ad8,fitS,List.length_cons] at hm hl hf hk;obtain⟨⟨⟨h6,h6'⟩,⟨h7,h7'⟩,⟨h8,h8'⟩,⟨h9,h9'⟩,h10,h10'⟩,hf⟩:=hf;unfold acZ ajr f1015923;rw[(cE k k).2 e6 (by omega) h6 h6',ahS k m e7 (by omega) (by omega) h7 h7',ahS k m e8 (by omega) (by omega) h8 h8',ahS k m e9 (by omega) (by omega) h9 h9'];simp only[Bool.not_false,cond_true,Option.bind_some];rw[cs xs i e0 e1 e3 e5 _ _ _ _ _ _ _ e10 0 [] (by omega) (by omega) (by simpa using h10) (by omega) h10',ih (i+1) _ (by omega) (by omega) (by rw[aaU];omega) hf];simp[stSs,stS]
  exact loop l 0 [] (by omega) (by omega) (by simpa using hl) hf
theorem auL(k:Nat)(p:aaa)(hk:2*szP p+1≤k)(hf:fitP p):f100 k p false=some (stP p):=by
 obtain⟨fs⟩:=p;simp only[szP,fitP] at hk hf;show adO k false fs 0 []=some (.mk (stFs fs));have loop : ∀(l:List aab) (i:Nat) (xs:List aab),2*szFs l+1≤k→(xs.length+l.length)*88≤maxB→aku l→adO k false l i xs=some (.mk (xs++stFs l)):=by
  intro l;induction l with
  | nil=>intro i xs _ _ _;simp[adO,stFs]
  | cons e l ih =>
   intro i xs hk hl hf;obtain⟨e0,e1,e2,e3,e4,e5⟩:=e;simp only[szFs,szF,aku,fitF,List.length_cons] at hk hl hf;unfold adO akd f129 f130;rw[aaE hf.1.1,ahS k k e5 (by omega) (by omega) hf.1.2.1 hf.1.2.2];simp only[Bool.not_false,cond_true,Option.bind_some];rw[aaE (by omega),ih (i+1) _ (by omega) (by rw[aaU];omega) hf.2];simp[stFs,stF]
 exact loop fs 0 [] (by omega) (by simpa using hf.1) hf.2
theorem axG(k:Nat)(p:aaa)(hk:2*szP p+1≤k)(hf:fitP p):f62 k p=some p:=by
 obtain⟨fs⟩:=p;simp only[szP,fitP] at hk hf;show ahn k fs 0 []=some (.mk fs);have loop : ∀(l:List aab) (i:Nat) (xs:List aab),2*szFs l+1≤k→(xs.length+l.length)*88≤maxB→aku l→ahn k l i xs=some (.mk (xs++l)):=by
  intro l;induction l with
  | nil=>intro i xs _ _ _;simp[ahn]
  | cons e l ih =>
   intro i xs hk hl hf;obtain⟨e0,e1,e2,e3,e4,e5⟩:=e;simp only[szFs,szF,aku,fitF,List.length_cons] at hk hl hf;unfold ahn f89;rw[aaE (by simpa using hf.1.1),alh k k e5 (by omega) (by omega) hf.1.2.1 hf.1.2.2];simp only[Option.bind_some];rw[aaE (by omega),ih (i+1) _ (by omega) (by rw[aaU];omega) hf.2];simp
 exact loop fs 0 [] (by omega) (by simpa using hf.1) hf.2
theorem ajh{α:Type}(xs:List α)(e:α)(l:List α)(i:Int)(hi:i=(xs.length:Int)):idxO (xs++e::l) i=some e:=by
 subst hi;unfold idxO;rw[if_pos (by omega)];simp
theorem avp{α:Type}(xs:List α)(e e' : α)(l:List α):(xs++e::l).set xs.length e'=xs++e'::l:=by
 simp
theorem axJ(k:Nat)(p:aaa)(hk:2*szP p+1≤k)(hf:fitP p):f39 k p=some (stP p):=by
 have h19:=axG k p hk hf;obtain⟨fs⟩:=p;unfold f39;simp only;rw[h19];simp only[szP,fitP] at hk hf;simp only[Option.bind_some];have loop : ∀(l:List aab) (j:Nat) (xs:List aab),l.length<j→2*szFs l+1≤k→(xs.length+l.length)*88≤maxB→aku l→aiu k j (xs++l) (xs.length:Int)=some (.mk (xs++stFs l)):=by
  intro l;induction l with
  | nil =>
   intro j xs hj _ _ _;obtain⟨j,rfl⟩ : ∃j',j=j'+1:=⟨j - 1,by simp at hj;omega⟩;unfold aiu;simp[stFs]
  | cons e l ih =>
   intro j xs hj hk hl hf;simp only[szFs,aku,List.length_cons] at hk hl hf hj;obtain⟨j,rfl⟩ : ∃j',j=j'+1:=⟨j - 1,by omega⟩;unfold aiu;have h1:decide ((xs.length:Int)<((xs++e::l).length:Int))=true:=by simp;omega
   rw[h1,ajh xs e l _ rfl];obtain⟨e0,e1,e2,e3,e4,e5⟩:=e;simp only[szF,fitF] at hk hf;simp only[cond_true,Option.bind_some];unfold f63;rw[akZ k k e5 (by omega) (by omega) hf.1.2.1 hf.1.2.2];simp only[Option.bind_some,Int.toNat_natCast,avp];unfold maxB at hl;rw[aaS (x:=(xs.length:Int)+1) (n:=xs.length+1) (by omega) (by omega)];have:=ih j (xs++[.mk e0 e1 e2 e3 0 (stSs e5)]) (by omega) (by omega) (by rw[aaU];unfold maxB;omega) hf.2;rw[aaU] at this;simp only[List.append_assoc,List.singleton_append] at this;rw[this];rfl
 have hlen:=ant fs;exact loop fs k [] (by omega) (by omega) (by simpa using hf.1) hf.2
end Go.Proofs.YtphdlngnegjgcaaGreatDoor
