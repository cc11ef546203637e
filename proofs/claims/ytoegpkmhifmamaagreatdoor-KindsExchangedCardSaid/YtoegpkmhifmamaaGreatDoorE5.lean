/- Words of the same proof, part 5: what the last text needs; nothing is claimed here. -/
import Derived.Test.YtoegpkmhifmamaaGreatDoorE4
import Derived.ProofKit
set_option linter.unusedVariables false
set_option linter.unusedSimpArgs false
set_option maxRecDepth 100000
set_option maxHeartbeats 20000000
namespace Go.Proofs.YtoegpkmhifmamaaGreatDoor
open Go
theorem f57_b_ok (k:Nat) (F:Fam36) (IH36:f36_spec F.f36) (IH57:f57_spec F.f57):f57_spec (f57_b k F):=by
 unfold f57_spec;intro K wi g bs br y z B C D N O x G I J S U f m s Y f3 lT lU lV lW lX lY lZ l0 l2 l3 h hG bf bm bn bo aG aK hbr f4 f6;obtain ⟨r_,hr_,h⟩:=rz h;obtain ⟨t,Z,W,ap,ag,aq,V,ad,ae,af,X⟩:=f3;obtain ⟨ab,ac,aj,ak,al,am,an,ao,ah,ai,rfl,l4,l5,cc,ga,gb,gc,es⟩:=RDStmt.open f4;refine enter Tryz.func57 rfl (n:=205) rfl ?_;unfold f57_b at h;refine sr (bxoC (cs:=(aS t Z W ap ag aq ab V ac aj ad ak al ae am an af ao ah X ai)) f6 rfl rfl (fun gd bU=>(m2 vN (wt (sr (m2 (iI 1) (wt (wp_cut (fun a w=>∃ et cr aL,a=fr 205 (updL et [(0,pp g 0),(3,pp (zz wi) 0),(5,iI aL)])∧KH.sub K cr∧SR K cr wi w [.box bs g #[sl z y B,.string C,sl N D O,iI x,.bool G,iI I,sl S J U,sl m f s] 82,eW br m f s 3 1 Y] [.box bs g #[sl z y B,.string C,sl N D O,iI x,.bool G,iI I,sl S J U,sl m f s] 82,.box (zz wi) (zz wi) (aS t Z W ap ag aq ab V ac aj ad ak al ae am an af ao ah X ai) 37,eW br m f s 3 1 Y]∧f57_j1 k F y C D x G I J f t Z W V ad ae af X aL=some r_) ?_ ?_))))))))
 ·refine sr (fd 0 Tyf37_0 rfl (l1 0 (iI t) bU Tya3 (wt (wp_block (sr (c0 (t == 1) (m2 (.bool (t == 1)) (wt (cd h (fun dq h=>?_) (fun dq h=>?_))))))))))
  ·refine cT dq (wp_seq (rA [] [0,1,2] bU (fun bg q0=>kF 0 6 rfl Tyf37_6 rfl q0 (tL 1 (sl ab V ac) [] 0 rfl Tya31 q0 ?_))));obtain ⟨⟨dr,ds,dt,du,dv⟩,dw,h⟩:=ob h;obtain ⟨eu,ew,l6,ge,l7,gf,ex⟩:=(cc).row.at_ (idxO_at dw).1;obtain ⟨dx,dy,rfl,l8,l9⟩:=RDExpr.open ex;refine kK 2 (.pointer (some ⟨eu,ew + (0:Int).toNat * 5,none⟩)) rfl (fun w=>idxG_r (b:=eu) (o:=ew) (i:=0) Tye31 Tys33 rfl ge rfl (idxO_at dw).2.1 (idxO_at dw).2.2) q0 (tT 3 (.agg (aE dr ds dt du dx dv dy)) [] rfl q0 (fun w hF=>ldN_r (cs:=(vE dr ds dt du dx dv dy)) Tya33 Tys33 rfl rfl (fun j v hj=>hF.cell (kr.cell (gf j v hj)))) (kM 4 (pp g 0) rfl q0 (kN 5 rfl rfl q0 (kF 6 7 rfl Tyf82_2 rfl q0 (tL 7 (sl m f s) [] 1 rfl Tya48 q0 (aO 8 rfl ?_))))));obtain ⟨ct,gg,h⟩:=ob h;refine cv ([.agg (aE dr ds dt du dx dv dy),sl m f s]) Tyb33 ((f33_ok k) gg (hG.mono (KW.sub bg.le)) (RDExpr.mono (KW.sub bg.le) ex) (lend_row (bg.entAt (i:=2) rfl) aG aK) (Sx.all _)) ?_;rintro _ ma ⟨mb,rfl,gh⟩;have cO:=bg.lend gh;refine wb (fq [0,1,2] cO) (fun q7=>kG 9 (iI ct) rfl q7 (aD (thenN (sr (m1 (iI ct) (c0 (ct == (-1)) (wt (cd h (fun dz h=>?_) (fun dz h=>?_)))))))))
   ·refine cT dz (sr (m2 vN (wt (wp_ret (blkR (thenR ?_))))));have e_:=(Option.some.inj h).trans hr_;obtain ⟨gi,gj⟩:=Prod.mk.inj e_;obtain ⟨gk,gl,gm⟩:=Dchecker.mk.inj gi;have gn:=DProgram.mk.inj gk;subst gn;obtain ⟨go,gp,gq,gr,gs,gt⟩:=DFunc.mk.inj gl;subst go;subst gp;subst gq;subst gr;subst gs;subst gt;subst gm;subst gj;exact retA1 rfl (resT rfl) ⟨K,z,B,N,O,S,U,m,s,Y,rfl,(cO.sel [1,2]),bf,bm,bn,bo,aG,aK⟩
   ·exact cF dz (wp_skip (blkN (thenN (⟨_,K,ct,fR,kr,(cO.sel [1,0,2]),h⟩))))
  ·refine cF dq (sr (c0 (t == 14) (m2 (.bool (t == 14)) (wt (cd h (fun dA h=>?_) (fun dA h=>?_))))))
   ·refine cT dA (wp_seq (rA [] [0,1,2] bU (fun bh q1=>kF 0 6 rfl Tyf37_6 rfl q1 (tL 1 (sl ab V ac) [] 0 rfl Tya31 q1 ?_))));obtain ⟨⟨dB,dC,dD,dE,dF⟩,dG,h⟩:=ob h;obtain ⟨ey,ez,md,gu,mg,gv,eA⟩:=(cc).row.at_ (idxO_at dG).1;obtain ⟨dH,dI,rfl,mh,mi⟩:=RDExpr.open eA;refine kK 2 (.pointer (some ⟨ey,ez + (0:Int).toNat * 5,none⟩)) rfl (fun w=>idxG_r (b:=ey) (o:=ez) (i:=0) Tye31 Tys33 rfl gu rfl (idxO_at dG).2.1 (idxO_at dG).2.2) q1 (tT 3 (.agg (aE dB dC dD dE dH dF dI)) [] rfl q1 (fun w hF=>ldN_r (cs:=(vE dB dC dD dE dH dF dI)) Tya33 Tys33 rfl rfl (fun j v hj=>hF.cell (kr.cell (gv j v hj)))) (kM 4 (pp g 0) rfl q1 (kN 5 rfl rfl q1 (kF 6 7 rfl Tyf82_2 rfl q1 (tL 7 (sl m f s) [] 1 rfl Tya48 q1 (aO 8 rfl ?_))))));obtain ⟨eB,gw,h⟩:=ob h;refine cv ([.agg (aE dB dC dD dE dH dF dI),sl m f s]) Tyb33 ((f33_ok k) gw (hG.mono (KW.sub bh.le)) (RDExpr.mono (KW.sub bh.le) eA) (lend_row (bh.entAt (i:=2) rfl) aG aK) (Sx.all _)) ?_;rintro _ mj ⟨ml,rfl,gx⟩;have cP:=bh.lend gx;refine wb (fq [0,1,2] cP) (fun q8=>kC 9 (eB == (-1)) rfl q8 (aD (thenN (cd h (fun dJ h=>?_) (fun dJ h=>?_)))))
    ·refine cT dJ (sr (m2 vN (wt (wp_ret (blkR (thenR ?_))))));have e_:=(Option.some.inj h).trans hr_;obtain ⟨gy,gz⟩:=Prod.mk.inj e_;obtain ⟨gA,gB,gD⟩:=Dchecker.mk.inj gy;have gF:=DProgram.mk.inj gA;subst gF;obtain ⟨gG,gH,gI,gJ,gK,gL⟩:=DFunc.mk.inj gB;subst gG;subst gH;subst gI;subst gJ;subst gK;subst gL;subst gD;subst gz;exact retA1 rfl (resT rfl) ⟨K,z,B,N,O,S,U,m,s,Y,rfl,(cP.sel [1,2]),bf,bm,bn,bo,aG,aK⟩
    ·exact cF dJ (wp_skip (blkN (thenN (⟨_,K,1,fR,kr,(cP.sel [1,0,2]),h⟩))))
   ·refine cF dA (sr (c0 (t == 2) (m2 (.bool (t == 2)) (wt (cd h (fun dK h=>?_) (fun dK h=>?_))))))
    ·refine cT dK (wp_seq (rA [] [0,1,2] bU (fun ay q2=>kF 0 6 rfl Tyf37_6 rfl q2 (tL 1 (sl ab V ac) [] 0 rfl Tya31 q2 ?_))));obtain ⟨⟨dL,dM,dN,dO,dP⟩,dQ,h⟩:=ob h;obtain ⟨eC,eD,mm,gM,mn,gN,eF⟩:=(cc).row.at_ (idxO_at dQ).1;obtain ⟨dR,dS,rfl,mo,mq⟩:=RDExpr.open eF;refine kK 2 (.pointer (some ⟨eC,eD + (0:Int).toNat * 5,none⟩)) rfl (fun w=>idxG_r (b:=eC) (o:=eD) (i:=0) Tye31 Tys33 rfl gM rfl (idxO_at dQ).2.1 (idxO_at dQ).2.2) q2 (tT 3 (.agg (aE dL dM dN dO dR dP dS)) [] rfl q2 (fun w hF=>ldN_r (cs:=(vE dL dM dN dO dR dP dS)) Tya33 Tys33 rfl rfl (fun j v hj=>hF.cell (kr.cell (gN j v hj)))) (kM 4 (pp g 0) rfl q2 (kN 5 rfl rfl q2 (kF 6 7 rfl Tyf82_2 rfl q2 (tL 7 (sl m f s) [] 1 rfl Tya48 q2 (kM 9 (pp g 0) rfl q2 (kN 10 rfl rfl q2 (kF 11 7 rfl Tyf82_2 rfl q2 (tL 12 (sl m f s) [] 1 rfl Tya48 q2 (kF 13 2 rfl Tyf37_2 rfl q2 (tL 14 (iI W) [] 0 rfl Tya3 q2 ?_)))))))))));obtain ⟨ce,dT,h⟩:=ob h;obtain ⟨eG,mr,gO,mt,gP,gQ⟩:=row_at (ay.entAt (i:=2) rfl) aG (idxO_at dT).1;obtain rfl:=gP;refine kK 15 (pp eG (0 + W.toNat * 1)) rfl (fun w=>idxG_r (b:=eG) (o:=0) (i:=W) Tye48 Tys3 rfl gO rfl (idxO_at dT).2.1 (idxO_at dT).2.2) q2 (tT 16 (iI ce) [] rfl q2 (fun w hF=>ld1_r (v:=iI ce) Tya3 rfl (gQ _ (hF.entAt (i:=2) rfl) 0 _ rfl)) (aO 8 rfl ?_));obtain ⟨cQ,gR,h⟩:=ob h;refine cv ([.agg (aE dL dM dN dO dR dP dS),sl m f s]) Tyb33 ((f33_ok k) gR (hG.mono (KW.sub ay.le)) (RDExpr.mono (KW.sub ay.le) eF) (lend_row (ay.entAt (i:=2) rfl) aG aK) (Sx.all _)) ?_;rintro _ mu ⟨mw,rfl,gT⟩;have cR:=ay.lend gT;refine wb (fq [0,1,2] cR) (fun q9=>kC 17 (cQ == ce) rfl q9 (kG 18 (.bool (cQ == ce)) rfl q9 (aD (thenN (wp_ret (blkR (thenR ?_)))))));have e_:=(Option.some.inj h).trans hr_;obtain ⟨gU,gV⟩:=Prod.mk.inj e_;obtain ⟨gW,gX,gY⟩:=Dchecker.mk.inj gU;have gZ:=DProgram.mk.inj gW;subst gZ;obtain ⟨g0,g1,g2,g3,g4,g5⟩:=DFunc.mk.inj gX;subst g0;subst g1;subst g2;subst g3;subst g4;subst g5;subst gY;subst gV;exact retA1 rfl (resT rfl) ⟨K,z,B,N,O,S,U,m,s,Y,rfl,(cR.sel [1,2]),bf,bm,bn,bo,aG,aK⟩
    ·refine cF dK (sr (c0 (t == 17) (m2 (.bool (t == 17)) (wt (cd h (fun dU h=>?_) (fun dU h=>?_))))))
     ·refine cT dU (wp_seq (rA [9] [0,1,2] bU (fun bF q3=>kM 0 (pp g 0) rfl q3 (kF 1 6 rfl Tyf37_6 rfl q3 (tL 2 (sl ab V ac) [[9,2]] 0 rfl Tya31 q3 (kM 3 (pp g 0) rfl q3 (kN 4 rfl rfl q3 (kF 5 1 rfl Tyf82_1 rfl q3 (kF 6 3 rfl Tyf42_2 rfl q3 (tL 7 (iI x) [[9,8,7]] 1 rfl Tya3 q3 (aO 8 rfl (bsl (e:=3) (cells:=#[iI x]) (vs:=[(0,iI x)]) bF rfl (buildSl_one Tye48 Tys3 Tyz3 rfl (by decide) (by decide) rfl) (fun g6 eH=>(wb (fq [1,2,3] eH) (fun _=>aO 9 rfl ?_)))))))))))))));obtain ⟨g7,eI,bV,g8⟩:=frzI (i:=0) (bytes:=8) (xs:=[x]) (R:=fun K=>(RInt .i64)) eH rfl (Nat.le_refl _) ⟨[iI x],_,rfl,rfl,rfl,(reps0 (R:=(RInt .i64)) (size:=1))⟩ rfl (Nat.le_of_ble_eq_true rfl) (fun hs=>(fun _ _ h=>h));have eJ:=p120 eI;obtain ⟨eL,g9,h⟩:=ob h;refine cv ([pp g 0,sl ab V ac,.slice (some ⟨(zz gd.drew),0,none⟩) [x].length 1]) Tyb84 ((f84_ok k) g9 (hG.mono bV) (mf bf bV) bm (mp bn bV) (ms bo bV) (aG.mono (fun _ _ h=>h)) aK (Nat.le_trans hbr eI.size) (me cc bV) g8 (pt eJ)) ?_;rintro _ mx ⟨ha,rfl,cS⟩;have hb:=ca cS eJ;refine wt ⟨hE 9,kH 10 (.bool eL) rfl (fun w=>asg_r (v:=.bool eL) rfl) 9 (aD (thenN (wp_ret (blkR (thenR ?_)))))⟩;have e_:=(Option.some.inj h).trans hr_;obtain ⟨hc,hd⟩:=Prod.mk.inj e_;obtain ⟨he,hf,hg⟩:=Dchecker.mk.inj hc;have hh:=DProgram.mk.inj he;subst hh;obtain ⟨hi,hk,hl,hm,hn,ho⟩:=DFunc.mk.inj hf;subst hi;subst hk;subst hl;subst hm;subst hn;subst ho;subst hg;subst hd;exact retA1 rfl (resT rfl) ⟨ha,z,B,N,O,S,U,m,s,Y,rfl,(hb.sel [0,1]),(mf bf (bV.trans cS.sub)),bm,(mp bn (bV.trans cS.sub)),(ms bo (bV.trans cS.sub)),(aG.mono (fun _ _ h=>h)),aK⟩
     ·refine cF dU (wp_cut (fun a w=>∃ eM dV,a=fr 205 (updL eM [(0,pp g 0),(3,pp (zz wi) 0),(5,iI 1),(13,iI t),(71,.bool dV)])∧SR K K wi w [.box bs g #[sl z y B,.string C,sl N D O,iI x,.bool G,iI I,sl S J U,sl m f s] 82,eW br m f s 3 1 Y] [.box bs g #[sl z y B,.string C,sl N D O,iI x,.bool G,iI I,sl S J U,sl m f s] 82,.box (zz wi) (zz wi) (aS t Z W ap ag aq ab V ac aj ad ak al ae am an af ao ah X ai) 37,eW br m f s 3 1 Y]∧f57_j8 k F y C D x G I J f t Z W ag V ad ae af X dV=some r_) ?_ ?_)
      ·refine sr (c0 (t == 3) (m2 (.bool (t == 3)) (wt (cd h (fun dW h=>?_) (fun dW h=>?_)))))
       ·exact cT dW (wp_skip (thenN (⟨_,(t == 3),fR,(bU.sel [1,0,2]),h⟩)))
       ·refine cF dW (sr (c0 (t == 4) (m2 (.bool (t == 4)) (wt (cd h (fun dX h=>?_) (fun dX h=>?_))))))
        ·exact cT dX (wp_skip (thenN (⟨_,(t == 4),fR,(bU.sel [1,0,2]),h⟩)))
        ·exact cF dX (wp_region_lit (c0 (t == 28) (m2 (.bool (t == 28)) (wt (⟨_,(t == 28),fR,(bU.sel [1,0,2]),h⟩)))))
      ·rintro _ eN ⟨eM,dV,rfl,cu,h⟩;unfold f57_j8 at h;refine cd h (fun dY h=>?_) (fun dY h=>?_)
       ·refine cT dY (wp_seq (rA [10] [0,1,2] cu (fun bz q4=>kM 0 (pp g 0) rfl q4 (kN 1 rfl rfl q4 (kF 2 0 rfl Tyf82_0 rfl q4 (kF 3 0 rfl Tyf24_0 rfl q4 (tL 4 (sl z y B) [[10,4]] 0 rfl Tya22 q4 (kF 5 4 rfl Tyf37_4 rfl q4 (tL 6 (iI ag) [[10,6]] 1 rfl Tya3 q4 ?_)))))))));obtain ⟨⟨bG,bH,ar,bI,bJ,bK⟩,dZ,h⟩:=ob h;obtain ⟨eO,eP,my,hp,mz,hq,hr⟩:=(bf).row.at_ (idxO_at dZ).1;obtain ⟨bL,bM,bN,bO,rfl,ht,hu,hv⟩:=RDFunc.open hr;refine kK 7 (pp eO (eP + ag.toNat * 6)) rfl (fun w=>idxG_r (b:=eO) (o:=eP) (i:=ag) Tye22 Tys42 rfl hp rfl (idxO_at dZ).2.1 (idxO_at dZ).2.2) q4 (tT 8 (.agg (aF bG bL bH bM ar bI bJ bN bK bO)) [[10,8]] rfl q4 (fun w hF=>ldN_r (cs:=(vF bG bL bH bM ar bI bJ bN bK bO)) Tya42 Tys42 rfl rfl (fun j v hj=>hF.cell (kr.cell (hq j v hj)))) (aO 9 rfl (aC zF.toArray bz Tyz42 (fun mA eQ=>(wb (fq [1,2,3] eQ) (fun _=>aO 10 rfl (sI 0 (.agg (aF bG bL bH bM ar bI bJ bN bK bO)) ((aF bG bL bH bM ar bI bJ bN bK bO)) eQ Tys42 rfl rfl (fun mC eR=>(wt ⟨hE 10,aD (thenN (sr (fd 2 Tyf42_2 rfl (l1 0 (iI ar) eR Tya3 (m2 (iI ar) (wt (wp_seq (wp_cut (fun a w=>∃ eS bP d0,a=fr 205 (updL eS [(0,pp g 0),(3,pp (zz wi) 0),(5,iI ar),(106,.bool d0)])∧KH.sub K bP∧SR K bP wi w [.box bs g #[sl z y B,.string C,sl N D O,iI x,.bool G,iI I,sl S J U,sl m f s] 82,eW br m f s 3 1 Y] [.box bs g #[sl z y B,.string C,sl N D O,iI x,.bool G,iI I,sl S J U,sl m f s] 82,.box (zz wi) (zz wi) (aS t Z W ap ag aq ab V ac aj ad ak al ae am an af ao ah X ai) 37,eW br m f s 3 1 Y]∧f57_j9 k F y C D x G I J f t Z W V ad ae af X ar d0=some r_) ?_ ?_))))))))⟩)))))))))
        ·have b1:=eR.drew;refine regAny (E:=[5]) (F:=FW K [.box (zz wi) (zz eN.drew) (aF bG bL bH bM ar bI bJ bN bK bO) 42,.box bs g #[sl z y B,.string C,sl N D O,iI x,.bool G,iI I,sl S J U,sl m f s] 82,.box (zz wi) (zz wi) (aS t Z W ap ag aq ab V ac aj ad ak al ae am an af ao ah X ai) 37,eW br m f s 3 1 Y]) (L:=(lb 21 0)) ymx rfl rfl (kM 0 (pp g 0) rfl (fq [0,1,2,3] b1) (kF 1 6 rfl Tyf37_6 rfl (fq [0,1,2,3] b1) (tL 2 (sl ab V ac) [[5,2]] 2 rfl Tya31 (fq [0,1,2,3] b1) (tT 3 (.agg (aF bG bL bH bM ar bI bJ bN bK bO)) [[5,4,3]] rfl (fq [0,1,2,3] b1) (fun w hF=>lbN_r (i:=0) (l:=(vF bG bL bH bM ar bI bJ bN bK bO)) hF rfl Tya42 Tys42 rfl rfl rfl) (aO 4 rfl ?_)))));obtain ⟨hw,hx,h⟩:=ob h;refine cv ([.agg (aF bG bL bH bM ar bI bJ bN bK bO)]) Tyb26 ((f26_ok k) hx (hG.mono kr) (RDFunc.intro ht hu hv) (pt b1)) ?_;rintro _ hy ⟨mD,hz,hA,mE,rfl,bp,hB,hC⟩;have hD:=ca bp b1;have eT:=hD.lower_ (i:=0) rfl b1.size;refine wb (fwOf (is:=[1,2,3,4]) eT bp.sub rfl) (fun _=>aO 5 rfl ?_);obtain ⟨hH,eU,bQ,hI⟩:=shutI (i:=0) (bytes:=8) (R:=fun K=>(RInt .i64)) eT rfl (Nat.le_refl _) hB hC (fun hs=>(fun _ _ h=>h));have eV:SR K hH wi hy [.box bs g #[sl z y B,.string C,sl N D O,iI x,.bool G,iI I,sl S J U,sl m f s] 82,eW br m f s 3 1 Y] [.box bs g #[sl z y B,.string C,sl N D O,iI x,.bool G,iI I,sl S J U,sl m f s] 82,eW br m f s 3 1 Y,.box (zz wi) (zz eN.drew) (aF bG bL bH bM ar bI bJ bN bK bO) 42,.box (zz wi) (zz wi) (aS t Z W ap ag aq ab V ac aj ad ak al ae am an af ao ah X ai) 37]:=eU.sel [1,3,0,2];obtain ⟨cU,hJ,h⟩:=ob h;refine cv ([pp g 0,sl ab V ac,sl hz hw hA]) Tyb84 ((f84_ok k) hJ (hG.mono (bp.sub.trans bQ)) (mf bf (bp.sub.trans bQ)) bm (mp bn (bp.sub.trans bQ)) (ms bo (bp.sub.trans bQ)) (aG.mono (fun _ _ h=>h)) aK (Nat.le_trans hbr eU.size) (me cc (bp.sub.trans bQ)) hI (pt eV)) ?_;rintro _ mF ⟨cV,rfl,cw⟩;have cf:=ca cw eV;refine wt ⟨hE 5,kH 6 (.bool (!cU)) rfl (fun w=>unot_r (a:=cU) rfl) 5 (kH 7 (.bool (!cU)) rfl (fun w=>mv_r (v:=.bool (!cU)) rfl) 5 (cd h (fun av h=>?_) (fun av h=>?_)))⟩
         ·exact tkO (i:=8) (d:=93) (L':=(lb 21 511)) rfl rfl rfl (by kernel_rfl) (by kernel_rfl) (fun _ _ d _ _ h=>by cases d<;>exact h) rfl (.inl (cg av)) (hE 5) rfl (tkO (i:=9) (d:=93) (L':=(lb 21 1023)) rfl rfl rfl (by kernel_rfl) (by kernel_rfl) (fun _ _ d _ _ h=>by cases d<;>exact h) rfl (.inl (cg av)) (hE 5) rfl (tkO (i:=10) (d:=93) (L':=(lb 21 2047)) rfl rfl rfl (by kernel_rfl) (by kernel_rfl) (fun _ _ d _ _ h=>by cases d<;>exact h) rfl (.inl (cg av)) (hE 5) rfl (tkO (i:=11) (d:=93) (L':=(lb 21 4095)) rfl rfl rfl (by kernel_rfl) (by kernel_rfl) (fun _ _ d _ _ h=>by cases d<;>exact h) rfl (.inl (cg av)) (hE 5) rfl (tkO (i:=12) (d:=97) (L':=(lb 21 8191)) rfl rfl rfl (by kernel_rfl) (by kernel_rfl) (fun _ _ d _ _ h=>by cases d<;>exact h) rfl (.inr rfl) (hE 5) rfl (tkO (i:=13) (d:=97) (L':=(lb 21 16383)) rfl rfl rfl (by kernel_rfl) (by kernel_rfl) (fun _ _ d _ _ h=>by cases d<;>exact h) rfl (.inr rfl) (hE 5) rfl (tkO (i:=14) (d:=97) (L':=(lb 21 32767)) rfl rfl rfl (by kernel_rfl) (by kernel_rfl) (fun _ _ d _ _ h=>by cases d<;>exact h) rfl (.inr rfl) (hE 5) rfl (tkO (i:=15) (d:=93) (L':=(lb 21 65535)) rfl rfl rfl (by kernel_rfl) (by kernel_rfl) (fun _ _ d _ _ h=>by cases d<;>exact h) rfl (.inl (cg av)) (hE 5) rfl (tkO (i:=16) (d:=93) (L':=(lb 21 131071)) rfl rfl rfl (by kernel_rfl) (by kernel_rfl) (fun _ _ d _ _ h=>by cases d<;>exact h) rfl (.inl (cg av)) (hE 5) rfl (tkO (i:=17) (d:=102) (L':=(lb 21 262143)) rfl rfl rfl (by kernel_rfl) (by kernel_rfl) (fun _ _ d _ _ h=>by cases d<;>exact h) rfl (.inr rfl) (hE 5) rfl (tkO (i:=18) (d:=102) (L':=(lb 21 524287)) rfl rfl rfl (by kernel_rfl) (by kernel_rfl) (fun _ _ d _ _ h=>by cases d<;>exact h) rfl (.inr rfl) (hE 5) rfl (tkO (i:=19) (d:=93) (L':=(lb 21 1048575)) rfl rfl rfl (by kernel_rfl) (by kernel_rfl) (fun _ _ d _ _ h=>by cases d<;>exact h) rfl (.inl (cg av)) (hE 5) rfl (kH 20 vT rfl (fun w=>pick_r (b:=true) (v:=vT) (cg av) rfl) 5 (aD (thenN (⟨_,cV,true,fR,((bp.sub.trans bQ).trans cw.sub),(cf.sel [0,3,1]),h⟩)))))))))))))))
         ·refine tkPG (i:=8) (d:=93) (v:=pp (zz wi) 0) (L':=(lb 21 511)) rfl (by kernel_rfl) (by kernel_rfl) (fun _ _ d _ _ h=>by cases d<;>exact h) rfl (cg av) (fun w=>fld_r (o':=0) Tyf37_0 rfl rfl) (hE 5) rfl (aO 9 rfl (n1 93 av (l1 3 (iI t) cf Tya3 (wt ⟨hE 5,tkPG (i:=10) (d:=93) (v:=.bool (t == 3)) (L':=(lb 21 2047)) rfl (by kernel_rfl) (by kernel_rfl) (fun _ _ d _ _ h=>by cases d<;>exact h) rfl (cg av) (fun w=>bcm_r (r:=(t == 3)) rfl rfl rfl) (hE 5) rfl (tkPG (i:=11) (d:=93) (v:=.bool (t == 3)) (L':=(lb 21 4095)) rfl (by kernel_rfl) (by kernel_rfl) (fun _ _ d _ _ h=>by cases d<;>exact h) rfl (cg av) (fun w=>mv_r (v:=.bool (t == 3)) rfl) (hE 5) rfl (cd h (fun bR h=>?_) (fun bR h=>?_)))⟩))))
          ·refine tkPG (i:=12) (d:=97) (v:=pp (zz wi) 1) (L':=(lb 21 8191)) rfl (by kernel_rfl) (by kernel_rfl) (fun _ _ d _ _ h=>by cases d<;>exact h) rfl (cg bR) (fun w=>fld_r (o':=1) Tyf37_1 rfl rfl) (hE 5) rfl (aO 13 rfl (n1 97 bR (l1 3 (.string Z) cf Tya9 (wt ⟨hE 5,tkPG (i:=14) (d:=97) (v:=.bool (!seq Z ⟨#[]⟩)) (L':=(lb 21 32767)) rfl (by kernel_rfl) (by kernel_rfl) (fun _ _ d _ _ h=>by cases d<;>exact h) rfl (cg bR) (fun w=>bsc_r (r:=(!seq Z ⟨#[]⟩)) rfl rfl rfl) (hE 5) rfl (tkPG (i:=15) (d:=93) (v:=.bool (!seq Z ⟨#[]⟩)) (L':=(lb 21 65535)) rfl (by kernel_rfl) (by kernel_rfl) (fun _ _ d _ _ h=>by cases d<;>exact h) rfl (cg av) (fun w=>pick_r (b:=true) (v:=.bool (!seq Z ⟨#[]⟩)) (cg bR) rfl) (hE 5) rfl (tkPG (i:=16) (d:=93) (v:=.bool (!seq Z ⟨#[]⟩)) (L':=(lb 21 131071)) rfl (by kernel_rfl) (by kernel_rfl) (fun _ _ d _ _ h=>by cases d<;>exact h) rfl (cg av) (fun w=>mv_r (v:=.bool (!seq Z ⟨#[]⟩)) rfl) (hE 5) rfl (cd h (fun b2 h=>?_) (fun b2 h=>?_))))⟩))))
           ·exact tkPG (i:=17) (d:=102) (v:=iI ar) (L':=(lb 21 262143)) rfl (by kernel_rfl) (by kernel_rfl) (fun _ _ d _ _ h=>by cases d<;>exact h) rfl (cg b2) (fun w=>mv_r (v:=iI ar) rfl) (hE 5) rfl (tkPG (i:=18) (d:=102) (v:=.bool (ar == 0)) (L':=(lb 21 524287)) rfl (by kernel_rfl) (by kernel_rfl) (fun _ _ d _ _ h=>by cases d<;>exact h) rfl (cg b2) (fun w=>bcm_r (r:=(ar == 0)) rfl rfl rfl) (hE 5) rfl (tkPG (i:=19) (d:=93) (v:=.bool (ar == 0)) (L':=(lb 21 1048575)) rfl (by kernel_rfl) (by kernel_rfl) (fun _ _ d _ _ h=>by cases d<;>exact h) rfl (cg av) (fun w=>pick_r (b:=true) (v:=.bool (ar == 0)) (cg b2) rfl) (hE 5) rfl (kH 20 (.bool (ar == 0)) rfl (fun w=>pick_r (b:=false) (v:=.bool (ar == 0)) (cg av) rfl) 5 (aD (thenN (⟨_,cV,(ar == 0),fR,((bp.sub.trans bQ).trans cw.sub),(cf.sel [0,3,1]),h⟩))))))
           ·exact tkO (i:=17) (d:=102) (L':=(lb 21 262143)) rfl rfl rfl (by kernel_rfl) (by kernel_rfl) (fun _ _ d _ _ h=>by cases d<;>exact h) rfl (.inl (cg b2)) (hE 5) rfl (tkO (i:=18) (d:=102) (L':=(lb 21 524287)) rfl rfl rfl (by kernel_rfl) (by kernel_rfl) (fun _ _ d _ _ h=>by cases d<;>exact h) rfl (.inl (cg b2)) (hE 5) rfl (tkPG (i:=19) (d:=93) (v:=vN) (L':=(lb 21 1048575)) rfl (by kernel_rfl) (by kernel_rfl) (fun _ _ d _ _ h=>by cases d<;>exact h) rfl (cg av) (fun w=>pick_r (b:=false) (v:=vN) (cg b2) rfl) (hE 5) rfl (kH 20 vN rfl (fun w=>pick_r (b:=false) (v:=vN) (cg av) rfl) 5 (aD (thenN (⟨_,cV,false,fR,((bp.sub.trans bQ).trans cw.sub),(cf.sel [0,3,1]),h⟩))))))
          ·exact tkO (i:=12) (d:=97) (L':=(lb 21 8191)) rfl rfl rfl (by kernel_rfl) (by kernel_rfl) (fun _ _ d _ _ h=>by cases d<;>exact h) rfl (.inl (cg bR)) (hE 5) rfl (tkO (i:=13) (d:=97) (L':=(lb 21 16383)) rfl rfl rfl (by kernel_rfl) (by kernel_rfl) (fun _ _ d _ _ h=>by cases d<;>exact h) rfl (.inl (cg bR)) (hE 5) rfl (tkO (i:=14) (d:=97) (L':=(lb 21 32767)) rfl rfl rfl (by kernel_rfl) (by kernel_rfl) (fun _ _ d _ _ h=>by cases d<;>exact h) rfl (.inl (cg bR)) (hE 5) rfl (tkPG (i:=15) (d:=93) (v:=vN) (L':=(lb 21 65535)) rfl (by kernel_rfl) (by kernel_rfl) (fun _ _ d _ _ h=>by cases d<;>exact h) rfl (cg av) (fun w=>pick_r (b:=false) (v:=vN) (cg bR) rfl) (hE 5) rfl (tkPG (i:=16) (d:=93) (v:=vN) (L':=(lb 21 131071)) rfl (by kernel_rfl) (by kernel_rfl) (fun _ _ d _ _ h=>by cases d<;>exact h) rfl (cg av) (fun w=>mv_r (v:=vN) rfl) (hE 5) rfl (tkO (i:=17) (d:=102) (L':=(lb 21 262143)) rfl rfl rfl (by kernel_rfl) (by kernel_rfl) (fun _ _ d _ _ h=>by cases d<;>exact h) rfl (.inl rfl) (hE 5) rfl (tkO (i:=18) (d:=102) (L':=(lb 21 524287)) rfl rfl rfl (by kernel_rfl) (by kernel_rfl) (fun _ _ d _ _ h=>by cases d<;>exact h) rfl (.inl rfl) (hE 5) rfl (tkPG (i:=19) (d:=93) (v:=vN) (L':=(lb 21 1048575)) rfl (by kernel_rfl) (by kernel_rfl) (fun _ _ d _ _ h=>by cases d<;>exact h) rfl (cg av) (fun w=>pick_r (b:=false) (v:=vN) rfl rfl) (hE 5) rfl (kH 20 vN rfl (fun w=>pick_r (b:=false) (v:=vN) (cg av) rfl) 5 (aD (thenN (⟨_,cV,false,fR,((bp.sub.trans bQ).trans cw.sub),(cf.sel [0,3,1]),h⟩)))))))))))
        ·rintro _ mG ⟨eS,bP,d0,rfl,bW,cx,h⟩;unfold f57_j9 at h;refine cd h (fun d1 h=>?_) (fun d1 h=>?_)
         ·refine cT d1 (sr (m2 vN (wt (wp_ret (thenR (blkR (thenR ?_)))))));have e_:=(Option.some.inj h).trans hr_;obtain ⟨hK,hL⟩:=Prod.mk.inj e_;obtain ⟨hM,hN,hO⟩:=Dchecker.mk.inj hK;have hP:=DProgram.mk.inj hM;subst hP;obtain ⟨hQ,hR,hS,hT,hU,hV⟩:=DFunc.mk.inj hN;subst hQ;subst hR;subst hS;subst hT;subst hU;subst hV;subst hO;subst hL;exact retA1 rfl (resT rfl) ⟨bP,z,B,N,O,S,U,m,s,Y,rfl,(cx.sel [0,2]),(mf bf bW),bm,(mp bn bW),(ms bo bW),(aG.mono (fun _ _ h=>h)),aK⟩
         ·refine cF d1 (wp_skip (thenN (wp_cut (fun a w=>∃ eX cW,a=fr 205 (updL eX [(0,pp g 0),(3,pp (zz wi) 0),(5,iI cW)])∧SR K bP wi w [.box bs g #[sl z y B,.string C,sl N D O,iI x,.bool G,iI I,sl S J U,sl m f s] 82,eW br m f s 3 1 Y] [.box bs g #[sl z y B,.string C,sl N D O,iI x,.bool G,iI I,sl S J U,sl m f s] 82,.box (zz wi) (zz wi) (aS t Z W ap ag aq ab V ac aj ad ak al ae am an af ao ah X ai) 37,eW br m f s 3 1 Y]∧f57_j10 k F y C D x G I J f t Z W V ad ae af X cW=some r_) ?_ ?_)))
          ·refine sr (fd 0 Tyf37_0 rfl (l1 1 (iI t) cx Tya3 (c0 (t == 4) (wt (cd h (fun d2 h=>?_) (fun d2 h=>?_))))))
           ·refine cT d2 (wp_seq (wp_cut (fun a w=>∃ eY d3,a=fr 205 (updL eY [(0,pp g 0),(3,pp (zz wi) 0),(115,.bool d3)])∧SR K bP wi w [.box bs g #[sl z y B,.string C,sl N D O,iI x,.bool G,iI I,sl S J U,sl m f s] 82,eW br m f s 3 1 Y] [.box bs g #[sl z y B,.string C,sl N D O,iI x,.bool G,iI I,sl S J U,sl m f s] 82,.box (zz wi) (zz wi) (aS t Z W ap ag aq ab V ac aj ad ak al ae am an af ao ah X ai) 37,eW br m f s 3 1 Y]∧f57_j11 k F y C D x G I J f t Z W V ad ae af X d3=some r_) ?_ ?_))
            ·refine wp_region_lit (m1 (iI ar) (c0 (ar != 1) (m1 (.bool (ar != 1)) (cd h (fun b3 h=>?_) (fun b3 h=>?_)))))
             ·exact n1 112 b3 (m1 (iI ar) (n1 112 b3 (c0 (ar != 0) (m3 true (.bool (ar != 0)) (cg b3) (wt (⟨_,(ar != 0),fR,cx,h⟩))))))
             ·exact o1 112 b3 (o1 112 b3 (m3 false vN (cg b3) (wt (⟨_,false,fR,cx,h⟩))))
            ·rintro _ mH ⟨eY,d3,rfl,eZ,h⟩;unfold f57_j11 at h;refine cd h (fun d4 h=>?_) (fun d4 h=>?_)
             ·refine cT d4 (sr (m2 vN (wt (wp_ret (thenR (thenR (blkR (thenR ?_))))))));have e_:=(Option.some.inj h).trans hr_;obtain ⟨hW,hX⟩:=Prod.mk.inj e_;obtain ⟨hY,hZ,h0⟩:=Dchecker.mk.inj hW;have h3:=DProgram.mk.inj hY;subst h3;obtain ⟨h4,h5,h6,h7,h8,h9⟩:=DFunc.mk.inj hZ;subst h4;subst h5;subst h6;subst h7;subst h8;subst h9;subst h0;subst hX;exact retA1 rfl (resT rfl) ⟨bP,z,B,N,O,S,U,m,s,Y,rfl,(eZ.sel [0,2]),(mf bf bW),bm,(mp bn bW),(ms bo bW),(aG.mono (fun _ _ h=>h)),aK⟩
             ·exact cF d4 (wp_skip (thenN (wp_region_lit (m2 (iI 5) (wt (⟨_,5,fR,eZ,h⟩))))))
           ·exact cF d2 (wp_skip (thenN (⟨_,ar,fR,cx,h⟩)))
          ·rintro _ mI ⟨eX,cW,rfl,d5,h⟩;unfold f57_j10 at h;refine sr (fd 0 Tyf37_0 rfl (l1 1 (iI t) d5 Tya3 (c0 (t == 28) (wt (cd h (fun d6 h=>?_) (fun d6 h=>?_))))))
           ·exact cT d6 (wp_region_lit (m2 (iI 1) (wpList_nil (blkN (thenN (⟨_,bP,1,fR,bW,d5,h⟩))))))
           ·exact cF d6 (wp_skip (blkN (thenN (⟨_,bP,cW,fR,bW,d5,h⟩))))
       ·refine cF dY (sr (c0 (t == 7) (m2 (.bool (t == 7)) (wt (cd h (fun d7 h=>?_) (fun d7 h=>?_))))))
        ·exact cT d7 (wp_region_lit (m2 (iI 4) (wpList_nil (blkN (thenN (⟨_,K,4,fR,kr,cu,h⟩))))))
        ·refine cF d7 (sr (c0 (t == 8) (m2 (.bool (t == 8)) (wt (cd h (fun d8 h=>?_) (fun d8 h=>?_))))))
         ·exact cT d8 (wp_region_lit (m2 (iI 6) (wpList_nil (blkN (thenN (⟨_,K,6,fR,kr,cu,h⟩))))))
         ·refine cF d8 (sr (c0 (t == 24) (m2 (.bool (t == 24)) (wt (cd h (fun d9 h=>?_) (fun d9 h=>?_))))))
          ·exact cT d9 (wp_region_lit (m2 (iI 3) (wpList_nil (blkN (thenN (⟨_,K,3,fR,kr,cu,h⟩))))))
          ·exact cF d9 (wp_skip (blkN (thenN (⟨_,K,1,fR,kr,cu,h⟩))))
 ·rintro _ mJ ⟨et,cr,aL,rfl,aw,ia,h⟩;unfold f57_j1 at h;refine wp_seq (wp_cut (fun a w=>∃ e0 b4 ch cy cz cA,a=fr 205 (updL e0 [(0,pp g 0),(3,pp (zz wi) 0),(5,iI aL),(7,sl cy ch cz),(8,.bool cA)])∧KH.sub cr b4∧SR K b4 wi w [.box bs g #[sl z y B,.string C,sl N D O,iI x,.bool G,iI I,sl S J U,sl m f s] 82,eW br m f s 3 1 Y] [.box bs g #[sl z y B,.string C,sl N D O,iI x,.bool G,iI I,sl S J U,sl m f s] 82,.box (zz wi) (zz wi) (aS t Z W ap ag aq ab V ac aj ad ak al ae am an af ao ah X ai) 37,eW br m f s 3 1 Y]∧RSl Int (RInt .i64) 1 8 b4 cy cz ch∧f57_j2 k F y C D x G I J f Z W V ad ae af X aL ch cA=some r_) ?_ ?_)
  ·have cB:=ia.drew;refine regAny (E:=[3]) (F:=FW cr [.box bs g #[sl z y B,.string C,sl N D O,iI x,.bool G,iI I,sl S J U,sl m f s] 82,.box (zz wi) (zz wi) (aS t Z W ap ag aq ab V ac aj ad ak al ae am an af ao ah X ai) 37,eW br m f s 3 1 Y]) (L:=(lb 9 0)) ymx rfl rfl (kF 1 0 rfl Tyf37_0 rfl (fq [0,1,2] cB) (tL 2 (iI t) [[3,2]] 1 rfl Tya3 (fq [0,1,2] cB) (aO 0 rfl ?_)));obtain ⟨ea,ib,h⟩:=ob h;refine cv ([]) Tyb85 ((f85_ok k) ib (hG.mono aw) (pt cB)) ?_;rintro _ mK ⟨cX,mL,mM,mN,rfl,cY,e1⟩;have ic:=ca cY cB;have cC:=ic.lowerm_ (i:=0) rfl cB.size;refine wb (fwOf (is:=[1,2,3]) cC cY.sub rfl) (fun _=>aO 3 rfl ?_);rcases cZ:mget qI t ea with _ | b5
   ·have h:=of_mcase_n cZ h;exact lkN (kv:=kI) (q:=qI) (R:=(VSl Int (RInt .i64) 1 8 cX)) (xs:=ea) (k:=t) (cC.entAt (i:=0) rfl).1 Tym132 (und_i64 Tyk3) keI Tyz48 e1 rfl rfl cZ (wt ⟨hE 3,kH 4 (.tuple #[nS,vN]) rfl (fun w=>mv_r (v:=.tuple #[nS,vN]) rfl) 3 (kH 5 nS rfl (fun w=>ext_r (v:=nS) rfl rfl) 3 (kH 6 vN rfl (fun w=>ext_r (v:=vN) rfl rfl) 3 (kH 7 nS rfl (fun w=>asg_r (v:=nS) rfl) 3 (kH 8 vN rfl (fun w=>asg_r (v:=vN) rfl) 3 (aD (thenN (⟨_,cX,[],none,0,false,fR,cY.sub,(cC.sel [1,2,3]),(RSl.nil _ _ _ _ _ _),h⟩)))))))⟩)
   ·have h:=of_mcase_s cZ h;refine lkS (kv:=kI) (q:=qI) (R:=(VSl Int (RInt .i64) 1 8 cX)) (xs:=ea) (k:=t) (cC.entAt (i:=0) rfl).1 Tym132 (und_i64 Tyk3) keI e1 rfl rfl cZ (fun mO id=>?_);obtain ⟨b6,b7,rfl,ie⟩:=id;exact wt ⟨hE 3,kH 4 (.tuple #[sl b6 b5 b7,vT]) rfl (fun w=>mv_r (v:=.tuple #[sl b6 b5 b7,vT]) rfl) 3 (kH 5 (sl b6 b5 b7) rfl (fun w=>ext_r (v:=sl b6 b5 b7) rfl rfl) 3 (kH 6 vT rfl (fun w=>ext_r (v:=vT) rfl rfl) 3 (kH 7 (sl b6 b5 b7) rfl (fun w=>asg_r (v:=sl b6 b5 b7) rfl) 3 (kH 8 vT rfl (fun w=>asg_r (v:=vT) rfl) 3 (aD (thenN (⟨_,cX,b5,b6,b7,true,fR,cY.sub,(cC.sel [1,2,3]),ie,h⟩)))))))⟩
  ·rintro _ ig ⟨e0,b4,ch,cy,cz,cA,rfl,ax,c2,ih,h⟩;unfold f57_j2 at h;refine wp_cut (fun a w=>∃ e2 bX ec,a=fr 205 (updL e2 [(0,pp g 0),(3,pp (zz wi) 0),(5,iI aL),(140,.bool ec)])∧KH.sub b4 bX∧SR K bX wi w [.box bs g #[sl z y B,.string C,sl N D O,iI x,.bool G,iI I,sl S J U,sl m f s] 82,eW br m f s 3 1 Y] [.box bs g #[sl z y B,.string C,sl N D O,iI x,.bool G,iI I,sl S J U,sl m f s] 82,.box (zz wi) (zz wi) (aS t Z W ap ag aq ab V ac aj ad ak al ae am an af ao ah X ai) 37,eW br m f s 3 1 Y]∧f57_j3 k F y C D x G I J f Z W ad ae af X aL ec=some r_) ?_ ?_
   ·refine wp_region_lit (m1 (.bool cA) (m1 (.bool cA) (cd h (fun aM h=>?_) (fun aM h=>?_))))
    ·refine n1 133 aM (m1 (pp g 0) (n1 133 aM (fd 6 Tyf37_6 rfl (n1 133 aM (l1 1 (sl ab V ac) c2 Tya31 (n1 133 aM (m1 (sl cy ch cz) (n1 133 aM ?_))))))));have e3:SR K b4 wi ig [.box bs g #[sl z y B,.string C,sl N D O,iI x,.bool G,iI I,sl S J U,sl m f s] 82,eW br m f s 3 1 Y] [.box bs g #[sl z y B,.string C,sl N D O,iI x,.bool G,iI I,sl S J U,sl m f s] 82,eW br m f s 3 1 Y,.box (zz wi) (zz wi) (aS t Z W ap ag aq ab V ac aj ad ak al ae am an af ao ah X ai) 37]:=c2.sel [0,2,1];obtain ⟨ed,ii,h⟩:=ob h;refine cv ([pp g 0,sl ab V ac,sl cy ch cz]) Tyb84 ((f84_ok k) ii (hG.mono (aw.trans ax)) (mf bf (aw.trans ax)) bm (mp bn (aw.trans ax)) (ms bo (aw.trans ax)) (aG.mono (fun _ _ h=>h)) aK (Nat.le_trans hbr c2.size) (me cc (aw.trans ax)) ih (pt e3)) ?_;rintro _ mP ⟨ij,rfl,e4⟩;have ik:=ca e4 e3;exact n1 133 aM (uN ed (m3 true (.bool (!ed)) (cg aM) (wt (⟨_,ij,(!ed),fR,e4.sub,(ik.sel [0,2,1]),h⟩))))
    ·exact o1 133 aM (o1 133 aM (o1 133 aM (o1 133 aM (o1 133 aM (o1 133 aM (m3 false vN (cg aM) (wt (⟨_,b4,false,fR,kr,c2,h⟩))))))))
   ·rintro _ mQ ⟨e2,bX,ec,rfl,aH,c4,h⟩;unfold f57_j3 at h;refine cd h (fun ee h=>?_) (fun ee h=>?_)
    ·refine cT ee (sr (m2 vN (wt (wp_ret (thenR ?_)))));have e_:=(Option.some.inj h).trans hr_;obtain ⟨il,im⟩:=Prod.mk.inj e_;obtain ⟨io,ip,iq⟩:=Dchecker.mk.inj il;have ir:=DProgram.mk.inj io;subst ir;obtain ⟨it,iu,iv,iw,ix,iy⟩:=DFunc.mk.inj ip;subst it;subst iu;subst iv;subst iw;subst ix;subst iy;subst iq;subst im;exact retA1 rfl (resT rfl) ⟨bX,z,B,N,O,S,U,m,s,Y,rfl,(c4.sel [0,2]),(mf bf ((aw.trans ax).trans aH)),bm,(mp bn ((aw.trans ax).trans aH)),(ms bo ((aw.trans ax).trans aH)),(aG.mono (fun _ _ h=>h)),aK⟩
    ·refine cF ee (wp_skip (thenN (wp_cut (fun a w=>∃ e5 bq ci cj cD,a=fr 205 (updL e5 [(0,pp g 0),(3,pp (zz wi) 0)])∧SR K bX wi w [.box bs g #[sl z y B,.string C,sl N D O,iI x,.bool G,iI I,sl S J U,sl m f s] 82,eW br m f s 3 1 Y] [.box bs g #[sl z y B,.string C,sl N D O,iI x,.bool G,iI I,sl S J U,sl ci bq cj] 82,.box (zz wi) (zz wi) (aS t Z W ap ag aq ab V ac aj ad ak al ae am an af ao ah X ai) 37,eW br ci bq cj 3 1 cD]∧Reps (RInt .i64) 1 bq cD∧bq.length * 8 ≤ mB∧f57_j4 k F y C D x G I J ad ae af X bq=some r_) ?_ ?_)))
     ·refine sr (fd 1 Tyf37_1 rfl (l1 1 (.string Z) c4 Tya9 (bsc (r:=(!seq Z ⟨#[]⟩)) rfl rfl rfl (wt (cd h (fun ef h=>?_) (fun ef h=>?_))))))
      ·refine cT ef (rA [8] [0,1,2] c4 (fun bA q5=>kM 0 (pp g 0) rfl q5 (kN 1 rfl rfl q5 (kF 2 7 rfl Tyf82_2 rfl q5 (tL 3 (sl m f s) [[8,3]] 0 rfl Tya48 q5 (kF 4 2 rfl Tyf37_2 rfl q5 (tL 5 (iI W) [[8,5]] 1 rfl Tya3 q5 (kM 6 (iI aL) rfl q5 ?_))))))));obtain ⟨iz,c5,h⟩:=ob h;obtain ⟨e6,mR,e7,mS,iA,mT⟩:=row_at (bA.entAt (i:=2) rfl) (aG.mono (fun _ _ h=>h)) (idxO_at c5).1;obtain rfl:=iA;refine kK 7 (pp e6 (0 + W.toNat * 1)) rfl (fun w=>idxG_r (b:=e6) (o:=0) (i:=W) Tye48 Tys3 rfl e7 rfl (idxO_at c5).2.1 (idxO_at c5).2.2) q5 (aO 8 rfl (stR (R:=(RInt .i64)) (i:=2) (off:=0) (p:=iz) (p':=aL) (v:=iI aL) bA rfl (aG.mono (fun _ _ h=>h)) (idxO_at c5).1 Tys3 e7 rfl rfl rfl rfl (by decide) (fun cs_ h_=>by cases h_; rfl) (fun e8 iB iC iD=>?_)));have iE:SR K bX wi iB [.box bs g #[sl z y B,.string C,sl N D O,iI x,.bool G,iI I,sl S J U,sl m f s] 82,eW br m f s 3 1 Y] [.box bs g #[sl z y B,.string C,sl N D O,iI x,.bool G,iI I,sl S J U,.slice m (f.set W.toNat aL).length s] 82,.box (zz wi) (zz wi) #[iI t,.string Z,iI W,.string ap,iI ag,iI aq,sl ab V ac,sl aj ad ak,sl al ae am,sl an af ao,sl ah X ai] 37,.row br (.slice m (f.set W.toNat aL).length s) 3 1 (f.set W.toNat aL).length e8]:=by simpa only [List.length_set,List.eraseIdx_zero,List.eraseIdx_cons_succ,List.tail_cons,List.set_cons_succ,List.set_cons_zero,List.nil_append,List.cons_append] using iC
       exact wt ⟨hE 8,aD (thenN (⟨_,(f.set W.toNat aL),m,s,e8,fR,iE,iD,(set_bound aK),h⟩))⟩
      ·exact cF ef (wp_skip (thenN (⟨_,f,m,s,Y,fR,c4,(aG.mono (fun _ _ h=>h)),aK,h⟩)))
     ·rintro _ aI ⟨e5,bq,ci,cj,cD,rfl,iF,iG,iH,h⟩;unfold f57_j4 at h;refine sr (mkm iF (fun iJ iK=>(bsl (e:=3) (cells:=#[iI 4]) (vs:=[(0,iI 4)]) iK rfl (buildSl_one Tye48 Tys3 Tyz3 rfl (by decide) (by decide) rfl) (fun mU iL=>?_))));obtain ⟨iM,iN,aN,iO⟩:=frzI (i:=0) (bytes:=8) (xs:=[4]) (R:=fun K=>(RInt .i64)) iL rfl (Nat.le_refl _) ⟨[iI 4],_,rfl,rfl,rfl,(reps0 (R:=(RInt .i64)) (size:=1))⟩ rfl (Nat.le_of_ble_eq_true rfl) (fun hs=>(fun _ _ h=>h));refine mup_ (kv:=kI) (q:=qI) (R:=(VSl Int (RInt .i64) 1 8 iM)) (xs:=([]:List (Int × (List Int)))) (k:=1) (u:=[4]) (uv:=.slice (some ⟨(zz iJ),0,none⟩) [4].length 1) (i:=0) (.inl rfl) iN rfl Tym132 (und_i64 Tyk3) keI (MapR.mono (fun _ _ h=>by obtain ⟨A,c,h1,h2⟩:=h; exact ⟨A,c,h1,h2.mono aN (fun _ _ h=>h)⟩) (mapr0 (kv:=kI) (R:=(VSl Int (RInt .i64) 1 8 bX)))) rfl rfl rfl ⟨_,_,rfl,iO⟩ (fun mV mW iP iQ iR=>(bsl (e:=3) (cells:=#[iI 4,iI 1]) (vs:=[(0,iI 4),(1,iI 1)]) iQ rfl (fun w=>by kernel_rfl) (fun mX iS=>?_)));obtain ⟨iT,iU,aP,iV⟩:=frzI (i:=0) (bytes:=8) (xs:=[4,1]) (R:=fun K=>(RInt .i64)) iS rfl (Nat.le_refl _) ⟨[iI 4],_,rfl,rfl,rfl,⟨[iI 1],_,rfl,rfl,rfl,(reps0 (R:=(RInt .i64)) (size:=1))⟩⟩ rfl (Nat.le_of_ble_eq_true rfl) (fun hs=>(fun _ _ h=>h));refine mup_ (kv:=kI) (q:=qI) (R:=(VSl Int (RInt .i64) 1 8 iT)) (k:=2) (u:=[4,1]) (uv:=.slice (some ⟨(zz iP),0,none⟩) [4,1].length 2) (i:=0) (.inl rfl) iU rfl Tym132 (und_i64 Tyk3) keI (MapR.mono (fun _ _ h=>by obtain ⟨A,c,h1,h2⟩:=h; exact ⟨A,c,h1,h2.mono aP (fun _ _ h=>h)⟩) iR) rfl rfl rfl ⟨_,_,rfl,iV⟩ (fun mY mZ iW iX iY=>(bsl (e:=3) (cells:=#[iI 1]) (vs:=[(0,iI 1)]) iX rfl (buildSl_one Tye48 Tys3 Tyz3 rfl (by decide) (by decide) rfl) (fun m0 iZ=>?_)));obtain ⟨c7,i0,aQ,i1⟩:=frzI (i:=0) (bytes:=8) (xs:=[1]) (R:=fun K=>(RInt .i64)) iZ rfl (Nat.le_refl _) ⟨[iI 1],_,rfl,rfl,rfl,(reps0 (R:=(RInt .i64)) (size:=1))⟩ rfl (Nat.le_of_ble_eq_true rfl) (fun hs=>(fun _ _ h=>h));refine mup_ (kv:=kI) (q:=qI) (R:=(VSl Int (RInt .i64) 1 8 c7)) (k:=3) (u:=[1]) (uv:=.slice (some ⟨(zz iW),0,none⟩) [1].length 1) (i:=0) (.inl rfl) i0 rfl Tym132 (und_i64 Tyk3) keI (MapR.mono (fun _ _ h=>by obtain ⟨A,c,h1,h2⟩:=h; exact ⟨A,c,h1,h2.mono aQ (fun _ _ h=>h)⟩) iY) rfl rfl rfl ⟨_,_,rfl,i1⟩ (fun bB bC i2 i3 e9=>?_);have fa:=i3;refine m1 (.map (some (zz aI))) (m2 (.map (some (zz aI))) (wt (wp_seq (sr (fd 10 Tyf37_10 rfl (l1 2 (sl ah X ai) fa Tya35 (lS X.length Tye35 (m1 (iI 0) (wt (wp_block (wp_loopG (fun g_ a w=>∃ fb aJ bS,∃ (bi:Nat),∃ aT a0 a2 aU aV a3 a4 a5 a6 a7 aW a8 a9 au az aA bu,g_=bS.length∧a=fr 205 (updL fb [(0,pp g 0),(3,pp (zz wi) 0),(9,.map (some (zz aI))),(158,sl ah X ai),(159,iI (X.length:Int)),(160,iI (bi:Int))])∧KH.sub c7 aJ∧SR K aJ wi w [.box bs g #[sl z y B,.string C,sl N D O,iI x,.bool G,iI I,sl S J U,sl m f s] 82,eW br m f s 3 1 Y] [.box bs g #[sl a0 aT a2,.string aU,sl a3 aV a4,iI a5,.bool a6,iI a7,sl a8 aW a9,sl az au aA] 82,.box (zz wi) (zz wi) (aS t Z W ap ag aq ab V ac aj ad ak al ae am an af ao ah X ai) 37,.mp (zz wi) (zz aI) bB bC,eW br az au aA 3 1 bu]∧X.drop bi=bS∧tF aJ a0 a2 aT∧aU.size ≤ mB∧tP aJ a3 a4 aV∧tS aJ a8 a9 aW∧Reps (RInt .i64) 1 au bu∧au.length * 8 ≤ mB∧f57_l1 k F ad ae af bS bi aT aU aV a5 a6 a7 aW au=some r_) X.length ?_ ?_)))))))))))
      ·exact ⟨_,c7,X,0,y,z,B,C,D,N,O,x,G,I,J,S,U,bq,ci,cj,cD,rfl,fR,kr,(fa.sel [1,2,0,3]),List.drop_zero,(mf bf (((((aw.trans ax).trans aH).trans aN).trans aP).trans aQ)),bm,(mp bn (((((aw.trans ax).trans aH).trans aN).trans aP).trans aQ)),(ms bo (((((aw.trans ax).trans aH).trans aN).trans aP).trans aQ)),(iG.mono (fun _ _ h=>h)),iH,h⟩
      ·rintro _ _ bv ⟨fb,aJ,bS,bi,aT,a0,a2,aU,aV,a3,a4,a5,a6,a7,aW,a8,a9,au,az,aA,bu,rfl,rfl,aX,cG,ck,cl,cm,cn,co,bY,b8,h⟩;rcases bS with _ | ⟨⟨aY,ba,aB,bb,aZ⟩,bS⟩
       ·unfold f57_l1 at h;refine sr (bcm (r:=false) rfl rfl (congrArg some (drop_nil_lt ck)) (wt (wp_seq (cndF rfl (wp_exit (thenX (thenX (blkX (thenN (wp_cut (fun a w=>∃ fc bD eg c8 da db dc dd de df eh ei ej dg dh di b9 dj dk dl,a=fr 205 (updL fc [(4,.bool eg)])∧KH.sub aJ bD∧SR K bD wi w [.box bs g #[sl z y B,.string C,sl N D O,iI x,.bool G,iI I,sl S J U,sl m f s] 82,eW br m f s 3 1 Y] [.box bs g #[sl da c8 db,.string dc,sl de dd df,iI eh,.bool ei,iI ej,sl dh dg di,sl dj b9 dk] 82,eW br dj b9 dk 3 1 dl]∧tF bD da db c8∧dc.size ≤ mB∧tP bD de df dd∧tS bD dh di dg∧Reps (RInt .i64) 1 b9 dl∧b9.length * 8 ≤ mB∧f57_j5 k F eg c8 dc dd eh ei ej dg b9=some r_) ?_ ?_))))))))))
        ·refine wp_region_lit (m1 (pp g 0) (fd 7 Tyf37_7 rfl (l1 1 (sl aj ad ak) cG Tya34 ?_)));have fe:SR K aJ wi bv [.box bs g #[sl z y B,.string C,sl N D O,iI x,.bool G,iI I,sl S J U,sl m f s] 82,eW br m f s 3 1 Y] [.box bs g #[sl a0 aT a2,.string aU,sl a3 aV a4,iI a5,.bool a6,iI a7,sl a8 aW a9,sl az au aA] 82,eW br az au aA 3 1 bu,.box (zz wi) (zz wi) (aS t Z W ap ag aq ab V ac aj ad ak al ae am an af ao ah X ai) 37,.mp (zz wi) (zz aI) bB bC]:=cG.sel [0,3,1,2];obtain ⟨⟨⟨⟨i4⟩,⟨i5,i6,i7,i8,i9,ja⟩,jb⟩,jc⟩,jd,h⟩:=ob h;refine cv ([pp g 0,sl aj ad ak]) Tyb36 (IH36 jd (hG.mono ((((((aw.trans ax).trans aH).trans aN).trans aP).trans aQ).trans aX)) cl cm cn co bY b8 (Nat.le_trans hbr cG.size) (ms ga ((((((aw.trans ax).trans aH).trans aN).trans aP).trans aQ).trans aX)) (pt fe)) ?_;rintro _ m4 ⟨je,jf,jg,jh,ji,jj,jk,jl,jm,jn,rfl,bZ,ff,fg,fh,fi,fj,fk⟩;have cH:=ca bZ fe;refine m1 (.bool jc) (cd h (fun bw h=>?_) (fun bw h=>?_))
         ·refine n1 193 bw (m1 (pp g 0) (n1 193 bw (fd 8 Tyf37_8 rfl (n1 193 bw (l1 2 (sl al ae am) cH Tya34 (n1 193 bw ?_))))));obtain ⟨⟨⟨⟨jo⟩,⟨jp,jq,jr,js,jt,ju⟩,jv⟩,fl⟩,jw,h⟩:=ob h;refine cv ([pp g 0,sl al ae am]) Tyb36 (IH36 jw (hG.mono (((((((aw.trans ax).trans aH).trans aN).trans aP).trans aQ).trans aX).trans bZ.sub)) ff fg fh fi fj fk (Nat.le_trans hbr cH.size) (ms gb (((((((aw.trans ax).trans aH).trans aN).trans aP).trans aQ).trans aX).trans bZ.sub)) (pt cH)) ?_;rintro _ m5 ⟨jx,jy,jz,jA,jB,jC,jD,jE,jF,jG,rfl,cI,fm,fn,fo,fp,fs,ft⟩;have cJ:=ca cI cH;refine m3 true (.bool fl) (cg bw) (m1 (.bool fl) (cd h (fun bx h=>?_) (fun bx h=>?_)))
          ·refine n1 199 bx (m1 (pp g 0) (n1 199 bx (fd 9 Tyf37_9 rfl (n1 199 bx (l1 2 (sl an af ao) cJ Tya34 (n1 199 bx ?_))))));obtain ⟨⟨⟨⟨jH⟩,⟨jI,jJ,jK,jL,jM,jN⟩,jO⟩,ek⟩,jP,h⟩:=ob h;refine cv ([pp g 0,sl an af ao]) Tyb36 (IH36 jP (hG.mono ((((((((aw.trans ax).trans aH).trans aN).trans aP).trans aQ).trans aX).trans bZ.sub).trans cI.sub)) fm fn fo fp fs ft (Nat.le_trans hbr cJ.size) (ms gc ((((((((aw.trans ax).trans aH).trans aN).trans aP).trans aQ).trans aX).trans bZ.sub).trans cI.sub)) (pt cJ)) ?_;rintro _ m6 ⟨jQ,jR,jS,jT,jU,jV,jW,jX,jY,jZ,rfl,fu,j0,j1,j2,j3,j4,j5⟩;have j6:=ca fu cJ;exact m3 true (.bool ek) (cg bx) (m2 (.bool ek) (wt (⟨_,jQ,ek,jH,jR,jS,jI,jJ,jT,jU,jK,jL,jM,jN,jV,jW,jO,jX,jY,jZ,fR,((bZ.sub.trans cI.sub).trans fu.sub),(j6.sel [0,1]),j0,j1,j2,j3,j4,j5,h⟩)))
          ·exact o1 199 bx (o1 199 bx (o1 199 bx (o1 199 bx (m3 false vN (cg bx) (m2 vN (wt (⟨_,jx,false,jo,jy,jz,jp,jq,jA,jB,jr,js,jt,ju,jC,jD,jv,jE,jF,jG,fR,(bZ.sub.trans cI.sub),(cJ.sel [0,1]),fm,fn,fo,fp,fs,ft,h⟩)))))))
         ·exact o1 193 bw (o1 193 bw (o1 193 bw (o1 193 bw (m3 false vN (cg bw) (m1 vN (o0 199 (o0 199 (o0 199 (o0 199 (m3 false vN rfl (m2 vN (wt (⟨_,je,false,i4,jf,jg,i5,i6,jh,ji,i7,i8,i9,ja,jj,jk,jb,jl,jm,jn,fR,bZ.sub,(cH.sel [0,1]),ff,fg,fh,fi,fj,fk,h⟩)))))))))))))
        ·rintro _ m7 ⟨fc,bD,eg,c8,da,db,dc,dd,de,df,eh,ei,ej,dg,dh,di,b9,dj,dk,dl,rfl,m8,j7,j8,j9,ka,kb,kc,kd,h⟩;unfold f57_j5 at h;refine wp_ret ?_;have e_:=(Option.some.inj h).trans hr_;obtain ⟨ke,kf⟩:=Prod.mk.inj e_;obtain ⟨kg,kh,ki⟩:=Dchecker.mk.inj ke;have kj:=DProgram.mk.inj kg;subst kj;obtain ⟨kk,kl,km,kn,ko,kp⟩:=DFunc.mk.inj kh;subst kk;subst kl;subst km;subst kn;subst ko;subst kp;subst ki;subst kf;exact retA1 rfl (resT rfl) ⟨bD,da,db,de,df,dh,di,dj,dk,dl,rfl,j7,j8,j9,ka,kb,kc,kd⟩
       ·unfold f57_l1 at h;refine sr (bcm (r:=true) rfl rfl (congrArg some (drop_cons_t ck)) (wt (wp_seq (cndT rfl (wp_skip (thenN (wp_seq (wp_block (sr ?_)))))))));obtain ⟨kq,ks,m9,kt,na,ku,kw⟩:=((mc es ((((((aw.trans ax).trans aH).trans aN).trans aP).trans aQ).trans aX))).row.at_ (drop_cons_at ck);obtain ⟨bd,be,bj,bk,rfl,nb,fv,kx⟩:=RDCase.open kw;refine idxN (b:=kq) (o:=ks) (i:=bi) Tye35 Tys74 rfl kt rfl (drop_cons_lt ck) (lD (vC aY ba aB bd bb be bj aZ bk) Tya74 Tys74 rfl (fun j v hj=>cG.cell (kr.cell (ku j v hj))) (aC zC.toArray cG Tyz74 (fun nc ky=>(sI 0 (.agg (aC' aY ba aB bd bb be bj aZ bk)) ((aC' aY ba aB bd bb be bj aZ bk)) ky Tys74 rfl rfl (fun fx b0=>(wt (wp_cut (fun a w=>∃ fy cb,a=fr 205 (updL fy [(0,pp g 0),(3,pp (zz wi) 0),(9,.map (some (zz aI))),(11,pp (zz bv) 0),(158,sl ah X ai),(159,iI (X.length:Int)),(160,iI (bi:Int))])∧KH.sub aJ cb∧SR K cb wi w [.box bs g #[sl z y B,.string C,sl N D O,iI x,.bool G,iI I,sl S J U,sl m f s] 82,eW br m f s 3 1 Y] [.box bs g #[sl a0 aT a2,.string aU,sl a3 aV a4,iI a5,.bool a6,iI a7,sl a8 aW a9,sl az au aA] 82,.box (zz wi) (zz wi) (aS t Z W ap ag aq ab V ac aj ad ak al ae am an af ao ah X ai) 37,.box (zz wi) (zz bv) (aC' aY ba aB bd bb be bj aZ bk) 74,.mp (zz wi) (zz aI) bB bC,eW br az au aA 3 1 bu]∧f57_j6 k F aT aU aV a5 a6 a7 aW au bi ba aB aZ (f57_l1 k F ad ae af bS)=some r_) ?_ ?_)))))))
        ·refine sr (m1 (pp g 0) (fd 3 Tyf74_3 rfl (l1 0 (sl bd bb be) b0 Tya31 (m1 (.map (some (zz aI))) (fd 0 Tyf74_0 rfl (l1 0 (iI aY) b0 Tya3 ?_))))));rcases dm:mget qI aY (mput qI 3 [1] (mput qI 2 [4,1] (mput qI 1 [4] ([]:List (Int × (List Int)))))) with _ | kz
         ·have h:=of_mcase_n dm h;refine lk1N (kv:=kI) (q:=qI) (R:=(VSl Int (RInt .i64) 1 8 aJ)) (xs:=(mput qI 3 [1] (mput qI 2 [4,1] (mput qI 1 [4] ([]:List (Int × (List Int))))))) (k:=aY) (b0.entAt (i:=3) rfl).1 Tym132 (und_i64 Tyk3) keI Tyz48 (MapR.mono (fun _ _ h=>by obtain ⟨A,c,h1,h2⟩:=h; exact ⟨A,c,h1,h2.mono aX (fun _ _ h=>h)⟩) e9) rfl rfl dm ?_;have fz:SR K aJ wi fx [.box bs g #[sl z y B,.string C,sl N D O,iI x,.bool G,iI I,sl S J U,sl m f s] 82,eW br m f s 3 1 Y] [.box bs g #[sl a0 aT a2,.string aU,sl a3 aV a4,iI a5,.bool a6,iI a7,sl a8 aW a9,sl az au aA] 82,eW br az au aA 3 1 bu,.box (zz wi) (zz bv) (aC' aY ba aB bd bb be bj aZ bk) 74,.box (zz wi) (zz wi) (aS t Z W ap ag aq ab V ac aj ad ak al ae am an af ao ah X ai) 37,.mp (zz wi) (zz aI) bB bC]:=b0.sel [1,4,0,2,3];obtain ⟨kB,kD,h⟩:=ob h;refine cv ([pp g 0,sl bd bb be,.slice none ([]:List Int).length 0]) Tyb84 ((f84_ok k) kD (hG.mono ((((((aw.trans ax).trans aH).trans aN).trans aP).trans aQ).trans aX)) cl cm cn co bY b8 (Nat.le_trans hbr b0.size) fv (RSl.nil _ _ _ _ _ _) (pt fz)) ?_;rintro _ nd ⟨fA,rfl,cK⟩;have fB:=ca cK fz;refine uN kB (wt (cd h (fun el h=>?_) (fun el h=>?_)))
          ·refine cT el (sr (m2 vN (wt (wp_ret (thenR (blkR (thenR (thenR (blkR (thenR ?_))))))))));have e_:=(Option.some.inj h).trans hr_;obtain ⟨kJ,kO⟩:=Prod.mk.inj e_;obtain ⟨kP,kQ,kR⟩:=Dchecker.mk.inj kJ;have kT:=DProgram.mk.inj kP;subst kT;obtain ⟨kU,kV,kW,kX,kY,kZ⟩:=DFunc.mk.inj kQ;subst kU;subst kV;subst kW;subst kX;subst kY;subst kZ;subst kR;subst kO;exact retA1 rfl (resT rfl) ⟨fA,a0,a2,a3,a4,a8,a9,az,aA,bu,rfl,(fB.sel [0,1]),(mf cl cK.sub),cm,(mp cn cK.sub),(ms co cK.sub),(bY.mono (fun _ _ h=>h)),b8⟩
          ·exact cF el (wp_skip (thenN (⟨_,fA,fR,cK.sub,(fB.sel [0,3,2,4,1]),h⟩)))
         ·have h:=of_mcase_s dm h;refine lk1S (kv:=kI) (q:=qI) (R:=(VSl Int (RInt .i64) 1 8 aJ)) (xs:=(mput qI 3 [1] (mput qI 2 [4,1] (mput qI 1 [4] ([]:List (Int × (List Int))))))) (k:=aY) (b0.entAt (i:=3) rfl).1 Tym132 (und_i64 Tyk3) keI (MapR.mono (fun _ _ h=>by obtain ⟨A,c,h1,h2⟩:=h; exact ⟨A,c,h1,h2.mono aX (fun _ _ h=>h)⟩) e9) rfl rfl dm (fun ne k0=>?_);obtain ⟨k1,k2,rfl,k3⟩:=k0;have fC:SR K aJ wi fx [.box bs g #[sl z y B,.string C,sl N D O,iI x,.bool G,iI I,sl S J U,sl m f s] 82,eW br m f s 3 1 Y] [.box bs g #[sl a0 aT a2,.string aU,sl a3 aV a4,iI a5,.bool a6,iI a7,sl a8 aW a9,sl az au aA] 82,eW br az au aA 3 1 bu,.box (zz wi) (zz bv) (aC' aY ba aB bd bb be bj aZ bk) 74,.box (zz wi) (zz wi) (aS t Z W ap ag aq ab V ac aj ad ak al ae am an af ao ah X ai) 37,.mp (zz wi) (zz aI) bB bC]:=b0.sel [1,4,0,2,3];obtain ⟨k4,k5,h⟩:=ob h;refine cv ([pp g 0,sl bd bb be,sl k1 kz k2]) Tyb84 ((f84_ok k) k5 (hG.mono ((((((aw.trans ax).trans aH).trans aN).trans aP).trans aQ).trans aX)) cl cm cn co bY b8 (Nat.le_trans hbr b0.size) fv k3 (pt fC)) ?_;rintro _ nf ⟨fD,rfl,cL⟩;have fE:=ca cL fC;refine uN k4 (wt (cd h (fun em h=>?_) (fun em h=>?_)))
          ·refine cT em (sr (m2 vN (wt (wp_ret (thenR (blkR (thenR (thenR (blkR (thenR ?_))))))))));have e_:=(Option.some.inj h).trans hr_;obtain ⟨k6,k7⟩:=Prod.mk.inj e_;obtain ⟨k8,k9,la⟩:=Dchecker.mk.inj k6;have lc:=DProgram.mk.inj k8;subst lc;obtain ⟨ld,lf,lg,lh,li,lj⟩:=DFunc.mk.inj k9;subst ld;subst lf;subst lg;subst lh;subst li;subst lj;subst la;subst k7;exact retA1 rfl (resT rfl) ⟨fD,a0,a2,a3,a4,a8,a9,az,aA,bu,rfl,(fE.sel [0,1]),(mf cl cL.sub),cm,(mp cn cL.sub),(ms co cL.sub),(bY.mono (fun _ _ h=>h)),b8⟩
          ·exact cF em (wp_skip (thenN (⟨_,fD,fR,cL.sub,(fE.sel [0,3,2,4,1]),h⟩)))
        ·rintro _ ng ⟨fy,cb,rfl,cq,en,h⟩;unfold f57_j6 at h;refine wp_cut (fun a w=>∃ fF bE cM cN dn,a=fr 205 (updL fF [(0,pp g 0),(3,pp (zz wi) 0),(9,.map (some (zz aI))),(11,pp (zz bv) 0),(158,sl ah X ai),(159,iI (X.length:Int)),(160,iI (bi:Int))])∧SR K cb wi w [.box bs g #[sl z y B,.string C,sl N D O,iI x,.bool G,iI I,sl S J U,sl m f s] 82,eW br m f s 3 1 Y] [.box bs g #[sl a0 aT a2,.string aU,sl a3 aV a4,iI a5,.bool a6,iI a7,sl a8 aW a9,sl cM bE cN] 82,.box (zz wi) (zz wi) (aS t Z W ap ag aq ab V ac aj ad ak al ae am an af ao ah X ai) 37,.box (zz wi) (zz bv) (aC' aY ba aB bd bb be bj aZ bk) 74,.mp (zz wi) (zz aI) bB bC,eW br cM bE cN 3 1 dn]∧Reps (RInt .i64) 1 bE dn∧bE.length * 8 ≤ mB∧f57_j7 k F aT aU aV a5 a6 a7 aW bi aZ bE (f57_l1 k F ad ae af bS)=some r_) ?_ ?_
         ·refine sr (fd 1 Tyf74_1 rfl (l1 2 (.string ba) en Tya9 (bsc (r:=(!seq ba ⟨#[]⟩)) rfl rfl rfl (wt (cd h (fun eo h=>?_) (fun eo h=>?_))))))
          ·refine cT eo (rA [7] [0,1,2,3,4] en (fun bT q6=>kM 0 (pp g 0) rfl q6 (kN 1 rfl rfl q6 (kF 2 7 rfl Tyf82_2 rfl q6 (tL 3 (sl az au aA) [[7,3]] 0 rfl Tya48 q6 (kF 4 2 rfl Tyf74_2 rfl q6 (tL 5 (iI aB) [[7,5]] 2 rfl Tya3 q6 ?_)))))));obtain ⟨lk,dp,h⟩:=ob h;obtain ⟨fG,nh,fH,ni,ll,nj⟩:=row_at (bT.entAt (i:=4) rfl) (bY.mono (fun _ _ h=>h)) (idxO_at dp).1;obtain rfl:=ll;refine kK 6 (pp fG (0 + aB.toNat * 1)) rfl (fun w=>idxG_r (b:=fG) (o:=0) (i:=aB) Tye48 Tys3 rfl fH rfl (idxO_at dp).2.1 (idxO_at dp).2.2) q6 (aO 7 rfl (stR (R:=(RInt .i64)) (i:=4) (off:=0) (p:=lk) (p':=1) (v:=iI 1) bT rfl (bY.mono (fun _ _ h=>h)) (idxO_at dp).1 Tys3 fH rfl rfl rfl rfl (by decide) (fun cs_ h_=>by cases h_; rfl) (fun fI lm ln lo=>?_)));have lp:SR K cb wi lm [.box bs g #[sl z y B,.string C,sl N D O,iI x,.bool G,iI I,sl S J U,sl m f s] 82,eW br m f s 3 1 Y] [.box bs g #[sl a0 aT a2,.string aU,sl a3 aV a4,iI a5,.bool a6,iI a7,sl a8 aW a9,.slice az (au.set aB.toNat 1).length aA] 82,.box (zz wi) (zz wi) #[iI t,.string Z,iI W,.string ap,iI ag,iI aq,sl ab V ac,sl aj ad ak,sl al ae am,sl an af ao,sl ah X ai] 37,.box (zz wi) (zz bv) #[iI aY,.string ba,iI aB,sl bd bb be,sl bj aZ bk] 74,.mp (zz wi) (zz aI) bB bC,.row br (.slice az (au.set aB.toNat 1).length aA) 3 1 (au.set aB.toNat 1).length fI]:=by simpa only [List.length_set,List.eraseIdx_zero,List.eraseIdx_cons_succ,List.tail_cons,List.set_cons_succ,List.set_cons_zero,List.nil_append,List.cons_append] using ln
           exact wt ⟨hE 7,aD (thenN (⟨_,(au.set aB.toNat 1),az,aA,fI,fR,lp,lo,(set_bound b8),h⟩))⟩
          ·exact cF eo (wp_skip (thenN (⟨_,au,az,aA,bu,fR,en,(bY.mono (fun _ _ h=>h)),b8,h⟩)))
         ·rintro _ lq ⟨fF,bE,cM,cN,dn,rfl,ep,lr,ls,h⟩;unfold f57_j7 at h;refine sr (m1 (pp g 0) (fd 4 Tyf74_4 rfl (l1 2 (sl bj aZ bk) ep Tya34 ?_)));have fJ:=p04123 ep;obtain ⟨⟨⟨⟨lu⟩,⟨lv,lw,lx,ly,lz,lA⟩,lB⟩,lC⟩,lE,h⟩:=ob h;refine cv ([pp g 0,sl bj aZ bk]) Tyb36 (IH36 lE (hG.mono (((((((aw.trans ax).trans aH).trans aN).trans aP).trans aQ).trans aX).trans cq)) (mf cl cq) cm (mp cn cq) (ms co cq) lr ls (Nat.le_trans hbr ep.size) (ms kx cq) (pt fJ)) ?_;rintro _ nk ⟨fK,fL,fM,fN,fO,fP,fQ,fS,fT,fU,rfl,fV,fW,fX,fY,fZ,f0,f1⟩;have f2:=ca fV fJ;refine uN lC (wt (cd h (fun eq h=>?_) (fun eq h=>?_)))
          ·refine cT eq (sr (m2 vN (wt (wp_ret (blkR (thenR (thenR (blkR (thenR ?_)))))))));have e_:=(Option.some.inj h).trans hr_;obtain ⟨lF,lG⟩:=Prod.mk.inj e_;obtain ⟨lH,lI,lJ⟩:=Dchecker.mk.inj lF;have lK:=DProgram.mk.inj lH;subst lK;obtain ⟨lL,lM,lO,lP,lQ,lR⟩:=DFunc.mk.inj lI;subst lL;subst lM;subst lO;subst lP;subst lQ;subst lR;subst lJ;subst lG;exact retA1 rfl (resT rfl) ⟨fK,fL,fM,fN,fO,fP,fQ,fS,fT,fU,rfl,(f2.sel [0,1]),fW,fX,fY,fZ,f0,f1⟩
          ·exact cF eq (wp_skip (blkN (thenN (wp_region_lit (bar (r:=((bi + 1:Nat):Int)) rfl rfl (inc_ok (le_big (((mc es ((((((aw.trans ax).trans aH).trans aN).trans aP).trans aQ).trans aX))).len) (by decide) (drop_cons_lt ck))) (m1 (iI ((bi + 1:Nat):Int)) (wt (⟨_,Nat.lt_succ_self _,_,fK,bS,bi + 1,lu,fL,fM,lv,lw,fN,fO,lx,ly,lz,lA,fP,fQ,lB,fS,fT,fU,rfl,fR,((aX.trans cq).trans fV.sub),(f2.sel [0,2,4,1]),drop_cons_next ck,fW,fX,fY,fZ,f0,f1,h⟩))))))))
theorem fam36_ok (k0:Nat) : ∀ k,f36_spec (fam36 k0 k).f36∧f57_spec (fam36 k0 k).f57:=by
 intro k;induction k with
 | zero=>exact ⟨(by unfold f36_spec; intro _ _ _ _ _ _ _ _ _ _ _ _ _ _ _ _ _ _ _ _ _ _ _ _ _ _ _ _ _ _ _ _ _ _ h_; cases h_),(by unfold f57_spec; intro _ _ _ _ _ _ _ _ _ _ _ _ _ _ _ _ _ _ _ _ _ _ _ _ _ _ _ _ _ _ _ _ _ h_; cases h_)⟩
 | succ k ih=>exact ⟨f36_b_ok k0 (fam36 k0 k) ih.1 ih.2,f57_b_ok k0 (fam36 k0 k) ih.1 ih.2⟩
theorem f36_ok (k:Nat):f36_spec (f36 k):=(fam36_ok k k).1
theorem f57_ok (k:Nat):f57_spec (f57 k):=(fam36_ok k k).2
theorem f21_b_ok (k:Nat):f21_spec (f21_b k):=by
 unfold f21_spec;intro K wi cS d3 d4 d5 d6 h hG cU cV;obtain ⟨r_,hr_,h⟩:=rz h;obtain ⟨bf⟩:=cS;obtain ⟨bg,c1,rfl,cW⟩:=RDProgram.open cU;refine enter Tryz.func21 rfl (n:=82) rfl ?_;unfold f21_b at h;refine sr (bxoC (cs:=#[sl bg bf c1]) cV rfl rfl (fun ah cX=>(aC #[nS] cX Tyz24 (fun d7 b0=>(m2 nS (m2 (iI 0) (wt (wp_scope_straight (sr (lN 1 ([sl bg bf c1]) b0 Tya24 Tys24 ?_))))))))));obtain ⟨⟨⟨aJ⟩,aK⟩,cY,h⟩:=ob h;refine cv ([.agg #[sl bg bf c1]]) Tyb34 ((f34_ok k) cY (hG.mono kr) (RDProgram.intro cW) (pt b0)) ?_;rintro _ cZ ⟨c2,d8,rfl,aw,c3⟩;have c4:=ca aw b0;obtain ⟨aL,aM,rfl,c5⟩:=RDProgram.open c3;refine m1 (.tuple #[.agg #[sl aL aJ aM],iI aK]) (ext (v:=.agg #[sl aL aJ aM]) rfl rfl (ext (v:=iI aK) rfl rfl (aC #[nS] c4 Tyz24 (fun d9 c6=>(sI 0 (.agg #[sl aL aJ aM]) #[sl aL aJ aM] c6 Tys24 rfl rfl (fun ea bh=>(m2 (iI aK) (wt (wp_seq (sr (m1 (iI aK) (c0 (aK != 0) (wt (cd h (fun b1 h=>?_) (fun b1 h=>?_)))))))))))))))
 ·refine cT b1 (sr (bld (cells:=#[nS]) (vs:=[]) rfl (fun w=>by kernel_rfl) (m1 (iI aK) (sI 1 (.agg #[nS]) #[nS] bh Tys24 rfl rfl (fun ec cz=>(m2 nS (m2 (iI aK) (wt (wp_ret (thenR (ngR ?_)))))))))));have e_:=(Option.some.inj h).trans hr_;obtain ⟨c7,c8⟩:=Prod.mk.inj e_;subst c7;obtain ⟨c9,da⟩:=Prod.mk.inj c8;subst c9;subst da;exact retA3 rfl (resN (i:=1) (l:=[nS]) cz rfl Tya24 Tys24 rfl rfl rfl) (resT rfl) (resT rfl) ⟨c2,[nS],none,0,rfl,(cz.sel []),(RDProgram.intro (RSl.nil _ _ _ _ _ _)),(RSl.nil _ _ _ _ _ _)⟩
 ·refine cF b1 (wp_skip (thenN (sr (lN 0 ([sl aL aJ aM]) bh Tya24 Tys24 ?_))));obtain ⟨⟨⟨f⟩,aB⟩,db,h⟩:=ob h;refine cv ([.agg #[sl aL aJ aM]]) Tyb35 ((f35_ok k) db (hG.mono aw.sub) (RDProgram.intro c5) (pt bh)) ?_;rintro _ ai ⟨aW,ed,rfl,aG,dc⟩;have dd:=ca aG bh;obtain ⟨g,m,rfl,af⟩:=RDProgram.open dc;refine m1 (.tuple #[.agg #[sl g f m],iI aB]) (ext (v:=.agg #[sl g f m]) rfl rfl (ext (v:=iI aB) rfl rfl (aC #[nS] dd Tyz24 (fun ee de=>(sI 0 (.agg #[sl g f m]) #[sl g f m] de Tys24 rfl rfl (fun ef b2=>(m2 (iI aB) (wt (wp_seq (sr (m1 (iI aB) (c0 (aB != 0) (wt (cd h (fun b3 h=>?_) (fun b3 h=>?_)))))))))))))))
  ·refine cT b3 (sr (bld (cells:=#[nS]) (vs:=[]) rfl (fun w=>by kernel_rfl) (m1 (iI aB) (sI 2 (.agg #[nS]) #[nS] b2 Tys24 rfl rfl (fun df dg=>?_)))));have cA:=dg;refine m2 nS (m2 (iI aB) (wt (wp_ret (thenR (ngR ?_)))));have e_:=(Option.some.inj h).trans hr_;obtain ⟨dh,di⟩:=Prod.mk.inj e_;subst dh;obtain ⟨dj,dk⟩:=Prod.mk.inj di;subst dj;subst dk;exact retA3 rfl (resN (i:=2) (l:=[nS]) cA rfl Tya24 Tys24 rfl rfl rfl) (resT rfl) (resT rfl) ⟨aW,[nS],none,0,rfl,(cA.sel []),(RDProgram.intro (RSl.nil _ _ _ _ _ _)),(RSl.nil _ _ _ _ _ _)⟩
  ·refine cF b3 (wp_skip (thenN (sr (m2 nS (wt (wp_seq (wp_label (thenN (wp_cut (fun a w=>∃ cB a4 aN ax aX aY b4,a=fr 82 (updL cB [(2,pp (zz ah) 0),(6,iI aN),(7,pp (zz ai) 0),(8,sl aX ax aY)])∧KH.sub aW a4∧SR K a4 wi w [] [.box (zz wi) (zz ah) #[nS] 24,.box (zz wi) (zz ai) #[sl g f m] 24,eW (zz wi) aX ax aY 48 1 b4]∧Reps (RSlE Int (fun K=>(RInt .i64)) 1 8 a4) 1 ax b4∧ax.length * 24 ≤ mB∧f21_j1 k f aN ax=some r_) ?_ ?_)))))))))
   ·refine sr (fd 0 Tyf24_0 rfl (l1 0 (sl g f m) b2 Tya22 (lS f.length Tye22 (m1 (iI 0) (wt (wp_block ?_))))));have dl:=b2.row_ (zz wi) 48 1;refine wp_loopG (fun g_ a w=>∃ cC aP aq,∃ (aj:Nat),∃ ay O ak al ar,g_=aq.length∧a=fr 82 (updL cC [(2,pp (zz ah) 0),(6,iI ay),(7,pp (zz ai) 0),(8,sl ak O al),(31,sl g f m),(32,iI (f.length:Int)),(33,iI (aj:Int))])∧KH.sub aW aP∧SR K aP wi w [] [.box (zz wi) (zz ah) #[nS] 24,.box (zz wi) (zz ai) #[sl g f m] 24,eW (zz wi) ak O al 48 1 ar]∧f.drop aj=aq∧Reps (RSlE Int (fun K=>(RInt .i64)) 1 8 aP) 1 O ar∧O.length * 24 ≤ mB∧f21_l1 k f aq aj ay O=some r_) f.length ?_ ?_
    ·exact ⟨_,aW,f,0,aB,([]:List (List Int)),none,0,[],rfl,fR,kr,(dl.sel [3,1,0]),List.drop_zero,(reps0 (R:=(RSlE Int (fun K=>(RInt .i64)) 1 8 aW)) (size:=1)),(by simp),h⟩
    ·rintro _ _ aZ ⟨cC,aP,aq,aj,ay,O,ak,al,ar,rfl,rfl,V,b5,a1,b6,cD,h⟩;rcases aq with _ | ⟨⟨z,c,s,A,d,q⟩,aq⟩
     ·unfold f21_l1 at h;exact sr (bcm (r:=false) rfl rfl (congrArg some (drop_nil_lt a1)) (wt (wp_seq (cndF rfl (wp_exit (thenX (thenX (blkX (thenN (⟨_,aP,ay,O,ak,al,ar,fR,V,b5,b6,cD,h⟩))))))))))
     ·unfold f21_l1 at h;refine sr (bcm (r:=true) rfl rfl (congrArg some (drop_cons_t a1)) (wt (wp_seq (cndT rfl (wp_skip (thenN (wp_seq (wp_block (sr ?_)))))))));obtain ⟨dm,dn,eg,dp,eh,dq,dr⟩:=((mf af V)).row.at_ (drop_cons_at a1);obtain ⟨x,y,t,u,rfl,ab,ac,Z⟩:=RDFunc.open dr;refine idxN (b:=dm) (o:=dn) (i:=aj) Tye22 Tys42 rfl dp rfl (drop_cons_lt a1) (lD (vF z x c y s A d t q u) Tya42 Tys42 rfl (fun j v hj=>b5.cell (kr.cell (dq j v hj))) (aC zF.toArray b5 Tyz42 (fun ei ds=>(sI 0 (.agg (aF z x c y s A d t q u)) ((aF z x c y s A d t q u)) ds Tys42 rfl rfl (fun ej dt=>(wt (wp_cut (fun a w=>∃ cG an am a5 bi bj a6 a7 bk bm bn bo bp a8 bq br au a9 ba bs,a=fr 82 (updL cG [(2,pp (zz ah) 0),(6,iI ay),(7,pp (zz ai) 0),(8,sl ak O al),(10,pp (zz aZ) 0),(11,pp am 0),(31,sl g f m),(32,iI (f.length:Int)),(33,iI (aj:Int))])∧KH.sub aP an∧SR K an wi w [] [.box (zz wi) (zz ah) #[nS] 24,.box (zz wi) (zz ai) #[sl g f m] 24,.box (zz wi) (zz aZ) (aF z x c y s A d t q u) 42,.box (zz wi) am #[sl bi a5 bj,.string a6,sl bk a7 bm,iI bn,.bool bo,iI bp,sl bq a8 br,sl a9 au ba] 82,eW (zz wi) ak O al 48 1 ar,eW (zz wi) a9 au ba 3 1 bs]∧tF an bi bj a5∧a6.size ≤ mB∧tP an bk bm a7∧tS an bq br a8∧Reps (RInt .i64) 1 au bs∧au.length * 8 ≤ mB∧f21_j2 k f ay O aj s q a5 a6 a7 bn bo bp a8 au (f21_l1 k f aq)=some r_) ?_ ?_)))))))
      ·have S:=dt.drew;refine regAny (E:=[10]) (F:=FW aP [.box (zz wi) (zz aZ) (aF z x c y s A d t q u) 42,.box (zz wi) (zz ah) #[nS] 24,.box (zz wi) (zz ai) #[sl g f m] 24,eW (zz wi) ak O al 48 1 ar]) (L:=(lb 14 0)) ymx rfl rfl (tT 2 (.agg (aF z x c y s A d t q u)) [[10,3,2]] rfl (fq [0,1,2,3] S) (fun w hF=>lbN_r (i:=0) (l:=(vF z x c y s A d t q u)) hF rfl Tya42 Tys42 rfl rfl rfl) (kF 4 4 rfl Tyf42_4 rfl (fq [0,1,2,3] S) (tL 5 (iI d) [[10,9,5]] 0 rfl Tya3 (fq [0,1,2,3] S) (kF 6 1 rfl Tyf42_1 rfl (fq [0,1,2,3] S) (tL 7 (sl x c y) [[10,9,8,7]] 0 rfl Tya40 (fq [0,1,2,3] S) (kL 8 c.length rfl Tye40 (fq [0,1,2,3] S) (kA 9 (w64 (d - (c.length:Int))) rfl (fq [0,1,2,3] S) (anyAll (rs:=[0,1,3]) (by kernel_rfl) (by decide) (allC ?_ (allC ?_ (allC ?_ allN)))))))))))
       ·refine opL (i:=0) rfl (lN 2 ([sl g f m]) S Tya24 Tys24 (wb (fq [0,1,2,3] S) (fun _=>anyAll (rs:=[1,3]) (by kernel_rfl) (by decide) (allC ?_ (allC ?_ allN)))))
        ·refine opL (i:=1) rfl (lN 0 (vF z x c y s A d t q u) S Tya42 Tys42 (wb (fq [0,1,2,3] S) (fun _=>aO 3 rfl ?_)));obtain ⟨G,az,h⟩:=ob h;refine cv ([.agg (aF z x c y s A d t q u)]) Tyb26 ((f26_ok k) az (hG.mono ((aw.sub.trans aG.sub).trans V)) (RDFunc.intro ab ac Z) (pt S)) ?_;rintro _ bu ⟨ad,bv,bw,bx,rfl,D,ag,bz⟩;have aA:=ca D S;have N:=aA.lower_ (i:=0) rfl S.size;refine wb (fwOf (is:=[1,2,3,4]) N D.sub rfl) (fun _=>aO 10 rfl ?_);obtain ⟨J,h⟩:=of_guard h;exact apZ (i:=0) N rfl Tye48 (by rw [Tyk3]; rfl) Tyi3 (by decide) rfl rfl ag (Nat.le_refl _) J (fun B C X I U Y=>(wt ⟨hE 10,kH 11 (.agg #[sl g f m,.string z,sl x c y,iI s,.bool A,iI d,sl t q u,.slice B (G ++ List.replicate (w64 (d - (c.length:Int))).toNat (0:Int)).length C]) rfl (fun w=>bld_r (cells:=#[sl g f m,.string z,sl x c y,iI s,.bool A,iI d,sl t q u,.slice B (G ++ List.replicate (w64 (d - (c.length:Int))).toNat (0:Int)).length C]) (vs:=[(0,.agg #[sl g f m]),(1,.agg (aF z x c y s A d t q u)),(2,.slice B (G ++ List.replicate (w64 (d - (c.length:Int))).toNat (0:Int)).length C)]) rfl (fun w=>by kernel_rfl)) 10 (aO 12 rfl (bxoC (cs:=#[sl g f m,.string z,sl x c y,iI s,.bool A,iI d,sl t q u,.slice B (G ++ List.replicate (w64 (d - (c.length:Int))).toNat (0:Int)).length C]) U rfl rfl (fun ao W=>(wt ⟨hE 10,kH 13 (pp (zz I) 0) rfl (fun w=>asg_r (v:=pp (zz I) 0) rfl) 10 (aD (thenN (⟨_,ad,(zz I),f,g,m,z,c,x,y,s,A,d,q,t,u,(G ++ List.replicate (w64 (d - (c.length:Int))).toNat (0:Int)),B,C,X,fR,D.sub,(W.sel [3,4,2,0,5,1]),(mf af (V.trans D.sub)),ab,(mp ac D.sub),(ms Z D.sub),Y,(apz_bound J),h⟩)))⟩))))⟩))
        ·refine opL (i:=3) rfl ?_;obtain ⟨G,az,h⟩:=ob h;refine cv ([.agg (aF z x c y s A d t q u)]) Tyb26 ((f26_ok k) az (hG.mono ((aw.sub.trans aG.sub).trans V)) (RDFunc.intro ab ac Z) (pt S)) ?_;rintro _ bu ⟨ad,bv,bw,bx,rfl,D,ag,bz⟩;have aA:=ca D S;have N:=aA.lower_ (i:=0) rfl S.size;refine wb (fwOf (is:=[1,2,3,4]) N D.sub rfl) (fun _=>anyAll (rs:=[1,10]) (by kernel_rfl) (by decide) (allC ?_ (allC ?_ allN)))
         ·refine opL (i:=1) rfl (lN 1 (vF z x c y s A d t q u) N Tya42 Tys42 (wb (fwOf (is:=[1,2,3,4]) N D.sub rfl) (fun _=>aO 10 rfl ?_)));obtain ⟨J,h⟩:=of_guard h;exact apZ (i:=0) N rfl Tye48 (by rw [Tyk3]; rfl) Tyi3 (by decide) rfl rfl ag (Nat.le_refl _) J (fun B C X I U Y=>(wt ⟨hE 10,kH 11 (.agg #[sl g f m,.string z,sl x c y,iI s,.bool A,iI d,sl t q u,.slice B (G ++ List.replicate (w64 (d - (c.length:Int))).toNat (0:Int)).length C]) rfl (fun w=>bld_r (cells:=#[sl g f m,.string z,sl x c y,iI s,.bool A,iI d,sl t q u,.slice B (G ++ List.replicate (w64 (d - (c.length:Int))).toNat (0:Int)).length C]) (vs:=[(0,.agg #[sl g f m]),(1,.agg (aF z x c y s A d t q u)),(2,.slice B (G ++ List.replicate (w64 (d - (c.length:Int))).toNat (0:Int)).length C)]) rfl (fun w=>by kernel_rfl)) 10 (aO 12 rfl (bxoC (cs:=#[sl g f m,.string z,sl x c y,iI s,.bool A,iI d,sl t q u,.slice B (G ++ List.replicate (w64 (d - (c.length:Int))).toNat (0:Int)).length C]) U rfl rfl (fun ao W=>(wt ⟨hE 10,kH 13 (pp (zz I) 0) rfl (fun w=>asg_r (v:=pp (zz I) 0) rfl) 10 (aD (thenN (⟨_,ad,(zz I),f,g,m,z,c,x,y,s,A,d,q,t,u,(G ++ List.replicate (w64 (d - (c.length:Int))).toNat (0:Int)),B,C,X,fR,D.sub,(W.sel [3,4,2,0,5,1]),(mf af (V.trans D.sub)),ab,(mp ac D.sub),(ms Z D.sub),Y,(apz_bound J),h⟩)))⟩))))⟩))
         ·refine opL (i:=10) rfl ?_;obtain ⟨J,h⟩:=of_guard h;exact apZ (i:=0) N rfl Tye48 (by rw [Tyk3]; rfl) Tyi3 (by decide) rfl rfl ag (Nat.le_refl _) J (fun B C X I U Y=>(wt ⟨hE 10,aO 1 rfl (lN 1 (vF z x c y s A d t q u) U Tya42 Tys42 (wt ⟨hE 10,kH 11 (.agg #[sl g f m,.string z,sl x c y,iI s,.bool A,iI d,sl t q u,.slice B (G ++ List.replicate (w64 (d - (c.length:Int))).toNat (0:Int)).length C]) rfl (fun w=>bld_r (cells:=#[sl g f m,.string z,sl x c y,iI s,.bool A,iI d,sl t q u,.slice B (G ++ List.replicate (w64 (d - (c.length:Int))).toNat (0:Int)).length C]) (vs:=[(0,.agg #[sl g f m]),(1,.agg (aF z x c y s A d t q u)),(2,.slice B (G ++ List.replicate (w64 (d - (c.length:Int))).toNat (0:Int)).length C)]) rfl (fun w=>by kernel_rfl)) 10 (aO 12 rfl (bxoC (cs:=#[sl g f m,.string z,sl x c y,iI s,.bool A,iI d,sl t q u,.slice B (G ++ List.replicate (w64 (d - (c.length:Int))).toNat (0:Int)).length C]) U rfl rfl (fun ao W=>(wt ⟨hE 10,kH 13 (pp (zz I) 0) rfl (fun w=>asg_r (v:=pp (zz I) 0) rfl) 10 (aD (thenN (⟨_,ad,(zz I),f,g,m,z,c,x,y,s,A,d,q,t,u,(G ++ List.replicate (w64 (d - (c.length:Int))).toNat (0:Int)),B,C,X,fR,D.sub,(W.sel [3,4,2,0,5,1]),(mf af (V.trans D.sub)),ab,(mp ac D.sub),(ms Z D.sub),Y,(apz_bound J),h⟩)))⟩))))⟩))⟩))
       ·refine opL (i:=1) rfl (lN 0 (vF z x c y s A d t q u) S Tya42 Tys42 (wb (fq [0,1,2,3] S) (fun _=>anyAll (rs:=[0,3]) (by kernel_rfl) (by decide) (allC ?_ (allC ?_ allN)))))
        ·refine opL (i:=0) rfl (lN 2 ([sl g f m]) S Tya24 Tys24 (wb (fq [0,1,2,3] S) (fun _=>aO 3 rfl ?_)));obtain ⟨G,az,h⟩:=ob h;refine cv ([.agg (aF z x c y s A d t q u)]) Tyb26 ((f26_ok k) az (hG.mono ((aw.sub.trans aG.sub).trans V)) (RDFunc.intro ab ac Z) (pt S)) ?_;rintro _ bu ⟨ad,bv,bw,bx,rfl,D,ag,bz⟩;have aA:=ca D S;have N:=aA.lower_ (i:=0) rfl S.size;refine wb (fwOf (is:=[1,2,3,4]) N D.sub rfl) (fun _=>aO 10 rfl ?_);obtain ⟨J,h⟩:=of_guard h;exact apZ (i:=0) N rfl Tye48 (by rw [Tyk3]; rfl) Tyi3 (by decide) rfl rfl ag (Nat.le_refl _) J (fun B C X I U Y=>(wt ⟨hE 10,kH 11 (.agg #[sl g f m,.string z,sl x c y,iI s,.bool A,iI d,sl t q u,.slice B (G ++ List.replicate (w64 (d - (c.length:Int))).toNat (0:Int)).length C]) rfl (fun w=>bld_r (cells:=#[sl g f m,.string z,sl x c y,iI s,.bool A,iI d,sl t q u,.slice B (G ++ List.replicate (w64 (d - (c.length:Int))).toNat (0:Int)).length C]) (vs:=[(0,.agg #[sl g f m]),(1,.agg (aF z x c y s A d t q u)),(2,.slice B (G ++ List.replicate (w64 (d - (c.length:Int))).toNat (0:Int)).length C)]) rfl (fun w=>by kernel_rfl)) 10 (aO 12 rfl (bxoC (cs:=#[sl g f m,.string z,sl x c y,iI s,.bool A,iI d,sl t q u,.slice B (G ++ List.replicate (w64 (d - (c.length:Int))).toNat (0:Int)).length C]) U rfl rfl (fun ao W=>(wt ⟨hE 10,kH 13 (pp (zz I) 0) rfl (fun w=>asg_r (v:=pp (zz I) 0) rfl) 10 (aD (thenN (⟨_,ad,(zz I),f,g,m,z,c,x,y,s,A,d,q,t,u,(G ++ List.replicate (w64 (d - (c.length:Int))).toNat (0:Int)),B,C,X,fR,D.sub,(W.sel [3,4,2,0,5,1]),(mf af (V.trans D.sub)),ab,(mp ac D.sub),(ms Z D.sub),Y,(apz_bound J),h⟩)))⟩))))⟩))
        ·refine opL (i:=3) rfl ?_;obtain ⟨G,az,h⟩:=ob h;refine cv ([.agg (aF z x c y s A d t q u)]) Tyb26 ((f26_ok k) az (hG.mono ((aw.sub.trans aG.sub).trans V)) (RDFunc.intro ab ac Z) (pt S)) ?_;rintro _ bu ⟨ad,bv,bw,bx,rfl,D,ag,bz⟩;have aA:=ca D S;have N:=aA.lower_ (i:=0) rfl S.size;refine wb (fwOf (is:=[1,2,3,4]) N D.sub rfl) (fun _=>anyAll (rs:=[0,10]) (by kernel_rfl) (by decide) (allC ?_ (allC ?_ allN)))
         ·refine opL (i:=0) rfl (lN 3 ([sl g f m]) N Tya24 Tys24 (wb (fwOf (is:=[1,2,3,4]) N D.sub rfl) (fun _=>aO 10 rfl ?_)));obtain ⟨J,h⟩:=of_guard h;exact apZ (i:=0) N rfl Tye48 (by rw [Tyk3]; rfl) Tyi3 (by decide) rfl rfl ag (Nat.le_refl _) J (fun B C X I U Y=>(wt ⟨hE 10,kH 11 (.agg #[sl g f m,.string z,sl x c y,iI s,.bool A,iI d,sl t q u,.slice B (G ++ List.replicate (w64 (d - (c.length:Int))).toNat (0:Int)).length C]) rfl (fun w=>bld_r (cells:=#[sl g f m,.string z,sl x c y,iI s,.bool A,iI d,sl t q u,.slice B (G ++ List.replicate (w64 (d - (c.length:Int))).toNat (0:Int)).length C]) (vs:=[(0,.agg #[sl g f m]),(1,.agg (aF z x c y s A d t q u)),(2,.slice B (G ++ List.replicate (w64 (d - (c.length:Int))).toNat (0:Int)).length C)]) rfl (fun w=>by kernel_rfl)) 10 (aO 12 rfl (bxoC (cs:=#[sl g f m,.string z,sl x c y,iI s,.bool A,iI d,sl t q u,.slice B (G ++ List.replicate (w64 (d - (c.length:Int))).toNat (0:Int)).length C]) U rfl rfl (fun ao W=>(wt ⟨hE 10,kH 13 (pp (zz I) 0) rfl (fun w=>asg_r (v:=pp (zz I) 0) rfl) 10 (aD (thenN (⟨_,ad,(zz I),f,g,m,z,c,x,y,s,A,d,q,t,u,(G ++ List.replicate (w64 (d - (c.length:Int))).toNat (0:Int)),B,C,X,fR,D.sub,(W.sel [3,4,2,0,5,1]),(mf af (V.trans D.sub)),ab,(mp ac D.sub),(ms Z D.sub),Y,(apz_bound J),h⟩)))⟩))))⟩))
         ·refine opL (i:=10) rfl ?_;obtain ⟨J,h⟩:=of_guard h;exact apZ (i:=0) N rfl Tye48 (by rw [Tyk3]; rfl) Tyi3 (by decide) rfl rfl ag (Nat.le_refl _) J (fun B C X I U Y=>(wt ⟨hE 10,aO 0 rfl (lN 3 ([sl g f m]) U Tya24 Tys24 (wt ⟨hE 10,kH 11 (.agg #[sl g f m,.string z,sl x c y,iI s,.bool A,iI d,sl t q u,.slice B (G ++ List.replicate (w64 (d - (c.length:Int))).toNat (0:Int)).length C]) rfl (fun w=>bld_r (cells:=#[sl g f m,.string z,sl x c y,iI s,.bool A,iI d,sl t q u,.slice B (G ++ List.replicate (w64 (d - (c.length:Int))).toNat (0:Int)).length C]) (vs:=[(0,.agg #[sl g f m]),(1,.agg (aF z x c y s A d t q u)),(2,.slice B (G ++ List.replicate (w64 (d - (c.length:Int))).toNat (0:Int)).length C)]) rfl (fun w=>by kernel_rfl)) 10 (aO 12 rfl (bxoC (cs:=#[sl g f m,.string z,sl x c y,iI s,.bool A,iI d,sl t q u,.slice B (G ++ List.replicate (w64 (d - (c.length:Int))).toNat (0:Int)).length C]) U rfl rfl (fun ao W=>(wt ⟨hE 10,kH 13 (pp (zz I) 0) rfl (fun w=>asg_r (v:=pp (zz I) 0) rfl) 10 (aD (thenN (⟨_,ad,(zz I),f,g,m,z,c,x,y,s,A,d,q,t,u,(G ++ List.replicate (w64 (d - (c.length:Int))).toNat (0:Int)),B,C,X,fR,D.sub,(W.sel [3,4,2,0,5,1]),(mf af (V.trans D.sub)),ab,(mp ac D.sub),(ms Z D.sub),Y,(apz_bound J),h⟩)))⟩))))⟩))⟩))
       ·refine opL (i:=3) rfl ?_;obtain ⟨G,az,h⟩:=ob h;refine cv ([.agg (aF z x c y s A d t q u)]) Tyb26 ((f26_ok k) az (hG.mono ((aw.sub.trans aG.sub).trans V)) (RDFunc.intro ab ac Z) (pt S)) ?_;rintro _ bu ⟨ad,bv,bw,bx,rfl,D,ag,bz⟩;have aA:=ca D S;have N:=aA.lower_ (i:=0) rfl S.size;refine wb (fwOf (is:=[1,2,3,4]) N D.sub rfl) (fun _=>anyAll (rs:=[0,1,10]) (by kernel_rfl) (by decide) (allC ?_ (allC ?_ (allC ?_ allN))))
        ·refine opL (i:=0) rfl (lN 3 ([sl g f m]) N Tya24 Tys24 (wb (fwOf (is:=[1,2,3,4]) N D.sub rfl) (fun _=>anyAll (rs:=[1,10]) (by kernel_rfl) (by decide) (allC ?_ (allC ?_ allN)))))
         ·refine opL (i:=1) rfl (lN 1 (vF z x c y s A d t q u) N Tya42 Tys42 (wb (fwOf (is:=[1,2,3,4]) N D.sub rfl) (fun _=>aO 10 rfl ?_)));obtain ⟨J,h⟩:=of_guard h;exact apZ (i:=0) N rfl Tye48 (by rw [Tyk3]; rfl) Tyi3 (by decide) rfl rfl ag (Nat.le_refl _) J (fun B C X I U Y=>(wt ⟨hE 10,kH 11 (.agg #[sl g f m,.string z,sl x c y,iI s,.bool A,iI d,sl t q u,.slice B (G ++ List.replicate (w64 (d - (c.length:Int))).toNat (0:Int)).length C]) rfl (fun w=>bld_r (cells:=#[sl g f m,.string z,sl x c y,iI s,.bool A,iI d,sl t q u,.slice B (G ++ List.replicate (w64 (d - (c.length:Int))).toNat (0:Int)).length C]) (vs:=[(0,.agg #[sl g f m]),(1,.agg (aF z x c y s A d t q u)),(2,.slice B (G ++ List.replicate (w64 (d - (c.length:Int))).toNat (0:Int)).length C)]) rfl (fun w=>by kernel_rfl)) 10 (aO 12 rfl (bxoC (cs:=#[sl g f m,.string z,sl x c y,iI s,.bool A,iI d,sl t q u,.slice B (G ++ List.replicate (w64 (d - (c.length:Int))).toNat (0:Int)).length C]) U rfl rfl (fun ao W=>(wt ⟨hE 10,kH 13 (pp (zz I) 0) rfl (fun w=>asg_r (v:=pp (zz I) 0) rfl) 10 (aD (thenN (⟨_,ad,(zz I),f,g,m,z,c,x,y,s,A,d,q,t,u,(G ++ List.replicate (w64 (d - (c.length:Int))).toNat (0:Int)),B,C,X,fR,D.sub,(W.sel [3,4,2,0,5,1]),(mf af (V.trans D.sub)),ab,(mp ac D.sub),(ms Z D.sub),Y,(apz_bound J),h⟩)))⟩))))⟩))
         ·refine opL (i:=10) rfl ?_;obtain ⟨J,h⟩:=of_guard h;exact apZ (i:=0) N rfl Tye48 (by rw [Tyk3]; rfl) Tyi3 (by decide) rfl rfl ag (Nat.le_refl _) J (fun B C X I U Y=>(wt ⟨hE 10,aO 1 rfl (lN 1 (vF z x c y s A d t q u) U Tya42 Tys42 (wt ⟨hE 10,kH 11 (.agg #[sl g f m,.string z,sl x c y,iI s,.bool A,iI d,sl t q u,.slice B (G ++ List.replicate (w64 (d - (c.length:Int))).toNat (0:Int)).length C]) rfl (fun w=>bld_r (cells:=#[sl g f m,.string z,sl x c y,iI s,.bool A,iI d,sl t q u,.slice B (G ++ List.replicate (w64 (d - (c.length:Int))).toNat (0:Int)).length C]) (vs:=[(0,.agg #[sl g f m]),(1,.agg (aF z x c y s A d t q u)),(2,.slice B (G ++ List.replicate (w64 (d - (c.length:Int))).toNat (0:Int)).length C)]) rfl (fun w=>by kernel_rfl)) 10 (aO 12 rfl (bxoC (cs:=#[sl g f m,.string z,sl x c y,iI s,.bool A,iI d,sl t q u,.slice B (G ++ List.replicate (w64 (d - (c.length:Int))).toNat (0:Int)).length C]) U rfl rfl (fun ao W=>(wt ⟨hE 10,kH 13 (pp (zz I) 0) rfl (fun w=>asg_r (v:=pp (zz I) 0) rfl) 10 (aD (thenN (⟨_,ad,(zz I),f,g,m,z,c,x,y,s,A,d,q,t,u,(G ++ List.replicate (w64 (d - (c.length:Int))).toNat (0:Int)),B,C,X,fR,D.sub,(W.sel [3,4,2,0,5,1]),(mf af (V.trans D.sub)),ab,(mp ac D.sub),(ms Z D.sub),Y,(apz_bound J),h⟩)))⟩))))⟩))⟩))
        ·refine opL (i:=1) rfl (lN 1 (vF z x c y s A d t q u) N Tya42 Tys42 (wb (fwOf (is:=[1,2,3,4]) N D.sub rfl) (fun _=>anyAll (rs:=[0,10]) (by kernel_rfl) (by decide) (allC ?_ (allC ?_ allN)))))
         ·refine opL (i:=0) rfl (lN 3 ([sl g f m]) N Tya24 Tys24 (wb (fwOf (is:=[1,2,3,4]) N D.sub rfl) (fun _=>aO 10 rfl ?_)));obtain ⟨J,h⟩:=of_guard h;exact apZ (i:=0) N rfl Tye48 (by rw [Tyk3]; rfl) Tyi3 (by decide) rfl rfl ag (Nat.le_refl _) J (fun B C X I U Y=>(wt ⟨hE 10,kH 11 (.agg #[sl g f m,.string z,sl x c y,iI s,.bool A,iI d,sl t q u,.slice B (G ++ List.replicate (w64 (d - (c.length:Int))).toNat (0:Int)).length C]) rfl (fun w=>bld_r (cells:=#[sl g f m,.string z,sl x c y,iI s,.bool A,iI d,sl t q u,.slice B (G ++ List.replicate (w64 (d - (c.length:Int))).toNat (0:Int)).length C]) (vs:=[(0,.agg #[sl g f m]),(1,.agg (aF z x c y s A d t q u)),(2,.slice B (G ++ List.replicate (w64 (d - (c.length:Int))).toNat (0:Int)).length C)]) rfl (fun w=>by kernel_rfl)) 10 (aO 12 rfl (bxoC (cs:=#[sl g f m,.string z,sl x c y,iI s,.bool A,iI d,sl t q u,.slice B (G ++ List.replicate (w64 (d - (c.length:Int))).toNat (0:Int)).length C]) U rfl rfl (fun ao W=>(wt ⟨hE 10,kH 13 (pp (zz I) 0) rfl (fun w=>asg_r (v:=pp (zz I) 0) rfl) 10 (aD (thenN (⟨_,ad,(zz I),f,g,m,z,c,x,y,s,A,d,q,t,u,(G ++ List.replicate (w64 (d - (c.length:Int))).toNat (0:Int)),B,C,X,fR,D.sub,(W.sel [3,4,2,0,5,1]),(mf af (V.trans D.sub)),ab,(mp ac D.sub),(ms Z D.sub),Y,(apz_bound J),h⟩)))⟩))))⟩))
         ·refine opL (i:=10) rfl ?_;obtain ⟨J,h⟩:=of_guard h;exact apZ (i:=0) N rfl Tye48 (by rw [Tyk3]; rfl) Tyi3 (by decide) rfl rfl ag (Nat.le_refl _) J (fun B C X I U Y=>(wt ⟨hE 10,aO 0 rfl (lN 3 ([sl g f m]) U Tya24 Tys24 (wt ⟨hE 10,kH 11 (.agg #[sl g f m,.string z,sl x c y,iI s,.bool A,iI d,sl t q u,.slice B (G ++ List.replicate (w64 (d - (c.length:Int))).toNat (0:Int)).length C]) rfl (fun w=>bld_r (cells:=#[sl g f m,.string z,sl x c y,iI s,.bool A,iI d,sl t q u,.slice B (G ++ List.replicate (w64 (d - (c.length:Int))).toNat (0:Int)).length C]) (vs:=[(0,.agg #[sl g f m]),(1,.agg (aF z x c y s A d t q u)),(2,.slice B (G ++ List.replicate (w64 (d - (c.length:Int))).toNat (0:Int)).length C)]) rfl (fun w=>by kernel_rfl)) 10 (aO 12 rfl (bxoC (cs:=#[sl g f m,.string z,sl x c y,iI s,.bool A,iI d,sl t q u,.slice B (G ++ List.replicate (w64 (d - (c.length:Int))).toNat (0:Int)).length C]) U rfl rfl (fun ao W=>(wt ⟨hE 10,kH 13 (pp (zz I) 0) rfl (fun w=>asg_r (v:=pp (zz I) 0) rfl) 10 (aD (thenN (⟨_,ad,(zz I),f,g,m,z,c,x,y,s,A,d,q,t,u,(G ++ List.replicate (w64 (d - (c.length:Int))).toNat (0:Int)),B,C,X,fR,D.sub,(W.sel [3,4,2,0,5,1]),(mf af (V.trans D.sub)),ab,(mp ac D.sub),(ms Z D.sub),Y,(apz_bound J),h⟩)))⟩))))⟩))⟩))
        ·refine opL (i:=10) rfl ?_;obtain ⟨J,h⟩:=of_guard h;refine apZ (i:=0) N rfl Tye48 (by rw [Tyk3]; rfl) Tyi3 (by decide) rfl rfl ag (Nat.le_refl _) J (fun B C X I U Y=>(wt ⟨hE 10,anyAll (rs:=[0,1]) (by kernel_rfl) (by decide) (allC ?_ (allC ?_ allN))⟩))
         ·exact opL (i:=0) rfl (lN 3 ([sl g f m]) U Tya24 Tys24 (wt ⟨hE 10,aO 1 rfl (lN 1 (vF z x c y s A d t q u) U Tya42 Tys42 (wt ⟨hE 10,kH 11 (.agg #[sl g f m,.string z,sl x c y,iI s,.bool A,iI d,sl t q u,.slice B (G ++ List.replicate (w64 (d - (c.length:Int))).toNat (0:Int)).length C]) rfl (fun w=>bld_r (cells:=#[sl g f m,.string z,sl x c y,iI s,.bool A,iI d,sl t q u,.slice B (G ++ List.replicate (w64 (d - (c.length:Int))).toNat (0:Int)).length C]) (vs:=[(0,.agg #[sl g f m]),(1,.agg (aF z x c y s A d t q u)),(2,.slice B (G ++ List.replicate (w64 (d - (c.length:Int))).toNat (0:Int)).length C)]) rfl (fun w=>by kernel_rfl)) 10 (aO 12 rfl (bxoC (cs:=#[sl g f m,.string z,sl x c y,iI s,.bool A,iI d,sl t q u,.slice B (G ++ List.replicate (w64 (d - (c.length:Int))).toNat (0:Int)).length C]) U rfl rfl (fun ao W=>(wt ⟨hE 10,kH 13 (pp (zz I) 0) rfl (fun w=>asg_r (v:=pp (zz I) 0) rfl) 10 (aD (thenN (⟨_,ad,(zz I),f,g,m,z,c,x,y,s,A,d,q,t,u,(G ++ List.replicate (w64 (d - (c.length:Int))).toNat (0:Int)),B,C,X,fR,D.sub,(W.sel [3,4,2,0,5,1]),(mf af (V.trans D.sub)),ab,(mp ac D.sub),(ms Z D.sub),Y,(apz_bound J),h⟩)))⟩))))⟩))⟩))
         ·exact opL (i:=1) rfl (lN 1 (vF z x c y s A d t q u) U Tya42 Tys42 (wt ⟨hE 10,aO 0 rfl (lN 3 ([sl g f m]) U Tya24 Tys24 (wt ⟨hE 10,kH 11 (.agg #[sl g f m,.string z,sl x c y,iI s,.bool A,iI d,sl t q u,.slice B (G ++ List.replicate (w64 (d - (c.length:Int))).toNat (0:Int)).length C]) rfl (fun w=>bld_r (cells:=#[sl g f m,.string z,sl x c y,iI s,.bool A,iI d,sl t q u,.slice B (G ++ List.replicate (w64 (d - (c.length:Int))).toNat (0:Int)).length C]) (vs:=[(0,.agg #[sl g f m]),(1,.agg (aF z x c y s A d t q u)),(2,.slice B (G ++ List.replicate (w64 (d - (c.length:Int))).toNat (0:Int)).length C)]) rfl (fun w=>by kernel_rfl)) 10 (aO 12 rfl (bxoC (cs:=#[sl g f m,.string z,sl x c y,iI s,.bool A,iI d,sl t q u,.slice B (G ++ List.replicate (w64 (d - (c.length:Int))).toNat (0:Int)).length C]) U rfl rfl (fun ao W=>(wt ⟨hE 10,kH 13 (pp (zz I) 0) rfl (fun w=>asg_r (v:=pp (zz I) 0) rfl) 10 (aD (thenN (⟨_,ad,(zz I),f,g,m,z,c,x,y,s,A,d,q,t,u,(G ++ List.replicate (w64 (d - (c.length:Int))).toNat (0:Int)),B,C,X,fR,D.sub,(W.sel [3,4,2,0,5,1]),(mf af (V.trans D.sub)),ab,(mp ac D.sub),(ms Z D.sub),Y,(apz_bound J),h⟩)))⟩))))⟩))⟩))
      ·rintro _ du ⟨cG,an,am,a5,bi,bj,a6,a7,bk,bm,bn,bo,bp,a8,bq,br,au,a9,ba,bs,rfl,aH,b7,dv,dw,dx,dy,dz,dA,h⟩;unfold f21_j2 at h;refine wp_cut (fun a w=>∃ cH av aQ bA bB bC bD bE bF bG b8 b9 cb bH bI bJ ae aT aU cc,a=fr 82 (updL cH [(2,pp (zz ah) 0),(6,iI aQ),(7,pp (zz ai) 0),(8,sl ak O al),(11,pp am 0),(31,sl g f m),(32,iI (f.length:Int)),(33,iI (aj:Int))])∧KH.sub an av∧SR K av wi w [] [.box (zz wi) (zz ah) #[nS] 24,.box (zz wi) (zz ai) #[sl g f m] 24,.box (zz wi) am #[sl bB bA bC,.string bD,sl bF bE bG,iI b8,.bool b9,iI cb,sl bI bH bJ,sl aT ae aU] 82,eW (zz wi) ak O al 48 1 ar,eW (zz wi) aT ae aU 3 1 cc]∧tF av bB bC bA∧bD.size ≤ mB∧tP av bF bG bE∧tS av bI bJ bH∧Reps (RInt .i64) 1 ae cc∧ae.length * 8 ≤ mB∧f21_j3 k f O aj aQ ae (f21_l1 k f aq)=some r_) ?_ ?_
       ·refine wp_block (sr (m1 (pp am 0) (fd 5 Tyf42_5 rfl (l1 2 (sl t q u) b7 Tya34 ?_))));have cI:SR K an wi du [] [.box (zz wi) am #[sl bi a5 bj,.string a6,sl bk a7 bm,iI bn,.bool bo,iI bp,sl bq a8 br,sl a9 au ba] 82,eW (zz wi) a9 au ba 3 1 bs,.box (zz wi) (zz ah) #[nS] 24,.box (zz wi) (zz ai) #[sl g f m] 24,.box (zz wi) (zz aZ) (aF z x c y s A d t q u) 42,eW (zz wi) ak O al 48 1 ar]:=b7.sel [3,5,0,1,2,4];obtain ⟨⟨⟨⟨bK⟩,⟨bL,bM,bN,bO,bP,bQ⟩,aV⟩,cJ⟩,dB,h⟩:=ob h;refine cv ([pp am 0,sl t q u]) Tyb36 ((f36_ok k) dB (hG.mono (((aw.sub.trans aG.sub).trans V).trans aH)) dv dw dx dy dz dA (Nat.le_trans (Nat.le_refl _) b7.size) (ms Z aH) (pt cI)) ?_;rintro _ ek ⟨ce,bR,bS,bT,bU,bV,bW,bb,bd,bX,rfl,a2,cf,ch,ci,cj,ck,cl⟩;have a3:=ca a2 cI;refine uN cJ (m2 (.bool (!cJ)) (wt (cd h (fun cm h=>?_) (fun cm h=>?_))))
        ·exact cT cm (wp_region_lit (m2 (iI 23) (wpList_nil (blkN (thenN (⟨_,ce,23,bK,bR,bS,bL,bM,bT,bU,bN,bO,bP,bQ,bV,bW,aV,bb,bd,bX,fR,a2.sub,(a3.sel [2,3,0,5,1]),cf,ch,ci,cj,ck,cl,h⟩))))))
        ·refine cF cm (wp_cut (fun a w=>∃ cK be cn,a=fr 82 (updL cK [(2,pp (zz ah) 0),(6,iI ay),(7,pp (zz ai) 0),(8,sl ak O al),(11,pp am 0),(31,sl g f m),(32,iI (f.length:Int)),(33,iI (aj:Int)),(56,.bool cn)])∧KH.sub ce be∧SR K be wi w [] [.box (zz wi) (zz ah) #[nS] 24,.box (zz wi) (zz ai) #[sl g f m] 24,.box (zz wi) am #[sl bR bK bS,.string bL,sl bT bM bU,iI bN,.bool bO,iI bP,sl bV bQ bW,sl bb aV bd] 82,eW (zz wi) ak O al 48 1 ar,eW (zz wi) bb aV bd 3 1 bX]∧f21_j4 k f ay O aj aV cn (f21_l1 k f aq)=some r_) ?_ ?_)
         ·refine wp_region_lit (fd 2 Tyf42_2 rfl (l1 4 (iI s) a3 Tya3 (c0 (s != 0) (m1 (.bool (s != 0)) (cd h (fun ap h=>?_) (fun ap h=>?_))))))
          ·refine n1 60 ap (fd 5 Tyf42_5 rfl (n1 60 ap (l1 4 (sl t q u) a3 Tya34 (n1 60 ap ?_))));obtain ⟨bY,dC,h⟩:=ob h;refine cv ([sl t q u]) Tyb24 ((f24_ok k) dC (hG.mono ((((aw.sub.trans aG.sub).trans V).trans aH).trans a2.sub)) (ms Z (aH.trans a2.sub)) (pt a3)) ?_;rintro _ el ⟨dD,rfl,cL⟩;have dE:=ca cL a3;exact n1 60 ap (uN bY (m3 true (.bool (!bY)) (cg ap) (m2 (.bool (!bY)) (wt (⟨_,dD,(!bY),fR,cL.sub,(dE.sel [2,3,0,5,1]),h⟩)))))
          ·exact o1 60 ap (o1 60 ap (o1 60 ap (o1 60 ap (m3 false vN (cg ap) (m2 vN (wt (⟨_,ce,false,fR,kr,(a3.sel [2,3,0,5,1]),h⟩)))))))
         ·rintro _ em ⟨cK,be,cn,rfl,aI,cM,h⟩;unfold f21_j4 at h;refine cd h (fun co h=>?_) (fun co h=>?_)
          ·exact cT co (wp_region_lit (m2 (iI 26) (wpList_nil (blkN (thenN (⟨_,be,26,bK,bR,bS,bL,bM,bT,bU,bN,bO,bP,bQ,bV,bW,aV,bb,bd,bX,fR,(a2.sub.trans aI),cM,(mf cf aI),ch,(mp ci aI),(ms cj aI),(ck.mono (fun _ _ h=>h)),cl,h⟩))))))
          ·exact cF co (wp_skip (blkN (thenN (⟨_,be,ay,bK,bR,bS,bL,bM,bT,bU,bN,bO,bP,bQ,bV,bW,aV,bb,bd,bX,fR,(a2.sub.trans aI),cM,(mf cf aI),ch,(mp ci aI),(ms cj aI),(ck.mono (fun _ _ h=>h)),cl,h⟩))))
       ·rintro _ en ⟨cH,av,aQ,bA,bB,bC,bD,bE,bF,bG,b8,b9,cb,bH,bI,bJ,ae,aT,aU,cc,rfl,bZ,cq,eo,ep,eq,es,dF,dG,h⟩;unfold f21_j3 at h;refine wp_seq (sr (m1 (iI aQ) (c0 (aQ != 0) (wt (cd h (fun cr h=>?_) (fun cr h=>?_))))))
        ·exact cT cr (wp_exit (thenX (blkO (by decide) (thenX (thenX (blkX (thenN (⟨_,av,aQ,O,ak,al,ar,fR,((V.trans aH).trans bZ),(cq.sel [0,1,3]),(b6.mono (fun _ _ h=>RSlE.mono (R:=fun K=>(RInt .i64)) (fun _ _ _ h=>h) (aH.trans bZ) h)),cD,h⟩))))))))
        ·refine cF cr (wp_skip (thenN (wp_region_lit (m1 (sl ak O al) (m1 (pp am 0) (nilc rfl (fd 7 Tyf82_2 rfl (l1 2 (sl aT ae aU) cq Tya48 (bsl (e:=48) (cells:=#[sl aT ae aU]) (vs:=[(0,sl aT ae aU)]) cq rfl (buildSl_one Tye62 Tys48 Tyz48 rfl (by decide) (by decide) rfl) (fun et dH=>?_))))))))));obtain ⟨ct,dI,cN,dJ⟩:=shutI (i:=5) (bytes:=8) (R:=fun K=>(RInt .i64)) dH rfl (Nat.le_refl _) dF dG (fun hs=>(fun _ _ h=>h));obtain ⟨cO,h⟩:=of_guard h;refine apR (R:=(RSlE Int (fun K=>(RInt .i64)) 1 8 ct)) (p:=ae) (i:=4) (j:=0) dI rfl rfl Tye62 Tyi48 rfl (by decide) rfl rfl (b6.mono (fun _ _ h=>RSlE.mono (R:=fun K=>(RInt .i64)) (fun _ _ _ h=>h) ((aH.trans bZ).trans cN) h)) ⟨_,_,rfl,dJ⟩ rfl rfl (Nat.le_refl _) cO (by decide) (fun cu cw cP dK dL dM=>?_);have dN:=p1234 dL;exact m2 (.slice cu (O ++ [ae]).length cw) (wpList_nil (blkN (thenN (wp_region_lit (bar (r:=((aj + 1:Nat):Int)) rfl rfl (inc_ok (le_big (((mf af V)).len) (by decide) (drop_cons_lt a1))) (m1 (iI ((aj + 1:Nat):Int)) (wt (⟨_,Nat.lt_succ_self _,_,ct,aq,aj + 1,aQ,(O ++ [ae]),cu,cw,cP,rfl,fR,(((V.trans aH).trans bZ).trans cN),(dN.sel [0,1,3]),drop_cons_next a1,dM,(app_bound cO),h⟩))))))))
   ·rintro _ eu ⟨cB,a4,aN,ax,aX,aY,b4,rfl,dO,cx,dP,dQ,h⟩;unfold f21_j1 at h;refine wp_seq (sr (m1 (iI aN) (c0 (aN != 0) (wt (cd h (fun cy h=>?_) (fun cy h=>?_))))))
    ·refine cT cy (sr (bld (cells:=#[nS]) (vs:=[]) rfl (fun w=>by kernel_rfl) (m1 (iI aN) (sI 0 (.agg #[nS]) #[nS] cx Tys24 rfl rfl (fun ew cQ=>(m2 nS (m2 (iI aN) (wt (wp_ret (thenR (ngR ?_)))))))))));have e_:=(Option.some.inj h).trans hr_;obtain ⟨dR,dS⟩:=Prod.mk.inj e_;subst dR;obtain ⟨dT,dU⟩:=Prod.mk.inj dS;subst dT;subst dU;exact retA3 rfl (resN (i:=0) (l:=[nS]) cQ rfl Tya24 Tys24 rfl rfl rfl) (resT rfl) (resT rfl) ⟨a4,[nS],none,0,rfl,(cQ.sel []),(RDProgram.intro (RSl.nil _ _ _ _ _ _)),(RSl.nil _ _ _ _ _ _)⟩
    ·refine cF cy (wp_skip (thenN (sr (lN 1 ([sl g f m]) cx Tya24 Tys24 (m1 (sl aX ax aY) (sI 0 (.agg #[sl g f m]) #[sl g f m] cx Tys24 rfl rfl (fun ex cR=>(m2 (sl aX ax aY) (m2 (iI 0) (wt (wp_ret (ngR ?_))))))))))));obtain ⟨dV,dW,dX,dY⟩:=shutI (i:=2) (bytes:=24) (R:=fun K=>(RSlE Int (fun K=>(RInt .i64)) 1 8 K)) cR rfl (Nat.le_refl _) dP dQ (fun hs=>(fun _ _ h=>RSlE.mono (R:=fun K=>(RInt .i64)) (fun _ _ _ h=>h) hs h));have e_:=(Option.some.inj h).trans hr_;obtain ⟨dZ,d0⟩:=Prod.mk.inj e_;subst dZ;obtain ⟨d1,d2⟩:=Prod.mk.inj d0;subst d1;subst d2;exact retA3 rfl (resN (i:=0) (l:=[sl g f m]) cR rfl Tya24 Tys24 rfl rfl rfl) (resT rfl) (resT rfl) ⟨dV,[sl g f m],aX,aY,rfl,(dW.sel []),(RDProgram.intro (mf af (dO.trans dX))),dY⟩
theorem f21_ok (k:Nat):f21_spec (f21 k):=f21_b_ok k
theorem f10_b_ok (k:Nat):f10_spec (f10_b k):=by
 unfold f10_spec;intro K wi r G I J h hG s t;obtain ⟨r_,hr_,h⟩:=rz h;obtain ⟨e⟩:=r;obtain ⟨f,c1,rfl,u⟩:=RDProgram.open s;refine enter Tryz.func10 rfl (n:=15) rfl ?_;unfold f10_b at h;refine sr (bxoC (cs:=#[sl f e c1]) t rfl rfl (fun N w=>(aC #[nS] w Tyz24 (fun O g=>(m2 (iI 0) (wt (sr (lN 1 ([sl f e c1]) g Tya24 Tys24 ?_))))))));obtain ⟨⟨⟨a⟩,j,d⟩,x,h⟩:=ob h;refine cv ([.agg #[sl f e c1]]) Tyb21 ((f21_ok k) x (hG.mono kr) (RDProgram.intro u) (pt g)) ?_;rintro _ S ⟨y,U,m,o,rfl,z,A,V⟩;have B:=ca z g;obtain ⟨b,c,rfl,C⟩:=RDProgram.open A;refine m1 (.tuple #[.agg #[sl b a c],sl m j o,iI d]) (ext (v:=.agg #[sl b a c]) rfl rfl (ext (v:=sl m j o) rfl rfl (ext (v:=iI d) rfl rfl (aC #[nS] B Tyz24 (fun W D=>(sI 0 (.agg #[sl b a c]) #[sl b a c] D Tys24 rfl rfl (fun X p=>(m2 (sl m j o) (m2 (iI d) (wt (sr (lN 0 ([sl b a c]) p Tya24 Tys24 (m1 (iI d) (sI 1 (.agg #[sl b a c]) #[sl b a c] p Tys24 rfl rfl (fun Y q=>(m2 (iI d) (wt (wp_ret ?_))))))))))))))))));cases (oi h).trans hr_;exact retA2 rfl (resN (i:=1) (l:=[sl b a c]) q rfl Tya24 Tys24 rfl rfl rfl) (resT rfl) ⟨y,[sl b a c],rfl,(q.sel []),(RDProgram.intro C)⟩
theorem f10_ok (k:Nat):f10_spec (f10 k):=f10_b_ok k
theorem f44_b_ok (k:Nat) (F:Fam44) (IH44:f44_spec F.f44):f44_spec (f44_b k F):=by
 unfold f44_spec;intro K wi s G I aJ h hG Z ag;obtain ⟨r_,hr_,h⟩:=rz h;refine enter Tryz.func44 rfl (n:=25) rfl ?_;unfold f44_b at h;refine sr (m2 nS (wt (sr (m2 nS (wt (wp_seq (sr (m2 (iI 0) (wt (wp_block ?_))))))))));have ah:=ag.row_ (zz wi) 33 5;refine wp_loopG (fun g_ a w=>∃ ab J t,∃ (m:Nat),∃ c u x O,g_=t.length∧a=fr 25 (updL ab [(0,sl G s I),(3,sl u c x),(4,iI (m:Int))])∧KH.sub K J∧SR K J wi w [] [eW (zz wi) u c x 33 5 O]∧s.drop m=t∧Reps (RDExpr J) 5 c O∧c.length * 64 ≤ mB∧f44_l1 k F t m c=some r_) s.length ?_ ?_
 ·exact ⟨_,K,s,0,([]:LE),none,0,[],rfl,fR,kr,ah,List.drop_zero,(reps0 (R:=(RDExpr K)) (size:=5)),(by simp),h⟩
 ·rintro _ _ ai ⟨ab,J,t,m,c,u,x,O,rfl,rfl,N,S,y,ac,aj,h⟩;rcases t with _ | ⟨⟨d,f,g,l,B⟩,t⟩
  ·unfold f44_l1 at h;refine wp_seq (sr (m1 (iI (m:Int)) (m1 (sl G s I) (lS s.length Tye31 (bcm (r:=false) rfl rfl (congrArg some (drop_nil_lt y)) (wt (cndF rfl (wp_exit (thenX (thenX (blkX (thenN (sr (m1 (sl u c x) (m2 (sl u c x) (wt (wp_ret ?_)))))))))))))))));obtain ⟨ak,al,aK,am⟩:=shutI (i:=0) (bytes:=64) (R:=fun K=>(RDExpr K)) S rfl (Nat.le_refl _) ac aj (fun hs=>(fun _ _ h=>RDExpr.mono hs h));cases (oi h).trans hr_;exact retA1 rfl (resT rfl) ⟨ak,u,x,rfl,al,am⟩
  ·unfold f44_l1 at h;refine wp_seq (sr (m1 (iI (m:Int)) (m1 (sl G s I) (lS s.length Tye31 (bcm (r:=true) rfl rfl (congrArg some (drop_cons_t y)) (wt (cndT rfl (wp_skip (thenN (wp_seq (wp_block (sr (m1 (sl G s I) (m1 (iI (m:Int)) ?_))))))))))))));obtain ⟨an,ao,aL,ap,aM,aq,ar⟩:=((me Z N)).row.at_ (drop_cons_at y);obtain ⟨C,D,rfl,au,av⟩:=RDExpr.open ar;refine idxN (b:=an) (o:=ao) (i:=m) Tye31 Tys33 rfl ap rfl (drop_cons_lt y) (lD (vE d f g l C B D) Tya33 Tys33 rfl (fun j v hj=>S.cell (kr.cell (aq j v hj))) (aC zE.toArray S Tyz33 (fun aN aw=>(sI 0 (.agg (aE d f g l C B D)) ((aE d f g l C B D)) aw Tys33 rfl rfl (fun aP U=>(wt (sr (fd 4 Tyf33_4 rfl (l1 0 (sl C B D) U Tya31 ?_)))))))));obtain ⟨q,ax,h⟩:=ob h;refine cv ([sl C B D]) Tyb44 (IH44 ax (hG.mono N) av (pt U)) ?_;rintro _ aQ ⟨V,z,A,rfl,W,ay⟩;have az:=ca W U;refine fd 4 Tyf33_4 rfl (sI 0 (sl z q A) ((aE d f g l z q A)) az Tys31 rfl rfl (fun aT ad=>(wt (wp_region_lit (m1 (sl u c x) (lN 0 (vE d f g l z q A) ad Tya33 Tys33 (bsl (e:=33) (cells:=(aE d f g l z q A)) (vs:=[(0,.agg (aE d f g l z q A))]) ad rfl (buildSl_one Tye31 Tys33 Tyz33 rfl (by decide) (by decide) rfl) (fun aU aA=>?_))))))));obtain ⟨ae,h⟩:=of_guard h;refine apR (R:=(RDExpr V)) (p:=(DExpr.mk d f g l q)) (i:=2) (j:=0) aA rfl rfl Tye31 Tyi33 rfl (by decide) rfl rfl (ac.mono (fun _ _ h=>RDExpr.mono W.sub h)) (RDExpr.intro au ay) rfl rfl (Nat.le_refl _) ae (by decide) (fun X Y af aB aG aH=>?_);have aI:=p12 aG;exact m2 (.slice X (c ++ [(DExpr.mk d f g l q)]).length Y) (wpList_nil (blkN (thenN (wp_region_lit (m1 (iI (m:Int)) (bar (r:=((m + 1:Nat):Int)) rfl rfl (inc_ok (le_big (((me Z N)).len) (by decide) (drop_cons_lt y))) (m2 (iI ((m + 1:Nat):Int)) (wt (⟨_,Nat.lt_succ_self _,_,V,t,m + 1,(c ++ [(DExpr.mk d f g l q)]),X,Y,af,rfl,fR,(N.trans W.sub),(aI.sel [1]),drop_cons_next y,aH,(app_bound ae),h⟩)))))))))
theorem fam44_ok (k0:Nat) : ∀ k,f44_spec (fam44 k0 k).f44:=by
 intro k;induction k with
 | zero=>exact (by unfold f44_spec; intro _ _ _ _ _ _ h_; cases h_)
 | succ k ih=>exact f44_b_ok k0 (fam44 k0 k) ih
theorem f44_ok (k:Nat):f44_spec (f44 k):=(fam44_ok k k)
theorem f25_b_ok (k:Nat) (F:Fam25) (IH25:f25_spec F.f25):f25_spec (f25_b k F):=by
 unfold f25_spec;intro K wi ai aU aV cN h hG bo bD;obtain ⟨r_,hr_,h⟩:=rz h;refine enter Tryz.func25 rfl (n:=66) rfl ?_;unfold f25_b at h;refine sr (m2 nS (wt (sr (m2 nS (wt (wp_seq (sr (m2 (iI 0) (wt (wp_block ?_))))))))));have bE:=bD.row_ (zz wi) 37 11;refine wp_loopG (fun g_ a w=>∃ bp a4 aq,∃ (D:Nat),∃ d W X ay,g_=aq.length∧a=fr 66 (updL bp [(0,sl aU ai aV),(3,sl W d X),(4,iI (D:Int))])∧KH.sub K a4∧SR K a4 wi w [] [eW (zz wi) W d X 37 11 ay]∧ai.drop D=aq∧Reps (RDStmt a4) 11 d ay∧d.length * 184 ≤ mB∧f25_l1 k F aq D d=some r_) ai.length ?_ ?_
 ·exact ⟨_,K,ai,0,([]:LS),none,0,[],rfl,fR,kr,bE,List.drop_zero,(reps0 (R:=(RDStmt K)) (size:=11)),(by simp),h⟩
 ·rintro _ _ aG ⟨bp,a4,aq,D,d,W,X,ay,rfl,rfl,am,a9,aH,bq,bF,h⟩;rcases aq with _ | ⟨⟨f,g,l,m,q,s,aW,aI,ar,an,u⟩,aq⟩
  ·unfold f25_l1 at h;refine wp_seq (sr (m1 (iI (D:Int)) (m1 (sl aU ai aV) (lS ai.length Tye34 (bcm (r:=false) rfl rfl (congrArg some (drop_nil_lt aH)) (wt (cndF rfl (wp_exit (thenX (thenX (blkX (thenN (sr (m1 (sl W d X) (m2 (sl W d X) (wt (wp_ret ?_)))))))))))))))));obtain ⟨bG,bH,cO,bI⟩:=shutI (i:=0) (bytes:=184) (R:=fun K=>(RDStmt K)) a9 rfl (Nat.le_refl _) bq bF (fun hs=>(fun _ _ h=>RDStmt.mono hs h));cases (oi h).trans hr_;exact retA1 rfl (resT rfl) ⟨bG,W,X,rfl,bH,bI⟩
  ·unfold f25_l1 at h;refine wp_seq (sr (m1 (iI (D:Int)) (m1 (sl aU ai aV) (lS ai.length Tye34 (bcm (r:=true) rfl rfl (congrArg some (drop_cons_t aH)) (wt (cndT rfl (wp_skip (thenN (wp_seq (wp_block (sr (m1 (sl aU ai aV) (m1 (iI (D:Int)) ?_))))))))))))));obtain ⟨bJ,bK,cP,bL,cQ,bM,bN⟩:=((ms bo am)).row.at_ (drop_cons_at aH);obtain ⟨aX,aY,aJ,aK,au,av,ao,ap,G,I,rfl,bO,bP,bQ,bR,bS,bT,br⟩:=RDStmt.open bN;refine idxN (b:=bJ) (o:=bK) (i:=D) Tye34 Tys37 rfl bL rfl (drop_cons_lt aH) (lD (vS f g l m q s aX aW aY aJ aI aK au ar av ao an ap G u I) Tya37 Tys37 rfl (fun j v hj=>a9.cell (kr.cell (bM j v hj))) (aC zS.toArray a9 Tyz37 (fun cR bU=>(sI 0 (.agg (aS f g l m q s aX aW aY aJ aI aK au ar av ao an ap G u I)) ((aS f g l m q s aX aW aY aJ aI aK au ar av ao an ap G u I)) bU Tys37 rfl rfl (fun cS ba=>(wt (sr (fd 6 Tyf37_6 rfl (l1 0 (sl aX aW aY) ba Tya31 ?_)))))))));obtain ⟨t,bV,h⟩:=ob h;refine cv ([sl aX aW aY]) Tyb44 ((f44_ok k) bV (hG.mono am) bQ (pt ba)) ?_;rintro _ cU ⟨cV,J,N,rfl,O,bW⟩;have bX:=ca O ba;refine fd 6 Tyf37_6 rfl (sI 0 (sl J t N) ((aS f g l m q s J t N aJ aI aK au ar av ao an ap G u I)) bX Tys31 rfl rfl (fun cW bb=>(wt (sr (fd 7 Tyf37_7 rfl (l1 0 (sl aJ aI aK) bb Tya34 ?_))))));obtain ⟨x,bY,h⟩:=ob h;refine cv ([sl aJ aI aK]) Tyb25 (IH25 bY (hG.mono (am.trans O.sub)) (ms bR O.sub) (pt bb)) ?_;rintro _ cX ⟨bZ,S,U,rfl,Y,b0⟩;have b1:=ca Y bb;refine fd 7 Tyf37_7 rfl (sI 0 (sl S x U) ((aS f g l m q s J t N S x U au ar av ao an ap G u I)) b1 Tys34 rfl rfl (fun b2 b3=>?_));have bd:=b3;refine wt (sr (fd 8 Tyf37_8 rfl (l1 0 (sl au ar av) bd Tya34 ?_)));obtain ⟨y,b4,h⟩:=ob h;refine cv ([sl au ar av]) Tyb25 (IH25 b4 (hG.mono ((am.trans O.sub).trans Y.sub)) (ms bS (O.sub.trans Y.sub)) (pt bd)) ?_;rintro _ cY ⟨cZ,ae,af,rfl,ag,b5⟩;have b6:=ca ag bd;refine fd 8 Tyf37_8 rfl (sI 0 (sl ae y af) ((aS f g l m q s J t N S x U ae y af ao an ap G u I)) b6 Tys34 rfl rfl (fun c2 be=>(wt (sr (fd 9 Tyf37_9 rfl (l1 0 (sl ao an ap) be Tya34 ?_))))));obtain ⟨z,b7,h⟩:=ob h;refine cv ([sl ao an ap]) Tyb25 (IH25 b7 (hG.mono (((am.trans O.sub).trans Y.sub).trans ag.sub)) (ms bT ((O.sub.trans Y.sub).trans ag.sub)) (pt be)) ?_;rintro _ c3 ⟨bf,aj,ak,rfl,al,b8⟩;have b9:=ca al be;refine fd 9 Tyf37_9 rfl (sI 0 (sl aj z ak) ((aS f g l m q s J t N S x U ae y af aj z ak G u I)) b9 Tys34 rfl rfl (fun c4 cb=>(wt (sr (m2 nS (wt (wp_seq (sr (m2 (iI 0) (wt (wp_block ?_)))))))))));have cc:=cb.row_ (zz wi) 74 5;refine wp_loopG (fun g_ a w=>∃ bs a5 az,∃ (Z:Nat),∃ c ab ac a6,g_=az.length∧a=fr 66 (updL bs [(0,sl aU ai aV),(3,sl W d X),(4,iI (D:Int)),(5,pp (zz aG) 0),(6,sl ab c ac),(7,iI (Z:Int))])∧KH.sub bf a5∧SR K a5 wi w [] [.box (zz wi) (zz aG) (aS f g l m q s J t N S x U ae y af aj z ak G u I) 37,eW (zz wi) W d X 37 11 ay,eW (zz wi) ab c ac 74 5 a6]∧u.drop Z=az∧Reps (RDCase a5) 5 c a6∧c.length * 80 ≤ mB∧f25_l2 k F d D f g l m q s t x y z (f25_l1 k F aq) az Z c=some r_) u.length ?_ ?_
   ·exact ⟨_,bf,u,0,([]:LC),none,0,[],rfl,fR,kr,(cc.sel [1,2,0]),List.drop_zero,(reps0 (R:=(RDCase bf)) (size:=5)),(by simp),h⟩
   ·rintro _ _ bu ⟨bs,a5,az,Z,c,ab,ac,a6,rfl,rfl,ah,aL,aM,bv,ce,h⟩;rcases az with _ | ⟨⟨A,B,C,aZ,aN⟩,az⟩
    ·unfold f25_l2 at h;refine wp_seq (sr (m1 (iI (Z:Int)) (fd 10 Tyf37_10 rfl (l1 0 (sl G u I) aL Tya35 (lS u.length Tye35 (bcm (r:=false) rfl rfl (congrArg some (drop_nil_lt aM)) (wt (cndF rfl (wp_exit (thenX (thenX (blkX (thenN (sr (m1 (sl ab c ac) (fd 10 Tyf37_10 rfl (sI 0 (sl ab c ac) ((aS f g l m q s J t N S x U ae y af aj z ak ab c ac)) aL Tys35 rfl rfl (fun c5 bw=>(wt (wp_region_lit (m1 (sl W d X) (lN 0 (vS f g l m q s J t N S x U ae y af aj z ak ab c ac) bw Tya37 Tys37 (bsl (e:=37) (cells:=(aS f g l m q s J t N S x U ae y af aj z ak ab c ac)) (vs:=[(0,.agg (aS f g l m q s J t N S x U ae y af aj z ak ab c ac))]) bw rfl (buildSl_one Tye34 Tys37 Tyz37 rfl (by decide) (by decide) rfl) (fun c6 cf=>?_))))))))))))))))))))))));obtain ⟨bg,ch,aP,ci⟩:=shutI (i:=3) (bytes:=80) (R:=fun K=>(RDCase K)) cf rfl (Nat.le_refl _) bv ce (fun hs=>(fun _ _ h=>RDCase.mono hs h));obtain ⟨bx,h⟩:=of_guard h;refine apR (R:=(RDStmt bg)) (p:=(DStmt.mk f g l m q s t x y z c)) (i:=2) (j:=0) ch rfl rfl Tye34 Tyi37 rfl (by decide) rfl rfl (bq.mono (fun _ _ h=>RDStmt.mono (((((O.sub.trans Y.sub).trans ag.sub).trans al.sub).trans ah).trans aP) h)) (RDStmt.intro bO bP (me bW ((((Y.sub.trans ag.sub).trans al.sub).trans ah).trans aP)) (ms b0 (((ag.sub.trans al.sub).trans ah).trans aP)) (ms b5 ((al.sub.trans ah).trans aP)) (ms b8 (ah.trans aP)) ci) rfl rfl (Nat.le_refl _) bx (by decide) (fun bh bi bz cj ck cl=>?_);have cm:=p12 ck;exact m2 (.slice bh (d ++ [(DStmt.mk f g l m q s t x y z c)]).length bi) (wpList_nil (blkN (thenN (wp_region_lit (m1 (iI (D:Int)) (bar (r:=((D + 1:Nat):Int)) rfl rfl (inc_ok (le_big (((ms bo am)).len) (by decide) (drop_cons_lt aH))) (m2 (iI ((D + 1:Nat):Int)) (wt (⟨_,Nat.lt_succ_self _,_,bg,aq,D + 1,(d ++ [(DStmt.mk f g l m q s t x y z c)]),bh,bi,bz,rfl,fR,((((((am.trans O.sub).trans Y.sub).trans ag.sub).trans al.sub).trans ah).trans aP),(cm.sel [1]),drop_cons_next aH,cl,(app_bound bx),h⟩)))))))))
    ·unfold f25_l2 at h;refine wp_seq (sr (m1 (iI (Z:Int)) (fd 10 Tyf37_10 rfl (l1 0 (sl G u I) aL Tya35 (lS u.length Tye35 (bcm (r:=true) rfl rfl (congrArg some (drop_cons_t aM)) (wt (cndT rfl (wp_skip (thenN (wp_seq (wp_block (sr (fd 10 Tyf37_10 rfl (l1 0 (sl G u I) aL Tya35 (m1 (iI (Z:Int)) ?_))))))))))))))));obtain ⟨cn,co,c7,cq,c8,cr,cs⟩:=((mc br ((((O.sub.trans Y.sub).trans ag.sub).trans al.sub).trans ah))).row.at_ (drop_cons_at aM);obtain ⟨a1,a2,aQ,aT,rfl,ct,cu,cw⟩:=RDCase.open cs;refine idxN (b:=cn) (o:=co) (i:=Z) Tye35 Tys74 rfl cq rfl (drop_cons_lt aM) (lD (vC A B C a1 aZ a2 aQ aN aT) Tya74 Tys74 rfl (fun j v hj=>aL.cell (kr.cell (cr j v hj))) (aC zC.toArray aL Tyz74 (fun c9 cx=>(sI 0 (.agg (aC' A B C a1 aZ a2 aQ aN aT)) ((aC' A B C a1 aZ a2 aQ aN aT)) cx Tys74 rfl rfl (fun da bj=>(wt (sr (fd 3 Tyf74_3 rfl (l1 0 (sl a1 aZ a2) bj Tya31 ?_)))))))));obtain ⟨V,cy,h⟩:=ob h;refine cv ([sl a1 aZ a2]) Tyb44 ((f44_ok k) cy (hG.mono (((((am.trans O.sub).trans Y.sub).trans ag.sub).trans al.sub).trans ah)) cu (pt bj)) ?_;rintro _ db ⟨dc,aw,ax,rfl,a3,cz⟩;have cA:=ca a3 bj;refine fd 3 Tyf74_3 rfl (sI 0 (sl aw V ax) ((aC' A B C aw V ax aQ aN aT)) cA Tys31 rfl rfl (fun dd bk=>(wt (sr (fd 4 Tyf74_4 rfl (l1 0 (sl aQ aN aT) bk Tya34 ?_))))));obtain ⟨ad,cB,h⟩:=ob h;refine cv ([sl aQ aN aT]) Tyb25 (IH25 cB (hG.mono ((((((am.trans O.sub).trans Y.sub).trans ag.sub).trans al.sub).trans ah).trans a3.sub)) (ms cw a3.sub) (pt bk)) ?_;rintro _ de ⟨a7,aA,aB,rfl,a8,cC⟩;have cD:=ca a8 bk;refine fd 4 Tyf74_4 rfl (sI 0 (sl aA ad aB) ((aC' A B C aw V ax aA ad aB)) cD Tys34 rfl rfl (fun cG cH=>?_));have bA:=cH;refine wt (wp_region_lit (m1 (sl ab c ac) (lN 0 (vC A B C aw V ax aA ad aB) bA Tya74 Tys74 (bsl (e:=74) (cells:=(aC' A B C aw V ax aA ad aB)) (vs:=[(0,.agg (aC' A B C aw V ax aA ad aB))]) bA rfl (buildSl_one Tye35 Tys74 Tyz74 rfl (by decide) (by decide) rfl) (fun df cI=>?_)))));obtain ⟨bB,h⟩:=of_guard h;refine apR (R:=(RDCase a7)) (p:=(DCase.mk A B C V ad)) (i:=4) (j:=0) cI rfl rfl Tye35 Tyi74 rfl (by decide) rfl rfl (bv.mono (fun _ _ h=>RDCase.mono (a3.sub.trans a8.sub) h)) (RDCase.intro ct (me cz a8.sub) cC) rfl rfl (Nat.le_refl _) bB (by decide) (fun bm bn bC cJ cK cL=>?_);have cM:=p1234 cK;exact m2 (.slice bm (c ++ [(DCase.mk A B C V ad)]).length bn) (wpList_nil (blkN (thenN (wp_region_lit (m1 (iI (Z:Int)) (bar (r:=((Z + 1:Nat):Int)) rfl rfl (inc_ok (le_big (((mc br ((((O.sub.trans Y.sub).trans ag.sub).trans al.sub).trans ah))).len) (by decide) (drop_cons_lt aM))) (m2 (iI ((Z + 1:Nat):Int)) (wt (⟨_,Nat.lt_succ_self _,_,a7,az,Z + 1,(c ++ [(DCase.mk A B C V ad)]),bm,bn,bC,rfl,fR,((ah.trans a3.sub).trans a8.sub),(cM.sel [1,2,3]),drop_cons_next aM,cL,(app_bound bB),h⟩)))))))))
theorem fam25_ok (k0:Nat) : ∀ k,f25_spec (fam25 k0 k).f25:=by
 intro k;induction k with
 | zero=>exact (by unfold f25_spec; intro _ _ _ _ _ _ h_; cases h_)
 | succ k ih=>exact f25_b_ok k0 (fam25 k0 k) ih
theorem f25_ok (k:Nat):f25_spec (f25 k):=(fam25_ok k k)
theorem f14_b_ok (k:Nat):f14_spec (f14_b k):=by
 unfold f14_spec;intro K wi au be av h hG aw ax;obtain ⟨r_,hr_⟩ : ∃ r_:DProgram,r_=(DProgram.mk av):=⟨_,rfl⟩;rw [← hr_] at h;obtain ⟨x⟩:=au;obtain ⟨B,c1,rfl,aj⟩:=RDProgram.open aw;refine enter Tryz.func14 rfl (n:=37) rfl ?_;unfold f14_b at h;refine wp_seq ?_;refine wp_region_lit ?_;refine bxoC (cs:=#[sl B x c1]) ax rfl rfl ?_;intro W ay;refine alcC (cs:=#[nS]) ay Tyz24 rfl ?_;intro X az;refine wpList_nil ?_;refine thenN ?_;refine wp_seq ?_;refine wp_region_lit ?_;refine alcC (cs:=#[nS]) az Tyz24 rfl ?_;intro bf aA;refine wpList_nil ?_;refine thenN ?_;refine wp_seq ?_;refine wp_seq ?_;refine wp_region_lit ?_;refine asg (v:=iI 0) rfl ?_;refine wpList_nil ?_;refine thenN ?_;refine wp_block ?_;have aB:=aA.row_ (zz wi) 42 6;refine wp_loopG (fun g_ a w=>∃ (ak:Nat→Value) (J:KH) (C:LF) (y:Nat) (c:LF) (s:OA) (t:Nat) (V:List Value),g_=C.length∧a=fr 37 (updL ak [(1,pp (zz wi) 0),(2,pp (zz W) 0),(3,pp (zz X) 0),(4,iI (y:Int))])∧KH.sub K J∧SR K J wi w [] [.box (zz wi) (zz wi) #[sl B x c1] 24,.box (zz wi) (zz W) #[nS] 24,.box (zz wi) (zz X) #[sl s c t] 24,eW (zz wi) s c t 42 6 V]∧x.drop y=C∧Reps (RDFunc J) 6 c V∧c.length * 88 ≤ mB∧f14_l1 k C y c=some r_) x.length ?_ ?_
 ·exact ⟨_,K,x,0,([]:LF),none,0,[],rfl,fR,kr,(aB.sel [3,2,1,0]),List.drop_zero,(reps0 (R:=(RDFunc K)) (size:=6)),(by simp),h⟩
 ·rintro _ _ al ⟨ak,J,C,y,c,s,t,V,rfl,rfl,Y,D,N,am,aG,h⟩;rcases C with _ | ⟨⟨f,d,g,m,q,O⟩,C⟩
  ·unfold f14_l1 at h;refine wp_seq ?_;refine wp_seq ?_;refine wp_region_lit ?_;refine mv (v:=iI (y:Int)) rfl ?_;refine fld (o':=0) Tyf24_0 rfl rfl ?_;refine lb1 (i:=0) (v:=sl B x c1) D rfl Tya22 rfl rfl ?_;refine lnS (len:=x.length) Tye22 rfl ?_;refine bcm (r:=false) rfl rfl (congrArg some (drop_nil_lt N)) ?_;refine wpList_nil ?_;refine thenN ?_;refine cndF rfl ?_;refine wp_exit ?_;refine thenX ?_;refine thenX ?_;refine blkX ?_;refine thenN ?_;refine wp_seq ?_;refine wp_region_lit ?_;refine lbN (i:=2) (l:=[sl s c t]) D rfl Tya24 Tys24 rfl rfl rfl ?_;refine stoI (i:=1) (v:=.agg #[sl s c t]) (cs':=#[sl s c t]) D rfl Tys24 rfl rfl rfl rfl (Nat.le_of_ble_eq_true rfl) rfl ?_;intro bg an;refine wpList_nil ?_;refine thenN ?_;refine wp_ret ?_;have e_:=(Option.some.inj h).trans hr_;have aH:=DProgram.mk.inj e_;subst aH;exact retA1 rfl (resN (i:=1) (l:=[sl s c t]) an rfl Tya24 Tys24 rfl rfl rfl) ⟨J,s,t,V,rfl,(an.sel [3]),am,aG⟩
  ·unfold f14_l1 at h;refine wp_seq ?_;refine wp_seq ?_;refine wp_region_lit ?_;refine mv (v:=iI (y:Int)) rfl ?_;refine fld (o':=0) Tyf24_0 rfl rfl ?_;refine lb1 (i:=0) (v:=sl B x c1) D rfl Tya22 rfl rfl ?_;refine lnS (len:=x.length) Tye22 rfl ?_;refine bcm (r:=true) rfl rfl (congrArg some (drop_cons_t N)) ?_;refine wpList_nil ?_;refine thenN ?_;refine cndT rfl ?_;refine wp_skip ?_;refine thenN ?_;refine wp_seq ?_;refine wp_block ?_;refine wp_seq ?_;refine wp_region_lit ?_;refine fld (o':=0) Tyf24_0 rfl rfl ?_;refine lb1 (i:=0) (v:=sl B x c1) D rfl Tya22 rfl rfl ?_;refine mv (v:=iI (y:Int)) rfl ?_;obtain ⟨aI,aJ,bh,aK,bi,aL,aM⟩:=((mf aj Y)).row.at_ (drop_cons_at N);obtain ⟨Z,ab,S,U,rfl,aN,aP,aQ⟩:=RDFunc.open aM;refine idxN (b:=aI) (o:=aJ) (i:=y) Tye22 Tys42 rfl aK rfl (drop_cons_lt N) ?_;refine ldN (cs:=(vF f Z d ab g m q S O U)) Tya42 Tys42 rfl rfl (fun j v hj=>D.cell (kr.cell (aL j v hj))) ?_;refine alcC (cs:=zF.toArray) D Tyz42 rfl ?_;intro bj aT;refine stoI (i:=0) (v:=.agg (aF f Z d ab g m q S O U)) (cs':=(aF f Z d ab g m q S O U)) aT rfl Tys42 rfl rfl rfl rfl (Nat.le_of_ble_eq_true rfl) rfl ?_;intro bk ao;refine wpList_nil ?_;refine thenN ?_;refine wp_seq ?_;refine wp_region_lit ?_;refine asg (v:=nS) rfl ?_;refine wpList_nil ?_;refine thenN ?_;refine wp_seq ?_;refine wp_region_lit ?_;refine mv (v:=nS) rfl ?_;refine fld (o':=1) Tyf42_1 rfl rfl ?_;refine lb1 (i:=0) (v:=sl Z d ab) ao rfl Tya40 rfl rfl ?_;have aU:=ao.row_ (zz wi) 45 2;obtain ⟨ap,h⟩:=of_guard h;refine apS (R:=fun K=>(RDParam K)) (zs:=d) (i:=0) aU rfl Tye40 Tyi45 rfl (by decide) rfl rfl (reps0 (R:=(RDParam J)) (size:=2)) aP (fun _ _ h=>RDParam.one h) (Nat.le_refl _) ap (by decide) ?_;intro z A aV bm aW aX;refine fld (o':=1) Tyf42_1 rfl rfl ?_;refine stoI (i:=1) (v:=.slice z (([]:LP) ++ d).length A) (cs':=(aF f z (([]:LP) ++ d) A g m q S O U)) aW rfl Tys40 rfl rfl rfl rfl (Nat.le_of_ble_eq_true rfl) rfl ?_;intro bn af;refine wpList_nil ?_;refine thenN ?_;refine wp_seq ?_;refine wp_region_lit ?_;refine fld (o':=5) Tyf42_5 rfl rfl ?_;refine lb1 (i:=1) (v:=sl S O U) af rfl Tya34 rfl rfl ?_;obtain ⟨u,aY,h⟩:=ob h;refine clV (caps:=#[]) (vs:=[sl S O U]) rfl Tyb25 rfl ((f25_ok k) aY (hG.mono Y) aQ (pt af)) ?_;rintro _ bo ⟨aZ,G,I,rfl,ac,a1⟩;have a2:=ca ac af;refine fld (o':=5) Tyf42_5 rfl rfl ?_;refine stoI (i:=1) (v:=sl G u I) (cs':=(aF f z (([]:LP) ++ d) A g m q G u I)) a2 rfl Tys34 rfl rfl rfl rfl (Nat.le_of_ble_eq_true rfl) rfl ?_;intro a3 a4;have ag:=a4;refine wpList_nil ?_;refine thenN ?_;refine wp_seq ?_;refine wp_region_lit ?_;refine fld (o':=0) Tyf24_0 rfl rfl ?_;refine lb1 (i:=4) (v:=sl s c t) ag rfl Tya22 rfl rfl ?_;refine asg (v:=sl s c t) rfl ?_;refine wpList_nil ?_;refine thenN ?_;refine wp_region_lit ?_;refine mv (v:=sl s c t) rfl ?_;refine lbN (i:=1) (l:=(vF f z (([]:LP) ++ d) A g m q G u I)) ag rfl Tya42 Tys42 rfl rfl rfl ?_;refine bsl (e:=42) (cells:=(aF f z (([]:LP) ++ d) A g m q G u I)) (vs:=[(0,.agg (aF f z (([]:LP) ++ d) A g m q G u I))]) ag rfl (buildSl_one Tye22 Tys42 Tyz42 rfl (by decide) (by decide) rfl) ?_;intro bp a5;obtain ⟨ah,a6,ai,a7⟩:=shutI (i:=1) (bytes:=24) (R:=fun K=>(RDParam K)) a5 rfl (Nat.le_refl _) (aX.mono (fun _ _ h=>RDParam.mono ac.sub h)) (apps_bound ap) (fun hs=>(fun _ _ h=>RDParam.mono hs h));obtain ⟨aq,h⟩:=of_guard h;refine apR (R:=(RDFunc ah)) (p:=(DFunc.mk f (([]:LP) ++ d) g m q u)) (i:=5) (j:=0) a6 rfl rfl Tye22 Tyi42 rfl (by decide) rfl rfl (am.mono (fun _ _ h=>RDFunc.mono (ac.sub.trans ai) h)) (RDFunc.intro aN a7 (ms a1 ai)) rfl rfl (Nat.le_refl _) aq (by decide) ?_;intro ad ae ar a8 a9 ba;have bb:=p12345 a9;refine fld (o':=0) Tyf24_0 rfl rfl ?_;refine stoI (i:=3) (v:=.slice ad (c ++ [(DFunc.mk f (([]:LP) ++ d) g m q u)]).length ae) (cs':=#[.slice ad (c ++ [(DFunc.mk f (([]:LP) ++ d) g m q u)]).length ae]) bb rfl Tys22 rfl rfl rfl rfl (Nat.le_of_ble_eq_true rfl) rfl ?_;intro bq bd;refine wpList_nil ?_;refine blkN ?_;refine thenN ?_;refine wp_region_lit ?_;refine mv (v:=iI (y:Int)) rfl ?_;refine bar (r:=((y + 1:Nat):Int)) rfl rfl (inc_ok (le_big (((mf aj Y)).len) (by decide) (drop_cons_lt N))) ?_;refine asg (v:=iI ((y + 1:Nat):Int)) rfl ?_;refine wpList_nil ?_;refine thenN ?_;exact ⟨_,Nat.lt_succ_self _,_,ah,C,y + 1,(c ++ [(DFunc.mk f (([]:LP) ++ d) g m q u)]),ad,ae,ar,rfl,fR,((Y.trans ac.sub).trans ai),(bd.sel [1,2,3,4]),drop_cons_next N,ba,(app_bound aq),h⟩
theorem f14_ok (k:Nat):f14_spec (f14 k):=f14_b_ok k
theorem f37_b_ok (k:Nat) (F:Fam37) (IH37:f37_spec F.f37):f37_spec (f37_b k F):=by
 unfold f37_spec;intro K wi q D G aM h hG Z ah;obtain ⟨r_,hr_,h⟩:=rz h;refine enter Tryz.func37 rfl (n:=26) rfl ?_;unfold f37_b at h;refine sr (m2 nS (wt (sr (m2 nS (wt (wp_seq (sr (m2 (iI 0) (wt (wp_block ?_))))))))));have ai:=ah.row_ (zz wi) 33 5;refine wp_loopG (fun g_ a w=>∃ ab I u,∃ (l:Nat),∃ c s t J,g_=u.length∧a=fr 26 (updL ab [(0,sl D q G),(3,sl s c t),(4,iI (l:Int))])∧KH.sub K I∧SR K I wi w [] [eW (zz wi) s c t 33 5 J]∧q.drop l=u∧Reps (RDExpr I) 5 c J∧c.length * 64 ≤ mB∧f37_l1 k F u l c=some r_) q.length ?_ ?_
 ·exact ⟨_,K,q,0,([]:LE),none,0,[],rfl,fR,kr,ai,List.drop_zero,(reps0 (R:=(RDExpr K)) (size:=5)),(by simp),h⟩
 ·rintro _ _ ac ⟨ab,I,u,l,c,s,t,J,rfl,rfl,N,S,z,ad,aj,h⟩;rcases u with _ | ⟨⟨d,f,g,U,A⟩,u⟩
  ·unfold f37_l1 at h;refine wp_seq (sr (m1 (iI (l:Int)) (m1 (sl D q G) (lS q.length Tye31 (bcm (r:=false) rfl rfl (congrArg some (drop_nil_lt z)) (wt (cndF rfl (wp_exit (thenX (thenX (blkX (thenN (sr (m1 (sl s c t) (m2 (sl s c t) (wt (wp_ret ?_)))))))))))))))));obtain ⟨ak,al,aN,am⟩:=shutI (i:=0) (bytes:=64) (R:=fun K=>(RDExpr K)) S rfl (Nat.le_refl _) ad aj (fun hs=>(fun _ _ h=>RDExpr.mono hs h));cases (oi h).trans hr_;exact retA1 rfl (resT rfl) ⟨ak,s,t,rfl,al,am⟩
  ·unfold f37_l1 at h;refine wp_seq (sr (m1 (iI (l:Int)) (m1 (sl D q G) (lS q.length Tye31 (bcm (r:=true) rfl rfl (congrArg some (drop_cons_t z)) (wt (cndT rfl (wp_skip (thenN (wp_seq (wp_block (sr (m1 (sl D q G) (m1 (iI (l:Int)) ?_))))))))))))));obtain ⟨an,ao,aP,ap,aQ,aq,ar⟩:=((me Z N)).row.at_ (drop_cons_at z);obtain ⟨B,C,rfl,au,av⟩:=RDExpr.open ar;refine idxN (b:=an) (o:=ao) (i:=l) Tye31 Tys33 rfl ap rfl (drop_cons_lt z) (lD (vE d f g U B A C) Tya33 Tys33 rfl (fun j v hj=>S.cell (kr.cell (aq j v hj))) (aC zE.toArray S Tyz33 (fun aT aw=>(sI 0 (.agg (aE d f g U B A C)) ((aE d f g U B A C)) aw Tys33 rfl rfl (fun aU ax=>(wt (sr (fd 3 Tyf33_3 rfl (sI 0 (iI 0) ((aE d f g 0 B A C)) ax Tys3 rfl rfl (fun aV V=>(wt (sr (fd 4 Tyf33_4 rfl (l1 0 (sl B A C) V Tya31 ?_))))))))))))));obtain ⟨m,ay,h⟩:=ob h;refine cv ([sl B A C]) Tyb37 (IH37 ay (hG.mono N) av (pt V)) ?_;rintro _ aW ⟨O,x,y,rfl,W,az⟩;have aA:=ca W V;refine fd 4 Tyf33_4 rfl (sI 0 (sl x m y) ((aE d f g 0 x m y)) aA Tys31 rfl rfl (fun aB aG=>?_));have ae:=aG;refine wt (wp_region_lit (m1 (sl s c t) (lN 0 (vE d f g 0 x m y) ae Tya33 Tys33 (bsl (e:=33) (cells:=(aE d f g 0 x m y)) (vs:=[(0,.agg (aE d f g 0 x m y))]) ae rfl (buildSl_one Tye31 Tys33 Tyz33 rfl (by decide) (by decide) rfl) (fun aX aH=>?_)))));obtain ⟨af,h⟩:=of_guard h;refine apR (R:=(RDExpr O)) (p:=(DExpr.mk d f g 0 m)) (i:=2) (j:=0) aH rfl rfl Tye31 Tyi33 rfl (by decide) rfl rfl (ad.mono (fun _ _ h=>RDExpr.mono W.sub h)) (RDExpr.intro au az) rfl rfl (Nat.le_refl _) af (by decide) (fun X Y ag aI aJ aK=>?_);have aL:=p12 aJ;exact m2 (.slice X (c ++ [(DExpr.mk d f g 0 m)]).length Y) (wpList_nil (blkN (thenN (wp_region_lit (m1 (iI (l:Int)) (bar (r:=((l + 1:Nat):Int)) rfl rfl (inc_ok (le_big (((me Z N)).len) (by decide) (drop_cons_lt z))) (m2 (iI ((l + 1:Nat):Int)) (wt (⟨_,Nat.lt_succ_self _,_,O,u,l + 1,(c ++ [(DExpr.mk d f g 0 m)]),X,Y,ag,rfl,fR,(N.trans W.sub),(aL.sel [1]),drop_cons_next z,aK,(app_bound af),h⟩)))))))))
theorem fam37_ok (k0:Nat) : ∀ k,f37_spec (fam37 k0 k).f37:=by
 intro k;induction k with
 | zero=>exact (by unfold f37_spec; intro _ _ _ _ _ _ h_; cases h_)
 | succ k ih=>exact f37_b_ok k0 (fam37 k0 k) ih
theorem f37_ok (k:Nat):f37_spec (f37 k):=(fam37_ok k k)
theorem f22_b_ok (k:Nat) (F:Fam22) (IH22:f22_spec F.f22):f22_spec (f22_b k F):=by
 unfold f22_spec;intro K wi aq aY aZ cV h hG bo bE;obtain ⟨r_,hr_,h⟩:=rz h;refine enter Tryz.func22 rfl (n:=69) rfl ?_;unfold f22_b at h;refine sr (m2 nS (wt (sr (m2 nS (wt (wp_seq (sr (m2 (iI 0) (wt (wp_block ?_))))))))));have bF:=bE.row_ (zz wi) 37 11;refine wp_loopG (fun g_ a w=>∃ bp a1 ax,∃ (I:Nat),∃ c J N av,g_=ax.length∧a=fr 69 (updL bp [(0,sl aY aq aZ),(3,sl J c N),(4,iI (I:Int))])∧KH.sub K a1∧SR K a1 wi w [] [eW (zz wi) J c N 37 11 av]∧aq.drop I=ax∧Reps (RDStmt a1) 11 c av∧c.length * 184 ≤ mB∧f22_l1 k F ax I c=some r_) aq.length ?_ ?_
 ·exact ⟨_,K,aq,0,([]:LS),none,0,[],rfl,fR,kr,bF,List.drop_zero,(reps0 (R:=(RDStmt K)) (size:=11)),(by simp),h⟩
 ·rintro _ _ O ⟨bp,a1,ax,I,c,J,N,av,rfl,rfl,aw,a9,aM,bq,bG,h⟩;rcases ax with _ | ⟨⟨d,f,ba,g,a3,l,ay,ak,ac,S,q⟩,ax⟩
  ·unfold f22_l1 at h;refine wp_seq (sr (m1 (iI (I:Int)) (m1 (sl aY aq aZ) (lS aq.length Tye34 (bcm (r:=false) rfl rfl (congrArg some (drop_nil_lt aM)) (wt (cndF rfl (wp_exit (thenX (thenX (blkX (thenN (sr (m1 (sl J c N) (m2 (sl J c N) (wt (wp_ret ?_)))))))))))))))));obtain ⟨bH,bI,cW,bJ⟩:=shutI (i:=0) (bytes:=184) (R:=fun K=>(RDStmt K)) a9 rfl (Nat.le_refl _) bq bG (fun hs=>(fun _ _ h=>RDStmt.mono hs h));cases (oi h).trans hr_;exact retA1 rfl (resT rfl) ⟨bH,J,N,rfl,bI,bJ⟩
  ·unfold f22_l1 at h;refine wp_seq (sr (m1 (iI (I:Int)) (m1 (sl aY aq aZ) (lS aq.length Tye34 (bcm (r:=true) rfl rfl (congrArg some (drop_cons_t aM)) (wt (cndT rfl (wp_skip (thenN (wp_seq (wp_block (sr (m1 (sl aY aq aZ) (m1 (iI (I:Int)) ?_))))))))))))));obtain ⟨bK,bL,cX,bM,cY,bN,bO⟩:=((ms bo aw)).row.at_ (drop_cons_at aM);obtain ⟨az,aA,al,am,ad,ae,U,V,u,x,rfl,bP,bQ,bR,bS,bT,bU,br⟩:=RDStmt.open bO;refine idxN (b:=bK) (o:=bL) (i:=I) Tye34 Tys37 rfl bM rfl (drop_cons_lt aM) (lD (vS d f ba g a3 l az ay aA al ak am ad ac ae U S V u q x) Tya37 Tys37 rfl (fun j v hj=>a9.cell (kr.cell (bN j v hj))) (aC zS.toArray a9 Tyz37 (fun cZ bV=>(sI 0 (.agg (aS d f ba g a3 l az ay aA al ak am ad ac ae U S V u q x)) ((aS d f ba g a3 l az ay aA al ak am ad ac ae U S V u q x)) bV Tys37 rfl rfl (fun c2 bW=>(wt (sr (fd 2 Tyf37_2 rfl (sI 0 (iI 0) ((aS d f 0 g a3 l az ay aA al ak am ad ac ae U S V u q x)) bW Tys3 rfl rfl (fun c3 bX=>(fd 4 Tyf37_4 rfl (sI 0 (iI 0) ((aS d f 0 g 0 l az ay aA al ak am ad ac ae U S V u q x)) bX Tys3 rfl rfl (fun bY bZ=>?_)))))))))))));have bb:=bZ;refine wt (sr (fd 6 Tyf37_6 rfl (l1 0 (sl az ay aA) bb Tya31 ?_)));obtain ⟨s,b0,h⟩:=ob h;refine cv ([sl az ay aA]) Tyb37 ((f37_ok k) b0 (hG.mono aw) bR (pt bb)) ?_;rintro _ c4 ⟨b1,D,G,rfl,W,b2⟩;have b3:=ca W bb;refine fd 6 Tyf37_6 rfl (sI 0 (sl D s G) ((aS d f 0 g 0 l D s G al ak am ad ac ae U S V u q x)) b3 Tys31 rfl rfl (fun c5 b4=>(wt (wp_seq (rA [10,12,14] [0,1] b4 (fun aB q0=>kF 0 7 rfl Tyf37_7 rfl q0 (tL 1 (sl al ak am) [[10,1],[12,1],[14,1]] 0 rfl Tya34 q0 (kF 3 8 rfl Tyf37_8 rfl q0 (tL 4 (sl ad ac ae) [[10,4],[12,4],[14,4]] 0 rfl Tya34 q0 (kF 6 9 rfl Tyf37_9 rfl q0 (tL 7 (sl U S V) [[10,7],[12,7],[14,7]] 0 rfl Tya34 q0 (aO 2 rfl ?_))))))))))));obtain ⟨t,b5,h⟩:=ob h;refine cv ([sl al ak am]) Tyb22 (IH22 b5 (hG.mono (aw.trans W.sub)) (ms bS W.sub) (pt aB)) ?_;rintro _ c6 ⟨c7,X,Y,rfl,z,b6⟩;have a4:=ca z aB;refine wb (fwOf (is:=[0,1]) a4 z.sub rfl) (fun q1=>kF 9 7 rfl Tyf37_7 rfl q1 (aO 5 rfl ?_));obtain ⟨y,b7,h⟩:=ob h;refine cv ([sl ad ac ae]) Tyb22 (IH22 b7 (hG.mono ((aw.trans W.sub).trans z.sub)) (ms bT (W.sub.trans z.sub)) (pt a4)) ?_;rintro _ c8 ⟨c9,af,ag,rfl,Z,b8⟩;have bd:=ca Z a4;refine wb (fwOf (is:=[0,1]) bd (z.sub.trans Z.sub) rfl) (fun _=>aO 8 rfl ?_);obtain ⟨A,b9,h⟩:=ob h;refine cv ([sl U S V]) Tyb22 (IH22 b9 (hG.mono (((aw.trans W.sub).trans z.sub).trans Z.sub)) (ms bU ((W.sub.trans z.sub).trans Z.sub)) (pt bd)) ?_;rintro _ da ⟨a5,ar,au,rfl,an,cb⟩;have bs:=ca an bd;refine wb (fwOf (is:=[0,1]) bs ((z.sub.trans Z.sub).trans an.sub) rfl) (fun _=>aO 10 rfl (sI 0 (sl X t Y) ((aS d f 0 g 0 l D s G X t Y ad ac ae U S V u q x)) bs Tys34 rfl rfl (fun db cc=>(wt ⟨hE 10,kH 11 (pp (zz O) 8) rfl (fun w=>fld_r (o':=8) Tyf37_8 rfl rfl) 10 (aO 12 rfl (sI 0 (sl af y ag) ((aS d f 0 g 0 l D s G X t Y af y ag U S V u q x)) cc Tys34 rfl rfl (fun ce cf=>?_)))⟩))));have ch:=cf;refine wt ⟨hE 12,kH 13 (pp (zz O) 9) rfl (fun w=>fld_r (o':=9) Tyf37_9 rfl rfl) 10 (aO 14 rfl (sI 0 (sl ar A au) ((aS d f 0 g 0 l D s G X t Y af y ag ar A au u q x)) ch Tys34 rfl rfl (fun dc ci=>(wt ⟨hE 14,aD (thenN (sr (m2 nS (wt (wp_seq (sr (m2 (iI 0) (wt (wp_block ?_)))))))))⟩))))⟩;have cj:=ci.row_ (zz wi) 74 5;refine wp_loopG (fun g_ a w=>∃ bu a6 aL,∃ (ah:Nat),∃ m ai aj a7,g_=aL.length∧a=fr 69 (updL bu [(0,sl aY aq aZ),(3,sl J c N),(4,iI (I:Int)),(5,pp (zz O) 0),(6,sl ai m aj),(7,iI (ah:Int))])∧KH.sub a5 a6∧SR K a6 wi w [] [.box (zz wi) (zz O) (aS d f 0 g 0 l D s G X t Y af y ag ar A au u q x) 37,eW (zz wi) J c N 37 11 av,eW (zz wi) ai m aj 74 5 a7]∧q.drop ah=aL∧Reps (RDCase a6) 5 m a7∧m.length * 80 ≤ mB∧f22_l2 k F c I d f g l s t y A (f22_l1 k F ax) aL ah m=some r_) q.length ?_ ?_
   ·exact ⟨_,a5,q,0,([]:LC),none,0,[],rfl,fR,kr,(cj.sel [1,2,0]),List.drop_zero,(reps0 (R:=(RDCase a5)) (size:=5)),(by simp),h⟩
   ·rintro _ _ bv ⟨bu,a6,aL,ah,m,ai,aj,a7,rfl,rfl,ao,aN,aP,bw,ck,h⟩;rcases aL with _ | ⟨⟨B,C,be,aQ,aG⟩,aL⟩
    ·unfold f22_l2 at h;refine wp_seq (sr (m1 (iI (ah:Int)) (fd 10 Tyf37_10 rfl (l1 0 (sl u q x) aN Tya35 (lS q.length Tye35 (bcm (r:=false) rfl rfl (congrArg some (drop_nil_lt aP)) (wt (cndF rfl (wp_exit (thenX (thenX (blkX (thenN (sr (m1 (sl ai m aj) (fd 10 Tyf37_10 rfl (sI 0 (sl ai m aj) ((aS d f 0 g 0 l D s G X t Y af y ag ar A au ai m aj)) aN Tys35 rfl rfl (fun dd bx=>(wt (wp_region_lit (m1 (sl J c N) (lN 0 (vS d f 0 g 0 l D s G X t Y af y ag ar A au ai m aj) bx Tya37 Tys37 (bsl (e:=37) (cells:=(aS d f 0 g 0 l D s G X t Y af y ag ar A au ai m aj)) (vs:=[(0,.agg (aS d f 0 g 0 l D s G X t Y af y ag ar A au ai m aj))]) bx rfl (buildSl_one Tye34 Tys37 Tyz37 rfl (by decide) (by decide) rfl) (fun de cl=>?_))))))))))))))))))))))));obtain ⟨bf,cm,aT,cn⟩:=shutI (i:=3) (bytes:=80) (R:=fun K=>(RDCase K)) cl rfl (Nat.le_refl _) bw ck (fun hs=>(fun _ _ h=>RDCase.mono hs h));obtain ⟨bz,h⟩:=of_guard h;refine apR (R:=(RDStmt bf)) (p:=(DStmt.mk d f 0 g 0 l s t y A m)) (i:=2) (j:=0) cm rfl rfl Tye34 Tyi37 rfl (by decide) rfl rfl (bq.mono (fun _ _ h=>RDStmt.mono (((((W.sub.trans z.sub).trans Z.sub).trans an.sub).trans ao).trans aT) h)) (RDStmt.intro bP bQ (me b2 ((((z.sub.trans Z.sub).trans an.sub).trans ao).trans aT)) (ms b6 (((Z.sub.trans an.sub).trans ao).trans aT)) (ms b8 ((an.sub.trans ao).trans aT)) (ms cb (ao.trans aT)) cn) rfl rfl (Nat.le_refl _) bz (by decide) (fun bg bh bA co cq cr=>?_);have cs:=p12 cq;exact m2 (.slice bg (c ++ [(DStmt.mk d f 0 g 0 l s t y A m)]).length bh) (wpList_nil (blkN (thenN (wp_region_lit (m1 (iI (I:Int)) (bar (r:=((I + 1:Nat):Int)) rfl rfl (inc_ok (le_big (((ms bo aw)).len) (by decide) (drop_cons_lt aM))) (m2 (iI ((I + 1:Nat):Int)) (wt (⟨_,Nat.lt_succ_self _,_,bf,ax,I + 1,(c ++ [(DStmt.mk d f 0 g 0 l s t y A m)]),bg,bh,bA,rfl,fR,((((((aw.trans W.sub).trans z.sub).trans Z.sub).trans an.sub).trans ao).trans aT),(cs.sel [1]),drop_cons_next aM,cr,(app_bound bz),h⟩)))))))))
    ·unfold f22_l2 at h;refine wp_seq (sr (m1 (iI (ah:Int)) (fd 10 Tyf37_10 rfl (l1 0 (sl u q x) aN Tya35 (lS q.length Tye35 (bcm (r:=true) rfl rfl (congrArg some (drop_cons_t aP)) (wt (cndT rfl (wp_skip (thenN (wp_seq (wp_block (sr (fd 10 Tyf37_10 rfl (l1 0 (sl u q x) aN Tya35 (m1 (iI (ah:Int)) ?_))))))))))))))));obtain ⟨ct,cu,df,cw,dg,cx,cy⟩:=((mc br ((((W.sub.trans z.sub).trans Z.sub).trans an.sub).trans ao))).row.at_ (drop_cons_at aP);obtain ⟨aU,aV,aH,aI,rfl,cz,cA,cB⟩:=RDCase.open cy;refine idxN (b:=ct) (o:=cu) (i:=ah) Tye35 Tys74 rfl cw rfl (drop_cons_lt aP) (lD (vC B C be aU aQ aV aH aG aI) Tya74 Tys74 rfl (fun j v hj=>aN.cell (kr.cell (cx j v hj))) (aC zC.toArray aN Tyz74 (fun dh cC=>(sI 0 (.agg (aC' B C be aU aQ aV aH aG aI)) ((aC' B C be aU aQ aV aH aG aI)) cC Tys74 rfl rfl (fun di cD=>(wt (sr (fd 2 Tyf74_2 rfl (sI 0 (iI 0) ((aC' B C 0 aU aQ aV aH aG aI)) cD Tys3 rfl rfl (fun dj bi=>(wt (sr (fd 3 Tyf74_3 rfl (l1 0 (sl aU aQ aV) bi Tya31 ?_))))))))))))));obtain ⟨ab,cG,h⟩:=ob h;refine cv ([sl aU aQ aV]) Tyb37 ((f37_ok k) cG (hG.mono (((((aw.trans W.sub).trans z.sub).trans Z.sub).trans an.sub).trans ao)) cA (pt bi)) ?_;rintro _ dk ⟨cH,aJ,aK,rfl,a2,cI⟩;have cJ:=ca a2 bi;refine fd 3 Tyf74_3 rfl (sI 0 (sl aJ ab aK) ((aC' B C 0 aJ ab aK aH aG aI)) cJ Tys31 rfl rfl (fun cK cL=>?_));have bj:=cL;refine wt (sr (fd 4 Tyf74_4 rfl (l1 0 (sl aH aG aI) bj Tya34 ?_)));obtain ⟨ap,cM,h⟩:=ob h;refine cv ([sl aH aG aI]) Tyb22 (IH22 cM (hG.mono ((((((aw.trans W.sub).trans z.sub).trans Z.sub).trans an.sub).trans ao).trans a2.sub)) (ms cB a2.sub) (pt bj)) ?_;rintro _ dl ⟨bk,aW,aX,rfl,a8,cN⟩;have cO:=ca a8 bj;refine fd 4 Tyf74_4 rfl (sI 0 (sl aW ap aX) ((aC' B C 0 aJ ab aK aW ap aX)) cO Tys34 rfl rfl (fun dm bB=>(wt (wp_region_lit (m1 (sl ai m aj) (lN 0 (vC B C 0 aJ ab aK aW ap aX) bB Tya74 Tys74 (bsl (e:=74) (cells:=(aC' B C 0 aJ ab aK aW ap aX)) (vs:=[(0,.agg (aC' B C 0 aJ ab aK aW ap aX))]) bB rfl (buildSl_one Tye35 Tys74 Tyz74 rfl (by decide) (by decide) rfl) (fun dn cP=>?_))))))));obtain ⟨bC,h⟩:=of_guard h;refine apR (R:=(RDCase bk)) (p:=(DCase.mk B C 0 ab ap)) (i:=4) (j:=0) cP rfl rfl Tye35 Tyi74 rfl (by decide) rfl rfl (bw.mono (fun _ _ h=>RDCase.mono (a2.sub.trans a8.sub) h)) (RDCase.intro cz (me cI a8.sub) cN) rfl rfl (Nat.le_refl _) bC (by decide) (fun bm bn bD cQ cR cS=>?_);have cU:=p1234 cR;exact m2 (.slice bm (m ++ [(DCase.mk B C 0 ab ap)]).length bn) (wpList_nil (blkN (thenN (wp_region_lit (m1 (iI (ah:Int)) (bar (r:=((ah + 1:Nat):Int)) rfl rfl (inc_ok (le_big (((mc br ((((W.sub.trans z.sub).trans Z.sub).trans an.sub).trans ao))).len) (by decide) (drop_cons_lt aP))) (m2 (iI ((ah + 1:Nat):Int)) (wt (⟨_,Nat.lt_succ_self _,_,bk,aL,ah + 1,(m ++ [(DCase.mk B C 0 ab ap)]),bm,bn,bD,rfl,fR,((ao.trans a2.sub).trans a8.sub),(cU.sel [1,2,3]),drop_cons_next aP,cS,(app_bound bC),h⟩)))))))))
theorem fam22_ok (k0:Nat) : ∀ k,f22_spec (fam22 k0 k).f22:=by
 intro k;induction k with
 | zero=>exact (by unfold f22_spec; intro _ _ _ _ _ _ h_; cases h_)
 | succ k ih=>exact f22_b_ok k0 (fam22 k0 k) ih
theorem f22_ok (k:Nat):f22_spec (f22 k):=(fam22_ok k k)
theorem f11_b_ok (k:Nat):f11_spec (f11_b k):=by
 unfold f11_spec;intro K wi ao ba bb h hG ap aq;obtain ⟨r_,hr_,h⟩:=rz h;obtain ⟨N⟩:=ao;obtain ⟨O,c1,rfl,ar⟩:=RDProgram.open ap;refine enter Tryz.func11 rfl (n:=32) rfl ?_;unfold f11_b at h;refine sr (bxoC (cs:=#[sl O N c1]) aq rfl rfl (fun G au=>(aC #[nS] au Tyz24 (fun bd I=>(wt (sr (lN 1 ([sl O N c1]) I Tya24 Tys24 ?_)))))));obtain ⟨⟨S⟩,av,h⟩:=ob h;refine cv ([.agg #[sl O N c1]]) Tyb14 ((f14_ok k) av (hG.mono kr) (RDProgram.intro ar) (pt I)) ?_;rintro _ x ⟨ae,U,V,aw,rfl,af,ax,ay⟩;have az:=ca af I;have aA:=az.lower_ (i:=0) rfl I.size;refine aC #[nS] aA Tyz24 (fun be aB=>(sI 0 (.agg #[sl U S V]) #[sl U S V] aB Tys24 rfl rfl (fun bf aG=>(wt (wp_seq (sr (m2 (iI 0) (wt (wp_block (wp_loopG (fun g_ a w=>∃ ag z d q s W c,a=fr 32 (updL ag [(2,pp (zz G) 0),(3,pp (zz x) 0),(4,iI c)])∧KH.sub ae z∧SR K z wi w [] [.box (zz wi) (zz G) #[nS] 24,.box (zz wi) (zz x) #[sl q d s] 24,eW (zz wi) q d s 42 6 W]∧Reps (RDFunc z) 6 d W∧d.length * 88 ≤ mB∧f11_w1 k g_ d c=some r_) k ?_ ?_))))))))))
 ·exact ⟨_,ae,S,U,V,aw,0,fR,kr,(aG.sel [2,0,1]),ax,ay,h⟩
 ·rintro g_ _ bg ⟨ag,z,d,q,s,W,c,rfl,ah,A,X,ai,h⟩;rcases g_ with _ | j720
  ·unfold f11_w1 at h;cases h
  ·unfold f11_w1 at h;refine wp_seq (sr (m1 (iI c) (fd 0 Tyf24_0 rfl (l1 1 (sl q d s) A Tya22 (lS d.length Tye22 (c0 (decide (c < (d.length:Int))) (wt (cd h (fun Y h=>?_) (fun Y h=>?_)))))))))
   ·refine cT Y (wp_skip (thenN (wp_seq (wp_block (sr (fd 0 Tyf24_0 rfl (l1 1 (sl q d s) A Tya22 (m1 (iI c) ?_))))))));obtain ⟨⟨e,f,g,j,aH,m⟩,u,h⟩:=ob h;obtain ⟨aI,bh,aj,bi,aJ,bj⟩:=row_at (A.entAt (i:=2) rfl) X (idxO_at u).1;obtain ⟨bk,bm,bn,bo,rfl,bp,bq,br⟩:=RDFunc.open aJ;refine idxG (b:=aI) (o:=0) (i:=c) Tye22 Tys42 rfl aj rfl (idxO_at u).2.1 (idxO_at u).2.2 (fd (0 + c.toNat * 6 + 4) Tyf42_4 rfl (stR (R:=(RDFunc z)) (i:=2) (off:=4) (p:=(DFunc.mk e f g j aH m)) (p':=(DFunc.mk e f g j 0 m)) (v:=iI 0) A rfl X (idxO_at u).1 Tys3 aj rfl rfl rfl rfl (by decide) (fun cs_ h_=>by obtain ⟨bs,bu,bv,bw,rfl,aK,aL,aM⟩:=RDFunc.open h_; exact RDFunc.intro aK aL aM) (fun ak aN aP al=>?_)));have aQ:SR K z wi aN [] [.box (zz wi) (zz G) #[nS] 24,.box (zz wi) (zz x) #[.slice q (d.set c.toNat (DFunc.mk e f g j 0 m)).length s] 24,.row (zz wi) (.slice q (d.set c.toNat (DFunc.mk e f g j 0 m)).length s) 42 6 (d.set c.toNat (DFunc.mk e f g j 0 m)).length ak]:=by simpa only [List.length_set,List.eraseIdx_zero,List.eraseIdx_cons_succ,List.tail_cons,List.set_cons_succ,List.set_cons_zero,List.nil_append,List.cons_append] using aP
    refine wt (rA [12] [0,1,2] aQ (fun t q0=>kF 0 0 rfl Tyf24_0 rfl q0 (tL 1 (.slice q (d.set c.toNat (DFunc.mk e f g j 0 m)).length s) [[12,1]] 1 rfl Tya22 q0 (kM 2 (iI c) rfl q0 (kF 3 0 rfl Tyf24_0 rfl q0 (tL 4 (.slice q (d.set c.toNat (DFunc.mk e f g j 0 m)).length s) [[12,4]] 1 rfl Tya22 q0 (kM 5 (iI c) rfl q0 ?_)))))));obtain ⟨B,bx,Z,bz,aT,aU⟩:=row_at (t.entAt (i:=2) rfl) al (idxO_at (idxO_set (y:=(DFunc.mk e f g j 0 m)) u)).1;obtain ⟨bA,bB,ab,ac,rfl,bC,bD,aV⟩:=RDFunc.open aT;refine kK 6 (pp B (0 + c.toNat * 6)) rfl (fun w=>idxG_r (b:=B) (o:=0) (i:=c) Tye22 Tys42 rfl Z rfl (idxO_at (idxO_set (y:=(DFunc.mk e f g j 0 m)) u)).2.1 (idxO_at (idxO_set (y:=(DFunc.mk e f g j 0 m)) u)).2.2) q0 (kK 7 (pp B (0 + c.toNat * 6 + 5)) rfl (fun w=>fld_r (o':=0 + c.toNat * 6 + 5) Tyf42_5 rfl rfl) q0 (tT 8 (sl ab m ac) [[12,8]] rfl q0 (fun w hF=>ld1_r (v:=sl ab m ac) Tya34 rfl (aU _ (hF.entAt (i:=2) rfl) 5 _ rfl)) (aO 9 rfl ?_)));obtain ⟨C,aW,h⟩:=ob h;refine cv ([sl ab m ac]) Tyb22 ((f22_ok k) aW (hG.mono t.sub) aV (pt t)) ?_;rintro _ bE ⟨ad,aX,aY,rfl,D,aZ⟩;have J:=ca D t;refine wb (fwOf (is:=[0,1,2]) J D.sub rfl) (fun q1=>kK 10 (pp B (0 + c.toNat * 6)) rfl (fun w=>idxG_r (b:=B) (o:=0) (i:=c) Tye22 Tys42 rfl Z rfl (idxO_at (idxO_set (y:=(DFunc.mk e f g j 0 m)) u)).2.1 (idxO_at (idxO_set (y:=(DFunc.mk e f g j 0 m)) u)).2.2) q1 (kK 11 (pp B (0 + c.toNat * 6 + 5)) rfl (fun w=>fld_r (o':=0 + c.toNat * 6 + 5) Tyf42_5 rfl rfl) q1 (aO 12 rfl (stR (R:=(RDFunc ad)) (i:=2) (off:=5) (p:=(DFunc.mk e f g j 0 m)) (p':=(DFunc.mk e f g j 0 C)) (v:=sl aX C aY) J rfl (al.mono (fun _ _ h=>RDFunc.mono D.sub h)) (idxO_at (idxO_set (y:=(DFunc.mk e f g j 0 m)) u)).1 Tys34 Z rfl rfl rfl rfl (by decide) (fun cs_ h_=>by obtain ⟨bF,bG,bH,bI,rfl,a1,a2,bJ⟩:=RDFunc.open h_; exact RDFunc.intro a1 a2 aZ) (fun am a3 a4 a5=>?_)))));have a6:SR K ad wi a3 [] [.box (zz wi) (zz G) #[nS] 24,.box (zz wi) (zz x) #[.slice q ((d.set c.toNat (DFunc.mk e f g j 0 m)).set c.toNat (DFunc.mk e f g j 0 C)).length s] 24,.row (zz wi) (.slice q ((d.set c.toNat (DFunc.mk e f g j 0 m)).set c.toNat (DFunc.mk e f g j 0 C)).length s) 42 6 ((d.set c.toNat (DFunc.mk e f g j 0 m)).set c.toNat (DFunc.mk e f g j 0 C)).length am]:=by simpa only [List.length_set,List.eraseIdx_zero,List.eraseIdx_cons_succ,List.tail_cons,List.set_cons_succ,List.set_cons_zero,List.nil_append,List.cons_append] using a4
    exact wt ⟨hE 12,aD (blkN (thenN (wp_region_lit (m1 (iI c) (bar (r:=(w64 (c + 1))) rfl rfl rfl (m2 (iI (w64 (c + 1))) (wt (⟨_,Nat.lt_succ_self _,_,ad,((d.set c.toNat (DFunc.mk e f g j 0 m)).set c.toNat (DFunc.mk e f g j 0 C)),q,s,am,(w64 (c + 1)),fR,(ah.trans D.sub),a6,a5,(set_bound (set_bound ai)),h⟩))))))))⟩
   ·refine cF Y (wp_exit (thenX (thenX (blkX (thenN (sr (lN 1 ([sl q d s]) A Tya24 Tys24 (sI 0 (.agg #[sl q d s]) #[sl q d s] A Tys24 rfl rfl (fun bK an=>(wt (wp_ret ?_)))))))))));obtain ⟨a7,a8,bL,a9⟩:=shutI (i:=2) (bytes:=88) (R:=fun K=>(RDFunc K)) an rfl (Nat.le_refl _) X ai (fun hs=>(fun _ _ h=>RDFunc.mono hs h));cases (oi h).trans hr_;exact retA1 rfl (resN (i:=0) (l:=[sl q d s]) an rfl Tya24 Tys24 rfl rfl rfl) ⟨a7,[sl q d s],rfl,(a8.sel []),(RDProgram.intro a9)⟩
theorem f11_ok (k:Nat):f11_spec (f11 k):=f11_b_ok k
theorem f13_b_ok (k:Nat):f13_spec (f13_b k):=by
 unfold f13_spec;intro K wi X ar c au av h hG Y Z;obtain ⟨r_,hr_,h⟩:=rz h;obtain ⟨s⟩:=X;obtain ⟨t,c1,rfl,ab⟩:=RDProgram.open Y;refine enter Tryz.func13 rfl (n:=38) rfl ?_;unfold f13_b at h;refine sr (bxoC (cs:=#[sl t s c1]) Z rfl rfl (fun aw u=>(m2 vN (m2 (iI 0) (wt (sr (lN 0 ([sl t s c1]) u Tya24 Tys24 ?_)))))));obtain ⟨⟨⟨d⟩,x,g⟩,ac,h⟩:=ob h;refine cv ([.agg #[sl t s c1]]) Tyb21 ((f21_ok k) ac (hG.mono kr) (RDProgram.intro ab) (pt u)) ?_;rintro _ q ⟨y,ax,z,A,rfl,I,ad,ay⟩;have ae:=ca I u;obtain ⟨j,l,rfl,af⟩:=RDProgram.open ad;refine m1 (.tuple #[.agg #[sl j d l],sl z x A,iI g]) (ext (v:=.agg #[sl j d l]) rfl rfl (ext (v:=sl z x A) rfl rfl (ext (v:=iI g) rfl rfl (aC #[nS] ae Tyz24 (fun az ag=>(sI 0 (.agg #[sl j d l]) #[sl j d l] ag Tys24 rfl rfl (fun aA r=>(m2 (sl z x A) (m2 (iI g) (wt (wp_cut (fun a w=>∃ J m,a=fr 38 (updL J [(1,iI c),(6,pp (zz q) 0),(8,iI m)])∧SR K y wi w [] [.box (zz wi) (zz q) #[sl j d l] 24]∧f13_j1 k c d m=some r_) ?_ ?_)))))))))))
 ·refine wp_cut (fun a w=>∃ N B,a=fr 38 (updL N [(1,iI c),(6,pp (zz q) 0),(8,iI g),(27,.bool B)])∧SR K y wi w [] [.box (zz wi) (zz q) #[sl j d l] 24]∧f13_j2 k c d g B=some r_) ?_ ?_
  ·refine wp_region_lit (m1 (iI g) (c0 (g == 0) (m1 (.bool (g == 0)) (cd h (fun e h=>?_) (fun e h=>?_)))))
   ·refine n1 17 e (m1 (iI c) (n1 17 e (c0 (decide (c < 0)) (n1 17 e (m1 (.bool (decide (c < 0))) (cd h (fun f h=>?_) (fun f h=>?_)))))))
    ·exact o1 20 f (o1 20 f (o1 20 f (o1 20 f (o1 20 f (n1 17 e (m3 true vT (cg f) (m3 true vT (cg e) (wt (⟨_,true,fR,(r.sel [0]),h⟩)))))))))
    ·exact n1 20 f (m1 (iI c) (n1 20 f (fd 0 Tyf24_0 rfl (n1 20 f (l1 0 (sl j d l) r Tya22 (n1 20 f (lS d.length Tye22 (n1 20 f (c0 (decide (c ≥ (d.length:Int))) (n1 17 e (m3 false (.bool (decide (c ≥ (d.length:Int)))) (cg f) (m3 true (.bool (decide (c ≥ (d.length:Int)))) (cg e) (wt (⟨_,(decide (c ≥ (d.length:Int))),fR,(r.sel [0]),h⟩))))))))))))))
   ·exact o1 17 e (o1 17 e (o1 17 e (ou 20 (ou 20 (ou 20 (ou 20 (ou 20 (o1 17 e (m3 false vN (cg e) (wt (⟨_,false,fR,(r.sel [0]),h⟩)))))))))))
  ·rintro _ aB ⟨N,B,rfl,O,h⟩;unfold f13_j2 at h;refine cd h (fun C h=>?_) (fun C h=>?_)
   ·exact cT C (wp_region_lit (m2 (iI 2) (wt (⟨_,2,fR,O,h⟩))))
   ·exact cF C (wp_skip (thenN (⟨_,g,fR,O,h⟩)))
 ·rintro _ aG ⟨J,m,rfl,p,h⟩;unfold f13_j1 at h;refine wp_seq (sr (m1 (iI m) (c0 (m != 0) (wt (cd h (fun D h=>?_) (fun D h=>?_))))))
  ·refine cT D (sr (m1 (iI m) (m2 vN (m2 (iI m) (wt (wp_ret (thenR ?_)))))));cases (oi h).trans hr_;exact retA2 rfl (resT rfl) (resT rfl) ⟨y,rfl,(p.sel [])⟩
  ·refine cF D (wp_skip (thenN (sr (fd 0 Tyf24_0 rfl (l1 0 (sl j d l) p Tya22 (m1 (iI c) ?_))))));obtain ⟨⟨aH,aI,aJ,aK,aL,S⟩,G,h⟩:=ob h;obtain ⟨ah,U,aM,ai,aN,aj,ak⟩:=(af).row.at_ (idxO_at G).1;obtain ⟨aP,aQ,V,W,rfl,aT,aU,al⟩:=RDFunc.open ak;refine idxG (b:=ah) (o:=U) (i:=c) Tye22 Tys42 rfl ai rfl (idxO_at G).2.1 (idxO_at G).2.2 (fd (U + c.toNat * 6 + 5) Tyf42_5 rfl (ld1 (v:=sl V S W) Tya34 rfl (p.cell (kr.cell (aj 5 _ rfl))) ?_));obtain ⟨am,an,h⟩:=ob h;refine cv ([sl V S W]) Tyb24 ((f24_ok k) an (hG.mono I.sub) al (pt p)) ?_;rintro _ aV ⟨ao,rfl,ap⟩;have aq:=ca ap p;refine m2 (.bool am) (m2 (iI 0) (wt (wp_ret ?_)));cases (oi h).trans hr_;exact retA2 rfl (resT rfl) (resT rfl) ⟨ao,rfl,(aq.sel [])⟩
theorem f13_ok (k:Nat):f13_spec (f13 k):=f13_b_ok k
theorem f15_b_ok (k:Nat):f15_spec (f15_b k):=by
 unfold f15_spec;intro K wi U al c am an h hG V W;obtain ⟨r_,hr_,h⟩:=rz h;obtain ⟨t⟩:=U;obtain ⟨u,c1,rfl,X⟩:=RDProgram.open V;refine enter Tryz.func15 rfl (n:=34) rfl ?_;unfold f15_b at h;refine sr (bxoC (cs:=#[sl u t c1]) W rfl rfl (fun ao x=>(m2 nS (m2 (iI 0) (wt (sr (lN 0 ([sl u t c1]) x Tya24 Tys24 ?_)))))));obtain ⟨⟨⟨p⟩,d,g⟩,Y,h⟩:=ob h;refine cv ([.agg #[sl u t c1]]) Tyb21 ((f21_ok k) Y (hG.mono kr) (RDProgram.intro X) (pt x)) ?_;rintro _ ap ⟨q,aq,j,l,rfl,Z,ab,ac⟩;have ad:=ca Z x;obtain ⟨r,s,rfl,ar⟩:=RDProgram.open ab;refine m1 (.tuple #[.agg #[sl r p s],sl j d l,iI g]) (ext (v:=.agg #[sl r p s]) rfl rfl (ext (v:=sl j d l) rfl rfl (ext (v:=iI g) rfl rfl (aC #[nS] ad Tyz24 (fun au ae=>(sI 0 (.agg #[sl r p s]) #[sl r p s] ae Tys24 rfl rfl (fun av y=>(m2 (sl j d l) (m2 (iI g) (wt (wp_cut (fun a w=>∃ J m,a=fr 34 (updL J [(1,iI c),(7,sl j d l),(8,iI m)])∧SR K q wi w [] []∧f15_j1 k c d m=some r_) ?_ ?_)))))))))))
 ·refine wp_cut (fun a w=>∃ N z,a=fr 34 (updL N [(1,iI c),(7,sl j d l),(8,iI g),(26,.bool z)])∧SR K q wi w [] []∧f15_j2 k c d g z=some r_) ?_ ?_
  ·refine wp_region_lit (m1 (iI g) (c0 (g == 0) (m1 (.bool (g == 0)) (cd h (fun e h=>?_) (fun e h=>?_)))))
   ·refine n1 17 e (m1 (iI c) (n1 17 e (c0 (decide (c < 0)) (n1 17 e (m1 (.bool (decide (c < 0))) (cd h (fun f h=>?_) (fun f h=>?_)))))))
    ·exact o1 20 f (o1 20 f (o1 20 f (o1 20 f (n1 17 e (m3 true vT (cg f) (m3 true vT (cg e) (wt (⟨_,true,fR,(y.sel []),h⟩))))))))
    ·exact n1 20 f (m1 (iI c) (n1 20 f (m1 (sl j d l) (n1 20 f (lS d.length Tye62 (n1 20 f (c0 (decide (c ≥ (d.length:Int))) (n1 17 e (m3 false (.bool (decide (c ≥ (d.length:Int)))) (cg f) (m3 true (.bool (decide (c ≥ (d.length:Int)))) (cg e) (wt (⟨_,(decide (c ≥ (d.length:Int))),fR,(y.sel []),h⟩))))))))))))
   ·exact o1 17 e (o1 17 e (o1 17 e (ou 20 (ou 20 (ou 20 (ou 20 (o1 17 e (m3 false vN (cg e) (wt (⟨_,false,fR,(y.sel []),h⟩))))))))))
  ·rintro _ aw ⟨N,z,rfl,O,h⟩;unfold f15_j2 at h;refine cd h (fun A h=>?_) (fun A h=>?_)
   ·exact cT A (wp_region_lit (m2 (iI 2) (wt (⟨_,2,fR,O,h⟩))))
   ·exact cF A (wp_skip (thenN (⟨_,g,fR,O,h⟩)))
 ·rintro _ ax ⟨J,m,rfl,B,h⟩;unfold f15_j1 at h;refine wp_seq (sr (m1 (iI m) (c0 (m != 0) (wt (cd h (fun C h=>?_) (fun C h=>?_))))))
  ·refine cT C (sr (m1 (iI m) (m2 nS (m2 (iI m) (wt (wp_ret (thenR ?_)))))));cases (oi h).trans hr_;exact retA2 rfl (resT rfl) (resT rfl) ⟨q,none,0,rfl,B,(RSl.nil _ _ _ _ _ _)⟩
  ·refine cF C (wp_skip (thenN (sr (m1 (sl j d l) (m1 (iI c) ?_)))));obtain ⟨S,D,h⟩:=ob h;obtain ⟨af,ag,ay,ah,az,ai,aj⟩:=(ac).row.at_ (idxO_at D).1;obtain ⟨G,I,rfl,ak⟩:=aj;refine idxG (b:=af) (o:=ag) (i:=c) Tye62 Tys48 rfl ah rfl (idxO_at D).2.1 (idxO_at D).2.2 (ld1 (v:=sl G S I) Tya48 rfl (B.cell (kr.cell (ai 0 _ rfl))) (m2 (sl G S I) (m2 (iI 0) (wt (wp_ret ?_)))));cases (oi h).trans hr_;exact retA2 rfl (resT rfl) (resT rfl) ⟨q,G,I,rfl,B,ak⟩
theorem f15_ok (k:Nat):f15_spec (f15 k):=f15_b_ok k
theorem f16_b_ok (k:Nat):f16_spec (f16_b k):=by
 unfold f16_spec;intro K wi d j l f p q Y h hG z N A;obtain ⟨r_,hr_,h⟩:=rz h;refine enter Tryz.func16 rfl (n:=26) rfl ?_;unfold f16_b at h;refine sr (m2 vN (wt (wp_seq (sr (m1 (sl j d l) (lS d.length Tye48 (m1 (sl p f q) (lS f.length Tye48 (c0 ((d.length:Int) != (f.length:Int)) (wt (cd h (fun u h=>?_) (fun u h=>?_))))))))))))
 ·refine cT u (sr (m2 vN (wt (wp_ret (thenR ?_)))));cases (oi h).trans hr_;exact retA1 rfl (resT rfl) ⟨K,rfl,A⟩
 ·refine cF u (wp_skip (thenN (wp_seq (sr (m2 (iI 0) (wt (wp_block (wp_loopG (fun g_ a w=>∃ B g,∃ (c:Nat),g_=g.length∧a=fr 26 (updL B [(0,sl j d l),(1,sl p f q),(5,iI (c:Int))])∧SR K K wi w [] []∧d.drop c=g∧f16_l1 k f g c=some r_) d.length ?_ ?_))))))))
  ·exact ⟨_,d,0,rfl,fR,A,List.drop_zero,h⟩
  ·rintro _ _ Z ⟨B,g,c,rfl,rfl,C,m,h⟩;rcases g with _ | ⟨s,g⟩
   ·unfold f16_l1 at h;refine wp_seq (sr (m1 (iI (c:Int)) (m1 (sl j d l) (lS d.length Tye48 (bcm (r:=false) rfl rfl (congrArg some (drop_nil_lt m)) (wt (cndF rfl (wp_exit (thenX (thenX (blkX (thenN (sr (m2 vT (wt (wp_ret ?_))))))))))))))));cases (oi h).trans hr_;exact retA1 rfl (resT rfl) ⟨K,rfl,C⟩
   ·unfold f16_l1 at h;refine wp_seq (sr (m1 (iI (c:Int)) (m1 (sl j d l) (lS d.length Tye48 (bcm (r:=true) rfl rfl (congrArg some (drop_cons_t m)) (wt (cndT rfl (wp_skip (thenN (wp_seq (wp_block (wp_seq (rA [] [] C (fun e q0=>kM 0 (sl j d l) rfl q0 (kM 1 (iI (c:Int)) rfl q0 ?_)))))))))))))));obtain ⟨D,G,ab,O,ac,S,U⟩:=(z).row.at_ (drop_cons_at m);obtain rfl:=U;refine kK 2 (pp D (G + c * 1)) rfl (fun w=>idxN_r (b:=D) (o:=G) (i:=c) Tye48 Tys3 rfl O rfl (drop_cons_lt m)) q0 (tT 3 (iI s) [] rfl q0 (fun w hF=>ld1_r (v:=iI s) Tya3 rfl (hF.cell (kr.cell (S 0 _ rfl)))) (kM 4 (sl p f q) rfl q0 (kM 5 (iI (c:Int)) rfl q0 ?_)));obtain ⟨t,x,h⟩:=ob h;obtain ⟨I,J,ad,V,ae,W,X⟩:=(N).row.at_ (idxO_at x).1;obtain rfl:=X;refine kK 6 (.pointer (some ⟨I,J + (c:Int).toNat * 1,none⟩)) rfl (fun w=>idxG_r (b:=I) (o:=J) (i:=(c:Int)) Tye48 Tys3 rfl V rfl (idxO_at x).2.1 (idxO_at x).2.2) q0 (tT 7 (iI t) [] rfl q0 (fun w hF=>ld1_r (v:=iI t) Tya3 rfl (hF.cell (kr.cell (W 0 _ rfl)))) (kC 8 (s != t) rfl q0 (aD (thenN (cd h (fun y h=>?_) (fun y h=>?_))))))
    ·refine cT y (sr (m2 vN (wt (wp_ret (blkR (thenR (thenR (blkR (thenR ?_)))))))));cases (oi h).trans hr_;exact retA1 rfl (resT rfl) ⟨K,rfl,e⟩
    ·exact cF y (wp_skip (blkN (thenN (wp_region_lit (m1 (iI (c:Int)) (bar (r:=((c + 1:Nat):Int)) rfl rfl (inc_ok (le_big ((z).len) (by decide) (drop_cons_lt m))) (m2 (iI ((c + 1:Nat):Int)) (wt (⟨_,Nat.lt_succ_self _,_,g,c + 1,rfl,fR,e,drop_cons_next m,h⟩)))))))))
theorem f16_ok (k:Nat):f16_spec (f16 k):=f16_b_ok k
theorem f28_b_ok (k:Nat) (F:Fam28) (IH28:f28_spec F.f28):f28_spec (f28_b k F):=by
 unfold f28_spec;intro K wi e s t f ad h hG A B;obtain ⟨r_,hr_,h⟩:=rz h;refine enter Tryz.func28 rfl (n:=31) rfl ?_;unfold f28_b at h;refine sr (m2 (iI 0) (wt (wp_seq (sr (m1 (iI f) (c0 (decide (f > 60)) (wt (cd h (fun x h=>?_) (fun x h=>?_)))))))))
 ·refine cT x (sr (m2 (iI 4000) (wt (wp_ret (thenR ?_)))));cases (oi h).trans hr_;exact retA1 rfl (resT rfl) ⟨K,rfl,B⟩
 ·refine cF x (wp_skip (thenN (sr (m2 (iI 0) (wt (wp_cut (fun a w=>∃ C u m,a=fr 31 (updL C [(5,iI m)])∧KH.sub K u∧SR K u wi w [] []∧f28_j1 k F m=some r_) ?_ ?_))))))
  ·refine sr (m2 (iI 0) (wt (wp_block (wp_loopG (fun g_ a w=>∃ D p g,∃ (c:Nat),∃ d,g_=g.length∧a=fr 31 (updL D [(0,sl s e t),(1,iI f),(5,iI d),(6,iI (c:Int))])∧KH.sub K p∧SR K p wi w [] []∧e.drop c=g∧f28_l1 k F f g c d=some r_) e.length ?_ ?_))))
   ·exact ⟨_,K,e,0,0,rfl,fR,kr,B,List.drop_zero,h⟩
   ·rintro _ _ ae ⟨D,p,g,c,d,rfl,rfl,j,q,l,h⟩;rcases g with _ | ⟨⟨af,ag,ah,ai,G⟩,g⟩
    ·unfold f28_l1 at h;exact wp_seq (sr (m1 (iI (c:Int)) (m1 (sl s e t) (lS e.length Tye31 (bcm (r:=false) rfl rfl (congrArg some (drop_nil_lt l)) (m1 vN (o0 13 (o0 13 (m3 false vN rfl (wt (cndF rfl (wp_exit (thenX (thenX (blkX (thenN (⟨_,p,d,fR,j,q,h⟩)))))))))))))))))
    ·unfold f28_l1 at h;refine wp_seq (sr (m1 (iI (c:Int)) (m1 (sl s e t) (lS e.length Tye31 (bcm (r:=true) rfl rfl (congrArg some (drop_cons_t l)) (m1 vT (n0 13 (m1 (iI d) (n0 13 (c0 (decide (d ≤ 2000)) (m3 true (.bool (decide (d ≤ 2000))) rfl (wt (cd h (fun y h=>?_) (fun y h=>?_))))))))))))))
     ·refine cT y (wp_skip (thenN (wp_seq (wp_block (wp_region_lit (m1 (iI d) (bar (r:=(w64 (d + 1))) rfl rfl rfl (m1 (sl s e t) (m1 (iI (c:Int)) ?_)))))))));obtain ⟨S,I,aj,U,ak,V,W⟩:=((me A j)).row.at_ (drop_cons_at l);obtain ⟨J,N,rfl,al,X⟩:=RDExpr.open W;refine idxN (b:=S) (o:=I) (i:=c) Tye31 Tys33 rfl U rfl (drop_cons_lt l) (fd (I + c * 5 + 4) Tyf33_4 rfl (ld1 (v:=sl J G N) Tya31 rfl (q.cell (kr.cell (V 4 _ rfl))) (m1 (iI f) (bar (r:=(w64 (f + 1))) rfl rfl rfl ?_))));obtain ⟨z,Y,h⟩:=ob h;refine cv ([sl J G N,iI (w64 (f + 1))]) Tyb28 (IH28 Y (hG.mono j) X (pt q)) ?_;rintro _ am ⟨Z,rfl,O⟩;have ab:=ca O q;exact bar (r:=(w64 ((w64 (d + 1)) + z))) rfl rfl rfl (m2 (iI (w64 ((w64 (d + 1)) + z))) (wpList_nil (blkN (thenN (wp_region_lit (m1 (iI (c:Int)) (bar (r:=((c + 1:Nat):Int)) rfl rfl (inc_ok (le_big (((me A j)).len) (by decide) (drop_cons_lt l))) (m2 (iI ((c + 1:Nat):Int)) (wt (⟨_,Nat.lt_succ_self _,_,Z,g,c + 1,(w64 ((w64 (d + 1)) + z)),rfl,fR,(j.trans O.sub),ab,drop_cons_next l,h⟩))))))))))
     ·exact cF y (wp_exit (thenX (thenX (blkX (thenN (⟨_,p,d,fR,j,q,h⟩))))))
  ·rintro _ an ⟨C,u,m,rfl,ao,ac,h⟩;unfold f28_j1 at h;refine sr (m1 (iI m) (m2 (iI m) (wt (wp_ret ?_))));cases (oi h).trans hr_;exact retA1 rfl (resT rfl) ⟨u,rfl,ac⟩
theorem fam28_ok (k0:Nat) : ∀ k,f28_spec (fam28 k0 k).f28:=by
 intro k;induction k with
 | zero=>exact (by unfold f28_spec; intro _ _ _ _ _ _ _ h_; cases h_)
 | succ k ih=>exact f28_b_ok k0 (fam28 k0 k) ih
theorem f28_ok (k:Nat):f28_spec (f28 k):=(fam28_ok k k)
theorem f18_b_ok (k:Nat) (F:Fam18) (IH18:f18_spec F.f18):f18_spec (f18_b k F):=by
 unfold f18_spec;intro K wi y ak al c bG h hG a4 a5;obtain ⟨r_,hr_,h⟩:=rz h;refine enter Tryz.func18 rfl (n:=85) rfl ?_;unfold f18_b at h;refine sr (m2 (iI 0) (wt (wp_seq (sr (m1 (iI c) (c0 (decide (c > 40)) (wt (cd h (fun aT h=>?_) (fun aT h=>?_)))))))))
 ·refine cT aT (sr (m2 (iI 4000) (wt (wp_ret (thenR ?_)))));cases (oi h).trans hr_;exact retA1 rfl (resT rfl) ⟨K,rfl,a5⟩
 ·refine cF aT (wp_skip (thenN (sr (m2 (iI 0) (wt (wp_cut (fun a w=>∃ a6 aG ax,a=fr 85 (updL a6 [(5,iI ax)])∧KH.sub K aG∧SR K aG wi w [] []∧f18_j1 k F ax=some r_) ?_ ?_))))))
  ·refine sr (m2 (iI 0) (wt (wp_block (wp_loopG (fun g_ a w=>∃ a7 ae D,∃ (s:Nat),∃ d,g_=D.length∧a=fr 85 (updL a7 [(0,sl ak y al),(1,iI c),(5,iI d),(6,iI (s:Int))])∧KH.sub K ae∧SR K ae wi w [] []∧y.drop s=D∧f18_l1 k F c D s d=some r_) y.length ?_ ?_))))
   ·exact ⟨_,K,y,0,0,rfl,fR,kr,a5,List.drop_zero,h⟩
   ·rintro _ _ B ⟨a7,ae,D,s,d,rfl,rfl,z,aH,am,h⟩;rcases D with _ | ⟨⟨an,ao,ap,aq,ar,au,G,I,J,N,q⟩,D⟩
    ·unfold f18_l1 at h;exact wp_seq (sr (m1 (iI (s:Int)) (m1 (sl ak y al) (lS y.length Tye34 (bcm (r:=false) rfl rfl (congrArg some (drop_nil_lt am)) (m1 vN (o0 15 (o0 15 (m3 false vN rfl (wt (cndF rfl (wp_exit (thenX (thenX (blkX (thenN (⟨_,ae,d,fR,z,aH,h⟩)))))))))))))))))
    ·unfold f18_l1 at h;refine wp_seq (sr (m1 (iI (s:Int)) (m1 (sl ak y al) (lS y.length Tye34 (bcm (r:=true) rfl rfl (congrArg some (drop_cons_t am)) (m1 vT (n0 15 (m1 (iI d) (n0 15 (c0 (decide (d ≤ 2000)) (m3 true (.bool (decide (d ≤ 2000))) rfl (wt (cd h (fun aU h=>?_) (fun aU h=>?_))))))))))))))
     ·refine cT aU (wp_skip (thenN (wp_cut (fun a w=>∃ a8 aI aJ,a=fr 85 (updL a8 [(0,sl ak y al),(1,iI c),(5,iI aJ),(6,iI (s:Int))])∧KH.sub ae aI∧SR K aI wi w [] []∧f18_j2 k F s aJ (f18_l1 k F c D)=some r_) ?_ ?_)))
      ·refine wp_block (sr (m1 (sl ak y al) (m1 (iI (s:Int)) ?_)));obtain ⟨bf,bg,bH,bh,bI,bi,bj⟩:=((ms a4 z)).row.at_ (drop_cons_at am);obtain ⟨O,S,U,V,W,X,Y,Z,u,x,rfl,bJ,bK,bk,bm,bn,bo,a9⟩:=RDStmt.open bj;refine idxN (b:=bf) (o:=bg) (i:=s) Tye34 Tys37 rfl bh rfl (drop_cons_lt am) (lD (vS an ao ap aq ar au O G S U I V W J X Y N Z u q x) Tya37 Tys37 rfl (fun j v hj=>aH.cell (kr.cell (bi j v hj))) (aC zS.toArray aH Tyz37 (fun bL bp=>(sI 0 (.agg (aS an ao ap aq ar au O G S U I V W J X Y N Z u q x)) ((aS an ao ap aq ar au O G S U I V W J X Y N Z u q x)) bp Tys37 rfl rfl (fun bM bq=>(wt (wp_seq (rA [] [0] bq (fun g q0=>kM 0 (iI d) rfl q0 (kA 1 (w64 (d + 1)) rfl q0 (kF 2 6 rfl Tyf37_6 rfl q0 (tL 3 (sl O G S) [] 0 rfl Tya31 q0 (kM 4 (iI c) rfl q0 (kA 5 (w64 (c + 1)) rfl q0 (kF 8 7 rfl Tyf37_7 rfl q0 (tL 9 (sl U I V) [] 0 rfl Tya34 q0 (kM 10 (iI c) rfl q0 (kA 11 (w64 (c + 1)) rfl q0 (kF 14 8 rfl Tyf37_8 rfl q0 (tL 15 (sl W J X) [] 0 rfl Tya34 q0 (kM 16 (iI c) rfl q0 (kA 17 (w64 (c + 1)) rfl q0 (kF 20 9 rfl Tyf37_9 rfl q0 (tL 21 (sl Y N Z) [] 0 rfl Tya34 q0 (kM 22 (iI c) rfl q0 (kA 23 (w64 (c + 1)) rfl q0 (aO 6 rfl ?_)))))))))))))))))))))))))));obtain ⟨A,br,h⟩:=ob h;refine cv ([sl O G S,iI (w64 (c + 1))]) Tyb28 ((f28_ok k) br (hG.mono z) bk (pt g)) ?_;rintro _ bN ⟨bO,rfl,e⟩;have aK:=ca e g;refine wb (fwOf (is:=[0]) aK e.sub rfl) (fun q2=>kA 7 (w64 ((w64 (d + 1)) + A)) rfl q2 (aO 12 rfl ?_));obtain ⟨ab,bs,h⟩:=ob h;refine cv ([sl U I V,iI (w64 (c + 1))]) Tyb18 (IH18 bs (hG.mono (z.trans e.sub)) (ms bm e.sub) (pt aK)) ?_;rintro _ bP ⟨bQ,rfl,p⟩;have aL:=ca p aK;refine wb (fwOf (is:=[0]) aL (e.sub.trans p.sub) rfl) (fun q3=>kA 13 (w64 ((w64 ((w64 (d + 1)) + A)) + ab)) rfl q3 (aO 18 rfl ?_));obtain ⟨af,bu,h⟩:=ob h;refine cv ([sl W J X,iI (w64 (c + 1))]) Tyb18 (IH18 bu (hG.mono ((z.trans e.sub).trans p.sub)) (ms bn (e.sub.trans p.sub)) (pt aL)) ?_;rintro _ bR ⟨bS,rfl,t⟩;have aM:=ca t aL;refine wb (fwOf (is:=[0]) aM ((e.sub.trans p.sub).trans t.sub) rfl) (fun q4=>kA 19 (w64 ((w64 ((w64 ((w64 (d + 1)) + A)) + ab)) + af)) rfl q4 (aO 24 rfl ?_));obtain ⟨ay,bv,h⟩:=ob h;refine cv ([sl Y N Z,iI (w64 (c + 1))]) Tyb18 (IH18 bv (hG.mono (((z.trans e.sub).trans p.sub).trans t.sub)) (ms bo ((e.sub.trans p.sub).trans t.sub)) (pt aM)) ?_;rintro _ bT ⟨ba,rfl,C⟩;have aN:=ca C aM;refine wb (fwOf (is:=[0]) aN (((e.sub.trans p.sub).trans t.sub).trans C.sub) rfl) (fun q5=>kA 25 (w64 ((w64 ((w64 ((w64 ((w64 (d + 1)) + A)) + ab)) + af)) + ay)) rfl q5 (kG 26 (iI (w64 ((w64 ((w64 ((w64 ((w64 (d + 1)) + A)) + ab)) + af)) + ay))) rfl q5 (aD (thenN (sr (m2 (iI 0) (wt (wp_block (wp_loopG (fun g_ a w=>∃ bb av ag,∃ (f:Nat),∃ m,g_=ag.length∧a=fr 85 (updL bb [(0,sl ak y al),(1,iI c),(5,iI m),(6,iI (s:Int)),(7,pp (zz B) 0),(8,iI (f:Int))])∧KH.sub ba av∧SR K av wi w [] [.box (zz wi) (zz B) (aS an ao ap aq ar au O G S U I V W J X Y N Z u q x) 37]∧q.drop f=ag∧f18_l2 k F c s (f18_l1 k F c D) ag f m=some r_) q.length ?_ ?_)))))))))
       ·exact ⟨_,ba,q,0,(w64 ((w64 ((w64 ((w64 ((w64 (d + 1)) + A)) + ab)) + af)) + ay)),rfl,fR,kr,aN,List.drop_zero,h⟩
       ·rintro _ _ bU ⟨bb,av,ag,f,m,rfl,rfl,ah,az,ai,h⟩;rcases ag with _ | ⟨⟨bV,bW,bX,aV,aW⟩,ag⟩
        ·unfold f18_l2 at h;exact wp_seq (sr (m1 (iI (f:Int)) (fd 10 Tyf37_10 rfl (l1 0 (sl u q x) az Tya35 (lS q.length Tye35 (bcm (r:=false) rfl rfl (congrArg some (drop_nil_lt ai)) (m1 vN (o0 56 (o0 56 (m3 false vN rfl (wt (cndF rfl (wp_exit (thenX (thenX (blkX (blkN (thenN (⟨_,av,m,fR,((((e.sub.trans p.sub).trans t.sub).trans C.sub).trans ah),(az.sel []),h⟩)))))))))))))))))))
        ·unfold f18_l2 at h;refine wp_seq (sr (m1 (iI (f:Int)) (fd 10 Tyf37_10 rfl (l1 0 (sl u q x) az Tya35 (lS q.length Tye35 (bcm (r:=true) rfl rfl (congrArg some (drop_cons_t ai)) (m1 vT (n0 56 (m1 (iI m) (n0 56 (c0 (decide (m ≤ 2000)) (m3 true (.bool (decide (m ≤ 2000))) rfl (wt (cd h (fun aX h=>?_) (fun aX h=>?_)))))))))))))))
         ·refine cT aX (wp_skip (thenN (wp_seq (wp_block (rA [] [0] az (fun l q1=>kM 0 (iI m) rfl q1 (kA 1 (w64 (m + 1)) rfl q1 (kF 2 10 rfl Tyf37_10 rfl q1 (tL 3 (sl u q x) [] 0 rfl Tya35 q1 (kM 4 (iI (f:Int)) rfl q1 ?_))))))))));obtain ⟨aw,ad,bY,bd,bZ,be,bw⟩:=((mc a9 ((((e.sub.trans p.sub).trans t.sub).trans C.sub).trans ah))).row.at_ (drop_cons_at ai);obtain ⟨aY,aZ,a2,a3,rfl,b0,bx,bz⟩:=RDCase.open bw;refine kK 5 (pp aw (ad + f * 5)) rfl (fun w=>idxN_r (b:=aw) (o:=ad) (i:=f) Tye35 Tys74 rfl bd rfl (drop_cons_lt ai)) q1 (kK 6 (pp aw (ad + f * 5 + 3)) rfl (fun w=>fld_r (o':=ad + f * 5 + 3) Tyf74_3 rfl rfl) q1 (tT 7 (sl aY aV aZ) [] rfl q1 (fun w hF=>ld1_r (v:=sl aY aV aZ) Tya31 rfl (hF.cell (kr.cell (be 3 _ rfl)))) (kM 8 (iI c) rfl q1 (kA 9 (w64 (c + 1)) rfl q1 (kF 12 10 rfl Tyf37_10 rfl q1 (tL 13 (sl u q x) [] 0 rfl Tya35 q1 (kM 14 (iI (f:Int)) rfl q1 (kK 15 (pp aw (ad + f * 5)) rfl (fun w=>idxN_r (b:=aw) (o:=ad) (i:=f) Tye35 Tys74 rfl bd rfl (drop_cons_lt ai)) q1 (kK 16 (pp aw (ad + f * 5 + 4)) rfl (fun w=>fld_r (o':=ad + f * 5 + 4) Tyf74_4 rfl rfl) q1 (tT 17 (sl a2 aW a3) [] rfl q1 (fun w hF=>ld1_r (v:=sl a2 aW a3) Tya34 rfl (hF.cell (kr.cell (be 4 _ rfl)))) (kM 18 (iI c) rfl q1 (kA 19 (w64 (c + 1)) rfl q1 (aO 10 rfl ?_)))))))))))));obtain ⟨aj,bA,h⟩:=ob h;refine cv ([sl aY aV aZ,iI (w64 (c + 1))]) Tyb28 ((f28_ok k) bA (hG.mono (((((z.trans e.sub).trans p.sub).trans t.sub).trans C.sub).trans ah)) bx (pt l)) ?_;rintro _ b1 ⟨b2,rfl,ac⟩;have aP:=ca ac l;refine wb (fwOf (is:=[0]) aP ac.sub rfl) (fun q6=>kA 11 (w64 ((w64 (m + 1)) + aj)) rfl q6 (aO 20 rfl ?_));obtain ⟨aA,bB,h⟩:=ob h;refine cv ([sl a2 aW a3,iI (w64 (c + 1))]) Tyb18 (IH18 bB (hG.mono ((((((z.trans e.sub).trans p.sub).trans t.sub).trans C.sub).trans ah).trans ac.sub)) (ms bz ac.sub) (pt aP)) ?_;rintro _ b3 ⟨bC,rfl,aB⟩;have aQ:=ca aB aP;exact wb (fwOf (is:=[0]) aQ (ac.sub.trans aB.sub) rfl) (fun q7=>kA 21 (w64 ((w64 ((w64 (m + 1)) + aj)) + aA)) rfl q7 (kG 22 (iI (w64 ((w64 ((w64 (m + 1)) + aj)) + aA))) rfl q7 (aD (blkN (thenN (wp_region_lit (m1 (iI (f:Int)) (bar (r:=((f + 1:Nat):Int)) rfl rfl (inc_ok (le_big (((mc a9 ((((e.sub.trans p.sub).trans t.sub).trans C.sub).trans ah))).len) (by decide) (drop_cons_lt ai))) (m2 (iI ((f + 1:Nat):Int)) (wt (⟨_,Nat.lt_succ_self _,_,bC,ag,f + 1,(w64 ((w64 ((w64 (m + 1)) + aj)) + aA)),rfl,fR,((ah.trans ac.sub).trans aB.sub),aQ,drop_cons_next ai,h⟩)))))))))))
         ·exact cF aX (wp_exit (thenX (thenX (blkX (blkN (thenN (⟨_,av,m,fR,((((e.sub.trans p.sub).trans t.sub).trans C.sub).trans ah),(az.sel []),h⟩)))))))
      ·rintro _ b4 ⟨a8,aI,aJ,rfl,bD,bE,h⟩;unfold f18_j2 at h;exact wp_region_lit (m1 (iI (s:Int)) (bar (r:=((s + 1:Nat):Int)) rfl rfl (inc_ok (le_big (((ms a4 z)).len) (by decide) (drop_cons_lt am))) (m2 (iI ((s + 1:Nat):Int)) (wt (⟨_,Nat.lt_succ_self _,_,aI,D,s + 1,aJ,rfl,fR,(z.trans bD),bE,drop_cons_next am,h⟩)))))
     ·exact cF aU (wp_exit (thenX (thenX (blkX (thenN (⟨_,ae,d,fR,z,aH,h⟩))))))
  ·rintro _ b5 ⟨a6,aG,ax,rfl,b6,bF,h⟩;unfold f18_j1 at h;refine sr (m1 (iI ax) (m2 (iI ax) (wt (wp_ret ?_))));cases (oi h).trans hr_;exact retA1 rfl (resT rfl) ⟨aG,rfl,bF⟩
theorem fam18_ok (k0:Nat) : ∀ k,f18_spec (fam18 k0 k).f18:=by
 intro k;induction k with
 | zero=>exact (by unfold f18_spec; intro _ _ _ _ _ _ _ h_; cases h_)
 | succ k ih=>exact f18_b_ok k0 (fam18 k0 k) ih
theorem f18_ok (k:Nat):f18_spec (f18 k):=(fam18_ok k k)
theorem f7_b_ok (k:Nat):f7_spec (f7_b k):=by
 unfold f7_spec;intro K wi I ad ae h hG J N;obtain ⟨r_,hr_,h⟩:=rz h;obtain ⟨e⟩:=I;obtain ⟨p,c1,rfl,x⟩:=RDProgram.open J;refine enter Tryz.func7 rfl (n:=28) rfl ?_;unfold f7_b at h;refine sr (bxoC (cs:=#[sl p e c1]) N rfl rfl (fun af O=>(m2 vN (wt (sr (m2 (iI 0) (wt (wp_cut (fun a w=>∃ y s j,a=fr 28 (updL y [(3,iI j)])∧KH.sub K s∧SR K s wi w [] []∧f7_j1 k j=some r_) ?_ ?_))))))))
 ·refine sr (m2 (iI 0) (wt (wp_block (wp_loopG (fun g_ a w=>∃ z q g,∃ (c:Nat),∃ d,g_=g.length∧a=fr 28 (updL z [(1,pp (zz wi) 0),(3,iI d),(4,iI (c:Int))])∧KH.sub K q∧SR K q wi w [] [.box (zz wi) (zz wi) #[sl p e c1] 24]∧e.drop c=g∧f7_l1 k g c d=some r_) e.length ?_ ?_))))
  ·exact ⟨_,K,e,0,0,rfl,fR,kr,O,List.drop_zero,h⟩
  ·rintro _ _ ag ⟨z,q,g,c,d,rfl,rfl,l,f,m,h⟩;rcases g with _ | ⟨⟨ah,ai,aj,ak,al,A⟩,g⟩
   ·unfold f7_l1 at h;exact wp_seq (sr (m1 (iI (c:Int)) (fd 0 Tyf24_0 rfl (l1 0 (sl p e c1) f Tya22 (lS e.length Tye22 (bcm (r:=false) rfl rfl (congrArg some (drop_nil_lt m)) (m1 vN (o0 10 (o0 10 (m3 false vN rfl (wt (cndF rfl (wp_exit (thenX (thenX (blkX (thenN (⟨_,q,d,fR,l,(f.sel []),h⟩))))))))))))))))))
   ·unfold f7_l1 at h;refine wp_seq (sr (m1 (iI (c:Int)) (fd 0 Tyf24_0 rfl (l1 0 (sl p e c1) f Tya22 (lS e.length Tye22 (bcm (r:=true) rfl rfl (congrArg some (drop_cons_t m)) (m1 vT (n0 10 (m1 (iI d) (n0 10 (c0 (decide (d ≤ 2000)) (m3 true (.bool (decide (d ≤ 2000))) rfl (wt (cd h (fun t h=>?_) (fun t h=>?_)))))))))))))))
    ·refine cT t (wp_skip (thenN (wp_seq (wp_block (wp_region_lit (m1 (iI d) (bar (r:=(w64 (d + 1))) rfl rfl rfl (fd 0 Tyf24_0 rfl (l1 0 (sl p e c1) f Tya22 (m1 (iI (c:Int)) ?_))))))))));obtain ⟨S,B,am,U,an,V,W⟩:=((mf x l)).row.at_ (drop_cons_at m);obtain ⟨ao,ap,C,D,rfl,aq,ar,X⟩:=RDFunc.open W;refine idxN (b:=S) (o:=B) (i:=c) Tye22 Tys42 rfl U rfl (drop_cons_lt m) (fd (B + c * 6 + 5) Tyf42_5 rfl (ld1 (v:=sl C A D) Tya34 rfl (f.cell (kr.cell (V 5 _ rfl))) ?_));obtain ⟨u,Y,h⟩:=ob h;refine cv ([sl C A D,iI 0]) Tyb18 ((f18_ok k) Y (hG.mono l) X (pt f)) ?_;rintro _ au ⟨Z,rfl,G⟩;have ab:=ca G f;exact bar (r:=(w64 ((w64 (d + 1)) + u))) rfl rfl rfl (m2 (iI (w64 ((w64 (d + 1)) + u))) (wpList_nil (blkN (thenN (wp_region_lit (m1 (iI (c:Int)) (bar (r:=((c + 1:Nat):Int)) rfl rfl (inc_ok (le_big (((mf x l)).len) (by decide) (drop_cons_lt m))) (m2 (iI ((c + 1:Nat):Int)) (wt (⟨_,Nat.lt_succ_self _,_,Z,g,c + 1,(w64 ((w64 (d + 1)) + u)),rfl,fR,(l.trans G.sub),ab,drop_cons_next m,h⟩))))))))))
    ·exact cF t (wp_exit (thenX (thenX (blkX (thenN (⟨_,q,d,fR,l,(f.sel []),h⟩))))))
 ·rintro _ av ⟨y,s,j,rfl,aw,ac,h⟩;unfold f7_j1 at h;refine sr (m1 (iI j) (c0 (decide (j ≤ 2000)) (m2 (.bool (decide (j ≤ 2000))) (wt (wp_ret ?_)))));cases (oi h).trans hr_;exact retA1 rfl (resT rfl) ⟨s,rfl,ac⟩
theorem f7_ok (k:Nat):f7_spec (f7 k):=f7_b_ok k
theorem f19_b_ok (k:Nat):f19_spec (f19_b k):=by
 unfold f19_spec;intro K wi a b c I h hG p j;obtain ⟨r_,hr_,h⟩:=rz h;refine enter Tryz.func19 rfl (n:=14) rfl ?_;unfold f19_b at h;refine sr (aC #[nS] j Tyz24 (fun d j=>(wt (sr (bld (cells:=#[iI 2,iI 1,sE,iI 0,nS]) (vs:=[(0,iI 2),(1,iI 1)]) rfl (fun w=>by kernel_rfl) (bsl (e:=33) (cells:=#[iI 2,iI 1,sE,iI 0,nS]) (vs:=[(0,.agg #[iI 2,iI 1,sE,iI 0,nS])]) j rfl (buildSl_one Tye31 Tys33 Tyz33 rfl (by decide) (by decide) rfl) (fun J q=>(m1 (sl b a c) (bld (cells:=#[iI 21,sE,iI 0,sE,iI 0,iI 0,.slice (some ⟨(zz d),0,none⟩) 1 1,sl b a c,nS,nS,nS]) (vs:=[(0,iI 21),(6,.slice (some ⟨(zz d),0,none⟩) 1 1),(7,sl b a c)]) rfl (fun w=>by kernel_rfl) (aC zS.toArray q Tyz37 (fun N r=>(sI 0 (.agg #[iI 21,sE,iI 0,sE,iI 0,iI 0,.slice (some ⟨(zz d),0,none⟩) 1 1,sl b a c,nS,nS,nS]) #[iI 21,sE,iI 0,sE,iI 0,iI 0,.slice (some ⟨(zz d),0,none⟩) 1 1,sl b a c,nS,nS,nS] r Tys37 rfl rfl (fun g m=>(wt (sr (bld (cells:=#[.string ⟨#[109,97,105,110]⟩,nS,iI 0,vN,iI 0,nS]) (vs:=[(0,.string ⟨#[109,97,105,110]⟩)]) rfl (fun w=>by kernel_rfl) (lN 0 ([iI 21,sE,iI 0,sE,iI 0,iI 0,.slice (some ⟨(zz d),0,none⟩) 1 1,sl b a c,nS,nS,nS]) m Tya37 Tys37 (bsl (e:=37) (cells:=#[iI 21,sE,iI 0,sE,iI 0,iI 0,.slice (some ⟨(zz d),0,none⟩) 1 1,sl b a c,nS,nS,nS]) (vs:=[(0,.agg #[iI 21,sE,iI 0,sE,iI 0,iI 0,.slice (some ⟨(zz d),0,none⟩) 1 1,sl b a c,nS,nS,nS])]) m rfl (buildSl_one Tye34 Tys37 Tyz37 rfl (by decide) (by decide) rfl) (fun f s=>(bld (cells:=#[.string ⟨#[102]⟩,nS,iI 1,vN,iI 0,.slice (some ⟨(zz g),0,none⟩) 1 1]) (vs:=[(0,.string ⟨#[102]⟩),(2,iI 1),(5,.slice (some ⟨(zz g),0,none⟩) 1 1)]) rfl (fun w=>by kernel_rfl) (bsl (e:=42) (cells:=#[.string ⟨#[109,97,105,110]⟩,nS,iI 0,vN,iI 0,nS,.string ⟨#[102]⟩,nS,iI 1,vN,iI 0,.slice (some ⟨(zz g),0,none⟩) 1 1]) (vs:=[(0,.agg #[.string ⟨#[109,97,105,110]⟩,nS,iI 0,vN,iI 0,nS]),(1,.agg #[.string ⟨#[102]⟩,nS,iI 1,vN,iI 0,.slice (some ⟨(zz g),0,none⟩) 1 1])]) s rfl (fun w=>by kernel_rfl) (fun O t=>(bld (cells:=#[.slice (some ⟨(zz f),0,none⟩) 2 2]) (vs:=[(0,.slice (some ⟨(zz f),0,none⟩) 2 2)]) rfl (fun w=>by kernel_rfl) (sI 4 (.agg #[.slice (some ⟨(zz f),0,none⟩) 2 2]) #[.slice (some ⟨(zz f),0,none⟩) 2 2] t Tys24 rfl rfl (fun S o=>(wt (wp_ret ?_)))))))))))))))))))))))))));obtain ⟨u,v,x,y⟩:=frzI (i:=3) (bytes:=64) (xs:=[(DExpr.mk 2 1 ⟨#[]⟩ 0 [])]) (R:=fun K=>(RDExpr K)) o rfl (Nat.le_refl _) ⟨[iI 2,iI 1,sE,iI 0,nS],_,rfl,rfl,(RDExpr.intro (by decide) (RSl.nil _ _ _ _ _ _)),(reps0 (R:=(RDExpr K)) (size:=5))⟩ rfl (Nat.le_of_ble_eq_true rfl) (fun hs=>(fun _ _ h=>RDExpr.mono hs h));obtain ⟨z,A,U,B⟩:=frzI (i:=1) (bytes:=184) (xs:=[(DStmt.mk 21 ⟨#[]⟩ 0 ⟨#[]⟩ 0 0 [(DExpr.mk 2 1 ⟨#[]⟩ 0 [])] a [] [] [])]) (R:=fun K=>(RDStmt K)) v rfl (Nat.le_refl _) ⟨[iI 21,sE,iI 0,sE,iI 0,iI 0,.slice (some ⟨(zz d),0,none⟩) [(DExpr.mk 2 1 ⟨#[]⟩ 0 [])].length 1,sl b a c,nS,nS,nS],_,rfl,rfl,(RDStmt.intro (by decide) (by decide) y (ms p x) (RSl.nil _ _ _ _ _ _) (RSl.nil _ _ _ _ _ _) (RSl.nil _ _ _ _ _ _)),(reps0 (R:=(RDStmt u)) (size:=11))⟩ rfl (Nat.le_of_ble_eq_true rfl) (fun hs=>(fun _ _ h=>RDStmt.mono hs h));obtain ⟨C,D,V,G⟩:=frzI (i:=0) (bytes:=88) (xs:=[(DFunc.mk ⟨#[109,97,105,110]⟩ [] 0 false 0 []),(DFunc.mk ⟨#[102]⟩ [] 1 false 0 [(DStmt.mk 21 ⟨#[]⟩ 0 ⟨#[]⟩ 0 0 [(DExpr.mk 2 1 ⟨#[]⟩ 0 [])] a [] [] [])])]) (R:=fun K=>(RDFunc K)) A rfl (Nat.le_refl _) ⟨[.string ⟨#[109,97,105,110]⟩,nS,iI 0,vN,iI 0,nS],_,rfl,rfl,(RDFunc.intro (by decide) (RSl.nil _ _ _ _ _ _) (RSl.nil _ _ _ _ _ _)),⟨[.string ⟨#[102]⟩,nS,iI 1,vN,iI 0,.slice (some ⟨(zz g),0,none⟩) [(DStmt.mk 21 ⟨#[]⟩ 0 ⟨#[]⟩ 0 0 [(DExpr.mk 2 1 ⟨#[]⟩ 0 [])] a [] [] [])].length 1],_,rfl,rfl,(RDFunc.intro (by decide) (RSl.nil _ _ _ _ _ _) B),(reps0 (R:=(RDFunc z)) (size:=6))⟩⟩ rfl (Nat.le_of_ble_eq_true rfl) (fun hs=>(fun _ _ h=>RDFunc.mono hs h));cases (oi h).trans hr_;exact retA1 rfl (resN (i:=4) (l:=[.slice (some ⟨(zz f),0,none⟩) 2 2]) o rfl Tya24 Tys24 rfl rfl rfl) ⟨C,[.slice (some ⟨(zz f),0,none⟩) [(DFunc.mk ⟨#[109,97,105,110]⟩ [] 0 false 0 []),(DFunc.mk ⟨#[102]⟩ [] 1 false 0 [(DStmt.mk 21 ⟨#[]⟩ 0 ⟨#[]⟩ 0 0 [(DExpr.mk 2 1 ⟨#[]⟩ 0 [])] a [] [] [])])].length 2],rfl,(D.sel []),(RDProgram.intro G)⟩
theorem f19_ok (k:Nat):f19_spec (f19 k):=f19_b_ok k
theorem f30_b_ok (k:Nat):f30_spec (f30_b k):=by
 unfold f30_spec;intro K wi b i h hG e;obtain ⟨r_,hr_,h⟩:=rz h;refine enter Tryz.func30 rfl (n:=9) rfl ?_;unfold f30_b at h;refine sr (m2 vN (wt (wp_cut (fun a w=>∃ f d,a=fr 9 (updL f [(2,.bool d)])∧SR K K wi w [] []∧f30_j1 k d=some r_) ?_ ?_)))
 ·refine wp_region_lit (m1 (iI b) (c0 (decide (b < 0)) (m1 (.bool (decide (b < 0))) (cd h (fun c h=>?_) (fun c h=>?_)))))
  ·exact o1 5 c (o1 5 c (m3 true vT (cg c) (m2 vT (wt (⟨_,true,fR,e,h⟩)))))
  ·exact n1 5 c (m1 (iI b) (n1 5 c (c0 (decide (b > 6)) (m3 false (.bool (decide (b > 6))) (cg c) (m2 (.bool (decide (b > 6))) (wt (⟨_,(decide (b > 6)),fR,e,h⟩)))))))
 ·rintro _ j ⟨f,d,rfl,g,h⟩;unfold f30_j1 at h;refine wp_ret ?_;cases (oi h).trans hr_;exact retA1 rfl (resT rfl) ⟨K,rfl,g⟩
theorem f30_ok (k:Nat):f30_spec (f30 k):=f30_b_ok k
theorem f1004618_b_ok (k:Nat):f1004618_spec (f1004618_b k):=by
 unfold f1004618_spec;intro K wi d m p N h hG s A;obtain ⟨r_,hr_,h⟩:=rz h;refine enter Tryz.func46 rfl (n:=19) rfl ?_;unfold f1004618_b at h;refine sr (m2 (iI 0) (wt (wp_seq (sr (m1 (sl m d p) (lS d.length Tye48 (m1 (iI 0) (wt (wp_block (wp_loopG (fun g_ a w=>∃ t g e,∃ (c:Nat),g_=e.length∧a=fr 19 (updL t [(0,sl m d p),(1,.func (.func 30) #[] #[]),(7,iI (d.length:Int)),(8,iI (c:Int))])∧KH.sub K g∧SR K g wi w [] []∧d.drop c=e∧f1004618_l1 k e c=some r_) d.length ?_ ?_))))))))))
 ·exact ⟨_,K,d,0,rfl,fR,kr,A,List.drop_zero,h⟩
 ·rintro _ _ O ⟨t,g,e,c,rfl,rfl,j,l,f,h⟩;rcases e with _ | ⟨u,e⟩
  ·unfold f1004618_l1 at h;refine sr (bcm (r:=false) rfl rfl (congrArg some (drop_nil_lt f)) (wt (wp_seq (cndF rfl (wp_exit (thenX (thenX (blkX (thenN (sr (m2 (iI (-1)) (wt (wp_ret ?_)))))))))))));cases (oi h).trans hr_;exact retA1 rfl (resT rfl) ⟨g,rfl,l⟩
  ·unfold f1004618_l1 at h;refine sr (bcm (r:=true) rfl rfl (congrArg some (drop_cons_t f)) (wt (wp_seq (cndT rfl (wp_skip (thenN (wp_seq (wp_block (sr (m1 (iI (c:Int)) (m2 (iI (c:Int)) (wt (sr (m1 (.func (.func 30) #[] #[]) (m1 (sl m d p) (m1 (iI (c:Int)) ?_))))))))))))))));obtain ⟨B,C,S,D,U,G,I⟩:=((s.mono j (fun _ _ h=>h))).row.at_ (drop_cons_at f);obtain rfl:=I;refine idxN (b:=B) (o:=C) (i:=c) Tye48 Tys3 rfl D rfl (drop_cons_lt f) (ld1 (v:=iI u) Tya3 rfl (l.cell (kr.cell (G 0 _ rfl))) ?_);obtain ⟨V,J,h⟩:=ob h;refine cv ([iI u]) Tyb30 ((f30_ok k) J (hG.mono j) (pt l)) ?_;rintro _ W ⟨x,rfl,y⟩;have z:=ca y l;refine wt (cd h (fun q h=>?_) (fun q h=>?_))
   ·refine cT q (sr (m1 (iI (c:Int)) (m2 (iI (c:Int)) (wt (wp_ret (blkR (thenR (thenR (blkR (thenR ?_))))))))));cases (oi h).trans hr_;exact retA1 rfl (resT rfl) ⟨x,rfl,z⟩
   ·exact cF q (wp_skip (blkN (thenN (wp_region_lit (bar (r:=((c + 1:Nat):Int)) rfl rfl (inc_ok (le_big (((s.mono j (fun _ _ h=>h))).len) (by decide) (drop_cons_lt f))) (m1 (iI ((c + 1:Nat):Int)) (wt (⟨_,Nat.lt_succ_self _,_,x,e,c + 1,rfl,fR,(j.trans y.sub),z,drop_cons_next f,h⟩))))))))
theorem f1004618_ok (k:Nat):f1004618_spec (f1004618 k):=f1004618_b_ok k
theorem f1002918_b_ok (k:Nat):f1002918_spec (f1002918_b k):=by
 unfold f1002918_spec;intro K wi b c d a h hG f e;obtain ⟨r_,hr_,h⟩:=rz h;refine enter Tryz.func29 rfl (n:=9) rfl ?_;unfold f1002918_b at h;refine sr (m2 vN (wt (sr (m1 (sl c b d) (m1 (.func (.func 30) #[] #[]) ?_)))));obtain ⟨a,g,h⟩:=ob h;refine cv ([sl c b d,.func (.func 30) #[] #[]]) Tyb46 ((f1004618_ok k) g (hG.mono kr) f (pt e)) ?_;rintro _ m ⟨i,rfl,j⟩;have l:=ca j e;refine c0 (decide (a ≥ 0)) (m2 (.bool (decide (a ≥ 0))) (wt (wp_ret ?_)));cases (oi h).trans hr_;exact retA1 rfl (resT rfl) ⟨i,rfl,l⟩
theorem f1002918_ok (k:Nat):f1002918_spec (f1002918 k):=f1002918_b_ok k
theorem f31_b_ok (k:Nat):f31_spec (f31_b k):=by
 unfold f31_spec;intro K wi l A a B h hG m o;obtain ⟨r_,hr_,h⟩:=rz h;obtain ⟨b,c,d,e,f⟩:=l;obtain ⟨g,i,rfl,p,q⟩:=RDExpr.open m;refine enter Tryz.func31 rfl (n:=10) rfl ?_;unfold f31_b at h;refine sr (bxoC (cs:=(aE b c d e g f i)) o rfl rfl (fun r s=>(m2 vN (wt (sr (m1 (.bool a) (bld (cells:=#[iI 0,iI 0,.bool a]) (vs:=[(2,.bool a)]) rfl (fun w=>by kernel_rfl) (aC #[iI 0,iI 0,vN] s Tyz95 (fun C t=>(sI 0 (.agg #[iI 0,iI 0,.bool a]) #[iI 0,iI 0,.bool a] t Tys95 rfl rfl (fun D j=>(wt (sr (lN 1 (vE b c d e g f i) j Tya33 Tys33 ?_))))))))))))));obtain ⟨⟨⟨G,I,J⟩,u⟩,v,h⟩:=ob h;refine cv ([pp (zz r) 0,.agg (aE b c d e g f i),iI 1]) Tyb47 ((f47_ok k) v (hG.mono kr) (RDExpr.intro p q) (pt j)) ?_;rintro _ N ⟨x,rfl,y⟩;have z:=ca y j;refine m2 (.bool u) (wt (wp_ret ?_));cases (oi h).trans hr_;exact retA1 rfl (resT rfl) ⟨x,rfl,(z.sel [])⟩
theorem f31_ok (k:Nat):f31_spec (f31 k):=f31_b_ok k
theorem f32_b_ok (k:Nat) (F:Fam32) (IH32:f32_spec F.f32) (IH1004841:f1004841_spec F.f1004841) (IH1004932:f1004932_spec F.f1004932) (IH1007390:f1007390_spec F.f1007390) (IH1007438:f1007438_spec F.f1007438) (IH1009890:f1009890_spec F.f1009890):f32_spec (f32_b k F):=by
 unfold f32_spec;intro K wi y V g W h hG z A;obtain ⟨r_,hr_,h⟩:=rz h;obtain ⟨m,B,C,f,i⟩:=y;obtain ⟨j,l,rfl,X,t⟩:=RDExpr.open z;refine enter Tryz.func32 rfl (n:=25) rfl ?_;unfold f32_b at h;refine sr (bxoC (cs:=(aE m B C f j i l)) A rfl rfl (fun o D=>(bxoC (cs:=#[iI g]) D rfl rfl (fun Y c=>(m2 vN (wt (wp_cut (fun a w=>∃ u p q,a=fr 25 (updL u [(4,.bool q)])∧KH.sub K p∧SR K p wi w [] []∧f32_j1 k F q=some r_) ?_ ?_)))))))
 ·refine wp_region_lit (fd 0 Tyf33_0 rfl (l1 1 (iI m) c Tya3 (c0 (m != 4) (m1 (.bool (m != 4)) (cd h (fun b h=>?_) (fun b h=>?_))))))
  ·refine o1 8 b (o1 8 b (o1 8 b (o1 8 b (ou 12 (ou 12 (ou 12 (ou 12 (o1 8 b (m3 true vT (cg b) (m1 vT (n0 19 (fd 4 Tyf33_4 rfl (n0 19 (l1 1 (sl j i l) c Tya31 (n0 19 (mkf (us:=[]) (vs:=[pp (zz o) 0]) rfl rfl (n0 19 ?_)))))))))))))))));obtain ⟨r,G,h⟩:=ob h;refine cv ([sl j i l,.func (.func 49) #[] #[pp (zz o) 0]]) Tyb48 (IH1004841 G (hG.mono kr) t (pt c)) ?_;rintro _ Z ⟨I,rfl,v⟩;have J:=ca v c;exact m3 true (.bool r) rfl (m2 (.bool r) (wt (⟨_,I,r,fR,v.sub,(J.sel []),h⟩)))
  ·refine n1 8 b (fd 3 Tyf33_3 rfl (n1 8 b (l1 1 (iI f) c Tya3 (n1 8 b (c0 (decide (f ≥ 0)) (n1 8 b (m1 (.bool (decide (f ≥ 0))) (cd h (fun d h=>?_) (fun d h=>?_)))))))))
   ·refine n1 12 d (fd 3 Tyf33_3 rfl (n1 12 d (l1 1 (iI f) c Tya3 (n1 12 d (l1 0 (iI g) c Tya3 (n1 12 d (c0 (decide (f < g)) (n1 8 b (m3 true (.bool (decide (f < g))) (cg d) (m3 false (.bool (decide (f < g))) (cg b) (m1 (.bool (decide (f < g))) (cd h (fun e h=>?_) (fun e h=>?_)))))))))))))
    ·refine n1 19 e (fd 4 Tyf33_4 rfl (n1 19 e (l1 1 (sl j i l) c Tya31 (n1 19 e (mkf (us:=[]) (vs:=[pp (zz o) 0]) rfl rfl (n1 19 e ?_))))));obtain ⟨s,N,h⟩:=ob h;refine cv ([sl j i l,.func (.func 49) #[] #[pp (zz o) 0]]) Tyb48 (IH1004841 N (hG.mono kr) t (pt c)) ?_;rintro _ ab ⟨O,rfl,x⟩;have S:=ca x c;exact m3 true (.bool s) (cg e) (m2 (.bool s) (wt (⟨_,O,s,fR,x.sub,(S.sel []),h⟩)))
    ·exact o1 19 e (o1 19 e (o1 19 e (o1 19 e (m3 false vN (cg e) (m2 vN (wt (⟨_,K,false,fR,kr,(c.sel []),h⟩)))))))
   ·exact o1 12 d (o1 12 d (o1 12 d (o1 12 d (n1 8 b (m3 false vN (cg d) (m3 false vN (cg b) (m1 vN (o0 19 (o0 19 (o0 19 (o0 19 (m3 false vN rfl (m2 vN (wt (⟨_,K,false,fR,kr,(c.sel []),h⟩)))))))))))))))
 ·rintro _ ac ⟨u,p,q,rfl,ad,U,h⟩;unfold f32_j1 at h;refine wp_ret ?_;cases (oi h).trans hr_;exact retA1 rfl (resT rfl) ⟨p,rfl,U⟩
theorem f1004841_b_ok (k:Nat) (F:Fam32) (IH32:f32_spec F.f32) (IH1004841:f1004841_spec F.f1004841) (IH1004932:f1004932_spec F.f1004932) (IH1007390:f1007390_spec F.f1007390) (IH1007438:f1007438_spec F.f1007438) (IH1009890:f1009890_spec F.f1009890):f1004841_spec (f1004841_b k F):=by
 unfold f1004841_spec;intro K wi b c d g bs s o h hG f a;obtain ⟨r_,hr_,h⟩:=rz h;refine enter Tryz.func48 rfl (n:=9) rfl ?_;unfold f1004841_b at h;refine sr (bxoC (cs:=#[.func (.func 49) #[] #[pp g 0]]) a rfl rfl (fun p a=>(m2 vN (wt (sr (m1 (sl c b d) (mkf (us:=[]) (vs:=[pp (zz wi) 0]) rfl rfl ?_)))))));obtain ⟨e,i,h⟩:=ob h;refine cv ([sl c b d,.func (.func 74) #[] #[pp (zz wi) 0]]) Tyb73 (IH1007390 i (hG.mono kr) f (pt a)) ?_;rintro _ q ⟨j,rfl,l⟩;have m:=ca l a;refine uN e (m2 (.bool (!e)) (wt (wp_ret ?_)));cases (oi h).trans hr_;exact retA1 rfl (resT rfl) ⟨j,rfl,(m.sel [1])⟩
theorem f1004932_b_ok (k:Nat) (F:Fam32) (IH32:f32_spec F.f32) (IH1004841:f1004841_spec F.f1004841) (IH1004932:f1004932_spec F.f1004932) (IH1007390:f1007390_spec F.f1007390) (IH1007438:f1007438_spec F.f1007438) (IH1009890:f1009890_spec F.f1009890):f1004932_spec (f1004932_b k F):=by
 unfold f1004932_spec;intro K wi l x g bs s y h hG m o;obtain ⟨r_,hr_,h⟩:=rz h;obtain ⟨b,c,d,e,f⟩:=l;obtain ⟨i,j,rfl,p,q⟩:=RDExpr.open m;refine enter Tryz.func49 rfl (n:=7) rfl ?_;unfold f1004932_b at h;refine sr (bxoC (cs:=(aE b c d e i f j)) o rfl rfl (fun z a=>(m2 vN (wt (sr (lN 0 (vE b c d e i f j) a Tya33 Tys33 (l1 1 (iI s) a Tya3 ?_)))))));obtain ⟨r,t,h⟩:=ob h;refine cv ([.agg (aE b c d e i f j),iI s]) Tyb32 (IH32 t (hG.mono kr) (RDExpr.intro p q) (pt a)) ?_;rintro _ A ⟨u,rfl,v⟩;have w:=ca v a;refine m2 (.bool r) (wt (wp_ret ?_));cases (oi h).trans hr_;exact retA1 rfl (resT rfl) ⟨u,rfl,(w.sel [1])⟩
theorem f1007390_b_ok (k:Nat) (F:Fam32) (IH32:f32_spec F.f32) (IH1004841:f1004841_spec F.f1004841) (IH1004932:f1004932_spec F.f1004932) (IH1007390:f1007390_spec F.f1007390) (IH1007438:f1007438_spec F.f1007438) (IH1009890:f1009890_spec F.f1009890):f1007390_spec (f1007390_b k F):=by
 unfold f1007390_spec;intro K wi b c d g bs gA bsA sA a h hG f e;obtain ⟨r_,hr_,h⟩:=rz h;refine enter Tryz.func73 rfl (n:=9) rfl ?_;unfold f1007390_b at h;refine sr (m2 vN (wt (sr (m1 (sl c b d) (m1 (.func (.func 74) #[] #[pp g 0]) ?_)))));obtain ⟨a,i,h⟩:=ob h;refine cv ([sl c b d,.func (.func 74) #[] #[pp g 0]]) Tyb98 (IH1009890 i (hG.mono kr) f (pt e)) ?_;rintro _ o ⟨j,rfl,l⟩;have m:=ca l e;refine c0 (decide (a ≥ 0)) (m2 (.bool (decide (a ≥ 0))) (wt (wp_ret ?_)));cases (oi h).trans hr_;exact retA1 rfl (resT rfl) ⟨j,rfl,m⟩
theorem f1007438_b_ok (k:Nat) (F:Fam32) (IH32:f32_spec F.f32) (IH1004841:f1004841_spec F.f1004841) (IH1004932:f1004932_spec F.f1004932) (IH1007390:f1007390_spec F.f1007390) (IH1007438:f1007438_spec F.f1007438) (IH1009890:f1009890_spec F.f1009890):f1007438_spec (f1007438_b k F):=by
 unfold f1007438_spec;intro K wi o y g bs gA bsA sA z h hG p q;obtain ⟨r_,hr_,h⟩:=rz h;obtain ⟨a,b,c,d,e⟩:=o;obtain ⟨f,i,rfl,r,s⟩:=RDExpr.open p;refine enter Tryz.func74 rfl (n:=8) rfl ?_;unfold f1007438_b at h;refine sr (bxoC (cs:=(aE a b c d f e i)) q rfl rfl (fun t j=>(m2 vN (wt (sr (l1 1 (.func (.func 49) #[] #[pp gA 0]) j Tya97 (lN 0 (vE a b c d f e i) j Tya33 Tys33 ?_)))))));have l:=p201 j;obtain ⟨m,u,h⟩:=ob h;refine clV (caps:=#[pp gA 0]) (vs:=[.agg (aE a b c d f e i),pp gA 0]) rfl Tyb49 rfl (IH1004932 u (hG.mono kr) (RDExpr.intro r s) (pt l)) ?_;rintro _ A ⟨v,rfl,w⟩;have x:=ca w l;refine uN m (m2 (.bool (!m)) (wt (wp_ret ?_)));cases (oi h).trans hr_;exact retA1 rfl (resT rfl) ⟨v,rfl,(x.sel [2,0])⟩
theorem f1009890_b_ok (k:Nat) (F:Fam32) (IH32:f32_spec F.f32) (IH1004841:f1004841_spec F.f1004841) (IH1004932:f1004932_spec F.f1004932) (IH1007390:f1007390_spec F.f1007390) (IH1007438:f1007438_spec F.f1007438) (IH1009890:f1009890_spec F.f1009890):f1009890_spec (f1009890_b k F):=by
 unfold f1009890_spec;intro K wi d p q g bs gA bsA sA ac h hG u U;obtain ⟨r_,hr_,h⟩:=rz h;refine enter Tryz.func98 rfl (n:=19) rfl ?_;unfold f1009890_b at h;refine sr (m2 (iI 0) (wt (wp_seq (sr (m1 (sl p d q) (lS d.length Tye31 (m1 (iI 0) (wt (wp_block (wp_loopG (fun g_ a w=>∃ x l e,∃ (c:Nat),g_=e.length∧a=fr 19 (updL x [(0,sl p d q),(1,.func (.func 74) #[] #[pp g 0]),(7,iI (d.length:Int)),(8,iI (c:Int))])∧KH.sub K l∧SR K l wi w [.box bs g #[.func (.func 49) #[] #[pp gA 0]] 97,.box bsA gA #[iI sA] 3] [.box bsA gA #[iI sA] 3,.box bs g #[.func (.func 49) #[] #[pp gA 0]] 97]∧d.drop c=e∧f1009890_l1 k F sA e c=some r_) d.length ?_ ?_))))))))))
 ·exact ⟨_,K,d,0,rfl,fR,kr,(U.sel [1,0]),List.drop_zero,h⟩
 ·rintro _ _ V ⟨x,l,e,c,rfl,rfl,m,s,f,h⟩;rcases e with _ | ⟨⟨y,z,A,B,C⟩,e⟩
  ·unfold f1009890_l1 at h;refine sr (bcm (r:=false) rfl rfl (congrArg some (drop_nil_lt f)) (wt (wp_seq (cndF rfl (wp_exit (thenX (thenX (blkX (thenN (sr (m2 (iI (-1)) (wt (wp_ret ?_)))))))))))));cases (oi h).trans hr_;exact retA1 rfl (resT rfl) ⟨l,rfl,(s.sel [1,0])⟩
  ·unfold f1009890_l1 at h;refine sr (bcm (r:=true) rfl rfl (congrArg some (drop_cons_t f)) (wt (wp_seq (cndT rfl (wp_skip (thenN (wp_seq (wp_block (sr (m1 (iI (c:Int)) (m2 (iI (c:Int)) (wt (sr (m1 (.func (.func 74) #[] #[pp g 0]) (m1 (sl p d q) (m1 (iI (c:Int)) ?_))))))))))))))));obtain ⟨W,X,ad,Y,ae,Z,D⟩:=((me u m)).row.at_ (drop_cons_at f);obtain ⟨G,I,rfl,af,ag⟩:=RDExpr.open D;refine idxN (b:=W) (o:=X) (i:=c) Tye31 Tys33 rfl Y rfl (drop_cons_lt f) (lD (vE y z A B G C I) Tya33 Tys33 rfl (fun j v hj=>s.cell (kr.cell (Z j v hj))) ?_);have J:=p10 s;obtain ⟨ah,ab,h⟩:=ob h;refine clV (caps:=#[pp g 0]) (vs:=[.agg (aE y z A B G C I),pp g 0]) rfl Tyb74 rfl (IH1007438 ab (hG.mono m) D (pt J)) ?_;rintro _ ai ⟨N,rfl,O⟩;have S:=ca O J;refine wt (cd h (fun t h=>?_) (fun t h=>?_))
   ·refine cT t (sr (m1 (iI (c:Int)) (m2 (iI (c:Int)) (wt (wp_ret (blkR (thenR (thenR (blkR (thenR ?_))))))))));cases (oi h).trans hr_;exact retA1 rfl (resT rfl) ⟨N,rfl,S⟩
   ·exact cF t (wp_skip (blkN (thenN (wp_region_lit (bar (r:=((c + 1:Nat):Int)) rfl rfl (inc_ok (le_big (((me u m)).len) (by decide) (drop_cons_lt f))) (m1 (iI ((c + 1:Nat):Int)) (wt (⟨_,Nat.lt_succ_self _,_,N,e,c + 1,rfl,fR,(m.trans O.sub),(S.sel [1,0]),drop_cons_next f,h⟩))))))))
theorem fam32_ok (k0:Nat) : ∀ k,f32_spec (fam32 k0 k).f32∧f1004841_spec (fam32 k0 k).f1004841∧f1004932_spec (fam32 k0 k).f1004932∧f1007390_spec (fam32 k0 k).f1007390∧f1007438_spec (fam32 k0 k).f1007438∧f1009890_spec (fam32 k0 k).f1009890:=by
 intro k;induction k with
 | zero=>exact ⟨(by unfold f32_spec; intro _ _ _ _ _ _ h_; cases h_),(by unfold f1004841_spec; intro _ _ _ _ _ _ _ _ _ h_; cases h_),(by unfold f1004932_spec; intro _ _ _ _ _ _ _ _ h_; cases h_),(by unfold f1007390_spec; intro _ _ _ _ _ _ _ _ _ _ _ h_; cases h_),(by unfold f1007438_spec; intro _ _ _ _ _ _ _ _ _ _ h_; cases h_),(by unfold f1009890_spec; intro _ _ _ _ _ _ _ _ _ _ _ h_; cases h_)⟩
 | succ k ih=>exact ⟨f32_b_ok k0 (fam32 k0 k) ih.1 ih.2.1 ih.2.2.1 ih.2.2.2.1 ih.2.2.2.2.1 ih.2.2.2.2.2,f1004841_b_ok k0 (fam32 k0 k) ih.1 ih.2.1 ih.2.2.1 ih.2.2.2.1 ih.2.2.2.2.1 ih.2.2.2.2.2,f1004932_b_ok k0 (fam32 k0 k) ih.1 ih.2.1 ih.2.2.1 ih.2.2.2.1 ih.2.2.2.2.1 ih.2.2.2.2.2,f1007390_b_ok k0 (fam32 k0 k) ih.1 ih.2.1 ih.2.2.1 ih.2.2.2.1 ih.2.2.2.2.1 ih.2.2.2.2.2,f1007438_b_ok k0 (fam32 k0 k) ih.1 ih.2.1 ih.2.2.1 ih.2.2.2.1 ih.2.2.2.2.1 ih.2.2.2.2.2,f1009890_b_ok k0 (fam32 k0 k) ih.1 ih.2.1 ih.2.2.1 ih.2.2.2.1 ih.2.2.2.2.1 ih.2.2.2.2.2⟩
theorem f32_ok (k:Nat):f32_spec (f32 k):=(fam32_ok k k).1
theorem f1004841_ok (k:Nat):f1004841_spec (f1004841 k):=(fam32_ok k k).2.1
theorem f1004932_ok (k:Nat):f1004932_spec (f1004932 k):=(fam32_ok k k).2.2.1
theorem f1007390_ok (k:Nat):f1007390_spec (f1007390 k):=(fam32_ok k k).2.2.2.1
theorem f1007438_ok (k:Nat):f1007438_spec (f1007438 k):=(fam32_ok k k).2.2.2.2.1
theorem f1009890_ok (k:Nat):f1009890_spec (f1009890 k):=(fam32_ok k k).2.2.2.2.2
theorem f20_b_ok (k:Nat):f20_spec (f20_b k):=by
 unfold f20_spec;intro K wi Z ak c o p al am h hG ab N ac;obtain ⟨r_,hr_,h⟩:=rz h;obtain ⟨d,e,f,g,i⟩:=Z;obtain ⟨j,l,rfl,y,z⟩:=RDExpr.open ab;refine enter Tryz.func20 rfl (n:=29) rfl ?_;unfold f20_b at h;refine sr (bxoC (cs:=(aE d e f g j i l)) ac rfl rfl (fun an O=>(m2 (iI 0) (m2 (iI 0) (wt (sr (m1 (sl o c p) ?_)))))));obtain ⟨t,ad,h⟩:=ob h;refine cv ([sl o c p,.func (.func 30) #[] #[]]) Tyb29 ((f1002918_ok k) ad (hG.mono kr) N (pt O)) ?_;rintro _ ao ⟨ae,rfl,m⟩;have A:=ca m O;refine m2 (.bool t) (wt (wp_seq (wp_cut (fun a w=>∃ S u B,a=fr 29 (updL S [(1,sl o c p),(2,pp (zz wi) 0),(22,.bool B)])∧KH.sub ae u∧SR K u wi w [] [.box (zz wi) (zz wi) (aE d e f g j i l) 33]∧f20_j1 k d e f g i c B=some r_) ?_ ?_)))
 ·refine wp_region_lit (lN 0 (vE d e f g j i l) A Tya33 Tys33 ?_);obtain ⟨U,af,h⟩:=ob h;refine cv ([.agg (aE d e f g j i l),vT]) Tyb31 ((f31_ok k) af (hG.mono m.sub) (RDExpr.intro y (me z m.sub)) (pt A)) ?_;rintro _ ap ⟨ag,rfl,q⟩;have v:=ca q A;refine uN U (m1 (.bool (!U)) (cd h (fun b h=>?_) (fun b h=>?_)))
  ·exact o1 13 b (o1 13 b (o1 13 b (o1 13 b (o1 13 b (m3 true vT (cg b) (m1 vT (o0 20 (m3 true vT rfl (wt (⟨_,ag,true,fR,q.sub,v,h⟩))))))))))
  ·refine n1 13 b (lN 0 (vE d e f g j i l) v Tya33 Tys33 (n1 13 b (m1 (sl o c p) (n1 13 b (lS c.length Tye48 (n1 13 b ?_))))));obtain ⟨C,ah,h⟩:=ob h;refine cv ([.agg (aE d e f g j i l),iI (c.length:Int)]) Tyb32 ((f32_ok k) ah (hG.mono (m.sub.trans q.sub)) (RDExpr.intro y (me z (m.sub.trans q.sub))) (pt v)) ?_;rintro _ aq ⟨V,rfl,D⟩;have W:=ca D v;refine n1 13 b (uN C (m3 false (.bool (!C)) (cg b) (m1 (.bool (!C)) (cd h (fun r h=>?_) (fun r h=>?_)))))
   ·exact o1 20 r (m3 true vT (cg r) (wt (⟨_,V,true,fR,(q.sub.trans D.sub),W,h⟩)))
   ·exact n1 20 r (m1 (.bool t) (m3 false (.bool t) (cg r) (wt (⟨_,V,t,fR,(q.sub.trans D.sub),W,h⟩))))
 ·rintro _ ar ⟨S,u,B,rfl,G,x,h⟩;unfold f20_j1 at h;refine cd h (fun I h=>?_) (fun I h=>?_)
  ·refine cT I (sr (m2 (iI 0) (m2 (iI 2) (wt (wp_ret (thenR ?_))))));cases (oi h).trans hr_;exact retA2 rfl (resT rfl) (resT rfl) ⟨u,rfl,(x.sel [])⟩
  ·refine cF I (wp_skip (thenN (sr (lN 0 (vE d e f g j i l) x Tya33 Tys33 (m1 (sl o c p) ?_)))));obtain ⟨s,ai,h⟩:=ob h;refine cv ([.agg (aE d e f g j i l),sl o c p]) Tyb33 ((f33_ok k) ai (hG.mono (m.sub.trans G)) (RDExpr.intro y (me z (m.sub.trans G))) (N.mono (m.sub.trans G) (fun _ _ h=>h)) (pt x)) ?_;rintro _ au ⟨X,rfl,aj⟩;have Y:=ca aj x;refine m2 (iI s) (wt (wp_seq (sr (m1 (iI s) (c0 (s == (-1)) (wt (cd h (fun J h=>?_) (fun J h=>?_))))))))
   ·refine cT J (sr (m2 (iI 0) (m2 (iI 23) (wt (wp_ret (thenR ?_))))));cases (oi h).trans hr_;exact retA2 rfl (resT rfl) (resT rfl) ⟨X,rfl,(Y.sel [])⟩
   ·refine cF J (wp_skip (thenN (sr (m1 (iI s) (m2 (iI s) (m2 (iI 0) (wt (wp_ret ?_))))))));cases (oi h).trans hr_;exact retA2 rfl (resT rfl) (resT rfl) ⟨X,rfl,(Y.sel [])⟩
theorem f20_ok (k:Nat):f20_spec (f20 k):=f20_b_ok k
theorem f8_b_ok (k:Nat):f8_spec (f8_b k):=by
 unfold f8_spec;intro K wi aM h hG D;obtain ⟨r_,hr_,h⟩:=rz h;refine enter Tryz.func8 rfl (n:=48) rfl ?_;unfold f8_b at h;refine sr (m2 vN (wt (sr ?_)));obtain ⟨⟨Y⟩,Z,h⟩:=ob h;refine cv ([.slice none ([]:LS).length 0]) Tyb19 ((f19_ok k) Z (hG.mono kr) (RSl.nil _ _ _ _ _ _) (pt D)) ?_;rintro _ aN ⟨aP,aQ,rfl,m,G⟩;have I:=ca m D;obtain ⟨ab,ac,rfl,aT⟩:=RDProgram.open G;obtain ⟨⟨⟨p⟩,l⟩,ad,h⟩:=ob h;refine cv ([.agg #[sl ab Y ac]]) Tyb10 ((f10_ok k) ad (hG.mono m.sub) G (pt I)) ?_;rintro _ aU ⟨ae,aV,rfl,q,af⟩;have ag:=ca q I;obtain ⟨r,s,rfl,aW⟩:=RDProgram.open af;refine m1 (.tuple #[.agg #[sl r p s],iI l]) (ext (v:=.agg #[sl r p s]) rfl rfl (ext (v:=iI l) rfl rfl (aC #[nS] ag Tyz24 (fun aX ah=>(sI 0 (.agg #[sl r p s]) #[sl r p s] ah Tys24 rfl rfl (fun ai aj=>(m2 (iI l) (wt (sr (bld (cells:=#[iI 18,sE,iI 0,sE,iI 0,iI 0,nS,nS,nS,nS,nS]) (vs:=[(0,iI 18)]) rfl (fun w=>by kernel_rfl) (bsl (e:=37) (cells:=#[iI 18,sE,iI 0,sE,iI 0,iI 0,nS,nS,nS,nS,nS]) (vs:=[(0,.agg #[iI 18,sE,iI 0,sE,iI 0,iI 0,nS,nS,nS,nS,nS])]) aj rfl (buildSl_one Tye34 Tys37 Tyz37 rfl (by decide) (by decide) rfl) (fun aY ak=>?_))))))))))));obtain ⟨aZ,J,y,al⟩:=frzI (i:=0) (bytes:=184) (xs:=[(DStmt.mk 18 ⟨#[]⟩ 0 ⟨#[]⟩ 0 0 [] [] [] [] [])]) (R:=fun K=>(RDStmt K)) ak rfl (Nat.le_refl _) ⟨[iI 18,sE,iI 0,sE,iI 0,iI 0,nS,nS,nS,nS,nS],_,rfl,rfl,(RDStmt.intro (by decide) (by decide) (RSl.nil _ _ _ _ _ _) (RSl.nil _ _ _ _ _ _) (RSl.nil _ _ _ _ _ _) (RSl.nil _ _ _ _ _ _) (RSl.nil _ _ _ _ _ _)),(reps0 (R:=(RDStmt ae)) (size:=11))⟩ rfl (Nat.le_of_ble_eq_true rfl) (fun hs=>(fun _ _ h=>RDStmt.mono hs h));obtain ⟨⟨am⟩,an,h⟩:=ob h;refine cv ([.slice (some ⟨(zz ai),0,none⟩) [(DStmt.mk 18 ⟨#[]⟩ 0 ⟨#[]⟩ 0 0 [] [] [] [] [])].length 1]) Tyb19 ((f19_ok k) an (hG.mono J.sub) al (pt J)) ?_;rintro _ a0 ⟨a1,a2,rfl,z,N⟩;have O:=ca z J;obtain ⟨ao,ap,rfl,a3⟩:=RDProgram.open N;obtain ⟨⟨⟨t⟩,b⟩,aq,h⟩:=ob h;refine cv ([.agg #[sl ao am ap]]) Tyb10 ((f10_ok k) aq (hG.mono O.sub) N (pt O)) ?_;rintro _ a4 ⟨ar,a5,rfl,S,au⟩;have av:=ca S O;obtain ⟨u,x,rfl,a6⟩:=RDProgram.open au;refine m1 (.tuple #[.agg #[sl u t x],iI b]) (ext (v:=.agg #[sl u t x]) rfl rfl (ext (v:=iI b) rfl rfl (aC #[nS] av Tyz24 (fun a7 aw=>(sI 0 (.agg #[sl u t x]) #[sl u t x] aw Tys24 rfl rfl (fun A ax=>(m2 (iI b) (wt (sr (bld (cells:=#[iI 1,iI 0,sE,iI 0,nS]) (vs:=[(0,iI 1)]) rfl (fun w=>by kernel_rfl) (bld (cells:=#[iI 4,iI 0,.string ⟨#[120]⟩,iI 1,nS]) (vs:=[(0,iI 4),(2,.string ⟨#[120]⟩),(3,iI 1)]) rfl (fun w=>by kernel_rfl) (bsl (e:=33) (cells:=#[iI 1,iI 0,sE,iI 0,nS,iI 4,iI 0,.string ⟨#[120]⟩,iI 1,nS]) (vs:=[(0,.agg #[iI 1,iI 0,sE,iI 0,nS]),(1,.agg #[iI 4,iI 0,.string ⟨#[120]⟩,iI 1,nS])]) ax rfl (fun w=>by kernel_rfl) (fun ay az=>(bld (cells:=#[iI 11,iI 0,sE,iI 0,.slice (some ⟨(zz A),0,none⟩) 2 2]) (vs:=[(0,iI 11),(4,.slice (some ⟨(zz A),0,none⟩) 2 2)]) rfl (fun w=>by kernel_rfl) (bsl (e:=3) (cells:=#[iI 3,iI 1]) (vs:=[(0,iI 3),(1,iI 1)]) az rfl (fun w=>by kernel_rfl) (fun a8 aA=>?_))))))))))))))));obtain ⟨a9,aB,aG,aH⟩:=frzI (i:=1) (bytes:=64) (xs:=[(DExpr.mk 1 0 ⟨#[]⟩ 0 []),(DExpr.mk 4 0 ⟨#[120]⟩ 1 [])]) (R:=fun K=>(RDExpr K)) aA rfl (Nat.le_refl _) ⟨[iI 1,iI 0,sE,iI 0,nS],_,rfl,rfl,(RDExpr.intro (by decide) (RSl.nil _ _ _ _ _ _)),⟨[iI 4,iI 0,.string ⟨#[120]⟩,iI 1,nS],_,rfl,rfl,(RDExpr.intro (by decide) (RSl.nil _ _ _ _ _ _)),(reps0 (R:=(RDExpr ar)) (size:=5))⟩⟩ rfl (Nat.le_of_ble_eq_true rfl) (fun hs=>(fun _ _ h=>RDExpr.mono hs h));obtain ⟨ba,U,V,aI⟩:=frzI (i:=0) (bytes:=8) (xs:=[3,1]) (R:=fun K=>(RInt .i64)) aB rfl (Nat.le_refl _) ⟨[iI 3],_,rfl,rfl,rfl,⟨[iI 1],_,rfl,rfl,rfl,(reps0 (R:=(RInt .i64)) (size:=1))⟩⟩ rfl (Nat.le_of_ble_eq_true rfl) (fun hs=>(fun _ _ h=>h));obtain ⟨⟨c,d⟩,aJ,h⟩:=ob h;refine cv ([.agg (aE 11 0 ⟨#[]⟩ 0 (some ⟨(zz A),0,none⟩) [(DExpr.mk 1 0 ⟨#[]⟩ 0 []),(DExpr.mk 4 0 ⟨#[120]⟩ 1 [])] 2),.slice (some ⟨(zz ay),0,none⟩) [3,1].length 2]) Tyb20 ((f20_ok k) aJ (hG.mono ((((((m.sub.trans q.sub).trans y).trans z.sub).trans S.sub).trans aG).trans V)) (RDExpr.intro (by decide) (me aH V)) aI (pt U)) ?_;rintro _ bb ⟨W,rfl,aK⟩;have o:=ca aK U;refine m1 (.tuple #[iI c,iI d]) (ext (v:=iI c) rfl rfl (ext (v:=iI d) rfl rfl (m2 (iI c) (m2 (iI d) (wt (wp_cut (fun a w=>∃ X B,a=fr 48 (updL X [(0,.bool B)])∧SR K W wi w [] []∧f8_j1 k B=some r_) ?_ ?_))))))
 ·refine wp_region_lit (m1 (iI l) (c0 (l == 0) (m1 (.bool (l == 0)) (cd h (fun f h=>?_) (fun f h=>?_)))))
  ·refine n1 30 f (m1 (iI b) (n1 30 f (c0 (b == 26) (m3 true (.bool (b == 26)) (cg f) (m1 (.bool (b == 26)) (cd h (fun g h=>?_) (fun g h=>?_)))))))
   ·refine n1 34 g (m1 (iI d) (n1 34 g (c0 (d == 0) (m3 true (.bool (d == 0)) (cg g) (m1 (.bool (d == 0)) (cd h (fun j h=>?_) (fun j h=>?_)))))))
    ·refine n1 38 j (m1 (iI c) (n1 38 j (c0 (c == 2) (m3 true (.bool (c == 2)) (cg j) (m1 (.bool (c == 2)) (cd h (fun C h=>?_) (fun C h=>?_)))))))
     ·exact m3 true vT (cg C) (m1 vT (m3 true vT rfl (m1 vT (m3 true vT rfl (m2 vT (wt (⟨_,true,fR,(o.sel []),h⟩)))))))
     ·exact m3 false vN (cg C) (m1 vN (m3 false vN rfl (m1 vN (m3 false vN rfl (m2 vN (wt (⟨_,false,fR,(o.sel []),h⟩)))))))
    ·exact o1 38 j (o1 38 j (m3 false vN (cg j) (m1 vN (m3 false vN rfl (m1 vN (m3 false vN rfl (m1 vN (m3 false vN rfl (m2 vN (wt (⟨_,false,fR,(o.sel []),h⟩)))))))))))
   ·exact o1 34 g (o1 34 g (m3 false vN (cg g) (m1 vN (o0 38 (o0 38 (m3 false vN rfl (m1 vN (m3 false vN rfl (m1 vN (m3 false vN rfl (m1 vN (m3 false vN rfl (m2 vN (wt (⟨_,false,fR,(o.sel []),h⟩)))))))))))))))
  ·exact o1 30 f (o1 30 f (m3 false vN (cg f) (m1 vN (o0 34 (o0 34 (m3 false vN rfl (m1 vN (o0 38 (o0 38 (m3 false vN rfl (m1 vN (m3 false vN rfl (m1 vN (m3 false vN rfl (m1 vN (m3 false vN rfl (m2 vN (wt (⟨_,false,fR,(o.sel []),h⟩)))))))))))))))))))
 ·rintro _ bd ⟨X,B,rfl,aL,h⟩;unfold f8_j1 at h;refine wp_ret ?_;cases (oi h).trans hr_;exact retA1 rfl (resT rfl) ⟨W,rfl,aL⟩
theorem f8_ok (k:Nat):f8_spec (f8 k):=f8_b_ok k
theorem f9_b_ok (k:Nat):f9_spec (f9_b k):=by
 unfold f9_spec;intro K wi b c f h hG d;obtain ⟨r_,hr_,h⟩:=rz h;refine enter Tryz.func9 rfl (n:=11) rfl ?_;unfold f9_b at h;refine sr (m2 (iI 0) (wt (sr (m1 (iI b) (cvi (a:=b) (k:=.i64) (k':=.u64) Tyk3 Tyk61 rfl (m1 (iI c) (cvi (a:=c) (k:=.i64) (k':=.u64) Tyk3 Tyk61 rfl ?_)))))));obtain ⟨e,h⟩:=of_guard h;refine brm rfl rfl e (cvi (a:=((IntKind.u64.wrap b).tmod (IntKind.u64.wrap c))) (k:=.u64) (k':=.i64) Tyk61 Tyk3 rfl (m2 (iI (w64 ((IntKind.u64.wrap b).tmod (IntKind.u64.wrap c)))) (wt (wp_ret ?_))));cases (oi h).trans hr_;exact retA1 rfl (resT rfl) ⟨K,rfl,d⟩
theorem f9_ok (k:Nat):f9_spec (f9 k):=f9_b_ok k
theorem f5_b_ok (k:Nat):f5_spec (f5_b k):=by
 unfold f5_spec;intro K wi bV dj aH aI dk h hG bW bX;obtain ⟨r_,hr_,h⟩:=rz h;obtain ⟨c⟩:=bV;obtain ⟨l,c1,rfl,aJ⟩:=RDProgram.open bW;refine enter Tryz.func5 rfl (n:=133) rfl ?_;unfold f5_b at h;refine sr (bxoC (cs:=#[sl l c c1]) bX rfl rfl (fun dl bh=>(m2 vN (wt (wp_seq (wp_cut (fun a w=>∃ bH a3 bi,a=fr 133 (updL bH [(1,iI aH),(2,iI aI),(3,pp (zz wi) 0),(29,.bool bi)])∧KH.sub K a3∧SR K a3 wi w [] [.box (zz wi) (zz wi) #[sl l c c1] 24]∧f5_j1 k c aH aI bi=some r_) ?_ ?_))))))
 ·refine wp_region_lit (lN 0 ([sl l c c1]) bh Tya24 Tys24 ?_);obtain ⟨bI,bY,h⟩:=ob h;refine cv ([.agg #[sl l c c1]]) Tyb7 ((f7_ok k) bY (hG.mono kr) (RDProgram.intro aJ) (pt bh)) ?_;rintro _ dm ⟨bJ,rfl,bj⟩;have bk:=ca bj bh;refine uN bI (m1 (.bool (!bI)) (cd h (fun U h=>?_) (fun U h=>?_)))
  ·exact o1 24 U (o1 24 U (o1 24 U (o1 24 U (m3 true vT (cg U) (wt (⟨_,bJ,true,fR,bj.sub,bk,h⟩))))))
  ·exact n1 24 U (fd 0 Tyf24_0 rfl (n1 24 U (l1 0 (sl l c c1) bk Tya22 (n1 24 U (lS c.length Tye22 (n1 24 U (c0 (decide ((c.length:Int) < 2)) (m3 false (.bool (decide ((c.length:Int) < 2))) (cg U) (wt (⟨_,bJ,(decide ((c.length:Int) < 2)),fR,bj.sub,bk,h⟩))))))))))
 ·rintro _ dn ⟨bH,a3,bi,rfl,B,bm,h⟩;unfold f5_j1 at h;refine cd h (fun bn h=>?_) (fun bn h=>?_)
  ·refine cT bn (sr ?_);obtain ⟨bZ,b0,h⟩:=ob h;refine cv ([]) Tyb8 ((f8_ok k) b0 (hG.mono B) (pt bm)) ?_;rintro _ dp ⟨b1,rfl,b2⟩;have b3:=ca b2 bm;refine m2 (.bool bZ) (wt (wp_ret (thenR ?_)));cases (oi h).trans hr_;exact retA1 rfl (resT rfl) ⟨b1,rfl,(b3.sel [])⟩
  ·refine cF bn (wp_skip (thenN (wp_seq (rA [] [0] bm (fun S q0=>kM 0 (iI aH) rfl q0 (kF 1 0 rfl Tyf24_0 rfl q0 (tL 2 (sl l c c1) [] 0 rfl Tya22 q0 (kL 3 c.length rfl Tye22 q0 (kA 4 (w64 ((c.length:Int) - 1)) rfl q0 (kM 7 (iI aI) rfl q0 (kF 8 0 rfl Tyf24_0 rfl q0 (tL 9 (sl l c c1) [] 0 rfl Tya22 q0 (kL 10 c.length rfl Tye22 q0 (kA 11 (w64 ((c.length:Int) - 1)) rfl q0 (aO 5 rfl ?_)))))))))))))));obtain ⟨d,b4,h⟩:=ob h;refine cv ([iI aH,iI (w64 ((c.length:Int) - 1))]) Tyb9 ((f9_ok k) b4 (hG.mono B) (pt S)) ?_;rintro _ dq ⟨dr,rfl,f⟩;have a4:=ca f S;refine wb (fwOf (is:=[0]) a4 f.sub rfl) (fun q2=>kA 6 (w64 (1 + d)) rfl q2 (aO 12 rfl ?_));obtain ⟨g,b5,h⟩:=ob h;refine cv ([iI aI,iI (w64 ((c.length:Int) - 1))]) Tyb9 ((f9_ok k) b5 (hG.mono a4.sub) (pt a4)) ?_;rintro _ ds ⟨dt,rfl,s⟩;have am:=ca s a4;refine wb (fwOf (is:=[0]) am (f.sub.trans s.sub) rfl) (fun q3=>kA 13 (w64 (1 + g)) rfl q3 (kG 14 (iI (w64 (1 + d))) rfl q3 (kG 15 (iI (w64 (1 + g))) rfl q3 (aD (thenN (wp_seq (sr (lN 0 ([sl l c c1]) am Tya24 Tys24 ?_))))))));obtain ⟨⟨⟨ai⟩,aK⟩,b6,h⟩:=ob h;refine cv ([.agg #[sl l c c1]]) Tyb10 ((f10_ok k) b6 (hG.mono ((B.trans f.sub).trans s.sub)) (RDProgram.intro (mf aJ ((B.trans f.sub).trans s.sub))) (pt am)) ?_;rintro _ a5 ⟨du,dv,rfl,O,b7⟩;have b8:=ca O am;obtain ⟨aj,ak,rfl,dw⟩:=RDProgram.open b7;refine m1 (.tuple #[.agg #[sl aj ai ak],iI aK]) (ext (v:=.agg #[sl aj ai ak]) rfl rfl (ext (v:=iI aK) rfl rfl (aC #[nS] b8 Tyz24 (fun dx b9=>(sI 0 (.agg #[sl aj ai ak]) #[sl aj ai ak] b9 Tys24 rfl rfl (fun dy aL=>(m2 (iI aK) (wt (sr (m1 (iI aK) (c0 (aK != 0) (wt (cd h (fun bo h=>?_) (fun bo h=>?_))))))))))))))
   ·refine cT bo (sr ?_);obtain ⟨cb,cc,h⟩:=ob h;refine cv ([]) Tyb8 ((f8_ok k) cc (hG.mono aL.sub) (pt aL)) ?_;rintro _ dz ⟨ce,rfl,cf⟩;have ch:=ca cf aL;refine m2 (.bool cb) (wt (wp_ret (thenR ?_)));cases (oi h).trans hr_;exact retA1 rfl (resT rfl) ⟨ce,rfl,(ch.sel [])⟩
   ·refine cF bo (wp_skip (thenN (sr (lN 1 ([sl l c c1]) aL Tya24 Tys24 ?_))));obtain ⟨⟨ci⟩,cj,h⟩:=ob h;refine cv ([.agg #[sl l c c1]]) Tyb11 ((f11_ok k) cj (hG.mono (((B.trans f.sub).trans s.sub).trans O.sub)) (RDProgram.intro (mf aJ (((B.trans f.sub).trans s.sub).trans O.sub))) (pt aL)) ?_;rintro _ dA ⟨dB,dC,rfl,V,bK⟩;have bp:=ca V aL;obtain ⟨ck,cl,rfl,dD⟩:=RDProgram.open bK;obtain ⟨⟨e⟩,cm,h⟩:=ob h;refine cv ([.agg #[sl ck ci cl]]) Tyb14 ((f14_ok k) cm (hG.mono bp.sub) bK (pt bp)) ?_;rintro _ ay ⟨az,m,q,bL,rfl,Y,bq,cn⟩;have co:=ca Y bp;have cq:=co.lower_ (i:=0) rfl bp.size;refine aC #[nS] cq Tyz24 (fun dE cr=>(sI 0 (.agg #[sl m e q]) #[sl m e q] cr Tys24 rfl rfl (fun a6 a7=>(wt (sr (fd 0 Tyf24_0 rfl (l1 0 (sl m e q) a7 Tya22 (m1 (iI (w64 (1 + d))) ?_))))))));obtain ⟨⟨t,u,x,y,z,A⟩,aA,h⟩:=ob h;obtain ⟨br,dF,bs,dG,ct,cu⟩:=row_at (a7.entAt (i:=1) rfl) bq (idxO_at aA).1;obtain ⟨Z,ab,ac,ad,rfl,cw,cx,cy⟩:=RDFunc.open ct;refine idxG (b:=br) (o:=0) (i:=(w64 (1 + d))) Tye22 Tys42 rfl bs rfl (idxO_at aA).2.1 (idxO_at aA).2.2 (lD (vF t Z u ab x y z ac A ad) Tya42 Tys42 rfl (fun j v hj=>cu _ (a7.entAt (i:=1) rfl) j v hj) (aC zF.toArray a7 Tyz42 (fun dH cz=>(sI 0 (.agg (aF t Z u ab x y z ac A ad)) ((aF t Z u ab x y z ac A ad)) cz Tys42 rfl rfl (fun cA cB=>?_)))));have cC:=cB;refine wt (wp_seq (rA [9] [0,1,2,3,4] cC (fun W q1=>kF 0 0 rfl Tyf24_0 rfl q1 (tL 1 (sl m e q) [[9,1]] 1 rfl Tya22 q1 (kM 2 (iI (w64 (1 + d))) rfl q1 (kF 3 0 rfl Tyf24_0 rfl q1 (tL 4 (sl m e q) [[9,4]] 1 rfl Tya22 q1 (kM 5 (iI (w64 (1 + g))) rfl q1 ?_))))))));obtain ⟨⟨C,D,G,I,J,N⟩,bu,h⟩:=ob h;obtain ⟨bM,dI,cD,dJ,cG,cH⟩:=row_at (W.entAt (i:=2) rfl) bq (idxO_at bu).1;obtain ⟨bv,bw,bx,bz,rfl,cI,cJ,cK⟩:=RDFunc.open cG;refine kK 6 (pp bM (0 + (w64 (1 + g)).toNat * 6)) rfl (fun w=>idxG_r (b:=bM) (o:=0) (i:=(w64 (1 + g))) Tye22 Tys42 rfl cD rfl (idxO_at bu).2.1 (idxO_at bu).2.2) q1 (tT 7 (.agg (aF C bv D bw G I J bx N bz)) [[9,7]] rfl q1 (fun w hF=>ldN_r (cs:=(vF C bv D bw G I J bx N bz)) Tya42 Tys42 rfl rfl (fun j v hj=>cH _ (hF.entAt (i:=2) rfl) j v hj)) (kK 8 (pp br (0 + (w64 (1 + d)).toNat * 6)) rfl (fun w=>idxG_r (b:=br) (o:=0) (i:=(w64 (1 + d))) Tye22 Tys42 rfl bs rfl (idxO_at aA).2.1 (idxO_at aA).2.2) q1 (aO 9 rfl (stR (R:=(RDFunc az)) (i:=2) (off:=0) (p:=(DFunc.mk t u x y z A)) (p':=(DFunc.mk C D G I J N)) (v:=.agg (aF C bv D bw G I J bx N bz)) W rfl bq (idxO_at aA).1 Tys42 bs rfl rfl rfl rfl (by decide) (fun cs_ h_=>by obtain ⟨dK,dL,dM,dN,rfl,dO,dP,dQ⟩:=RDFunc.open h_; exact RDFunc.intro cI cJ cK) (fun cL cM cN bN=>?_)))));have a8:SR K az wi cM [] [.box (zz wi) (zz a6) #[.string t,sl Z u ab,iI x,.bool y,iI z,sl ac A ad] 42,.box (zz wi) (zz ay) #[.slice m (e.set (w64 (1 + d)).toNat (DFunc.mk C D G I J N)).length q] 24,.row (zz wi) (.slice m (e.set (w64 (1 + d)).toNat (DFunc.mk C D G I J N)).length q) 42 6 (e.set (w64 (1 + d)).toNat (DFunc.mk C D G I J N)).length cL,.box (zz wi) (zz a5) #[sl aj ai ak] 24,.box (zz wi) (zz wi) #[sl l c c1] 24]:=by simpa only [List.length_set,List.eraseIdx_zero,List.eraseIdx_cons_succ,List.tail_cons,List.set_cons_succ,List.set_cons_zero,List.nil_append,List.cons_append] using cN
    refine wt ⟨hE 9,aD (thenN (sr (fd 0 Tyf24_0 rfl (l1 1 (.slice m (e.set (w64 (1 + d)).toNat (DFunc.mk C D G I J N)).length q) a8 Tya22 (m1 (iI (w64 (1 + g))) (lN 0 (vF t Z u ab x y z ac A ad) a8 Tya42 Tys42 ?_))))))⟩;obtain ⟨⟨cO,cP,cQ,cR,cS,cU⟩,a9,h⟩:=ob h;obtain ⟨cV,dR,bO,dS,cW,dT⟩:=row_at (a8.entAt (i:=2) rfl) bN (idxO_at a9).1;obtain ⟨dU,dV,dW,dX,rfl,dY,dZ,d0⟩:=RDFunc.open cW;refine idxG (b:=cV) (o:=0) (i:=(w64 (1 + g))) Tye22 Tys42 rfl bO rfl (idxO_at a9).2.1 (idxO_at a9).2.2 (stR (R:=(RDFunc az)) (i:=2) (off:=0) (p:=(DFunc.mk cO cP cQ cR cS cU)) (p':=(DFunc.mk t u x y z A)) (v:=.agg (aF t Z u ab x y z ac A ad)) a8 rfl bN (idxO_at a9).1 Tys42 bO rfl rfl rfl rfl (by decide) (fun cs_ h_=>by obtain ⟨d1,d2,d3,d4,rfl,d5,d6,d7⟩:=RDFunc.open h_; exact RDFunc.intro cw cx cy) (fun cX cY cZ c2=>?_));have bP:SR K az wi cY [] [.box (zz wi) (zz a6) #[.string t,sl Z u ab,iI x,.bool y,iI z,sl ac A ad] 42,.box (zz wi) (zz ay) #[.slice m ((e.set (w64 (1 + d)).toNat (DFunc.mk C D G I J N)).set (w64 (1 + g)).toNat (DFunc.mk t u x y z A)).length q] 24,.row (zz wi) (.slice m ((e.set (w64 (1 + d)).toNat (DFunc.mk C D G I J N)).set (w64 (1 + g)).toNat (DFunc.mk t u x y z A)).length q) 42 6 ((e.set (w64 (1 + d)).toNat (DFunc.mk C D G I J N)).set (w64 (1 + g)).toNat (DFunc.mk t u x y z A)).length cX,.box (zz wi) (zz a5) #[sl aj ai ak] 24,.box (zz wi) (zz wi) #[sl l c c1] 24]:=by simpa only [List.length_set,List.eraseIdx_zero,List.eraseIdx_cons_succ,List.tail_cons,List.set_cons_succ,List.set_cons_zero,List.nil_append,List.cons_append] using cZ
    refine wt (wp_seq (sr (lN 1 ([.slice m ((e.set (w64 (1 + d)).toNat (DFunc.mk C D G I J N)).set (w64 (1 + g)).toNat (DFunc.mk t u x y z A)).length q]) bP Tya24 Tys24 ?_)));obtain ⟨d8,bQ,ae,bA⟩:=shutI (i:=2) (bytes:=88) (R:=fun K=>(RDFunc K)) bP rfl (Nat.le_refl _) c2 (set_bound (set_bound cn)) (fun hs=>(fun _ _ h=>RDFunc.mono hs h));obtain ⟨⟨⟨ba⟩,aM⟩,c3,h⟩:=ob h;refine cv ([.agg #[.slice m ((e.set (w64 (1 + d)).toNat (DFunc.mk C D G I J N)).set (w64 (1 + g)).toNat (DFunc.mk t u x y z A)).length q]]) Tyb10 ((f10_ok k) c3 (hG.mono ((((((B.trans f.sub).trans s.sub).trans O.sub).trans V.sub).trans Y.sub).trans ae)) (RDProgram.intro bA) (pt bQ)) ?_;rintro _ d9 ⟨c4,ea,rfl,X,c5⟩;have c6:=ca X bQ;obtain ⟨bb,bd,rfl,ec⟩:=RDProgram.open c5;refine m1 (.tuple #[.agg #[sl bb ba bd],iI aM]) (ext (v:=.agg #[sl bb ba bd]) rfl rfl (ext (v:=iI aM) rfl rfl (aC #[nS] c6 Tyz24 (fun ed c7=>(sI 0 (.agg #[sl bb ba bd]) #[sl bb ba bd] c7 Tys24 rfl rfl (fun ee be=>(m2 (iI aM) (wt (sr (m1 (iI aM) (c0 (aM != 0) (wt (cd h (fun bB h=>?_) (fun bB h=>?_))))))))))))))
    ·refine cT bB (sr (m2 vN (wt (wp_ret (thenR ?_)))));cases (oi h).trans hr_;exact retA1 rfl (resT rfl) ⟨c4,rfl,(be.sel [])⟩
    ·refine cF bB (wp_skip (thenN (sr (lN 4 ([sl l c c1]) be Tya24 Tys24 (m1 (iI (w64 (1 + d))) ?_)))));obtain ⟨⟨aN,aB⟩,c8,h⟩:=ob h;refine cv ([.agg #[sl l c c1],iI (w64 (1 + d))]) Tyb15 ((f15_ok k) c8 (hG.mono (((((((B.trans f.sub).trans s.sub).trans O.sub).trans V.sub).trans Y.sub).trans ae).trans X.sub)) (RDProgram.intro (mf aJ (((((((B.trans f.sub).trans s.sub).trans O.sub).trans V.sub).trans Y.sub).trans ae).trans X.sub))) (pt be)) ?_;rintro _ ef ⟨eg,aP,aQ,rfl,af,c9⟩;have bC:=ca af be;refine m1 (.tuple #[sl aP aN aQ,iI aB]) (ext (v:=sl aP aN aQ) rfl rfl (ext (v:=iI aB) rfl rfl (m2 (sl aP aN aQ) (m2 (iI aB) (wt (sr (lN 2 ([.slice m ((e.set (w64 (1 + d)).toNat (DFunc.mk C D G I J N)).set (w64 (1 + g)).toNat (DFunc.mk t u x y z A)).length q]) bC Tya24 Tys24 (m1 (iI (w64 (1 + g))) ?_))))))));obtain ⟨⟨aT,an⟩,da,h⟩:=ob h;refine cv ([.agg #[.slice m ((e.set (w64 (1 + d)).toNat (DFunc.mk C D G I J N)).set (w64 (1 + g)).toNat (DFunc.mk t u x y z A)).length q],iI (w64 (1 + g))]) Tyb15 ((f15_ok k) da (hG.mono ((((((((B.trans f.sub).trans s.sub).trans O.sub).trans V.sub).trans Y.sub).trans ae).trans X.sub).trans af.sub)) (RDProgram.intro (mf bA (X.sub.trans af.sub))) (pt bC)) ?_;rintro _ eh ⟨ei,aU,aV,rfl,al,db⟩;have bD:=ca al bC;refine m1 (.tuple #[sl aU aT aV,iI an]) (ext (v:=sl aU aT aV) rfl rfl (ext (v:=iI an) rfl rfl (m2 (sl aU aT aV) (m2 (iI an) (wt (sr (lN 4 ([sl l c c1]) bD Tya24 Tys24 (m1 (iI (w64 (1 + d))) ?_))))))));obtain ⟨⟨ao,ap⟩,dc,h⟩:=ob h;refine cv ([.agg #[sl l c c1],iI (w64 (1 + d))]) Tyb13 ((f13_ok k) dc (hG.mono (((((((((B.trans f.sub).trans s.sub).trans O.sub).trans V.sub).trans Y.sub).trans ae).trans X.sub).trans af.sub).trans al.sub)) (RDProgram.intro (mf aJ (((((((((B.trans f.sub).trans s.sub).trans O.sub).trans V.sub).trans Y.sub).trans ae).trans X.sub).trans af.sub).trans al.sub))) (pt bD)) ?_;rintro _ ej ⟨ek,rfl,aq⟩;have bE:=ca aq bD;refine m1 (.tuple #[.bool ao,iI ap]) (ext (v:=.bool ao) rfl rfl (ext (v:=iI ap) rfl rfl (m2 (.bool ao) (m2 (iI ap) (wt (sr (lN 2 ([.slice m ((e.set (w64 (1 + d)).toNat (DFunc.mk C D G I J N)).set (w64 (1 + g)).toNat (DFunc.mk t u x y z A)).length q]) bE Tya24 Tys24 (m1 (iI (w64 (1 + g))) ?_))))))));obtain ⟨⟨ar,au⟩,dd,h⟩:=ob h;refine cv ([.agg #[.slice m ((e.set (w64 (1 + d)).toNat (DFunc.mk C D G I J N)).set (w64 (1 + g)).toNat (DFunc.mk t u x y z A)).length q],iI (w64 (1 + g))]) Tyb13 ((f13_ok k) dd (hG.mono ((((((((((B.trans f.sub).trans s.sub).trans O.sub).trans V.sub).trans Y.sub).trans ae).trans X.sub).trans af.sub).trans al.sub).trans aq.sub)) (RDProgram.intro (mf bA (((X.sub.trans af.sub).trans al.sub).trans aq.sub))) (pt bE)) ?_;rintro _ el ⟨aW,rfl,aX⟩;have aG:=ca aX bE;refine m1 (.tuple #[.bool ar,iI au]) (ext (v:=.bool ar) rfl rfl (ext (v:=iI au) rfl rfl (m2 (.bool ar) (m2 (iI au) (wt (wp_cut (fun a w=>∃ bR bf bF,a=fr 133 (updL bR [(6,.bool bF)])∧KH.sub aW bf∧SR K bf wi w [] []∧f5_j2 k bF=some r_) ?_ ?_))))))
     ·refine wp_region_lit (m1 (iI aB) (c0 (aB == 0) (m1 (.bool (aB == 0)) (cd h (fun av h=>?_) (fun av h=>?_)))))
      ·refine n1 108 av (m1 (iI an) (n1 108 av (c0 (an == 0) (m3 true (.bool (an == 0)) (cg av) (m1 (.bool (an == 0)) (cd h (fun aw h=>?_) (fun aw h=>?_)))))))
       ·refine n1 112 aw (m1 (iI ap) (n1 112 aw (c0 (ap == 0) (m3 true (.bool (ap == 0)) (cg aw) (m1 (.bool (ap == 0)) (cd h (fun ax h=>?_) (fun ax h=>?_)))))))
        ·refine n1 116 ax (m1 (iI au) (n1 116 ax (c0 (au == 0) (m3 true (.bool (au == 0)) (cg ax) (m1 (.bool (au == 0)) (cd h (fun ag h=>?_) (fun ag h=>?_)))))))
         ·refine n1 120 ag (m1 (sl aP aN aQ) (n1 120 ag (m1 (sl aU aT aV) (n1 120 ag ?_))));obtain ⟨bS,de,h⟩:=ob h;refine cv ([sl aP aN aQ,sl aU aT aV]) Tyb16 ((f16_ok k) de (hG.mono (((((((((((B.trans f.sub).trans s.sub).trans O.sub).trans V.sub).trans Y.sub).trans ae).trans X.sub).trans af.sub).trans al.sub).trans aq.sub).trans aX.sub)) (c9.mono ((al.sub.trans aq.sub).trans aX.sub) (fun _ _ h=>h)) (db.mono (aq.sub.trans aX.sub) (fun _ _ h=>h)) (pt aG)) ?_;rintro _ em ⟨bT,rfl,aY⟩;have bg:=ca aY aG;refine m3 true (.bool bS) (cg ag) (m1 (.bool bS) (cd h (fun ah h=>?_) (fun ah h=>?_)))
          ·refine n1 125 ah (m1 (.bool ao) (n1 125 ah (m1 (.bool ar) (n1 125 ah (bbo (r:=(ao == ar)) Tyo4 rfl rfl rfl (m3 true (.bool (ao == ar)) (cg ah) (m1 (.bool (ao == ar)) (cd h (fun aZ h=>?_) (fun aZ h=>?_)))))))))
           ·refine n1 130 aZ ?_;obtain ⟨bG,df,h⟩:=ob h;refine cv ([]) Tyb8 ((f8_ok k) df (hG.mono ((((((((((((B.trans f.sub).trans s.sub).trans O.sub).trans V.sub).trans Y.sub).trans ae).trans X.sub).trans af.sub).trans al.sub).trans aq.sub).trans aX.sub).trans aY.sub)) (pt bg)) ?_;rintro _ en ⟨dg,rfl,bU⟩;have dh:=ca bU bg;exact m3 true (.bool bG) (cg aZ) (m2 (.bool bG) (wt (⟨_,dg,bG,fR,(aY.sub.trans bU.sub),(dh.sel []),h⟩)))
           ·exact o1 130 aZ (m3 false vN (cg aZ) (m2 vN (wt (⟨_,bT,false,fR,aY.sub,(bg.sel []),h⟩))))
          ·exact o1 125 ah (o1 125 ah (o1 125 ah (m3 false vN (cg ah) (m1 vN (o0 130 (m3 false vN rfl (m2 vN (wt (⟨_,bT,false,fR,aY.sub,(bg.sel []),h⟩)))))))))
         ·exact o1 120 ag (o1 120 ag (o1 120 ag (m3 false vN (cg ag) (m1 vN (o0 125 (o0 125 (o0 125 (m3 false vN rfl (m1 vN (o0 130 (m3 false vN rfl (m2 vN (wt (⟨_,aW,false,fR,kr,(aG.sel []),h⟩))))))))))))))
        ·exact o1 116 ax (o1 116 ax (m3 false vN (cg ax) (m1 vN (o0 120 (o0 120 (o0 120 (m3 false vN rfl (m1 vN (o0 125 (o0 125 (o0 125 (m3 false vN rfl (m1 vN (o0 130 (m3 false vN rfl (m2 vN (wt (⟨_,aW,false,fR,kr,(aG.sel []),h⟩))))))))))))))))))
       ·exact o1 112 aw (o1 112 aw (m3 false vN (cg aw) (m1 vN (o0 116 (o0 116 (m3 false vN rfl (m1 vN (o0 120 (o0 120 (o0 120 (m3 false vN rfl (m1 vN (o0 125 (o0 125 (o0 125 (m3 false vN rfl (m1 vN (o0 130 (m3 false vN rfl (m2 vN (wt (⟨_,aW,false,fR,kr,(aG.sel []),h⟩))))))))))))))))))))))
      ·exact o1 108 av (o1 108 av (m3 false vN (cg av) (m1 vN (o0 112 (o0 112 (m3 false vN rfl (m1 vN (o0 116 (o0 116 (m3 false vN rfl (m1 vN (o0 120 (o0 120 (o0 120 (m3 false vN rfl (m1 vN (o0 125 (o0 125 (o0 125 (m3 false vN rfl (m1 vN (o0 130 (m3 false vN rfl (m2 vN (wt (⟨_,aW,false,fR,kr,(aG.sel []),h⟩))))))))))))))))))))))))))
     ·rintro _ eo ⟨bR,bf,bF,rfl,ep,di,h⟩;unfold f5_j2 at h;refine wp_ret ?_;cases (oi h).trans hr_;exact retA1 rfl (resT rfl) ⟨bf,rfl,di⟩
theorem f5_ok (k:Nat):f5_spec (f5 k):=f5_b_ok k
end Go.Proofs.YtoegpkmhifmamaaGreatDoor
set_option maxRecDepth 512
set_option maxHeartbeats 200000
namespace Go.Proofs.YtoegpkmhifmamaaGreatDoor
open Go
mutual
def szE:DExpr→Nat | .mk _ _ _ _ l=>szEs l + 1
def szEs:List DExpr→Nat | []=>0 | e :: l=>szE e + szEs l
end
mutual
def szS:DStmt→Nat | .mk _ _ _ _ _ _ a b c d e=>szEs a + szSs b + szSs c + szSs d + szCs e + 1
def szSs:List DStmt→Nat | []=>0 | s :: l=>szS s + szSs l
def szC:DCase→Nat | .mk _ _ _ a b=>szEs a + szSs b + 1
def szCs:List DCase→Nat | []=>0 | c :: l=>szC c + szCs l
end
def szF:DFunc→Nat | .mk _ ps _ _ _ b=>ps.length + szSs b + 1
def szFs:List DFunc→Nat | []=>0 | f :: l=>szF f + szFs l
def szP:DProgram→Nat | .mk fs=>szFs fs + 1
theorem len_szEs : ∀ l:List DExpr,l.length≤szEs l
 | []=>by simp
 | .mk _ _ _ _ a :: l=>by have:=len_szEs l; simp only [List.length_cons,szEs,szE]; omega
theorem len_szCs : ∀ l:List DCase,l.length≤szCs l
 | []=>by simp
 | .mk _ _ _ _ _ :: l=>by have:=len_szCs l; simp only [List.length_cons,szCs,szC]; omega
theorem len_szFs : ∀ l:List DFunc,l.length≤szFs l
 | []=>by simp
 | .mk _ _ _ _ _ _ :: l=>by have:=len_szFs l; simp only [List.length_cons,szFs,szF]; omega
def letterI (c:Int):Bool:=decide (c ≥ 97) && decide (c≤122)
def digitI (c:Int):Bool:=decide (c ≥ 48) && decide (c≤57)
def runL:List UInt8→Nat→Bool
 | [],_=>true
 | e :: r,i=>(letterI e.toNat || (!((i:Int) == 0) && digitI e.toNat)) && runL r (i + 1)
def isN (s:ByteArray):Bool:=runL s.data.toList 0 && !seq s ⟨#[]⟩ && decide ((s.size:Int)≤12) && !wordsL.any (seq s)
theorem f115_eq (k:Nat) (c:Int):f115 k c=some (letterI c):=by
 unfold f115 f115_b f115_j1 letterI;cases decide (c ≥ 97) <;> rfl
theorem f116_eq (k:Nat) (c:Int):f116 k c=some (digitI c):=by
 unfold f116 f116_b f116_j1 digitI;cases decide (c ≥ 48) <;> rfl
theorem f96_l1_eq (k:Nat) (a:ByteArray) : ∀ (l:List UInt8) (i:Nat),f96_l1 k a l i=some (runL l i && !seq a ⟨#[]⟩)
 | [],i=>by simp [f96_l1,runL]
 | e :: l,i=>by
  unfold f96_l1 runL;rw [f115_eq];simp only [Option.bind_some,f96_j1,f116_eq,f96_l1_eq k a l];cases letterI e.toNat <;> cases ((i:Int) == 0) <;> cases digitI e.toNat <;> simp
theorem f134_l1_eq (k:Nat) (a:ByteArray) : ∀ (l:List ByteArray) (i:Nat),∃ r,f134_l1 k a l i=some r∧decide (r ≥ 0)=l.any (seq a)
 | [],i=>⟨-1,rfl,rfl⟩
 | e :: l,i=>by
  unfold f134_l1;cases h:seq a e
  ·obtain ⟨r,h1,h2⟩:=f134_l1_eq k a l (i + 1);exact ⟨r,h1,by simp [h,h2]⟩
  ·exact ⟨(i:Int),rfl,by simp [h]⟩
theorem f71_eq (k:Nat) (s:ByteArray):f71 k s=some (isN s):=by
 unfold f71 f71_b f96 f96_b isN;rw [f96_l1_eq];simp only [Option.bind_some,f71_j1];obtain ⟨r,h1,h2⟩:=f134_l1_eq k s wordsL 0;have h92:f97 k s=some (wordsL.any (seq s)):=by
  unfold f97 f97_b f118 f117 f117_b f134 f134_b;simp [h1,h2]
 rw [h92];simp only [Option.bind_some];cases runL s.data.toList 0 <;> cases seq s ⟨#[]⟩ <;> cases decide ((s.size:Int)≤12) <;> rfl
theorem seq_comm (a b:ByteArray):seq a b=seq b a:=by
 unfold seq;rw [Bool.eq_iff_iff,beq_iff_eq,beq_iff_eq];exact eq_comm
def textL:List UInt8→Bool
 | []=>true
 | e :: l=>!decide ((e.toNat:Int) < 32) && !decide ((e.toNat:Int) > 126) && textL l
def isT (s:ByteArray):Bool:=textL s.data.toList && decide ((s.size:Int)≤60)
theorem f66_l1_eq (k:Nat) (a:ByteArray) : ∀ (l:List UInt8) (i:Nat),f66_l1 k a l i=some (textL l && decide ((a.size:Int)≤60))
 | [],i=>by simp [f66_l1,textL]
 | e :: l,i=>by
  unfold f66_l1 textL;simp only [f66_j1,f66_l1_eq k a l];cases decide ((e.toNat:Int) < 32) <;> cases decide ((e.toNat:Int) > 126) <;> simp
theorem f70_eq (k:Nat) (s:ByteArray):f70 k s=some (isT s):=f66_l1_eq k s _ 0
theorem w64_nat {x:Int} {n:Nat} (h:x=(n:Int)) (h2:n≤4611686018427387904):w64 x=(n:Int):=by
 subst h; unfold w64 IntKind.wrap; simp [IntKind.bits,IntKind.signed]; omega
def nodeE (op num:Int) (txt:ByteArray) (len:Nat):Bool :=
 cond (op == 1) (decide (num ≥ 0) && decide (num≤1000000000000) && seq txt ⟨#[]⟩ && (len:Int) == 0)
 (cond (op == 2) (decide (num ≥ 0) && decide (num≤1) && seq txt ⟨#[]⟩ && (len:Int) == 0)
 (cond (op == 3) (num == 0 && isT txt && (len:Int) == 0)
 (cond (op == 4) (num == 0 && isN txt && (len:Int) == 0)
 (cond (op == 5 || op == 6) (num == 0 && seq txt ⟨#[]⟩ && (len:Int) == 1)
  (decide (op ≥ 7) && decide (op≤19) && num == 0 && seq txt ⟨#[]⟩ && (len:Int) == 2)))))
mutual
def gE (z:Bool):DExpr→Nat→Bool
 | .mk op num txt slot l,a=>decide (a≤16) && (z || slot == 0) && nodeE op num txt l.length && gEs z l (a + 1)
def gEs (z:Bool):List DExpr→Nat→Bool
 | [],_=>true
 | e :: l,a=>gE z e a && gEs z l a
end
def NRes (r:Option (Dcounter × Bool)) (g:Bool) (n sz:Nat) (z:Bool):Prop :=
 ∃ c,r=some (c,g && decide (n + sz≤600))∧((g && decide (n + sz≤600))=true→∃ d,c=.mk ((n + sz:Nat):Int) d z)
theorem f69_eq (k:Nat) (x a b:Int):f69 k x a b=some (decide (x ≥ a) && decide (x≤b)):=by
 unfold f69 f69_b f69_j1; cases decide (x ≥ a) <;> rfl
theorem f68_eq (k:Nat) (n:Nat) (d:Int) (z:Bool) (a:Nat) (h:n≤600) :
  f68 k (.mk n d z) a=some (.mk ((n + 1:Nat):Int) (imax d a) z,decide (n + 1≤600) && decide (a≤16)):=by
 unfold f68 f68_b f68_j1;simp only;rw [w64_nat (n:=n + 1) (by omega) (by omega)];have e1:decide (((n + 1:Nat):Int)≤600)=decide (n + 1≤600):=by rw [decide_eq_decide]; omega
 have e2:decide ((a:Int)≤16)=decide (a≤16):=by rw [decide_eq_decide]; omega
 rw [e1,e2];cases decide (n + 1≤600) <;> rfl
theorem f47_j1_eq (k:Nat) (F:Fam47) (op num:Int) (txt:ByteArray) (l:List DExpr) (a n d:Int) (q:Bool) :
  f47_j1 k F op num txt l a n d q false=cond (nodeE op num txt l.length) (f47_j2 k F l a n d q (l.length:Int) true) (some (.mk n d q,false)):=by
 unfold f47_j1 f47_j4 f47_j5 f47_j6 f47_j2 f47_j3 nodeE;simp only [f69_eq,f70_eq,f71_eq,Option.bind_some,Bool.cond_eq_ite];grind
theorem szE_pos : ∀ e:DExpr,1≤szE e
 | .mk _ _ _ _ _=>by simp only [szE]; omega
theorem NRes.no {r:Option (Dcounter × Bool)} {g:Bool} {n sz:Nat} {z:Bool} {c:Dcounter} (h:r=some (c,false)) (hg:(g && decide (n + sz≤600))=false):NRes r g n sz z :=
 ⟨c,by rw [h,hg],by rw [hg]; intro h; cases h⟩
theorem NRes.yes {r:Option (Dcounter × Bool)} {g:Bool} {n sz:Nat} {z:Bool} {d:Int} (h:r=some (.mk ((n + sz:Nat):Int) d z,true)) (hg:(g && decide (n + sz≤600))=true):NRes r g n sz z :=
 ⟨_,by rw [h,hg],fun _=>⟨d,rfl⟩⟩
theorem nE (k:Nat) (z:Bool) : ∀ m,
  (∀ e,2 * szE e≤m→∀ (n:Nat) (d:Int) (a:Nat),n≤600→a≤17→NRes ((fam47 k m).f47 (.mk n d z) e a) (gE z e a) n (szE e) z) ∧
  (∀ l,2 * szEs l + 1≤m→∀ (n:Nat) (d:Int) (a:Nat),n≤600→a≤17→NRes ((fam47 k m).f72 (.mk n d z) l a) (gEs z l a) n (szEs l) z)
 | 0=>⟨fun e he=>by have:=szE_pos e; omega,fun l hl=>by omega⟩
 | m + 1=>by
  obtain ⟨ihe,ihl⟩:=nE k z m;constructor
  ·intro e he n d a hn ha;obtain ⟨op,num,txt,slot,l⟩:=e;simp only [szE] at he;show NRes (f47_b k (fam47 k m) (.mk n d z) (.mk op num txt slot l) a) _ _ _ _;unfold f47_b;simp only [szE];rw [f68_eq k n d z a hn];simp only [Option.bind_some];have hj : ∀ q:Bool,f47_j1 k (fam47 k m) op num txt l a ((n + 1:Nat):Int) (imax d a) z q=cond q (some (.mk ((n + 1:Nat):Int) (imax d a) z,false)) (cond (nodeE op num txt l.length) (f47_j2 k (fam47 k m) l a ((n + 1:Nat):Int) (imax d a) z (l.length:Int) true) (some (.mk ((n + 1:Nat):Int) (imax d a) z,false))):=by
    intro q; cases q
    ·exact f47_j1_eq _ _ _ _ _ _ _ _ _ _
    ·rfl
   simp only [hj];by_cases h1:n + 1≤600∧a≤16
   ·obtain ⟨h1,h2⟩:=h1;simp only [h1,h2,decide_true,Bool.and_self,Bool.not_true,cond_false];by_cases h3:(z || slot == 0)=true
    ·have h3' : (cond (slot != 0) (!z) false)=false:=by cases z <;> simp_all
     have h4 : ∀ (x y:Option (Dcounter × Bool)),cond (slot != 0) (cond (!z) x y) y=y:=by
      intro x y; cases z <;> simp_all
     rw [h4];by_cases h5:nodeE op num txt l.length=true
     ·simp only [h5,cond_true];unfold f47_j2;simp only [beq_self_eq_true,cond_true];rw [w64_nat (n:=a + 1) (by omega) (by omega)];obtain ⟨c,hc,hd⟩:=ihl l (by omega) (n + 1) (imax d a) (a + 1) h1 (by omega);rw [hc];refine ⟨c,?_,?_⟩
      ·obtain ⟨c0,c1,c2⟩:=c;have:n + 1 + szEs l=n + (szEs l + 1):=by omega
       simp [f47_j3,gE,h2,h3,h5,this]
      ·intro hg;have e1:n + (szEs l + 1)=n + 1 + szEs l:=by omega
       rw [e1];refine hd ?_;rw [e1] at hg;simp [gE,h2,h3,h5] at hg;simp [hg]
     ·have h5' : nodeE op num txt l.length=false:=by simpa using h5
      simp only [h5',cond_false];exact .no rfl (by simp [gE,h5'])
    ·have h3' : (z || slot == 0)=false:=by simpa using h3
     have h4 : ∀ (x y:Option (Dcounter × Bool)),cond (slot != 0) (cond (!z) x y) y=x:=by
      intro x y;simp only [Bool.or_eq_false_iff,beq_eq_false_iff_ne] at h3';have e:(slot != 0)=true:=bne_iff_ne.mpr h3'.2;rw [e,h3'.1]; rfl
     rw [h4];exact .no rfl (by simp [gE,h3'])
   ·have h1' : (decide (n + 1≤600) && decide (a≤16))=false:=by
     simp only [Bool.and_eq_false_iff,decide_eq_false_iff_not]; omega
    simp only [h1',Bool.not_false,cond_true];refine .no rfl ?_;simp only [gE,Bool.and_eq_false_iff,decide_eq_false_iff_not];omega
  ·intro l hl n d a hn ha;show NRes (f72_l1 k (fam47 k m) a l 0 n d z) _ _ _ _;have loop : ∀ (l:List DExpr) (i:Nat) (n:Nat) (d:Int),2 * szEs l≤m→n≤600→NRes (f72_l1 k (fam47 k m) a l i n d z) (gEs z l a) n (szEs l) z:=by
    intro l;induction l with
    | nil=>intro i n d _ hn; exact .yes rfl (by simp [gEs,szEs,hn])
    | cons e l ih =>
     intro i n d hm hn;obtain ⟨e0,e1,e2,e3,e4⟩:=e;unfold f72_l1;simp only [szEs] at hm;obtain ⟨c,hc,hd⟩:=ihe (.mk e0 e1 e2 e3 e4) (by omega) n d a hn ha;rw [hc];by_cases hg:(gE z (.mk e0 e1 e2 e3 e4) a && decide (n + szE (.mk e0 e1 e2 e3 e4)≤600))=true
     ·obtain ⟨d',rfl⟩:=hd hg;have hg':=hg;simp only [Bool.and_eq_true,decide_eq_true_eq] at hg';simp only [hg,Option.bind_some,Bool.not_true,cond_false];obtain ⟨c2,hc2,hd2⟩:=ih (i + 1) _ d' (by omega) hg'.2;have e1:n + (szE (DExpr.mk e0 e1 e2 e3 e4) + szEs l)=n + szE (DExpr.mk e0 e1 e2 e3 e4) + szEs l:=by omega
      refine ⟨c2,?_,?_⟩
      ·rw [hc2]; simp only [gEs,szEs,hg'.1,Bool.true_and,e1]
      ·simp only [gEs,szEs,hg'.1,Bool.true_and,e1]; exact hd2
     ·have hg' : (gE z (.mk e0 e1 e2 e3 e4) a && decide (n + szE (.mk e0 e1 e2 e3 e4)≤600))=false:=by simpa using hg
      obtain ⟨c0,c1,c2⟩:=c;simp only [hg',Option.bind_some,Bool.not_false,cond_true];refine .no rfl ?_;simp only [Bool.and_eq_false_iff,decide_eq_false_iff_not,gEs,szEs] at hg' ⊢;rcases hg' with h | h
      ·exact .inl (.inl h)
      ·exact .inr (decide_eq_false (fun h'=>h (by omega)))
   exact loop l 0 n d (by omega) hn
theorem bcomb (g1 g2:Bool) (n s1 s2:Nat):(!(g1 && decide (n + s1≤600)) || !(g2 && decide (n + s1 + s2≤600)))=!(g1 && g2 && decide (n + (s1 + s2)≤600)):=by
 rw [← Nat.add_assoc];by_cases hh:n + s1 + s2≤600
 ·have:n + s1≤600:=by omega
  simp only [hh,this,decide_true]; cases g1 <;> cases g2 <;> rfl
 ·simp only [hh,decide_false]; cases g1 <;> cases g2 <;> simp
mutual
def stE:DExpr→DExpr | .mk op num txt _ l=>.mk op num txt 0 (stEs l)
def stEs:List DExpr→List DExpr | []=>[] | e :: l=>stE e :: stEs l
end
theorem stEs_len : ∀ l,(stEs l).length=l.length
 | []=>rfl
 | e :: l=>by simp [stEs,stEs_len l]
mutual
theorem szE_st : ∀ e,szE (stE e)=szE e
 | .mk _ _ _ _ l=>by simp only [stE,szE,szEs_st l]
theorem szEs_st : ∀ l,szEs (stEs l)=szEs l
 | []=>rfl
 | e :: l=>by simp only [stEs,szEs,szE_st e,szEs_st l]
end
mutual
theorem gE_st : ∀ e a,gE false (stE e) a=gE true e a
 | .mk _ _ _ _ l,a=>by simp [stE,gE,gEs_st l,stEs_len]
theorem gEs_st : ∀ l a,gEs false (stEs l) a=gEs true l a
 | [],_=>rfl
 | e :: l,a=>by simp only [stEs,gEs,gE_st e,gEs_st l]
end
def shp (op:Int):Option (Int × Bool × Int × Int × Bool × Int) :=
 match op with
 | 1=>some (1,false,1,1,false,0) | 2=>some (1,false,1,1,false,0) | 3=>some (2,true,0,600,false,0) | 4=>some (2,true,0,600,false,0)
 | 5=>some (2,false,1,1,false,0) | 6=>some (2,false,1,1,false,1) | 7=>some (1,false,1,1,false,2) | 8=>some (1,false,1,1,false,0)
 | 9=>some (1,false,0,0,false,0) | 10=>some (0,false,2,2,false,0) | 11=>some (0,false,1,1,false,0) | 12=>some (0,false,1,1,false,0)
 | 13=>some (0,false,0,0,false,0) | 14=>some (0,false,1,1,false,0) | 15=>some (0,false,1,1,false,0) | 16=>some (0,false,1,1,false,0)
 | 17=>some (0,false,0,1,false,0) | 18=>some (0,false,0,0,false,0) | 19=>some (0,false,0,0,false,0) | 20=>some (0,false,1,1,true,1)
 | 21=>some (0,false,1,1,true,0) | 22=>some (0,false,0,1,true,1) | 23=>some (0,false,0,0,true,0) | 24=>some (2,false,0,0,true,3)
 | 25=>some (1,false,1,1,true,0) | 26=>some (0,false,1,1,true,0) | 27=>some (0,false,0,0,false,0) | 28=>some (1,true,0,600,true,66)
 | 29=>some (0,false,1,1,false,0) | _=>none
theorem op_cases {P:Int→Prop} (op:Int) (h : ∀ n:Nat,n < 29→P ((n + 1:Nat):Int)) (h0:op < 1∨op > 29→P op):P op:=by
 by_cases h1:op < 1∨op > 29
 ·exact h0 h1
 ·obtain ⟨n,rfl⟩ : ∃ n:Nat,op=((n + 1:Nat):Int):=⟨(op - 1).toNat,by omega⟩;exact h n (by omega)
theorem shp_none {op:Int} (h:op < 1∨op > 29):shp op=none:=by
 unfold shp;split <;> first | rfl | (exfalso; omega)
def toN:Option (Int × Bool × Int × Int × Bool × Int)→Option Dshape
 | none=>none
 | some (nm,fr,lo,hi,bd,fl)=>some (.mk nm fr lo (if hi=600 then 601 else hi) bd)
theorem mget_none (op:Int) : ∀ L:List (Int × Dshape),(∀ x ∈ L,qI op x.1=false)→mget qI op L=none
 | [],_=>rfl
 | (a,v) :: L,h=>by
  unfold mget;rw [if_neg (by rw [h (a,v) (by simp)]; simp)];exact mget_none op L fun x hx=>h x (by simp [hx])
theorem f148_eq (k:Nat) (op:Int):(f148 k).bind (fun r=>some (mget qI op r))=some (toN (shp op)):=by
 refine op_cases (P:=fun op=>(f148 k).bind (fun r=>some (mget qI op r))=some (toN (shp op))) op ?_ ?_
 ·intro n hn
  match n,hn with
  | 0,_=>rfl | 1,_=>rfl | 2,_=>rfl | 3,_=>rfl | 4,_=>rfl | 5,_=>rfl | 6,_=>rfl | 7,_=>rfl | 8,_=>rfl | 9,_=>rfl
  | 10,_=>rfl | 11,_=>rfl | 12,_=>rfl | 13,_=>rfl | 14,_=>rfl | 15,_=>rfl | 16,_=>rfl | 17,_=>rfl | 18,_=>rfl | 19,_=>rfl
  | 20,_=>rfl | 21,_=>rfl | 22,_=>rfl | 23,_=>rfl | 24,_=>rfl | 25,_=>rfl | 26,_=>rfl | 27,_=>rfl | 28,_=>rfl
  | n + 29,h=>omega
 ·intro h;rw [shp_none h];obtain ⟨L,hL,hA⟩ : ∃ L,f148 k=some L∧(L.all fun x=>decide (1≤x.1) && decide (x.1≤29))=true:=⟨_,rfl,rfl⟩;rw [hL];simp only [Option.bind_some];rw [mget_none op L]
  ·rfl
  ·intro x hx;have:=List.all_eq_true.mp hA x hx;simp only [Bool.and_eq_true,decide_eq_true_eq] at this;unfold qI; rw [beq_eq_false_iff_ne]; omega
def flagN (op:Int) (name:ByteArray) (flag:Int) (l8 l9:Int):Bool :=
 let b0:=(IntKind.i64.wrap (BitVec.ofInt IntKind.i64.bits flag &&& BitVec.ofInt IntKind.i64.bits 1).toNat) == 1
 let b1:=(IntKind.i64.wrap (BitVec.ofInt IntKind.i64.bits flag &&& BitVec.ofInt IntKind.i64.bits 2).toNat) == 2
 cond (op == 6) (decide (flag ≥ 0) && decide (flag≤1) && (flag == 0 || !seq name ⟨#[]⟩) && l8 == 0 && l9 == 0)
 (cond (op == 7) (decide (flag ≥ 0) && decide (flag≤2) && l8 == 0 && l9 == 0)
 (cond (op == 22) (decide (flag ≥ 0) && decide (flag≤1) && l8 == 0 && l9 == 0)
 (cond (op == 20) (decide (flag ≥ 0) && decide (flag≤1) && (flag == 1 || l8 == 0) && l9 == 0)
 (cond (op == 24) (decide (flag ≥ 1) && decide (flag≤3) && ((!seq name ⟨#[]⟩) == b0) && (b0 || l8 == 0) && (b1 || l9 == 0))
 (cond (op == 28) (decide (flag ≥ 0) && decide (flag≤66) && decide (flag.tmod 4 < 3) && l8 == 0 && l9 == 0)
  (flag == 0 && l8 == 0 && l9 == 0))))))
theorem f149_eq (k:Nat) (op:Int) (name:ByteArray) (s2:Int) (fr:ByteArray) (s4 flag:Int) (l6:List DExpr) (l7 l8 l9:List DStmt) (l10:List DCase) :
  f149 k (.mk op name s2 fr s4 flag l6 l7 l8 l9 l10)=some (flagN op name flag l8.length l9.length):=by
 unfold f149 f149_b f149_j3 f149_j1 f149_j2 flagN;simp only [f69_eq,Option.bind_some,Bool.cond_eq_ite];generalize (IntKind.i64.wrap (BitVec.ofInt IntKind.i64.bits flag &&& BitVec.ofInt IntKind.i64.bits 1).toNat == 1)=b0;generalize (IntKind.i64.wrap (BitVec.ofInt IntKind.i64.bits flag &&& BitVec.ofInt IntKind.i64.bits 2).toNat == 2)=b1;generalize ((l8.length:Int) == 0)=c8;generalize ((l9.length:Int) == 0)=c9;generalize seq name ⟨#[]⟩=e;grind (splits:=20)
def nameN (nm:Int) (fr:Bool) (name from_:ByteArray):Bool :=
 (seq name ⟨#[]⟩ || (!(nm == 0) && isN name)) && (!seq name ⟨#[]⟩ || !(nm == 1)) && ((!seq from_ ⟨#[]⟩) == fr) && (!fr || isN from_)
def argsN (op lo hi:Int) (bd:Bool) (l6 l7 l10:Int):Bool :=
 decide (l6 ≥ lo) && decide (l6≤hi) && (bd || !decide (l7 > 0)) && (cond (op == 27) (decide (l10 ≥ 1) && decide (l10≤4)) (!decide (l10 > 0)))
section
variable (k:Nat) (F:Fam119) (op:Int) (name:ByteArray) (s2:Int) (from_:ByteArray) (s4 flag:Int) (l6:List DExpr) (l7 l8 l9:List DStmt) (l10:List DCase) (a nm:Int) (fr:Bool) (lo hi:Int) (bd:Bool) (n d:Int) (z q:Bool)
theorem f136_j3_eq:f136_j3 k F op l6 l7 l8 l9 l10 a lo hi bd n d z q =
  cond (!q && argsN op lo hi bd l6.length l7.length l10.length) (f136_l1 k F l6 l7 l8 l9 l10 a l10 0 n d z) (some (.mk n d z,false)):=by
 unfold f136_j3 f136_j4 argsN;simp only [f69_eq,Option.bind_some,Bool.cond_eq_ite];grind (splits:=20)
theorem f136_j2_eq:f136_j2 k F op name from_ l6 l7 l8 l9 l10 a nm fr lo hi bd n d z q =
  cond (!q && nameN nm fr name from_ && argsN op lo hi bd l6.length l7.length l10.length) (f136_l1 k F l6 l7 l8 l9 l10 a l10 0 n d z) (some (.mk n d z,false)):=by
 unfold f136_j2 nameN;simp only [f71_eq,f136_j3_eq,Option.bind_some,Bool.cond_eq_ite];grind (splits:=20)
theorem f136_j1_eq:f136_j1 k F n d z op name s2 from_ s4 flag l6 l7 l8 l9 l10 a nm fr lo hi bd true =
  (f68 k (.mk n d z) a).bind fun x=>match x with
   | (.mk n1 d1 z1,ok)=>cond (ok && ((s2 == 0 && s4 == 0) || z1) && flagN op name flag l8.length l9.length && nameN nm fr name from_ && argsN op lo hi bd l6.length l7.length l10.length)
    (f136_l1 k F l6 l7 l8 l9 l10 a l10 0 n1 d1 z1) (some (.mk n1 d1 z1,false)):=by
 unfold f136_j1;simp only [Bool.not_true,cond_false];congr 1;funext x;obtain ⟨⟨n1,d1,z1⟩,ok⟩:=x;simp only [f149_eq,f136_j2_eq,Option.bind_some,Bool.cond_eq_ite];grind (splits:=20)
end
def nameR (nm:Int) (name:ByteArray):Bool:=(nm == 0 && seq name ⟨#[]⟩) || (nm == 1 && isN name) || (nm == 2 && (seq name ⟨#[]⟩ || isN name))
def fromR (fr:Bool) (from_:ByteArray):Bool:=cond fr (isN from_) (seq from_ ⟨#[]⟩)
def flagR (op:Int) (name:ByteArray) (flag:Int) (l8 l9:Int):Bool :=
 (l8 == 0 || (op == 20 && flag == 1) || (op == 24 && flag.tmod 2 == 1)) && (l9 == 0 || (op == 24 && decide (flag ≥ 2))) &&
 cond (op == 6) (flag == 0 || !seq name ⟨#[]⟩) (cond (op == 24) (decide (flag > 0) && ((flag.tmod 2 == 1) == !seq name ⟨#[]⟩)) (cond (op == 28) (decide (flag.tmod 4 < 3)) true))
def casesR (op l10:Int):Bool:=((op == 27) == decide (l10 > 0)) && decide (l10≤4)
section
variable (k:Nat) (op:Int) (name:ByteArray) (s2:Int) (from_:ByteArray) (s4 flag:Int) (l6:List DExpr) (l7 l8 l9:List DStmt) (l10:List DCase) (a nm:Int) (fr:Bool) (lo hi:Int) (bd:Bool) (n d:Int) (z q:Bool)
end
def nodeN (op:Int) (name from_:ByteArray) (flag:Int) (l6 l7 l8 l9 l10:Nat):Bool :=
 match shp op with
 | none=>false
 | some (nm,fr,lo,hi,bd,fl)=>flagN op name flag l8 l9 && nameN nm fr name from_ && argsN op lo (if hi=600 then 601 else hi) bd l6 l7 l10
def nodeS (op:Int) (name from_:ByteArray) (flag:Int) (l6 l7 l8 l9 l10:Nat):Bool :=
 match shp op with
 | none=>false
 | some (nm,fr,lo,hi,bd,fl)=>decide ((l6:Int) ≥ lo) && decide ((l6:Int)≤hi) && decide (flag ≥ 0) && decide (flag≤fl) && (nameR nm name && fromR fr from_ && (bd || (l7:Int) == 0) && flagR op name flag l8 l9 && casesR op l10)
theorem isN_ne {s:ByteArray} (h:isN s=true):seq s ⟨#[]⟩=false:=by
 unfold isN at h; cases hs:seq s ⟨#[]⟩ with
 | false=>rfl
 | true=>rw [hs] at h; simp at h
theorem bits (flag:Int) (h1:1≤flag) (h2:flag≤3):(IntKind.i64.wrap (BitVec.ofInt IntKind.i64.bits flag &&& BitVec.ofInt IntKind.i64.bits 1).toNat == 1)=(flag.tmod 2 == 1) ∧
  (IntKind.i64.wrap (BitVec.ofInt IntKind.i64.bits flag &&& BitVec.ofInt IntKind.i64.bits 2).toNat == 2)=decide (flag ≥ 2):=by
 rcases (by omega:flag=1∨flag=2∨flag=3) with rfl | rfl | rfl <;> exact ⟨rfl,rfl⟩
theorem nodeNS (op:Int) (name from_:ByteArray) (flag:Int) (l6 l7 l8 l9 l10:Nat) (h6:l6≤600):nodeN op name from_ flag l6 l7 l8 l9 l10=nodeS op name from_ flag l6 l7 l8 l9 l10:=by
 have hn:=@isN_ne name;have hf:=@isN_ne from_;have hb:=bits flag;unfold nodeN nodeS flagN nameN argsN nameR fromR flagR casesR;generalize (IntKind.i64.wrap (BitVec.ofInt IntKind.i64.bits flag &&& BitVec.ofInt IntKind.i64.bits 1).toNat == 1)=b0 at hb ⊢;generalize (IntKind.i64.wrap (BitVec.ofInt IntKind.i64.bits flag &&& BitVec.ofInt IntKind.i64.bits 2).toNat == 2)=b1 at hb ⊢;generalize isN name=n1 at hn ⊢;generalize isN from_=n2 at hf ⊢;generalize seq name ⟨#[]⟩=e1 at hn ⊢;generalize seq from_ ⟨#[]⟩=e2 at hf ⊢;generalize flag.tmod 2=t2 at hb ⊢;generalize flag.tmod 4=t4;by_cases hop:op < 1∨op > 29
 ·rw [shp_none hop]
 rcases (by omega:op=1∨op=2∨op=3∨op=4∨op=5∨op=6∨op=7∨op=8∨op=9∨op=10∨op=11∨op=12∨op=13∨op=14∨op=15∨op=16∨op=17∨op=18∨op=19∨op=20∨op=21∨op=22∨op=23∨op=24∨op=25∨op=26∨op=27∨op=28∨op=29) with rfl | rfl | rfl | rfl | rfl | rfl | rfl | rfl | rfl | rfl | rfl | rfl | rfl | rfl | rfl | rfl | rfl | rfl | rfl | rfl | rfl | rfl | rfl | rfl | rfl | rfl | rfl | rfl | rfl <;>
  simp only [shp,Int.reduceBEq,cond_true,cond_false,Int.reduceEq,if_true,if_false] <;> grind (splits:=20)
end Go.Proofs.YtoegpkmhifmamaaGreatDoor
namespace Go.Proofs.YtoegpkmhifmamaaGreatDoor
open Go
def nodeC (kind:Int) (name:ByteArray) (len:Int):Bool :=
 decide (kind ≥ 1) && decide (kind≤4) && len == (cond (kind == 2) 2 (cond (kind == 4) 0 1)) && cond (kind == 1) (isN name) (seq name ⟨#[]⟩)
mutual
def gS (z:Bool):DStmt→Nat→Bool
 | .mk op name s2 fr s4 flag l6 l7 l8 l9 l10,a=>decide (a≤16) && (z || (s2 == 0 && s4 == 0)) && nodeS op name fr flag l6.length l7.length l8.length l9.length l10.length &&
  (gEs z l6 (a + 1) && (gSs z l7 (a + 1) && (gSs z l8 (a + 1) && (gSs z l9 (a + 1) && gCs z l10 (a + 1)))))
def gSs (z:Bool):List DStmt→Nat→Bool
 | [],_=>true
 | s :: l,a=>gS z s a && gSs z l a
def gC (z:Bool):DCase→Nat→Bool
 | .mk kind name slot es b,a=>decide (a≤16) && (z || slot == 0) && nodeC kind name es.length && (gEs z es (a + 1) && gSs z b (a + 1))
def gCs (z:Bool):List DCase→Nat→Bool
 | [],_=>true
 | .mk kind name slot es b :: l,a=>(!(kind == 4) || l.isEmpty) && gC z (.mk kind name slot es b) a && gCs z l a
end
theorem szS_pos : ∀ e:DStmt,1≤szS e
 | .mk _ _ _ _ _ _ _ _ _ _ _=>by simp only [szS]; omega
theorem szC_pos : ∀ e:DCase,1≤szC e
 | .mk _ _ _ _ _=>by simp only [szC]; omega
theorem NRes.bind {r:Option (Dcounter × Bool)} {f:Dcounter × Bool→Option (Dcounter × Bool)} {g1 g2:Bool} {n s1 s2:Nat} {z:Bool} (h1:NRes r g1 n s1 z)
  (hf : ∀ c,∃ c',f (c,false)=some (c',false)) (h2 : ∀ d,n + s1≤600→NRes (f (.mk ((n + s1:Nat):Int) d z,true)) g2 (n + s1) s2 z):NRes (r.bind f) (g1 && g2) n (s1 + s2) z:=by
 obtain ⟨c,rfl,hc⟩:=h1;by_cases hg:(g1 && decide (n + s1≤600))=true
 ·obtain ⟨d,rfl⟩:=hc hg;rw [Bool.and_eq_true,decide_eq_true_eq] at hg;obtain ⟨h3,h4⟩:=hg;subst h3;simp only [h4,decide_true,Bool.and_self,Bool.true_and,Option.bind_some];obtain ⟨c,h5,h6⟩:=h2 d h4;rw [Nat.add_assoc] at h5 h6;exact ⟨c,h5,h6⟩
 ·have hg' : (g1 && decide (n + s1≤600))=false:=by simpa using hg
  rw [hg'];obtain ⟨c',h⟩:=hf c;refine .no h ?_;rw [Bool.and_eq_false_iff,decide_eq_false_iff_not] at hg' ⊢;rcases hg' with h | h
  ·left; rw [h]; rfl
  ·right; omega
theorem NRes.conv {r:Option (Dcounter × Bool)} {g g' : Bool} {n s n' s' : Nat} {z:Bool} (h:NRes r g n s z) (hs:n + s=n' + s') (hg:n + s≤600→g=g'):NRes r g' n' s' z:=by
 unfold NRes at h ⊢;rw [← hs];have:(g && decide (n + s≤600))=(g' && decide (n + s≤600)):=by
  by_cases h:n + s≤600
  ·rw [hg h]
  ·simp [h]
 rwa [← this]
theorem f72_res (k:Nat) (z:Bool) (l:List DExpr) (hk:2 * szEs l + 1≤k) (n:Nat) (d:Int) (a:Nat) (hn:n≤600) (ha:a≤17):NRes (f72 k (.mk n d z) l a) (gEs z l a) n (szEs l) z :=
 (nE k z k).2 l hk n d a hn ha
theorem mget4 (kind:Int):mget qI kind (mput qI 4 0 (mput qI 3 1 (mput qI 2 2 (mput qI 1 1 ([]:List (Int × Int)))))) =
  cond (decide (kind ≥ 1) && decide (kind≤4)) (some (cond (kind == 2) 2 (cond (kind == 4) 0 1))) none:=by
 have e:mput qI 4 0 (mput qI 3 1 (mput qI 2 2 (mput qI 1 1 ([]:List (Int × Int)))))=[(1,1),(2,2),(3,1),(4,0)]:=rfl;rw [e];unfold mget mget mget mget mget qI;simp only [Bool.cond_eq_ite];grind
theorem f150_b_eq (k:Nat) (F:Fam119) (kind:Int) (name:ByteArray) (slot:Int) (es:List DExpr) (b:List DStmt) (a n d:Int) (z:Bool) :
  f150_b k F (.mk n d z) (.mk kind name slot es b) a=cond (decide (kind ≥ 1) && decide (kind≤4)) ((f68 k (.mk n d z) a).bind fun x=>match x with
   | (.mk n1 d1 z1,ok)=>cond (ok && (z1 || slot == 0) && nodeC kind name es.length) (f150_j1 k F es b a n1 d1 z1 false) (some (.mk n1 d1 z1,false))) (some (.mk n d z,false)):=by
 unfold f150_b;simp only [mget4];by_cases hk:(decide (kind ≥ 1) && decide (kind≤4))=true
 ·simp only [hk,cond_true,mcase];congr 1;funext x;obtain ⟨⟨n1,d1,z1⟩,ok⟩:=x;unfold f150_j1;have hn:=@isN_ne name;simp only [f71_eq,Option.bind_some,nodeC,hk,Bool.true_and];generalize (cond (kind == 2) (2:Int) (cond (kind == 4) 0 1))=e;generalize isN name=n1 at hn ⊢;generalize seq name ⟨#[]⟩=e1 at hn ⊢;simp only [Bool.cond_eq_ite];grind (splits:=20)
 ·have hk' : (decide (kind ≥ 1) && decide (kind≤4))=false:=by simpa using hk
  simp only [hk',cond_false,mcase]
theorem argsN_len {op lo hi:Int} {bd:Bool} {l6 l7:Int} {l10:Nat} (h:argsN op lo hi bd l6 l7 l10=true):l10≤4:=by
 unfold argsN at h;cases hop:(op == 27) <;> simp only [hop,cond_true,cond_false,Bool.and_eq_true,Bool.not_eq_true',decide_eq_true_eq,decide_eq_false_iff_not] at h <;> omega
theorem nSt (k:Nat) (z:Bool) : ∀ m,m≤k →
  (∀ s,2 * szS s≤m→∀ (n:Nat) (d:Int) (a:Nat),n≤600→a≤17→NRes ((fam119 k m).f136 (.mk n d z) s a) (gS z s a) n (szS s) z) ∧
  (∀ l,2 * szSs l + 1≤m→∀ (n:Nat) (d:Int) (a:Nat),n≤600→a≤17→NRes ((fam119 k m).f119 (.mk n d z) l a) (gSs z l a) n (szSs l) z) ∧
  (∀ c,2 * szC c≤m→∀ (n:Nat) (d:Int) (a:Nat),n≤600→a≤17→NRes ((fam119 k m).f150 (.mk n d z) c a) (gC z c a) n (szC c) z)
 | 0,_=>⟨fun e he=>by have:=szS_pos e; omega,fun l hl=>by omega,fun c hc=>by have:=szC_pos c; omega⟩
 | m + 1,hmk=>by
  obtain ⟨ihs,ihl,ihc⟩:=nSt k z m (by omega);refine ⟨?_,?_,?_⟩
  ·intro s hs n d a hn ha;obtain ⟨op,name,s2,fr,s4,flag,l6,l7,l8,l9,l10⟩:=s;simp only [szS] at hs;show NRes (f136_b k (fam119 k m) (.mk n d z) (.mk op name s2 fr s4 flag l6 l7 l8 l9 l10) a) _ _ _ _;have tail : ∀ (n:Nat) (d:Int),a≤16→n≤600→NRes (f136_l1 k (fam119 k m) l6 l7 l8 l9 l10 a [] l10.length n d z) (gEs z l6 (a + 1) && (gSs z l7 (a + 1) && (gSs z l8 (a + 1) && gSs z l9 (a + 1)))) n (szEs l6 + (szSs l7 + (szSs l8 + szSs l9))) z:=by
    intro n d ha hn;unfold f136_l1;rw [w64_nat (n:=a + 1) (by omega) (by omega)];refine (f72_res k z l6 (by omega) n d (a + 1) hn (by omega)).bind (fun c=>by obtain ⟨_,_,_⟩:=c; exact ⟨_,rfl⟩) fun d hn=>?_
    refine (ihl l7 (by omega) _ d (a + 1) hn (by omega)).bind (fun c=>by obtain ⟨_,_,_⟩:=c; exact ⟨_,rfl⟩) fun d hn=>?_
    refine (ihl l8 (by omega) _ d (a + 1) hn (by omega)).bind (fun c=>by obtain ⟨_,_,_⟩:=c; exact ⟨_,rfl⟩) fun d hn=>?_
    refine ((ihl l9 (by omega) _ d (a + 1) hn (by omega)).bind (g2:=true) (s2:=0) (fun c=>by obtain ⟨_,_,_⟩:=c; exact ⟨_,rfl⟩) fun d hn=>?_).conv (by omega) (fun _=>by simp);exact .yes rfl (by simp [hn])
   have loop:a≤16→l10.length≤4→∀ (rest:List DCase) (i:Nat) (n:Nat) (d:Int),2 * szCs rest≤m→i + rest.length=l10.length→n≤600 →
     NRes (f136_l1 k (fam119 k m) l6 l7 l8 l9 l10 a rest i n d z) (gCs z rest (a + 1) && (gEs z l6 (a + 1) && (gSs z l7 (a + 1) && (gSs z l8 (a + 1) && gSs z l9 (a + 1))))) n (szCs rest + (szEs l6 + (szSs l7 + (szSs l8 + szSs l9)))) z:=by
    intro ha h10 rest;induction rest with
    | nil =>
     intro i n d _ hi hn;obtain rfl:i=l10.length:=by simpa using hi
     exact (tail n d ha hn).conv (by simp [szCs]) (fun _=>by simp [gCs])
    | cons c rest ih =>
     intro i n d hm hi hn;obtain ⟨e0,e1,e2,e3,e4⟩:=c;simp only [szCs,List.length_cons] at hm hi;unfold f136_l1;rw [w64_nat (x:=(a:Int) + 1) (n:=a + 1) (by omega) (by omega),w64_nat (x:=(l10.length:Int) - 1) (n:=l10.length - 1) (by omega) (by omega)];have step:NRes (((fam119 k m).f150 (.mk n d z) (.mk e0 e1 e2 e3 e4) ((a + 1:Nat):Int)).bind fun q_=>match q_ with | (.mk z1467_0 z1467_1 z1467_2,r1468)=>(f136_j6 k (fam119 k m) i z1467_0 z1467_1 z1467_2 (!r1468) (f136_l1 k (fam119 k m) l6 l7 l8 l9 l10 a rest)))
       (gC z (.mk e0 e1 e2 e3 e4) (a + 1) && (gCs z rest (a + 1) && (gEs z l6 (a + 1) && (gSs z l7 (a + 1) && (gSs z l8 (a + 1) && gSs z l9 (a + 1)))))) n (szC (.mk e0 e1 e2 e3 e4) + (szCs rest + (szEs l6 + (szSs l7 + (szSs l8 + szSs l9))))) z :=
      (ihc (.mk e0 e1 e2 e3 e4) (by omega) n d (a + 1) hn (by omega)).bind (fun c=>by obtain ⟨_,_,_⟩:=c; exact ⟨_,rfl⟩) fun d hn=>ih (i + 1) _ d (by omega) (by omega) hn
     by_cases h4:(e0 == 4)=true
     ·simp only [h4,cond_true];by_cases hl:i < l10.length - 1
      ·have:((i:Int) < ((l10.length - 1:Nat):Int)):=by omega
       simp only [this,decide_true,cond_true];refine .no rfl ?_;have:rest.isEmpty=false:=by cases rest with
        | nil=>simp at hi; omega
        | cons=>rfl
       simp [gCs,h4,this]
      ·have : ¬ ((i:Int) < ((l10.length - 1:Nat):Int)):=by omega
       simp only [this,decide_false,cond_false];have:rest.isEmpty=true:=by cases rest with
        | nil=>rfl
        | cons=>simp at hi; omega
       exact step.conv (by simp only [szCs]; omega) (fun _=>by simp [gCs,this,Bool.and_assoc])
     ·have h4' : (e0 == 4)=false:=by simpa using h4
      simp only [h4',cond_false];exact step.conv (by simp only [szCs]; omega) (fun _=>by simp [gCs,h4',Bool.and_assoc])
   unfold f136_b;obtain ⟨L,hL⟩ : ∃ L,f148 k=some L:=⟨_,rfl⟩;have hg:=f148_eq k op;rw [hL] at hg ⊢;simp only [Option.bind_some,Option.some.injEq] at hg ⊢;rw [hg];cases hsh:shp op with
   | none =>
    have:nodeS op name fr flag l6.length l7.length l8.length l9.length l10.length=false:=by unfold nodeS; rw [hsh]
    refine .no (c:=.mk n d z) ?_ (by simp [gS,this]);simp only [toN,mcase];unfold f136_j1;simp only [Bool.not_false,cond_true,f136_j2_eq];rfl
   | some t =>
    obtain ⟨nm,frm,lo,hi,bd,fl⟩:=t;simp only [toN,mcase,f136_j1_eq,f68_eq k n d z a hn,Option.bind_some];have hN:nodeN op name fr flag l6.length l7.length l8.length l9.length l10.length=(flagN op name flag l8.length l9.length && nameN nm frm name fr && argsN op lo (if hi=600 then 601 else hi) bd l6.length l7.length l10.length):=by unfold nodeN; rw [hsh]
    rw [Bool.and_assoc,Bool.and_assoc,← Bool.and_assoc (flagN _ _ _ _ _),← hN];have hl6:=len_szEs l6;by_cases h1:n + 1≤600∧a≤16
    ·obtain ⟨h1,h2⟩:=h1;by_cases h3:((s2 == 0 && s4 == 0) || z)=true
     ·by_cases h4:nodeN op name fr flag l6.length l7.length l8.length l9.length l10.length=true
      ·have h10:l10.length≤4:=by
        rw [hN] at h4;rw [Bool.and_eq_true] at h4;exact argsN_len h4.2
       simp only [h1,h2,h3,h4,decide_true,Bool.and_self,cond_true];refine (loop h2 h10 l10 0 (n + 1) (imax d a) (by omega) (by omega) h1).conv (by simp only [szS]; omega) (fun hh=>?_);have h5:nodeS op name fr flag l6.length l7.length l8.length l9.length l10.length=true:=by rw [← nodeNS _ _ _ _ _ _ _ _ _ (by omega)]; exact h4
       simp only [gS,h2,decide_true,h5];rw [Bool.or_comm] at h3;simp only [h3,Bool.and_self,Bool.true_and];cases gCs z l10 (a + 1) <;> cases gEs z l6 (a + 1) <;> cases gSs z l7 (a + 1) <;> cases gSs z l8 (a + 1) <;> cases gSs z l9 (a + 1) <;> rfl
      ·have h4' : nodeN op name fr flag l6.length l7.length l8.length l9.length l10.length=false:=by simpa using h4
       simp only [h4',Bool.and_false,cond_false];refine .no rfl ?_;by_cases hh:n + szS (.mk op name s2 fr s4 flag l6 l7 l8 l9 l10)≤600
       ·have h5:nodeS op name fr flag l6.length l7.length l8.length l9.length l10.length=false:=by
         rw [← nodeNS _ _ _ _ _ _ _ _ _ (by simp only [szS] at hh; omega)]; exact h4'
        simp [gS,h5]
       ·simp [hh]
     ·have h3' : ((s2 == 0 && s4 == 0) || z)=false:=by simpa using h3
      simp only [h3',Bool.false_and,Bool.and_false,cond_false];refine .no rfl ?_;rw [Bool.or_comm] at h3';simp only [gS,h3',Bool.false_and,Bool.and_false]
    ·have h1' : (decide (n + 1≤600) && decide (a≤16))=false:=by
      simp only [Bool.and_eq_false_iff,decide_eq_false_iff_not]; omega
     simp only [h1',Bool.false_and,cond_false];refine .no rfl ?_;rw [Bool.and_eq_false_iff,decide_eq_false_iff_not];by_cases h2:a≤16
     ·right; simp only [szS]; omega
     ·left; simp [gS,h2]
  ·intro l hl n d a hn ha;show NRes (f119_l1 k (fam119 k m) a l 0 n d z) _ _ _ _;have loop : ∀ (l:List DStmt) (i:Nat) (n:Nat) (d:Int),2 * szSs l≤m→n≤600→NRes (f119_l1 k (fam119 k m) a l i n d z) (gSs z l a) n (szSs l) z:=by
    intro l;induction l with
    | nil=>intro i n d _ hn; exact .yes rfl (by simp [gSs,szSs,hn])
    | cons e l ih =>
     intro i n d hm hn;obtain ⟨e0,e1,e2,e3,e4,e5,e6,e7,e8,e9,e10⟩:=e;unfold f119_l1;simp only [szSs] at hm;exact (ihs (.mk e0 e1 e2 e3 e4 e5 e6 e7 e8 e9 e10) (by omega) n d a hn ha).bind (fun c=>by obtain ⟨_,_,_⟩:=c; exact ⟨_,rfl⟩) fun d hn=>ih (i + 1) _ d (by omega) hn
   exact loop l 0 n d (by omega) hn
  ·intro c hc n d a hn ha;obtain ⟨kind,name,slot,es,b⟩:=c;simp only [szC] at hc;show NRes (f150_b k (fam119 k m) (.mk n d z) (.mk kind name slot es b) a) _ _ _ _;rw [f150_b_eq];by_cases hk:(decide (kind ≥ 1) && decide (kind≤4))=true
   ·simp only [hk,cond_true];rw [f68_eq k n d z a hn];simp only [Option.bind_some];by_cases h1:n + 1≤600∧a≤16
    ·obtain ⟨h1,h2⟩:=h1;by_cases h3:((z || slot == 0) && nodeC kind name es.length)=true
     ·rw [Bool.and_assoc,h3];simp only [h1,h2,decide_true,Bool.and_self,cond_true];unfold f150_j1;simp only [cond_false];rw [w64_nat (x:=(a:Int) + 1) (n:=a + 1) (by omega) (by omega)];refine NRes.conv (g:=gEs z es (a + 1) && (gSs z b (a + 1) && true)) (n:=n + 1) (s:=szEs es + (szSs b + 0)) ?_ (by simp only [szC]; omega) (fun _=>?_)
      ·refine (f72_res k z es (by omega) (n + 1) _ (a + 1) h1 (by omega)).bind (fun c=>by obtain ⟨_,_,_⟩:=c; exact ⟨_,rfl⟩) fun d hn=>?_
       refine (ihl b (by omega) _ d (a + 1) hn (by omega)).bind (fun c=>by obtain ⟨_,_,_⟩:=c; exact ⟨_,rfl⟩) fun d hn=>?_
       exact .yes rfl (by simp [hn])
      ·simp only [gC,h2,decide_true,Bool.true_and,Bool.and_true,h3]
     ·have h3' : ((z || slot == 0) && nodeC kind name es.length)=false:=by simpa using h3
      rw [Bool.and_assoc,h3',Bool.and_false];refine .no rfl ?_;rw [gC,Bool.and_assoc (decide (a≤16)),h3'];simp
    ·have h1' : (decide (n + 1≤600) && decide (a≤16))=false:=by
      simp only [Bool.and_eq_false_iff,decide_eq_false_iff_not]; omega
     simp only [h1',Bool.false_and,cond_false];refine .no rfl ?_;rw [Bool.and_eq_false_iff,decide_eq_false_iff_not];by_cases h2:a≤16
     ·right; simp only [szC]; omega
     ·left; simp [gC,h2]
   ·have hk' : (decide (kind ≥ 1) && decide (kind≤4))=false:=by simpa using hk
    simp only [hk',cond_false];exact .no rfl (by simp only [gC,nodeC,hk',Bool.false_and,Bool.and_false])
section
variable (k:Nat) (op:Int) (name:ByteArray) (s2:Int) (from_:ByteArray) (s4 flag:Int) (l6:List DExpr) (l7 l8 l9:List DStmt) (l10:List DCase) (a nm:Int) (fr:Bool) (lo hi:Int) (bd:Bool) (n d:Int) (z q:Bool)
end
end Go.Proofs.YtoegpkmhifmamaaGreatDoor
namespace Go.Proofs.YtoegpkmhifmamaaGreatDoor
open Go
def okP:List DParam→Bool
 | []=>true
 | .mk nm kd :: l=>isN nm && decide (kd ≥ 1) && decide (kd≤6) && okP l
def headF (z:Bool) (name:ByteArray) (np:Nat) (res:Int) (f3:Bool) (s4:Int):Bool :=
 isN name && decide (np≤4) && (z || s4 == 0) && (!f3 || res == 0) && decide (res ≥ 0) && decide (res≤6)
def gFs (z:Bool):List DFunc→Bool
 | []=>true
 | .mk name ps res f3 s4 b :: l=>headF z name ps.length res f3 s4 && (okP ps && (gSs z b 1 && gFs z l))
def cnF:DFunc→Nat | .mk _ _ _ _ _ b=>szSs b + 1
def cnFs:List DFunc→Nat | []=>0 | f :: l=>cnF f + cnFs l
def wf (z:Bool):DProgram→Bool
 | .mk fs=>decide (1≤fs.length) && decide (fs.length≤16) && gFs z fs && decide (cnFs fs≤600)
section
variable (k i:Nat) (body:List DStmt) (n d:Int) (z q:Bool) (nx:Nat→Int→Int→Bool→Option (Dcounter × Bool))
theorem f99_l2_eq : ∀ (ps:List DParam) (j:Nat),f99_l2 k i body n d z nx ps j=cond (okP ps) (f99_l2 k i body n d z nx [] 0) (some (.mk n d z,false))
 | [],j=>rfl
 | .mk nm kd :: ps,j=>by
  have ih:=f99_l2_eq ps;generalize f99_l2 k i body n d z nx [] 0=A at ih ⊢;rw [f99_l2];simp only [f71_eq,f69_eq,Option.bind_some,f99_j2,ih,okP];cases isN nm <;> cases decide (kd ≥ 1) <;> cases decide (kd≤6) <;> rfl
theorem f99_j1_eq (ps:List DParam):f99_j1 k i ps body n d z q nx=cond (!q && okP ps) (f99_l2 k i body n d z nx [] 0) (some (.mk n d z,false)):=by
 unfold f99_j1;rw [f99_l2_eq];cases q <;> rfl
end
theorem f119_res (k:Nat) (z:Bool) (l:List DStmt) (hk:2 * szSs l + 1≤k) (n:Nat) (d:Int) (a:Nat) (hn:n≤600) (ha:a≤17):NRes (f119 k (.mk n d z) l a) (gSs z l a) n (szSs l) z :=
 (nSt k z k (Nat.le_refl k)).2.1 l hk n d a hn ha
theorem f99_l1_eq (k:Nat) (name:ByteArray) (ps:List DParam) (res:Int) (f3:Bool) (s4:Int) (b:List DStmt) (l:List DFunc) (i:Nat) (n d:Int) (z:Bool) :
  f99_l1 k (.mk name ps res f3 s4 b :: l) i n d z=(f68 k (.mk n d z) 0).bind fun x=>match x with
   | (.mk n1 d1 z1,ok)=>cond (ok && headF z1 name ps.length res f3 s4 && okP ps) (f99_l2 k i b n1 d1 z1 (f99_l1 k l) [] 0) (some (.mk n1 d1 z1,false)):=by
 rw [f99_l1];congr 1;funext x;obtain ⟨⟨n1,d1,z1⟩,ok⟩:=x;simp only [f71_eq,f69_eq,Option.bind_some,f99_j1_eq,headF];have e:decide ((ps.length:Int) > 4)=!decide (ps.length≤4):=by rw [← decide_not,decide_eq_decide]; omega
 rw [e];simp only [Bool.cond_eq_ite];grind (splits:=20)
theorem nFs (k:Nat) (z:Bool) : ∀ (l:List DFunc) (i:Nat) (n:Nat) (d:Int),2 * szFs l + 1≤k→n≤600→NRes (f99_l1 k l i n d z) (gFs z l) n (cnFs l) z
 | [],i,n,d,hk,hn=>.yes rfl (by simp [gFs,cnFs,hn])
 | .mk name ps res f3 s4 b :: l,i,n,d,hk,hn=>by
  simp only [szFs,szF] at hk;rw [f99_l1_eq];have e0:((0:Nat):Int)=0:=rfl;rw [← e0,f68_eq k n d z 0 hn,e0];simp only [Option.bind_some,Nat.zero_le,decide_true,Bool.and_true];by_cases h1:n + 1≤600
  ·by_cases h2:(headF z name ps.length res f3 s4 && okP ps)=true
   ·rw [Bool.and_assoc,h2];simp only [h1,decide_true,Bool.and_self,cond_true];rw [f99_l2];refine ((f119_res k z b (by omega) (n + 1) (imax d 0) 1 h1 (by omega)).bind (f:=fun q_=>match q_ with | (.mk z10628_0 z10628_1 z10628_2,r10629)=>(cond (!r10629) (some ((Dcounter.mk z10628_0 z10628_1 z10628_2),false)) (f99_l1 k l (i + 1) z10628_0 z10628_1 z10628_2)))
     (fun c=>by obtain ⟨_,_,_⟩:=c; exact ⟨_,rfl⟩) fun d hn=>nFs k z l (i + 1) _ d (by omega) hn).conv (by simp only [cnFs,cnF]; omega) (fun _=>?_)
    rw [Bool.and_eq_true] at h2;simp only [gFs,h2.1,h2.2,Bool.true_and]
   ·have h2' : (headF z name ps.length res f3 s4 && okP ps)=false:=by simpa using h2
    rw [Bool.and_assoc,h2',Bool.and_false];refine .no rfl ?_;rw [gFs,← Bool.and_assoc,h2'];simp
  ·simp only [h1,decide_false,Bool.false_and,cond_false];refine .no rfl ?_;have : ¬ (n + (szSs b + 1 + cnFs l)≤600):=by omega
   simp [cnFs,cnF,this]
theorem f78_eq (k:Nat) (p:DProgram) (z:Bool) (hk:2 * szP p + 1≤k):f78 k p z=some (wf z p):=by
 obtain ⟨fs⟩:=p;simp only [szP] at hk;unfold f78 f78_b f99 f99_b;simp only [f69_eq,Option.bind_some];have e1:(decide ((fs.length:Int) ≥ 1) && decide ((fs.length:Int)≤16))=(decide (1≤fs.length) && decide (fs.length≤16)):=by
  congr 1
  ·rw [decide_eq_decide]; omega
  ·rw [decide_eq_decide]; omega
 rw [e1];by_cases h:(decide (1≤fs.length) && decide (fs.length≤16))=true
 ·rw [h];simp only [Bool.not_true,cond_false];obtain ⟨c,h1,h2⟩:=nFs k z fs 0 0 0 (by omega) (by omega);have e0:((0:Nat):Int)=0:=rfl;rw [e0] at h1;rw [h1];obtain ⟨_,_,_⟩:=c;simp only [Option.bind_some,wf,h,Nat.zero_add,Bool.true_and]
 ·have h' : (decide (1≤fs.length) && decide (fs.length≤16))=false:=by simpa using h
  rw [h'];simp only [Bool.not_false,cond_true,Option.bind_some,wf,h',Bool.false_and]
section
variable (k i:Nat) (body:List DStmt) (d:Int)
end
mutual
def stS:DStmt→DStmt | .mk op name _ fr _ flag l6 l7 l8 l9 l10=>.mk op name 0 fr 0 flag (stEs l6) (stSs l7) (stSs l8) (stSs l9) (stCs l10)
def stSs:List DStmt→List DStmt | []=>[] | s :: l=>stS s :: stSs l
def stC:DCase→DCase | .mk kind name _ es b=>.mk kind name 0 (stEs es) (stSs b)
def stCs:List DCase→List DCase | []=>[] | c :: l=>stC c :: stCs l
end
def stF:DFunc→DFunc | .mk name ps res f3 _ b=>.mk name ps res f3 0 (stSs b)
def stFs:List DFunc→List DFunc | []=>[] | f :: l=>stF f :: stFs l
def stP:DProgram→DProgram | .mk fs=>.mk (stFs fs)
theorem stSs_len : ∀ l,(stSs l).length=l.length
 | []=>rfl
 | e :: l=>by simp [stSs,stSs_len l]
theorem stCs_len : ∀ l,(stCs l).length=l.length
 | []=>rfl
 | e :: l=>by simp [stCs,stCs_len l]
theorem stFs_len : ∀ l,(stFs l).length=l.length
 | []=>rfl
 | e :: l=>by simp [stFs,stFs_len l]
mutual
theorem szS_st : ∀ e,szS (stS e)=szS e
 | .mk _ _ _ _ _ _ _ l7 l8 l9 l10=>by simp only [stS,szS,szEs_st,szSs_st l7,szSs_st l8,szSs_st l9,szCs_st l10]
theorem szSs_st : ∀ l,szSs (stSs l)=szSs l
 | []=>rfl
 | e :: l=>by simp only [stSs,szSs,szS_st e,szSs_st l]
theorem szC_st : ∀ e,szC (stC e)=szC e
 | .mk _ _ _ _ b=>by simp only [stC,szC,szEs_st,szSs_st b]
theorem szCs_st : ∀ l,szCs (stCs l)=szCs l
 | []=>rfl
 | e :: l=>by simp only [stCs,szCs,szC_st e,szCs_st l]
end
mutual
theorem gS_st : ∀ e a,gS false (stS e) a=gS true e a
 | .mk _ _ _ _ _ _ _ l7 l8 l9 l10,a=>by simp [stS,gS,gEs_st,gSs_st l7,gSs_st l8,gSs_st l9,gCs_st l10,stEs_len,stSs_len,stCs_len]
theorem gSs_st : ∀ l a,gSs false (stSs l) a=gSs true l a
 | [],_=>rfl
 | e :: l,a=>by simp only [stSs,gSs,gS_st e,gSs_st l]
theorem gC_st : ∀ e a,gC false (stC e) a=gC true e a
 | .mk _ _ _ _ b,a=>by simp [stC,gC,gEs_st,gSs_st b,stEs_len]
theorem gCs_st : ∀ l a,gCs false (stCs l) a=gCs true l a
 | [],_=>rfl
 | .mk k nm s es b :: l,a=>by
  have h:=gC_st (.mk k nm s es b) a;simp only [stC] at h;have e:(stCs l).isEmpty=l.isEmpty:=by cases l <;> rfl
  simp only [stCs,stC,gCs,h,gCs_st l,e]
end
theorem szFs_st : ∀ l,szFs (stFs l)=szFs l
 | []=>rfl
 | .mk _ _ _ _ _ b :: l=>by simp only [stFs,stF,szFs,szF,szSs_st,szFs_st l]
theorem cnFs_st : ∀ l,cnFs (stFs l)=cnFs l
 | []=>rfl
 | .mk _ _ _ _ _ b :: l=>by simp only [stFs,stF,cnFs,cnF,szSs_st,cnFs_st l]
theorem gFs_st : ∀ l,gFs false (stFs l)=gFs true l
 | []=>rfl
 | .mk _ _ _ _ _ b :: l=>by simp [stFs,stF,gFs,gSs_st,gFs_st l,headF]
theorem szP_st : ∀ p,szP (stP p)=szP p
 | .mk fs=>by simp only [stP,szP,szFs_st]
theorem wf_st : ∀ p,wf false (stP p)=wf true p
 | .mk fs=>by simp only [stP,wf,gFs_st,stFs_len,cnFs_st]
def maxB:Nat:=140737488355328
mutual
def fitE:DExpr→Prop | .mk _ _ _ _ l=>l.length * 64≤maxB∧fitEs l
def fitEs:List DExpr→Prop | []=>True | e :: l=>fitE e∧fitEs l
end
mutual
def fitS:DStmt→Prop | .mk _ _ _ _ _ _ l6 l7 l8 l9 l10=>(l6.length * 64≤maxB∧fitEs l6)∧(l7.length * 184≤maxB∧fitSs l7)∧(l8.length * 184≤maxB∧fitSs l8)∧(l9.length * 184≤maxB∧fitSs l9)∧(l10.length * 80≤maxB∧fitCs l10)
def fitSs:List DStmt→Prop | []=>True | e :: l=>fitS e∧fitSs l
def fitC:DCase→Prop | .mk _ _ _ l b=>(l.length * 64≤maxB∧fitEs l)∧(b.length * 184≤maxB∧fitSs b)
def fitCs:List DCase→Prop | []=>True | e :: l=>fitC e∧fitCs l
end
def fitF:DFunc→Prop | .mk _ ps _ _ _ b=>ps.length * 24≤maxB∧(b.length * 184≤maxB∧fitSs b)
def fitFs:List DFunc→Prop | []=>True | e :: l=>fitF e∧fitFs l
def fitP:DProgram→Prop | .mk fs=>fs.length * 88≤maxB∧fitFs fs
theorem guard_le {α:Type} {a:Nat} {x:Option α} (h:a≤maxB):guardB (decide (a≤140737488355328)) x=x:=by
 unfold maxB at h; unfold guardB; rw [decide_eq_true h]; rfl
theorem app_len {α:Type} (xs:List α) (e:α):(xs ++ [e]).length=xs.length + 1:=by simp
theorem f44_eq (k:Nat) : ∀ m l,szEs l + 1≤m→l.length * 64≤maxB→fitEs l→(fam44 k m).f44 l=some l
 | 0,l,h,_,_=>by omega
 | m + 1,l,h,hl,hf=>by
  show f44_l1 k (fam44 k m) l 0 []=some l;have loop : ∀ (l:List DExpr) (i:Nat) (xs:List DExpr),szEs l≤m→(xs.length + l.length) * 64≤maxB→fitEs l→f44_l1 k (fam44 k m) l i xs=some (xs ++ l):=by
   intro l;induction l with
   | nil=>intro i xs _ _ _; simp [f44_l1]
   | cons e l ih =>
    intro i xs hm hl hf;obtain ⟨e0,e1,e2,e3,e4⟩:=e;simp only [szEs,szE,fitEs,fitE,List.length_cons] at hm hl hf;unfold f44_l1;rw [f44_eq k m e4 (by omega) hf.1.1 hf.1.2];simp only [Option.bind_some];rw [guard_le (by omega),ih (i + 1) _ (by omega) (by rw [app_len]; omega) hf.2];simp
  exact loop l 0 [] (by omega) (by simpa using hl) hf
theorem f37_eq (k:Nat) : ∀ m l,szEs l + 1≤m→l.length * 64≤maxB→fitEs l→(fam37 k m).f37 l=some (stEs l)
 | 0,l,h,_,_=>by omega
 | m + 1,l,h,hl,hf=>by
  show f37_l1 k (fam37 k m) l 0 []=some (stEs l);have loop : ∀ (l:List DExpr) (i:Nat) (xs:List DExpr),szEs l≤m→(xs.length + l.length) * 64≤maxB→fitEs l→f37_l1 k (fam37 k m) l i xs=some (xs ++ stEs l):=by
   intro l;induction l with
   | nil=>intro i xs _ _ _; simp [f37_l1,stEs]
   | cons e l ih =>
    intro i xs hm hl hf;obtain ⟨e0,e1,e2,e3,e4⟩:=e;simp only [szEs,szE,fitEs,fitE,List.length_cons] at hm hl hf;unfold f37_l1;rw [f37_eq k m e4 (by omega) hf.1.1 hf.1.2];simp only [Option.bind_some];rw [guard_le (by omega),ih (i + 1) _ (by omega) (by rw [app_len]; omega) hf.2];simp [stEs,stE]
  exact loop l 0 [] (by omega) (by simpa using hl) hf
theorem cE (k:Nat) : ∀ m,(∀ e,2 * szE e≤m→fitE e→(fam1012227 k m).f1013727 e=some (stE e)) ∧
  (∀ l,2 * szEs l + 1≤m→l.length * 64≤maxB→fitEs l→(fam1012227 k m).f1012227 l=some (stEs l))
 | 0=>⟨fun e h=>by have:=szE_pos e; omega,fun l h=>by omega⟩
 | m + 1=>by
  obtain ⟨ihe,ihl⟩:=cE k m;constructor
  ·intro e h hf;obtain ⟨e0,e1,e2,e3,e4⟩:=e;simp only [szE,fitE] at h hf;show f1013727_b k (fam1012227 k m) (.mk e0 e1 e2 e3 e4)=_;unfold f1013727_b;simp only;rw [ihl e4 (by omega) hf.1 hf.2];simp [f120,f120_b,stE]
  ·intro l h hl hf;show f1012227_l1 k (fam1012227 k m) l 0 []=_;have loop : ∀ (l:List DExpr) (i:Nat) (xs:List DExpr),2 * szEs l≤m→(xs.length + l.length) * 64≤maxB→fitEs l→f1012227_l1 k (fam1012227 k m) l i xs=some (xs ++ stEs l):=by
    intro l;induction l with
    | nil=>intro i xs _ _ _; simp [f1012227_l1,stEs]
    | cons e l ih =>
     intro i xs hm hl hf;obtain ⟨e0,e1,e2,e3,e4⟩:=e;simp only [szEs,fitEs,List.length_cons] at hm hl hf;unfold f1012227_l1;rw [ihe (.mk e0 e1 e2 e3 e4) (by omega) hf.1];simp only [Option.bind_some,stE];rw [guard_le (by omega),ih (i + 1) _ (by omega) (by rw [app_len]; omega) hf.2];simp [stEs,stE]
   exact loop l 0 [] (by omega) (by simpa using hl) hf
theorem f25_eq (k:Nat) : ∀ m l,szSs l + 1≤m→szSs l + 1≤k→l.length * 184≤maxB→fitSs l→(fam25 k m).f25 l=some l
 | 0,l,h,_,_,_=>by omega
 | m + 1,l,h,hk,hl,hf=>by
  show f25_l1 k (fam25 k m) l 0 []=some l;have cs : ∀ (xs:List DStmt) (i:Nat) (e0:Int) (e1:ByteArray) (e2:Int) (e3:ByteArray) (e4 e5:Int) (r6:List DExpr) (r7 r8 r9:List DStmt) (nx:Nat→List DStmt→Option (List DStmt)) (l:List DCase) (j:Nat) (ys:List DCase),szCs l≤m→szCs l≤k →
    (ys.length + l.length) * 80≤maxB→(xs.length + 1) * 184≤maxB→fitCs l→f25_l2 k (fam25 k m) xs i e0 e1 e2 e3 e4 e5 r6 r7 r8 r9 nx l j ys=nx (i + 1) (xs ++ [.mk e0 e1 e2 e3 e4 e5 r6 r7 r8 r9 (ys ++ l)]):=by
   intro xs i e0 e1 e2 e3 e4 e5 r6 r7 r8 r9 nx l;induction l with
   | nil=>intro j ys _ _ _ hx _; unfold f25_l2; rw [guard_le hx]; simp
   | cons c l ih =>
    intro j ys hm hk hl hx hf;obtain ⟨c0,c1,c2,c3,c4⟩:=c;simp only [szCs,szC,fitCs,fitC,List.length_cons] at hm hl hf hk;unfold f25_l2 f44;rw [f44_eq k k c3 (by omega) hf.1.1.1 hf.1.1.2];simp only [Option.bind_some];rw [f25_eq k m c4 (by omega) (by omega) hf.1.2.1 hf.1.2.2];simp only [Option.bind_some];rw [guard_le (by omega),ih (j + 1) _ (by omega) (by omega) (by rw [app_len]; omega) hx hf.2];simp
  have loop : ∀ (l:List DStmt) (i:Nat) (xs:List DStmt),szSs l≤m→szSs l≤k→(xs.length + l.length) * 184≤maxB→fitSs l→f25_l1 k (fam25 k m) l i xs=some (xs ++ l):=by
   intro l;induction l with
   | nil=>intro i xs _ _ _ _; simp [f25_l1]
   | cons e l ih =>
    intro i xs hm hk hl hf;obtain ⟨e0,e1,e2,e3,e4,e5,e6,e7,e8,e9,e10⟩:=e;simp only [szSs,szS,fitSs,fitS,List.length_cons] at hm hl hf hk;obtain ⟨⟨⟨h6,h6'⟩,⟨h7,h7'⟩,⟨h8,h8'⟩,⟨h9,h9'⟩,h10,h10'⟩,hf⟩:=hf;unfold f25_l1 f44;rw [f44_eq k k e6 (by omega) h6 h6',f25_eq k m e7 (by omega) (by omega) h7 h7',f25_eq k m e8 (by omega) (by omega) h8 h8',f25_eq k m e9 (by omega) (by omega) h9 h9'];simp only [Option.bind_some];rw [cs xs i e0 e1 e2 e3 e4 e5 e6 e7 e8 e9 _ e10 0 [] (by omega) (by omega) (by simpa using h10) (by omega) h10',ih (i + 1) _ (by omega) (by omega) (by rw [app_len]; omega) hf];simp
  exact loop l 0 [] (by omega) (by omega) (by simpa using hl) hf
theorem f22_eq (k:Nat) : ∀ m l,szSs l + 1≤m→szSs l + 1≤k→l.length * 184≤maxB→fitSs l→(fam22 k m).f22 l=some (stSs l)
 | 0,l,h,_,_,_=>by omega
 | m + 1,l,h,hk,hl,hf=>by
  show f22_l1 k (fam22 k m) l 0 []=some (stSs l);have cs : ∀ (xs:List DStmt) (i:Nat) (e0:Int) (e1:ByteArray) (e3:ByteArray) (e5:Int) (r6:List DExpr) (r7 r8 r9:List DStmt) (nx:Nat→List DStmt→Option (List DStmt)) (l:List DCase) (j:Nat) (ys:List DCase),szCs l≤m→szCs l≤k →
    (ys.length + l.length) * 80≤maxB→(xs.length + 1) * 184≤maxB→fitCs l→f22_l2 k (fam22 k m) xs i e0 e1 e3 e5 r6 r7 r8 r9 nx l j ys=nx (i + 1) (xs ++ [.mk e0 e1 0 e3 0 e5 r6 r7 r8 r9 (ys ++ stCs l)]):=by
   intro xs i e0 e1 e3 e5 r6 r7 r8 r9 nx l;induction l with
   | nil=>intro j ys _ _ _ hx _; unfold f22_l2; rw [guard_le hx]; simp [stCs]
   | cons c l ih =>
    intro j ys hm hk hl hx hf;obtain ⟨c0,c1,c2,c3,c4⟩:=c;simp only [szCs,szC,fitCs,fitC,List.length_cons] at hm hl hf hk;unfold f22_l2 f37;rw [f37_eq k k c3 (by omega) hf.1.1.1 hf.1.1.2];simp only [Option.bind_some];rw [f22_eq k m c4 (by omega) (by omega) hf.1.2.1 hf.1.2.2];simp only [Option.bind_some];rw [guard_le (by omega),ih (j + 1) _ (by omega) (by omega) (by rw [app_len]; omega) hx hf.2];simp [stCs,stC]
  have loop : ∀ (l:List DStmt) (i:Nat) (xs:List DStmt),szSs l≤m→szSs l≤k→(xs.length + l.length) * 184≤maxB→fitSs l→f22_l1 k (fam22 k m) l i xs=some (xs ++ stSs l):=by
   intro l;induction l with
   | nil=>intro i xs _ _ _ _; simp [f22_l1,stSs]
   | cons e l ih =>
    intro i xs hm hk hl hf;obtain ⟨e0,e1,e2,e3,e4,e5,e6,e7,e8,e9,e10⟩:=e;simp only [szSs,szS,fitSs,fitS,List.length_cons] at hm hl hf hk;obtain ⟨⟨⟨h6,h6'⟩,⟨h7,h7'⟩,⟨h8,h8'⟩,⟨h9,h9'⟩,h10,h10'⟩,hf⟩:=hf;unfold f22_l1 f37;rw [f37_eq k k e6 (by omega) h6 h6',f22_eq k m e7 (by omega) (by omega) h7 h7',f22_eq k m e8 (by omega) (by omega) h8 h8',f22_eq k m e9 (by omega) (by omega) h9 h9'];simp only [Option.bind_some];rw [cs xs i e0 e1 e3 e5 _ _ _ _ _ e10 0 [] (by omega) (by omega) (by simpa using h10) (by omega) h10',ih (i + 1) _ (by omega) (by omega) (by rw [app_len]; omega) hf];simp [stSs,stS]
  exact loop l 0 [] (by omega) (by omega) (by simpa using hl) hf
theorem f101_eq (k:Nat) : ∀ m l,szSs l + 1≤m→2 * szSs l + 1≤k→l.length * 184≤maxB→fitSs l→(fam101 k m).f101 l false=some (stSs l)
 | 0,l,h,_,_,_=>by omega
 | m + 1,l,h,hk,hl,hf=>by
  show f101_l3 k (fam101 k m) false l 0 []=some (stSs l);have cs : ∀ (xs:List DStmt) (i:Nat) (e0:Int) (e1:ByteArray) (e3:ByteArray) (e5 n1 n2:Int) (r6:List DExpr) (r7 r8 r9:List DStmt) (nx:Nat→List DStmt→Option (List DStmt)) (l:List DCase) (j:Nat) (ys:List DCase),szCs l≤m→2 * szCs l≤k →
    (ys.length + l.length) * 80≤maxB→(xs.length + 1) * 184≤maxB→fitCs l→f101_l4 k (fam101 k m) false xs i e0 e1 e3 e5 n1 n2 r6 r7 r8 r9 nx l j ys=nx (i + 1) (xs ++ [.mk e0 e1 n1 e3 n2 e5 r6 r7 r8 r9 (ys ++ stCs l)]):=by
   intro xs i e0 e1 e3 e5 n1 n2 r6 r7 r8 r9 nx l;induction l with
   | nil=>intro j ys _ _ _ hx _; unfold f101_l4; rw [guard_le hx]; simp [stCs]
   | cons c l ih =>
    intro j ys hm hk hl hx hf;obtain ⟨c0,c1,c2,c3,c4⟩:=c;simp only [szCs,szC,fitCs,fitC,List.length_cons] at hm hl hf hk;unfold f101_l4 f101_j4 f1012227;rw [(cE k k).2 c3 (by omega) hf.1.1.1 hf.1.1.2];simp only [Bool.not_false,cond_true,Option.bind_some];rw [f101_eq k m c4 (by omega) (by omega) hf.1.2.1 hf.1.2.2];simp only [Option.bind_some];rw [guard_le (by omega),ih (j + 1) _ (by omega) (by omega) (by rw [app_len]; omega) hx hf.2];simp [stCs,stC]
  have loop : ∀ (l:List DStmt) (i:Nat) (xs:List DStmt),szSs l≤m→2 * szSs l≤k→(xs.length + l.length) * 184≤maxB→fitSs l→f101_l3 k (fam101 k m) false l i xs=some (xs ++ stSs l):=by
   intro l;induction l with
   | nil=>intro i xs _ _ _ _; simp [f101_l3,stSs]
   | cons e l ih =>
    intro i xs hm hk hl hf;obtain ⟨e0,e1,e2,e3,e4,e5,e6,e7,e8,e9,e10⟩:=e;simp only [szSs,szS,fitSs,fitS,List.length_cons] at hm hl hf hk;obtain ⟨⟨⟨h6,h6'⟩,⟨h7,h7'⟩,⟨h8,h8'⟩,⟨h9,h9'⟩,h10,h10'⟩,hf⟩:=hf;unfold f101_l3 f101_j3 f1012227;rw [(cE k k).2 e6 (by omega) h6 h6',f101_eq k m e7 (by omega) (by omega) h7 h7',f101_eq k m e8 (by omega) (by omega) h8 h8',f101_eq k m e9 (by omega) (by omega) h9 h9'];simp only [Bool.not_false,cond_true,Option.bind_some];rw [cs xs i e0 e1 e3 e5 _ _ _ _ _ _ _ e10 0 [] (by omega) (by omega) (by simpa using h10) (by omega) h10',ih (i + 1) _ (by omega) (by omega) (by rw [app_len]; omega) hf];simp [stSs,stS]
  exact loop l 0 [] (by omega) (by omega) (by simpa using hl) hf
theorem f79_eq (k:Nat) (p:DProgram) (hk:2 * szP p + 1≤k) (hf:fitP p):f79 k p false=some (stP p):=by
 obtain ⟨fs⟩:=p;simp only [szP,fitP] at hk hf;show f79_l1 k false fs 0 []=some (.mk (stFs fs));have loop : ∀ (l:List DFunc) (i:Nat) (xs:List DFunc),2 * szFs l + 1≤k→(xs.length + l.length) * 88≤maxB→fitFs l→f79_l1 k false l i xs=some (.mk (xs ++ stFs l)):=by
  intro l;induction l with
  | nil=>intro i xs _ _ _; simp [f79_l1,stFs]
  | cons e l ih =>
   intro i xs hk hl hf;obtain ⟨e0,e1,e2,e3,e4,e5⟩:=e;simp only [szFs,szF,fitFs,fitF,List.length_cons] at hk hl hf;unfold f79_l1 f79_j1 f100 f101;rw [guard_le hf.1.1,f101_eq k k e5 (by omega) (by omega) hf.1.2.1 hf.1.2.2];simp only [Bool.not_false,cond_true,Option.bind_some];rw [guard_le (by omega),ih (i + 1) _ (by omega) (by rw [app_len]; omega) hf.2];simp [stFs,stF]
 exact loop fs 0 [] (by omega) (by simpa using hf.1) hf.2
theorem f14_eq (k:Nat) (p:DProgram) (hk:2 * szP p + 1≤k) (hf:fitP p):f14 k p=some p:=by
 obtain ⟨fs⟩:=p;simp only [szP,fitP] at hk hf;show f14_l1 k fs 0 []=some (.mk fs);have loop : ∀ (l:List DFunc) (i:Nat) (xs:List DFunc),2 * szFs l + 1≤k→(xs.length + l.length) * 88≤maxB→fitFs l→f14_l1 k l i xs=some (.mk (xs ++ l)):=by
  intro l;induction l with
  | nil=>intro i xs _ _ _; simp [f14_l1]
  | cons e l ih =>
   intro i xs hk hl hf;obtain ⟨e0,e1,e2,e3,e4,e5⟩:=e;simp only [szFs,szF,fitFs,fitF,List.length_cons] at hk hl hf;unfold f14_l1 f25;rw [guard_le (by simpa using hf.1.1),f25_eq k k e5 (by omega) (by omega) hf.1.2.1 hf.1.2.2];simp only [Option.bind_some];rw [guard_le (by omega),ih (i + 1) _ (by omega) (by rw [app_len]; omega) hf.2];simp
 exact loop fs 0 [] (by omega) (by simpa using hf.1) hf.2
theorem idxO_mid {α:Type} (xs:List α) (e:α) (l:List α) (i:Int) (hi:i=(xs.length:Int)):idxO (xs ++ e :: l) i=some e:=by
 subst hi;unfold idxO;rw [if_pos (by omega)];simp
theorem set_mid {α:Type} (xs:List α) (e e' : α) (l:List α):(xs ++ e :: l).set xs.length e'=xs ++ e' :: l:=by
 simp
theorem f11_eq (k:Nat) (p:DProgram) (hk:2 * szP p + 1≤k) (hf:fitP p):f11 k p=some (stP p):=by
 have h19:=f14_eq k p hk hf;obtain ⟨fs⟩:=p;unfold f11 f11_b;simp only;rw [h19];simp only [szP,fitP] at hk hf;simp only [Option.bind_some];have loop : ∀ (l:List DFunc) (j:Nat) (xs:List DFunc),l.length < j→2 * szFs l + 1≤k→(xs.length + l.length) * 88≤maxB→fitFs l→f11_w1 k j (xs ++ l) (xs.length:Int)=some (.mk (xs ++ stFs l)):=by
  intro l;induction l with
  | nil =>
   intro j xs hj _ _ _;obtain ⟨j,rfl⟩ : ∃ j',j=j' + 1:=⟨j - 1,by simp at hj; omega⟩;unfold f11_w1;simp [stFs]
  | cons e l ih =>
   intro j xs hj hk hl hf;simp only [szFs,fitFs,List.length_cons] at hk hl hf hj;obtain ⟨j,rfl⟩ : ∃ j',j=j' + 1:=⟨j - 1,by omega⟩;unfold f11_w1;have h1:decide ((xs.length:Int) < ((xs ++ e :: l).length:Int))=true:=by simp; omega
   rw [h1,idxO_mid xs e l _ rfl];obtain ⟨e0,e1,e2,e3,e4,e5⟩:=e;simp only [szF,fitF] at hk hf;simp only [cond_true,Option.bind_some];unfold f22;rw [f22_eq k k e5 (by omega) (by omega) hf.1.2.1 hf.1.2.2];simp only [Option.bind_some,Int.toNat_natCast,set_mid];unfold maxB at hl;rw [w64_nat (x:=(xs.length:Int) + 1) (n:=xs.length + 1) (by omega) (by omega)];have:=ih j (xs ++ [.mk e0 e1 e2 e3 0 (stSs e5)]) (by omega) (by omega) (by rw [app_len]; unfold maxB; omega) hf.2;rw [app_len] at this;simp only [List.append_assoc,List.singleton_append] at this;rw [this];rfl
 have hlen:=len_szFs fs;exact loop fs k [] (by omega) (by omega) (by simpa using hf.1) hf.2
theorem seq_refl (a:ByteArray):seq a a=true:=by unfold seq; simp
theorem f28_tot (k:Nat) : ∀ m l (a:Int),szEs l + 1≤m→∃ r,(fam28 k m).f28 l a=some r
 | 0,l,a,h=>by omega
 | m + 1,l,a,h=>by
  show ∃ r,f28_b k (fam28 k m) l a=some r;unfold f28_b;have loop : ∀ (l:List DExpr) (i:Nat) (n:Int),szEs l≤m→∃ r,f28_l1 k (fam28 k m) a l i n=some r:=by
   intro l;induction l with
   | nil=>intro i n _; exact ⟨_,rfl⟩
   | cons e l ih =>
    intro i n hm;obtain ⟨e0,e1,e2,e3,e4⟩:=e;simp only [szEs,szE] at hm;unfold f28_l1;cases decide (n≤2000)
    ·exact ⟨_,rfl⟩
    ·obtain ⟨r,hr⟩:=f28_tot k m e4 (w64 (a + 1)) (by omega);rw [hr];exact ih _ _ (by omega)
  cases decide (a > 60)
  ·exact loop l 0 0 (by omega)
  ·exact ⟨_,rfl⟩
theorem f18_tot (k:Nat) : ∀ m l (a:Int),szSs l + 1≤m→szSs l + 1≤k→∃ r,(fam18 k m).f18 l a=some r
 | 0,l,a,h,_=>by omega
 | m + 1,l,a,h,hk=>by
  show ∃ r,f18_b k (fam18 k m) l a=some r;unfold f18_b;have cs : ∀ (i:Nat) (nx:Nat→Int→Option Int) (hnx : ∀ n,∃ r,nx (i + 1) n=some r) (l:List DCase) (j:Nat) (n:Int),szCs l≤m→szCs l≤k→∃ r,f18_l2 k (fam18 k m) a i nx l j n=some r:=by
   intro i nx hnx l;induction l with
   | nil=>intro j n _ _; exact hnx _
   | cons e l ih =>
    intro j n hm hk;obtain ⟨e0,e1,e2,e3,e4⟩:=e;simp only [szCs,szC] at hm hk;unfold f18_l2 f28;cases decide (n≤2000)
    ·exact hnx _
    ·obtain ⟨r,hr⟩:=f28_tot k k e3 (w64 (a + 1)) (by omega);obtain ⟨r2,hr2⟩:=f18_tot k m e4 (w64 (a + 1)) (by omega) (by omega);rw [hr,cond_true,Option.bind_some,hr2];exact ih _ _ (by omega) (by omega)
  have loop : ∀ (l:List DStmt) (i:Nat) (n:Int),szSs l≤m→szSs l≤k→∃ r,f18_l1 k (fam18 k m) a l i n=some r:=by
   intro l;induction l with
   | nil=>intro i n _ _; exact ⟨_,rfl⟩
   | cons e l ih =>
    intro i n hm hk;obtain ⟨e0,e1,e2,e3,e4,e5,e6,e7,e8,e9,e10⟩:=e;simp only [szSs,szS] at hm hk;unfold f18_l1 f28;cases decide (n≤2000)
    ·exact ⟨_,rfl⟩
    ·obtain ⟨r,hr⟩:=f28_tot k k e6 (w64 (a + 1)) (by omega);obtain ⟨r7,hr7⟩:=f18_tot k m e7 (w64 (a + 1)) (by omega) (by omega);obtain ⟨r8,hr8⟩:=f18_tot k m e8 (w64 (a + 1)) (by omega) (by omega);obtain ⟨r9,hr9⟩:=f18_tot k m e9 (w64 (a + 1)) (by omega) (by omega);rw [hr,cond_true,Option.bind_some,hr7,Option.bind_some,hr8,Option.bind_some,hr9];exact cs i _ (fun n=>ih _ _ (by omega) (by omega)) e10 0 _ (by omega) (by omega)
  cases decide (a > 40)
  ·exact loop l 0 0 (by omega) (by omega)
  ·exact ⟨_,rfl⟩
theorem f34_eq (k:Nat) (p:DProgram) (hk:2 * szP p + 1≤k) (hf:fitP p):f34 k p=some (cond (wf true p) (stP p,0) (.mk [],2)):=by
 have h78:=f78_eq k p true hk;have h88:=f79_eq k p hk hf;obtain ⟨fs⟩:=p;unfold f34 f34_b f1005214 f1005304 f1005304_b f54 f54_b;simp only [h78,h88,Option.bind_some];cases hw:wf true (.mk fs) <;> rfl
abbrev Ex (α:Type):=Except Int α
def slotOf (nm:List ByteArray) (vis:List Nat) (a:ByteArray):Option Nat :=
 vis.find? fun v=>match nm[v]? with | some b=>seq b a | none=>false
mutual
def uE (nm:List ByteArray) (vis:List Nat):DExpr→Ex DExpr
 | .mk op num txt slot l=>match uEs nm vis l with
  | .error c=>.error c
  | .ok l'=>cond (op == 4) (match slotOf nm vis txt with | none=>.error 20 | some v=>.ok (.mk op num txt (v:Int) l')) (.ok (.mk op num txt 0 l'))
def uEs (nm:List ByteArray) (vis:List Nat):List DExpr→Ex (List DExpr)
 | []=>.ok []
 | e :: l=>match uE nm vis e with
  | .error c=>.error c
  | .ok e'=>match uEs nm vis l with
   | .error c=>.error c
   | .ok l'=>.ok (e' :: l')
end
def lkU (a:ByteArray):List (List (ByteArray × Int))→Option Int
 | []=>none
 | d :: sc=>match mget seq a d with
  | some v=>some v
  | none=>lkU a sc
def okV (nm:List ByteArray) (vis:List Nat):Prop:=∀ v ∈ vis,v < nm.length
structure Rel (sc:List (List (ByteArray × Int))) (vis:List Nat) (nm:List ByteArray):Prop where
 look : ∀ a,lkU a sc=(slotOf nm vis a).map (fun (v:Nat)=>(v:Int))
 ok:okV nm vis
theorem f123_eq (k:Nat) (p:List DFunc) (f:DFunc) (nm:List ByteArray) (sc:List (List (ByteArray × Int))) (lo:Int) (a:ByteArray) :
  f123 k (.mk (.mk p) f nm sc lo) a=some (match lkU a sc with | some v=>(v,true) | none=>(0,false)):=by
 obtain ⟨f0,f1,f2,f3,f4,f5⟩:=f;have h : ∀ (sc:List (List (ByteArray × Int))) (i:Nat),f123_l1 k a sc i=some (match lkU a sc with | some v=>(v,true) | none=>(0,false)):=by
  intro sc;induction sc with
  | nil=>intro i; rfl
  | cons d sc ih =>
   intro i;unfold f123_l1 lkU;rw [ih];cases mget seq a d <;> rfl
 exact h sc 0
theorem Rel.f123 {k:Nat} {p:List DFunc} {f:DFunc} {nm:List ByteArray} {sc:List (List (ByteArray × Int))} {lo:Int} {vis:List Nat} (R:Rel sc vis nm) (a:ByteArray) :
  Go.Proofs.YtoegpkmhifmamaaGreatDoor.f123 k (.mk (.mk p) f nm sc lo) a=some (match slotOf nm vis a with | some v=>((v:Int),true) | none=>(0,false)):=by
 rw [f123_eq,R.look];cases slotOf nm vis a <;> rfl
theorem f77_eq (k:Nat) (b:Bool) (c:Int):f77 k b c=some (cond b (.ok ()) (.error c)):=by cases b <;> rfl
theorem nU (k:Nat) (p:List DFunc) (f:DFunc) {nm:List ByteArray} {sc:List (List (ByteArray × Int))} (lo:Int) {vis:List Nat} (R:Rel sc vis nm) : ∀ m,
  (∀ e,2 * szE e≤m→szE e≤100000→(fam1012222 k m).f1013722 e (.mk (.mk p) f nm sc lo)=some (uE nm vis e)) ∧
  (∀ l,2 * szEs l + 1≤m→szEs l≤100000→(fam1012222 k m).f1012222 l (.mk (.mk p) f nm sc lo)=some (uEs nm vis l))
 | 0=>⟨fun e h=>by have:=szE_pos e; omega,fun l h=>by omega⟩
 | m + 1=>by
  obtain ⟨ihe,ihl⟩:=nU k p f lo R m;constructor
  ·intro e h hb;obtain ⟨op,num,txt,slot,l⟩:=e;obtain ⟨f0,f1,f2,f3,f4,f5⟩:=f;simp only [szE] at h hb;show f1013722_b k (fam1012222 k m) (.mk op num txt slot l) (.mk (.mk p) (.mk f0 f1 f2 f3 f4 f5) nm sc lo)=_;unfold f1013722_b uE;simp only;rw [ihl l (by omega) (by omega)];simp only [Option.bind_some];cases uEs nm vis l with
   | error c=>rfl
   | ok l' =>
    simp only;unfold f1013849 f1013849_b;simp only;rw [R.f123];simp only [Option.bind_some,f77_eq,bne];cases (op == 4) <;> cases slotOf nm vis txt <;> rfl
  ·intro l h hb;obtain ⟨f0,f1,f2,f3,f4,f5⟩:=f;show f1012222_l1 k (fam1012222 k m) p f0 f1 f2 f3 f4 f5 nm sc lo l 0 []=_;have loop : ∀ (l:List DExpr) (i:Nat) (xs:List DExpr),2 * szEs l≤m→xs.length + szEs l≤100000→f1012222_l1 k (fam1012222 k m) p f0 f1 f2 f3 f4 f5 nm sc lo l i xs=some (match uEs nm vis l with | .error c=>.error c | .ok l'=>.ok (xs ++ l')):=by
    intro l;induction l with
    | nil=>intro i xs _ _; simp [f1012222_l1,uEs]
    | cons e l ih =>
     intro i xs hm hx;obtain ⟨e0,e1,e2,e3,e4⟩:=e;simp only [szEs] at hm hx;have hp:=szE_pos (.mk e0 e1 e2 e3 e4);unfold f1012222_l1 uEs;rw [ihe (.mk e0 e1 e2 e3 e4) (by omega) (by omega)];simp only [Option.bind_some];cases uE nm vis (.mk e0 e1 e2 e3 e4) with
     | error c=>rfl
     | ok e' =>
      obtain ⟨r0,r1,r2,r3,r4⟩:=e';simp only;rw [guard_le (by unfold maxB; omega),ih (i + 1) _ (by omega) (by rw [app_len]; omega)];cases uEs nm vis l with
      | error c=>rfl
      | ok l'=>simp
   rw [loop l 0 [] (by omega) (by simpa using hb)];cases uEs nm vis l <;> simp
theorem f124_eq (k:Nat) (p:List DFunc) (f:DFunc) {nm:List ByteArray} {sc:List (List (ByteArray × Int))} (lo:Int) {vis:List Nat} (R:Rel sc vis nm) (l:List DExpr) (hk:2 * szEs l + 1≤k) (hb:szEs l≤100000) :
  f124 k (.mk (.mk p) f nm sc lo) l=some (uEs nm vis l):=by
 have h:=(nU k p f lo R k).2 l hk hb;obtain ⟨f0,f1,f2,f3,f4,f5⟩:=f;unfold f124 f124_b f1012222;simp only;rw [h];cases uEs nm vis l <;> rfl
theorem uE_err {nm:List ByteArray} {vis:List Nat} : ∀ m,(∀ e c,szE e≤m→uE nm vis e=.error c→c=20)∧(∀ l c,szEs l≤m→uEs nm vis l=.error c→c=20)
 | 0=>⟨fun e c h=>by have:=szE_pos e; omega,fun l c h hu=>by
   cases l with
   | nil=>cases hu
   | cons e l=>have:=szE_pos e; simp only [szEs] at h; omega⟩
 | m + 1=>by
  obtain ⟨ihe,ihl⟩:=uE_err (nm:=nm) (vis:=vis) m;have he : ∀ e c,szE e≤m + 1→uE nm vis e=.error c→c=20:=by
   intro e c h hu;obtain ⟨op,num,txt,slot,l⟩:=e;simp only [szE] at h;unfold uE at hu;cases hl:uEs nm vis l with
   | error c'=>rw [hl] at hu; have:=ihl l c' (by omega) hl; cases hu; exact this
   | ok l' =>
    rw [hl] at hu;cases h4:(op == 4) <;> rw [h4] at hu
    ·cases hu
    ·cases hs:slotOf nm vis txt <;> simp only [hs,cond_true] at hu <;> cases hu
     rfl
  refine ⟨he,?_⟩;intro l;induction l with
  | nil=>intro c _ hu; cases hu
  | cons e l ih =>
   intro c h hu;simp only [szEs] at h;unfold uEs at hu;cases he' : uE nm vis e with
   | error c'=>rw [he'] at hu; have:=he e c' (by omega) he'; cases hu; exact this
   | ok e' =>
    rw [he'] at hu;cases hl:uEs nm vis l with
    | error c'=>rw [hl] at hu; have:=ih c' (by omega) hl; cases hu; exact this
    | ok l'=>rw [hl] at hu; cases hu
theorem uEs_20 {nm:List ByteArray} {vis:List Nat} {e:List DExpr} {c:Int} (h:uEs nm vis e=.error c):c=20:=(uE_err _).2 e c (Nat.le_refl _) h
def eb {α β:Type} (u:Ex α) (f:α→Ex β):Ex β:=match u with | .error c=>.error c | .ok x=>f x
def eb3 {α β:Type} (u:Ex (List ByteArray × List Nat × α)) (f:List ByteArray→List Nat→α→Ex β):Ex β:=match u with | .error c=>.error c | .ok (a,b,x)=>f a b x
def uMk (nm:List ByteArray) (vis:List Nat) (a:ByteArray):Ex (List ByteArray × List Nat × Int) :=
 match slotOf nm vis a with | some _=>.error 21 | none=>.ok (nm ++ [a],vis ++ [nm.length],(nm.length:Int))
def uCall (op:Int) (fr:ByteArray) (na:Nat):List DFunc→Nat→Ex Int
 | [],_=>.error 20
 | .mk nm ps _ fl _ _ :: l,i=>cond (seq nm fr) (cond (fl == (op == 28)) (cond ((ps.length:Int) == (na:Int)) (.ok (i:Int)) (.error 24)) (.error 25)) (uCall op fr na l (i + 1))
def uD {α:Type} (b:Bool) (c:Int) (x:Ex α):Ex α:=cond b x (.error c)
section
variable (fs:List DFunc) (f2:Int) (f3:Bool)
mutual
def uS:Nat→List ByteArray→List Nat→DStmt→Ex (List ByteArray × List Nat × DStmt)
 | lo,nm,vis,.mk op name s2 fr s4 flag l6 l7 l8 l9 l10 =>
  eb (uEs nm vis l6) fun r6 =>
  cond (op == 27) (eb3 (uCs lo nm vis l10) fun nm1 _ cs=>.ok (nm1,vis,.mk op name s2 fr s4 flag r6 l7 l8 l9 cs))
  (eb (cond (seq fr ⟨#[]⟩) (.ok s4) (uCall op fr r6.length fs 0)) fun ix =>
  cond (op == 2) (match slotOf nm vis name with | none=>.error 20 | some v=>.ok (nm,vis,.mk op name (v:Int) fr ix flag r6 l7 l8 l9 l10))
  (cond (op == 18 || op == 19) (uD (decide (lo > 0)) 22 (.ok (nm,vis,.mk op name s2 fr ix flag r6 l7 l8 l9 l10)))
  (cond (op == 29) (uD f3 22 (.ok (nm,vis,.mk op name s2 fr ix flag r6 l7 l8 l9 l10)))
  (cond (op == 17) (uD ((decide (r6.length > 0)) == (f2 != 0)) 22 (.ok (nm,vis,.mk op name s2 fr ix flag r6 l7 l8 l9 l10)))
  (cond (op == 21) (eb3 (uB (lo + 1) nm vis l7) fun nm1 _ b=>.ok (nm1,vis,.mk op name s2 fr ix flag r6 b l8 l9 l10))
  (cond (op == 28) (eb3 (uI (lo + 1) nm vis name s2 l7) fun nm1 _ vb=>.ok (nm1,vis,.mk op name vb.1 fr ix flag r6 vb.2 l8 l9 l10))
  (cond (op == 25) (eb3 (uI lo nm vis name s2 l7) fun nm1 _ vb=>.ok (nm1,vis,.mk op name vb.1 fr ix flag r6 vb.2 l8 l9 l10))
  (cond (op == 24) (eb3 (uB lo nm vis l7) fun nm1 _ b7=>eb3 (uI lo nm1 vis name s2 l8) fun nm2 _ vb=>eb3 (uB lo nm2 vis l9) fun nm3 _ b9=>.ok (nm3,vis,.mk op name vb.1 fr ix flag r6 b7 vb.2 b9 l10))
  (cond (op == 20 || op == 22 || op == 23 || op == 26) (eb3 (uB lo nm vis l7) fun nm1 _ b7=>eb3 (uB lo nm1 vis l8) fun nm2 _ b8=>.ok (nm2,vis,.mk op name s2 fr ix flag r6 b7 b8 l9 l10))
   (eb3 (cond (seq name ⟨#[]⟩) (.ok (nm,vis,s2)) (uMk nm vis name)) fun nm1 vis1 v=>uD (op != 6 || flag == 0 || decide (lo > 0)) 22 (.ok (nm1,vis1,.mk op name v fr ix flag r6 l7 l8 l9 l10))))))))))))
def uSs:Nat→List ByteArray→List Nat→List DStmt→Ex (List ByteArray × List Nat × List DStmt)
 | _,nm,vis,[]=>.ok (nm,vis,[])
 | lo,nm,vis,s :: l=>eb3 (uS lo nm vis s) fun nm1 vis1 s'=>eb3 (uSs lo nm1 vis1 l) fun nm2 vis2 l'=>.ok (nm2,vis2,s' :: l')
def uB:Nat→List ByteArray→List Nat→List DStmt→Ex (List ByteArray × List Nat × List DStmt)
 | _,nm,vis,[]=>.ok (nm,vis,[])
 | lo,nm,vis,s :: l=>eb3 (uS lo nm vis s) fun nm1 vis1 s'=>eb3 (uSs lo nm1 vis1 l) fun nm2 vis2 l'=>.ok (nm2,vis,s' :: l')
def uI:Nat→List ByteArray→List Nat→ByteArray→Int→List DStmt→Ex (List ByteArray × List Nat × (Int × List DStmt))
 | lo,nm,vis,name,s2,[]=>eb3 (cond (seq name ⟨#[]⟩) (.ok (nm,vis,s2)) (uMk nm vis name)) fun nm1 _ v=>.ok (nm1,vis,(v,[]))
 | lo,nm,vis,name,s2,s :: l=>eb3 (cond (seq name ⟨#[]⟩) (.ok (nm,vis,s2)) (uMk nm vis name)) fun nm1 vis1 v=>eb3 (uS lo nm1 vis1 s) fun nm2 vis2 s'=>eb3 (uSs lo nm2 vis2 l) fun nm3 _ l'=>.ok (nm3,vis,(v,s' :: l'))
def uC:Nat→List ByteArray→List Nat→DCase→Ex (List ByteArray × List Nat × DCase)
 | lo,nm,vis,.mk kind name slot es b=>eb (uEs nm vis es) fun r=>eb3 (uI lo nm vis name slot b) fun nm1 _ vb=>.ok (nm1,vis,.mk kind name vb.1 r vb.2)
def uCs:Nat→List ByteArray→List Nat→List DCase→Ex (List ByteArray × List Nat × List DCase)
 | _,nm,vis,[]=>.ok (nm,vis,[])
 | lo,nm,vis,c :: l=>eb3 (uC lo nm vis c) fun nm1 _ c'=>eb3 (uCs lo nm1 vis l) fun nm2 _ l'=>.ok (nm2,vis,c' :: l')
end
theorem uB_eq (lo:Nat) (nm:List ByteArray) (vis:List Nat) (l:List DStmt):uB fs f2 f3 lo nm vis l=eb3 (uSs fs f2 f3 lo nm vis l) fun nm1 _ l'=>.ok (nm1,vis,l'):=by
 cases l with
 | nil=>simp [uB,uSs,eb3]
 | cons s l =>
  rw [uB,uSs];cases uS fs f2 f3 lo nm vis s with
  | error c=>rfl
  | ok x =>
   simp only [eb3];cases uSs fs f2 f3 lo x.1 x.2.1 l <;> rfl
theorem uI_eq (lo:Nat) (nm:List ByteArray) (vis:List Nat) (name:ByteArray) (s2:Int) (l:List DStmt):uI fs f2 f3 lo nm vis name s2 l =
  eb3 (cond (seq name ⟨#[]⟩) (.ok (nm,vis,s2)) (uMk nm vis name)) fun nm1 vis1 v=>eb3 (uSs fs f2 f3 lo nm1 vis1 l) fun nm2 _ l'=>.ok (nm2,vis,(v,l')):=by
 cases l with
 | nil=>simp [uI,uSs,eb3]
 | cons s l =>
  rw [uI];congr 1;funext nm1 vis1 v;rw [uSs];cases uS fs f2 f3 lo nm1 vis1 s with
  | error c=>rfl
  | ok x =>
   simp only [eb3];cases uSs fs f2 f3 lo x.1 x.2.1 l <;> rfl
end
theorem slotOf_ext {nm nm' : List ByteArray} {vis:List Nat} (hv:okV nm vis) (hn:nm <+: nm') (a:ByteArray):slotOf nm' vis a=slotOf nm vis a:=by
 obtain ⟨t,rfl⟩:=hn;unfold slotOf;induction vis with
 | nil=>rfl
 | cons v vis ih =>
  have h:v < nm.length:=hv v (by simp);rw [List.find?_cons,List.find?_cons,List.getElem?_append_left h,ih (fun w hw=>hv w (by simp [hw]))]
theorem slotOf_new {nm:List ByteArray} {vis:List Nat} (hv:okV nm vis) (a b:ByteArray) (hn:slotOf nm vis a=none):slotOf (nm ++ [a]) (vis ++ [nm.length]) b=match slotOf nm vis b with | some v=>some v | none=>cond (seq a b) (some nm.length) none:=by
 have h1:=slotOf_ext (nm':=nm ++ [a]) hv ⟨[a],rfl⟩ b;unfold slotOf at h1 ⊢;rw [List.find?_append,h1];cases List.find? (fun v=>match nm[v]? with | some b_1=>seq b_1 b | none=>false) vis with
 | some v=>rfl
 | none =>
  simp only [Option.none_or,List.find?_cons,List.find?_nil];have:(nm ++ [a])[nm.length]?=some a:=by simp
  rw [this];dsimp only;cases seq a b <;> rfl
theorem seq_eq {a b:ByteArray} (h:seq a b=true):a=b:=by
 unfold seq at h;rw [ByteArray.toList_eq,ByteArray.toList_eq] at h;have h:=eq_of_beq h;obtain ⟨⟨a⟩⟩:=a; obtain ⟨⟨b⟩⟩:=b
 exact congrArg (fun l=>(⟨⟨l⟩⟩:ByteArray)) h
theorem seq_iff (a b:ByteArray):seq a b=true↔a=b:=⟨seq_eq,fun h=>h ▸ seq_refl a⟩
theorem mget_put (a:ByteArray) (k:Int) (b:ByteArray) : ∀ d:List (ByteArray × Int),mget seq b (mput seq a k d)=cond (seq a b) (some k) (mget seq b d)
 | []=>by
  unfold mput mget;rw [seq_comm b a];cases seq a b <;> rfl
 | (x,v) :: d=>by
  unfold mput;cases h:seq a x with
  | true =>
   obtain rfl:=seq_eq h;simp only [if_true,mget];rw [seq_comm b a];cases seq a b <;> rfl
  | false =>
   rw [if_neg (by simp)];simp only [mget,mget_put a k b d];cases hb:seq b x with
   | false=>simp
   | true =>
    obtain rfl:=seq_eq hb;simp [h]
theorem lkU_app (a:ByteArray) : ∀ (x y:List (List (ByteArray × Int))),lkU a (x ++ y)=match lkU a x with | some v=>some v | none=>lkU a y
 | [],y=>rfl
 | d :: x,y=>by
  simp only [List.cons_append,lkU,lkU_app a x y];cases mget seq a d <;> rfl
theorem lkU_one (a:ByteArray) (d:List (ByteArray × Int)):lkU a [d]=mget seq a d:=by
 unfold lkU; cases mget seq a d <;> rfl
theorem Rel.push {sc:List (List (ByteArray × Int))} {vis:List Nat} {nm:List ByteArray} (R:Rel sc vis nm):Rel (sc ++ [[]]) vis nm :=
 ⟨fun a=>by rw [lkU_app,lkU_one,← R.look a]; cases lkU a sc <;> rfl,R.ok⟩
theorem Rel.ext {sc:List (List (ByteArray × Int))} {vis:List Nat} {nm nm' : List ByteArray} (R:Rel sc vis nm) (h:nm <+: nm'):Rel sc vis nm' :=
 ⟨fun a=>by rw [R.look,slotOf_ext R.ok h],fun v hv=>Nat.lt_of_lt_of_le (R.ok v hv) h.length_le⟩
theorem Rel.make {pre:List (List (ByteArray × Int))} {d:List (ByteArray × Int)} {vis:List Nat} {nm:List ByteArray} {a:ByteArray} (R:Rel (pre ++ [d]) vis nm) (hn:slotOf nm vis a=none) :
  Rel (pre ++ [mput seq a (nm.length:Int) d]) (vis ++ [nm.length]) (nm ++ [a]):=by
 refine ⟨fun b=>?_,fun v hv=>?_⟩
 ·rw [slotOf_new R.ok a b hn,lkU_app,lkU_one,mget_put];have h:=R.look b;rw [lkU_app,lkU_one] at h;cases hs:seq a b with
  | false =>
   simp only [cond_false];rw [h];cases slotOf nm vis b <;> rfl
  | true =>
   obtain rfl:=seq_eq hs;rw [hn] at h ⊢;simp only [Option.map_none] at h;cases hp:lkU a pre with
   | some v=>rw [hp] at h; cases h
   | none=>rfl
 ·rcases List.mem_append.1 hv with hv | hv
  ·have:=R.ok v hv; simp; omega
  ·simp at hv; simp; omega
theorem f104_eq (k:Nat) (p:List DFunc) (f:DFunc) {nm:List ByteArray} {pre:List (List (ByteArray × Int))} {d:List (ByteArray × Int)} (lo:Int) {vis:List Nat} (R:Rel (pre ++ [d]) vis nm) (a:ByteArray) (hb:nm.length≤1000000) (hp:pre.length≤1000000) :
  f104 k (.mk (.mk p) f nm (pre ++ [d]) lo) a=some (match uMk nm vis a with | .error c=>.error c | .ok (nm',_,v)=>.ok (.mk (.mk p) f nm' (pre ++ [mput seq a (nm.length:Int) d]) lo,v)):=by
 have h119:=R.f123 (k:=k) (p:=p) (f:=f) (lo:=lo) a;obtain ⟨f0,f1,f2,f3,f4,f5⟩:=f;unfold f104 f104_b uMk;simp only;rw [h119];cases slotOf nm vis a with
 | some v=>rfl
 | none =>
  simp only [Option.bind_some,f77_eq,Bool.not_false,cond_true];rw [guard_le (by unfold maxB; omega)];have e1:w64 (((pre ++ [d]).length:Int) - 1)=(pre.length:Int):=w64_nat (n:=pre.length) (by simp) (by omega);rw [e1,idxO_mid pre d [] _ rfl];simp
def fdL (fr:ByteArray):List DFunc→Nat→Option Int
 | [],_=>some (-1)
 | .mk nm _ _ _ _ _ :: l,i=>cond (seq nm fr) (some (i:Int)) (fdL fr l (i + 1))
theorem f1010339_eq (k:Nat) (s0:Int) (s1:ByteArray) (s2:Int) (fr:ByteArray) (s4 s5:Int) (s6:List DExpr) (s7 s8 s9:List DStmt) (s10:List DCase) : ∀ (l:List DFunc) (i:Nat),
  f1010339_l1 k s0 s1 s2 fr s4 s5 s6 s7 s8 s9 s10 l i=fdL fr l i
 | [],i=>rfl
 | .mk e0 e1 e2 e3 e4 e5 :: l,i=>by
  unfold f1010339_l1 fdL f1013901 f1013901_b;simp only [Option.bind_some];rw [f1010339_eq k s0 s1 s2 fr s4 s5 s6 s7 s8 s9 s10 l (i + 1)]
theorem fd_spec (op:Int) (fr:ByteArray) (na:Nat) : ∀ (l:List DFunc) (pre:List DFunc),∃ r,fdL fr l pre.length=some r ∧
  ((r=-1∧uCall op fr na l pre.length=.error 20)∨(∃ (j:Nat) (g0:ByteArray) (g1:List DParam) (g2:Int) (g3:Bool) (g4:Int) (g5:List DStmt),r=(j:Int)∧(pre ++ l)[j]?=some (.mk g0 g1 g2 g3 g4 g5) ∧
   uCall op fr na l pre.length=cond (g3 == (op == 28)) (cond ((g1.length:Int) == (na:Int)) (.ok (j:Int)) (.error 24)) (.error 25)))
 | [],pre=>⟨-1,rfl,.inl ⟨rfl,rfl⟩⟩
 | .mk g0 g1 g2 g3 g4 g5 :: l,pre=>by
  unfold fdL uCall;cases h:seq g0 fr with
  | true=>exact ⟨_,rfl,.inr ⟨pre.length,g0,g1,g2,g3,g4,g5,rfl,by simp,rfl⟩⟩
  | false =>
   obtain ⟨r,h1,h2⟩:=fd_spec op fr na l (pre ++ [.mk g0 g1 g2 g3 g4 g5]);rw [app_len] at h1 h2;rw [List.append_assoc,List.singleton_append] at h2;exact ⟨r,h1,h2⟩
theorem f126_eq (k:Nat) (p:List DFunc) (f:DFunc) (nm:List ByteArray) (sc:List (List (ByteArray × Int))) (lo:Int) (op:Int) (name:ByteArray) (s2:Int) (fr:ByteArray) (s4 flag:Int) (l6:List DExpr) (l7 l8 l9:List DStmt) (l10:List DCase) :
  f126 k (.mk (.mk p) f nm sc lo) (.mk op name s2 fr s4 flag l6 l7 l8 l9 l10)=some (match uCall op fr l6.length p 0 with | .error c=>.error c | .ok ix=>.ok (.mk (.mk p) f nm sc lo,.mk op name s2 fr ix flag l6 l7 l8 l9 l10)):=by
 obtain ⟨f0,f1,f2,f3,f4,f5⟩:=f;unfold f126 f126_b f1010339 f1010339_b;simp only;rw [f1010339_eq];obtain ⟨r,h1,h2⟩:=fd_spec op fr l6.length p [];simp only [List.length_nil,List.nil_append] at h1 h2;rw [h1];simp only [Option.bind_some,f77_eq];rcases h2 with ⟨rfl,h2⟩ | ⟨j,g0,g1,g2,g3,g4,g5,rfl,h3,h2⟩
 ·rw [h2]; rfl
 ·rw [h2];have:idxO p (j:Int)=some (.mk g0 g1 g2 g3 g4 g5):=by unfold idxO; rw [if_pos (by omega)]; simpa using h3
  have hj:decide ((j:Int) ≥ 0)=true:=by simp
  rw [this,hj];simp only [cond_true,Option.bind_some];cases (g3 == (op == 28)) <;> cases ((g1.length:Int) == (l6.length:Int)) <;> rfl
end Go.Proofs.YtoegpkmhifmamaaGreatDoor
