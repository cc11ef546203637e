/- Words of the same proof, part 5: what the last text needs; nothing is claimed here. -/
import Derived.Test.YtoegpkmhifmamaaGreatDoorU4
import Derived.ProofKit
set_option linter.unusedVariables false
set_option linter.unusedSimpArgs false
set_option maxRecDepth 100000
set_option maxHeartbeats 20000000
namespace Go.Proofs.YtoegpkmhifmamaaGreatDoor
open Go
theorem aqo (k:Nat) (F:adK) (IH36:aed F.f36) (IH57:ad3 F.f57):ad3 (am8 k F):=by
 unfold ad3;intro K wi g bs br y z B C D N O x G I J S U f m s Y f3 lT lU lV lW lX lY lZ l0 l2 l3 h hG bf bm bn bo aG aK hbr f4 f5;obtain ⟨r_,hr_,h⟩:=rz h;obtain ⟨t,Z,W,ap,ag,aq,V,ad,ae,af,X⟩:=f3;obtain ⟨ab,ac,aj,ak,al,am,an,ao,ah,ai,rfl,l4,l5,cc,ga,gb,gc,es⟩:=aaj.open f4;refine enter Tryz.func57 rfl (n:=205) rfl ?_;unfold am8 at h;refine sr (bxoC (cs:=(aS t Z W ap ag aq ab V ac aj ad ak al ae am an af ao ah X ai)) f5 rfl rfl (fun gd bU=>(m2 vN (wt (sr (m2 (iI 1) (wt (aax (fun a w=>∃ et cr aL,a=fr 205 (updL et [(0,pp g 0),(3,pp (zz wi) 0),(5,iI aL)])∧KH.sub K cr∧SR K cr wi w [.box bs g #[sl z y B,.string C,sl N D O,iI x,.bool G,iI I,sl S J U,sl m f s] 82,eW br m f s 3 1 Y] [.box bs g #[sl z y B,.string C,sl N D O,iI x,.bool G,iI I,sl S J U,sl m f s] 82,.box (zz wi) (zz wi) (aS t Z W ap ag aq ab V ac aj ad ak al ae am an af ao ah X ai) 37,eW br m f s 3 1 Y]∧aek k F y C D x G I J f t Z W V ad ae af X aL=some r_) ?_ ?_))))))))
 ·refine sr (fd 0 abv rfl (l1 0 (iI t) bU Tya3 (wt (wp_block (sr (c0 (t == 1) (m2 (.bool (t == 1)) (wt (cd h (fun dq h=>?_) (fun dq h=>?_))))))))))
  ·refine cT dq (wp_seq (rA [] [0,1,2] bU (fun bg q0=>kF 0 6 rfl abE rfl q0 (tL 1 (sl ab V ac) [] 0 rfl acb q0 ?_))));obtain ⟨⟨dr,ds,dt,du,dv⟩,dw,h⟩:=ob h;obtain ⟨eu,ew,l6,ge,l7,gf,ex⟩:=(cc).row.at_ (aau dw).1;obtain ⟨dx,dy,rfl,l8,l9⟩:=aam.open ex;refine kK 2 (.pointer (some ⟨eu,ew + (0:Int).toNat * 5,none⟩)) rfl (fun w=>aeM (b:=eu) (o:=ew) (i:=0) ab2 abh rfl ge rfl (aau dw).2.1 (aau dw).2.2) q0 (tT 3 (.agg (aE dr ds dt du dx dv dy)) [] rfl q0 (fun w hF=>akh (cs:=(vE dr ds dt du dx dv dy)) acr abh rfl rfl (fun j v hj=>hF.cell (kr.cell (gf j v hj)))) (kM 4 (pp g 0) rfl q0 (kN 5 rfl rfl q0 (kF 6 7 rfl aep rfl q0 (tL 7 (sl m f s) [] 1 rfl ah2 q0 (aO 8 rfl ?_))))));obtain ⟨ct,gg,h⟩:=ob h;refine cv ([.agg (aE dr ds dt du dx dv dy),sl m f s]) al1 ((ak5 k) gg (hG.mono (KW.sub bg.le)) (aam.mono (KW.sub bg.le) ex) (afz (bg.entAt (i:=2) rfl) aG aK) (Sx.all _)) ?_;rintro _ ma ⟨mb,rfl,gh⟩;have cO:=bg.lend gh;refine wb (fq [0,1,2] cO) (fun q7=>kG 9 (iI ct) rfl q7 (aD (aae (sr (m1 (iI ct) (c0 (ct == (-1)) (wt (cd h (fun dz h=>?_) (fun dz h=>?_)))))))))
   ·refine cT dz (sr (m2 vN (wt (wp_ret (blkR (aaw ?_))))));have e_:=(Option.some.inj h).trans hr_;obtain ⟨gi,gj⟩:=Prod.mk.inj e_;obtain ⟨gk,gl,gm⟩:=aak.mk.inj gi;have gn:=aaa.mk.inj gk;subst gn;obtain ⟨go,gp,gq,gr,gs,gt⟩:=aaf.mk.inj gl;subst go;subst gp;subst gq;subst gr;subst gs;subst gt;subst gm;subst gj;exact aas rfl (resT rfl) ⟨K,z,B,N,O,S,U,m,s,Y,rfl,(cO.sel [1,2]),bf,bm,bn,bo,aG,aK⟩
   ·exact cF dz (wp_skip (blkN (aae (⟨_,K,ct,fR,kr,(cO.sel [1,0,2]),h⟩))))
  ·refine cF dq (sr (c0 (t == 14) (m2 (.bool (t == 14)) (wt (cd h (fun dA h=>?_) (fun dA h=>?_))))))
   ·refine cT dA (wp_seq (rA [] [0,1,2] bU (fun bh q1=>kF 0 6 rfl abE rfl q1 (tL 1 (sl ab V ac) [] 0 rfl acb q1 ?_))));obtain ⟨⟨dB,dC,dD,dE,dF⟩,dG,h⟩:=ob h;obtain ⟨ey,ez,md,gu,mg,gv,eA⟩:=(cc).row.at_ (aau dG).1;obtain ⟨dH,dI,rfl,mh,mi⟩:=aam.open eA;refine kK 2 (.pointer (some ⟨ey,ez + (0:Int).toNat * 5,none⟩)) rfl (fun w=>aeM (b:=ey) (o:=ez) (i:=0) ab2 abh rfl gu rfl (aau dG).2.1 (aau dG).2.2) q1 (tT 3 (.agg (aE dB dC dD dE dH dF dI)) [] rfl q1 (fun w hF=>akh (cs:=(vE dB dC dD dE dH dF dI)) acr abh rfl rfl (fun j v hj=>hF.cell (kr.cell (gv j v hj)))) (kM 4 (pp g 0) rfl q1 (kN 5 rfl rfl q1 (kF 6 7 rfl aep rfl q1 (tL 7 (sl m f s) [] 1 rfl ah2 q1 (aO 8 rfl ?_))))));obtain ⟨eB,gw,h⟩:=ob h;refine cv ([.agg (aE dB dC dD dE dH dF dI),sl m f s]) al1 ((ak5 k) gw (hG.mono (KW.sub bh.le)) (aam.mono (KW.sub bh.le) eA) (afz (bh.entAt (i:=2) rfl) aG aK) (Sx.all _)) ?_;rintro _ mj ⟨ml,rfl,gx⟩;have cP:=bh.lend gx;refine wb (fq [0,1,2] cP) (fun q8=>kC 9 (eB == (-1)) rfl q8 (aD (aae (cd h (fun dJ h=>?_) (fun dJ h=>?_)))))
    ·refine cT dJ (sr (m2 vN (wt (wp_ret (blkR (aaw ?_))))));have e_:=(Option.some.inj h).trans hr_;obtain ⟨gy,gz⟩:=Prod.mk.inj e_;obtain ⟨gA,gB,gD⟩:=aak.mk.inj gy;have gF:=aaa.mk.inj gA;subst gF;obtain ⟨gG,gH,gI,gJ,gK,gL⟩:=aaf.mk.inj gB;subst gG;subst gH;subst gI;subst gJ;subst gK;subst gL;subst gD;subst gz;exact aas rfl (resT rfl) ⟨K,z,B,N,O,S,U,m,s,Y,rfl,(cP.sel [1,2]),bf,bm,bn,bo,aG,aK⟩
    ·exact cF dJ (wp_skip (blkN (aae (⟨_,K,1,fR,kr,(cP.sel [1,0,2]),h⟩))))
   ·refine cF dA (sr (c0 (t == 2) (m2 (.bool (t == 2)) (wt (cd h (fun dK h=>?_) (fun dK h=>?_))))))
    ·refine cT dK (wp_seq (rA [] [0,1,2] bU (fun ay q2=>kF 0 6 rfl abE rfl q2 (tL 1 (sl ab V ac) [] 0 rfl acb q2 ?_))));obtain ⟨⟨dL,dM,dN,dO,dP⟩,dQ,h⟩:=ob h;obtain ⟨eC,eD,mm,gM,mn,gN,eF⟩:=(cc).row.at_ (aau dQ).1;obtain ⟨dR,dS,rfl,mo,mq⟩:=aam.open eF;refine kK 2 (.pointer (some ⟨eC,eD + (0:Int).toNat * 5,none⟩)) rfl (fun w=>aeM (b:=eC) (o:=eD) (i:=0) ab2 abh rfl gM rfl (aau dQ).2.1 (aau dQ).2.2) q2 (tT 3 (.agg (aE dL dM dN dO dR dP dS)) [] rfl q2 (fun w hF=>akh (cs:=(vE dL dM dN dO dR dP dS)) acr abh rfl rfl (fun j v hj=>hF.cell (kr.cell (gN j v hj)))) (kM 4 (pp g 0) rfl q2 (kN 5 rfl rfl q2 (kF 6 7 rfl aep rfl q2 (tL 7 (sl m f s) [] 1 rfl ah2 q2 (kM 9 (pp g 0) rfl q2 (kN 10 rfl rfl q2 (kF 11 7 rfl aep rfl q2 (tL 12 (sl m f s) [] 1 rfl ah2 q2 (kF 13 2 rfl adL rfl q2 (tL 14 (iI W) [] 0 rfl Tya3 q2 ?_)))))))))));obtain ⟨ce,dT,h⟩:=ob h;obtain ⟨eG,mr,gO,mt,gP,gQ⟩:=aib (ay.entAt (i:=2) rfl) aG (aau dT).1;obtain rfl:=gP;refine kK 15 (pp eG (0 + W.toNat * 1)) rfl (fun w=>aeM (b:=eG) (o:=0) (i:=W) abu Tys3 rfl gO rfl (aau dT).2.1 (aau dT).2.2) q2 (tT 16 (iI ce) [] rfl q2 (fun w hF=>ah0 (v:=iI ce) Tya3 rfl (gQ _ (hF.entAt (i:=2) rfl) 0 _ rfl)) (aO 8 rfl ?_));obtain ⟨cQ,gR,h⟩:=ob h;refine cv ([.agg (aE dL dM dN dO dR dP dS),sl m f s]) al1 ((ak5 k) gR (hG.mono (KW.sub ay.le)) (aam.mono (KW.sub ay.le) eF) (afz (ay.entAt (i:=2) rfl) aG aK) (Sx.all _)) ?_;rintro _ mu ⟨mw,rfl,gT⟩;have cR:=ay.lend gT;refine wb (fq [0,1,2] cR) (fun q9=>kC 17 (cQ == ce) rfl q9 (kG 18 (.bool (cQ == ce)) rfl q9 (aD (aae (wp_ret (blkR (aaw ?_)))))));have e_:=(Option.some.inj h).trans hr_;obtain ⟨gU,gV⟩:=Prod.mk.inj e_;obtain ⟨gW,gX,gY⟩:=aak.mk.inj gU;have gZ:=aaa.mk.inj gW;subst gZ;obtain ⟨g0,g1,g2,g3,g4,g5⟩:=aaf.mk.inj gX;subst g0;subst g1;subst g2;subst g3;subst g4;subst g5;subst gY;subst gV;exact aas rfl (resT rfl) ⟨K,z,B,N,O,S,U,m,s,Y,rfl,(cR.sel [1,2]),bf,bm,bn,bo,aG,aK⟩
    ·refine cF dK (sr (c0 (t == 17) (m2 (.bool (t == 17)) (wt (cd h (fun dU h=>?_) (fun dU h=>?_))))))
     ·refine cT dU (wp_seq (rA [9] [0,1,2] bU (fun bF q3=>kM 0 (pp g 0) rfl q3 (kF 1 6 rfl abE rfl q3 (tL 2 (sl ab V ac) [[9,2]] 0 rfl acb q3 (kM 3 (pp g 0) rfl q3 (kN 4 rfl rfl q3 (kF 5 1 rfl asI rfl q3 (kF 6 3 rfl adF rfl q3 (tL 7 (iI x) [[9,8,7]] 1 rfl Tya3 q3 (aO 8 rfl (bsl (e:=3) (cells:=#[iI x]) (vs:=[(0,iI x)]) bF rfl (aao abu Tys3 Tyz3 rfl (by decide) (by decide) rfl) (fun g6 eH=>(wb (fq [1,2,3] eH) (fun _=>aO 9 rfl ?_)))))))))))))));obtain ⟨g7,eI,bV,g8⟩:=frzI (i:=0) (bytes:=8) (xs:=[x]) (R:=fun K=>(RInt .i64)) eH rfl (Nat.le_refl _) ⟨[iI x],_,rfl,rfl,rfl,(abl (R:=(RInt .i64)) (size:=1))⟩ rfl (Nat.le_of_ble_eq_true rfl) (fun hs=>(fun _ _ h=>h));have eJ:=p120 eI;obtain ⟨eL,g9,h⟩:=ob h;refine cv ([pp g 0,sl ab V ac,.slice (some ⟨(zz gd.drew),0,none⟩) [x].length 1]) ank ((akA k) g9 (hG.mono bV) (mf bf bV) bm (mp bn bV) (ms bo bV) (aG.mono (fun _ _ h=>h)) aK (Nat.le_trans hbr eI.size) (me cc bV) g8 (pt eJ)) ?_;rintro _ mx ⟨ha,rfl,cS⟩;have hb:=ca cS eJ;refine wt ⟨hE 9,kH 10 (.bool eL) rfl (fun w=>acM (v:=.bool eL) rfl) 9 (aD (aae (wp_ret (blkR (aaw ?_)))))⟩;have e_:=(Option.some.inj h).trans hr_;obtain ⟨hc,hd⟩:=Prod.mk.inj e_;obtain ⟨he,hf,hg⟩:=aak.mk.inj hc;have hh:=aaa.mk.inj he;subst hh;obtain ⟨hi,hk,hl,hm,hn,ho⟩:=aaf.mk.inj hf;subst hi;subst hk;subst hl;subst hm;subst hn;subst ho;subst hg;subst hd;exact aas rfl (resT rfl) ⟨ha,z,B,N,O,S,U,m,s,Y,rfl,(hb.sel [0,1]),(mf bf (bV.trans cS.sub)),bm,(mp bn (bV.trans cS.sub)),(ms bo (bV.trans cS.sub)),(aG.mono (fun _ _ h=>h)),aK⟩
     ·refine cF dU (aax (fun a w=>∃ eM dV,a=fr 205 (updL eM [(0,pp g 0),(3,pp (zz wi) 0),(5,iI 1),(13,iI t),(71,.bool dV)])∧SR K K wi w [.box bs g #[sl z y B,.string C,sl N D O,iI x,.bool G,iI I,sl S J U,sl m f s] 82,eW br m f s 3 1 Y] [.box bs g #[sl z y B,.string C,sl N D O,iI x,.bool G,iI I,sl S J U,sl m f s] 82,.box (zz wi) (zz wi) (aS t Z W ap ag aq ab V ac aj ad ak al ae am an af ao ah X ai) 37,eW br m f s 3 1 Y]∧aez k F y C D x G I J f t Z W ag V ad ae af X dV=some r_) ?_ ?_)
      ·refine sr (c0 (t == 3) (m2 (.bool (t == 3)) (wt (cd h (fun dW h=>?_) (fun dW h=>?_)))))
       ·exact cT dW (wp_skip (aae (⟨_,(t == 3),fR,(bU.sel [1,0,2]),h⟩)))
       ·refine cF dW (sr (c0 (t == 4) (m2 (.bool (t == 4)) (wt (cd h (fun dX h=>?_) (fun dX h=>?_))))))
        ·exact cT dX (wp_skip (aae (⟨_,(t == 4),fR,(bU.sel [1,0,2]),h⟩)))
        ·exact cF dX (wp_region_lit (c0 (t == 28) (m2 (.bool (t == 28)) (wt (⟨_,(t == 28),fR,(bU.sel [1,0,2]),h⟩)))))
      ·rintro _ eN ⟨eM,dV,rfl,cu,h⟩;unfold aez at h;refine cd h (fun dY h=>?_) (fun dY h=>?_)
       ·refine cT dY (wp_seq (rA [10] [0,1,2] cu (fun bz q4=>kM 0 (pp g 0) rfl q4 (kN 1 rfl rfl q4 (kF 2 0 rfl arv rfl q4 (kF 3 0 rfl abU rfl q4 (tL 4 (sl z y B) [[10,4]] 0 rfl aeL q4 (kF 5 4 rfl agV rfl q4 (tL 6 (iI ag) [[10,6]] 1 rfl Tya3 q4 ?_)))))))));obtain ⟨⟨bG,bH,ar,bI,bJ,bK⟩,dZ,h⟩:=ob h;obtain ⟨eO,eP,my,hp,mz,hq,hr⟩:=(bf).row.at_ (aau dZ).1;obtain ⟨bL,bM,bN,bO,rfl,ht,hu,hv⟩:=aav.open hr;refine kK 7 (pp eO (eP + ag.toNat * 6)) rfl (fun w=>aeM (b:=eO) (o:=eP) (i:=ag) ac3 aby rfl hp rfl (aau dZ).2.1 (aau dZ).2.2) q4 (tT 8 (.agg (aF bG bL bH bM ar bI bJ bN bK bO)) [[10,8]] rfl q4 (fun w hF=>akh (cs:=(vF bG bL bH bM ar bI bJ bN bK bO)) adi aby rfl rfl (fun j v hj=>hF.cell (kr.cell (hq j v hj)))) (aO 9 rfl (aC zF.toArray bz alW (fun mA eQ=>(wb (fq [1,2,3] eQ) (fun _=>aO 10 rfl (sI 0 (.agg (aF bG bL bH bM ar bI bJ bN bK bO)) ((aF bG bL bH bM ar bI bJ bN bK bO)) eQ aby rfl rfl (fun mC eR=>(wt ⟨hE 10,aD (aae (sr (fd 2 adF rfl (l1 0 (iI ar) eR Tya3 (m2 (iI ar) (wt (wp_seq (aax (fun a w=>∃ eS bP d0,a=fr 205 (updL eS [(0,pp g 0),(3,pp (zz wi) 0),(5,iI ar),(106,.bool d0)])∧KH.sub K bP∧SR K bP wi w [.box bs g #[sl z y B,.string C,sl N D O,iI x,.bool G,iI I,sl S J U,sl m f s] 82,eW br m f s 3 1 Y] [.box bs g #[sl z y B,.string C,sl N D O,iI x,.bool G,iI I,sl S J U,sl m f s] 82,.box (zz wi) (zz wi) (aS t Z W ap ag aq ab V ac aj ad ak al ae am an af ao ah X ai) 37,eW br m f s 3 1 Y]∧agq k F y C D x G I J f t Z W V ad ae af X ar d0=some r_) ?_ ?_))))))))⟩)))))))))
        ·have b1:=eR.drew;refine afx (E:=[5]) (F:=FW K [.box (zz wi) (zz eN.drew) (aF bG bL bH bM ar bI bJ bN bK bO) 42,.box bs g #[sl z y B,.string C,sl N D O,iI x,.bool G,iI I,sl S J U,sl m f s] 82,.box (zz wi) (zz wi) (aS t Z W ap ag aq ab V ac aj ad ak al ae am an af ao ah X ai) 37,eW br m f s 3 1 Y]) (L:=(lb 21 0)) ymx rfl rfl (kM 0 (pp g 0) rfl (fq [0,1,2,3] b1) (kF 1 6 rfl abE rfl (fq [0,1,2,3] b1) (tL 2 (sl ab V ac) [[5,2]] 2 rfl acb (fq [0,1,2,3] b1) (tT 3 (.agg (aF bG bL bH bM ar bI bJ bN bK bO)) [[5,4,3]] rfl (fq [0,1,2,3] b1) (fun w hF=>alK (i:=0) (l:=(vF bG bL bH bM ar bI bJ bN bK bO)) hF rfl adi aby rfl rfl rfl) (aO 4 rfl ?_)))));obtain ⟨hw,hx,h⟩:=ob h;refine cv ([.agg (aF bG bL bH bM ar bI bJ bN bK bO)]) alf ((ahh k) hx (hG.mono kr) (aav.intro ht hu hv) (pt b1)) ?_;rintro _ hy ⟨mD,hz,hA,mE,rfl,bp,hB,hC⟩;have hD:=ca bp b1;have eT:=hD.lower_ (i:=0) rfl b1.size;refine wb (fwOf (is:=[1,2,3,4]) eT bp.sub rfl) (fun _=>aO 5 rfl ?_);obtain ⟨hH,eU,bQ,hI⟩:=adr (i:=0) (bytes:=8) (R:=fun K=>(RInt .i64)) eT rfl (Nat.le_refl _) hB hC (fun hs=>(fun _ _ h=>h));have eV:SR K hH wi hy [.box bs g #[sl z y B,.string C,sl N D O,iI x,.bool G,iI I,sl S J U,sl m f s] 82,eW br m f s 3 1 Y] [.box bs g #[sl z y B,.string C,sl N D O,iI x,.bool G,iI I,sl S J U,sl m f s] 82,eW br m f s 3 1 Y,.box (zz wi) (zz eN.drew) (aF bG bL bH bM ar bI bJ bN bK bO) 42,.box (zz wi) (zz wi) (aS t Z W ap ag aq ab V ac aj ad ak al ae am an af ao ah X ai) 37]:=eU.sel [1,3,0,2];obtain ⟨cU,hJ,h⟩:=ob h;refine cv ([pp g 0,sl ab V ac,sl hz hw hA]) ank ((akA k) hJ (hG.mono (bp.sub.trans bQ)) (mf bf (bp.sub.trans bQ)) bm (mp bn (bp.sub.trans bQ)) (ms bo (bp.sub.trans bQ)) (aG.mono (fun _ _ h=>h)) aK (Nat.le_trans hbr eU.size) (me cc (bp.sub.trans bQ)) hI (pt eV)) ?_;rintro _ mF ⟨cV,rfl,cw⟩;have cf:=ca cw eV;refine wt ⟨hE 5,kH 6 (.bool (!cU)) rfl (fun w=>akF (a:=cU) rfl) 5 (kH 7 (.bool (!cU)) rfl (fun w=>mv_r (v:=.bool (!cU)) rfl) 5 (cd h (fun av h=>?_) (fun av h=>?_)))⟩
         ·exact tkO (i:=8) (d:=93) (L':=(lb 21 511)) rfl rfl rfl (by kernel_rfl) (by kernel_rfl) (fun _ _ d _ _ h=>by cases d<;>exact h) rfl (.inl (cg av)) (hE 5) rfl (tkO (i:=9) (d:=93) (L':=(lb 21 1023)) rfl rfl rfl (by kernel_rfl) (by kernel_rfl) (fun _ _ d _ _ h=>by cases d<;>exact h) rfl (.inl (cg av)) (hE 5) rfl (tkO (i:=10) (d:=93) (L':=(lb 21 2047)) rfl rfl rfl (by kernel_rfl) (by kernel_rfl) (fun _ _ d _ _ h=>by cases d<;>exact h) rfl (.inl (cg av)) (hE 5) rfl (tkO (i:=11) (d:=93) (L':=(lb 21 4095)) rfl rfl rfl (by kernel_rfl) (by kernel_rfl) (fun _ _ d _ _ h=>by cases d<;>exact h) rfl (.inl (cg av)) (hE 5) rfl (tkO (i:=12) (d:=97) (L':=(lb 21 8191)) rfl rfl rfl (by kernel_rfl) (by kernel_rfl) (fun _ _ d _ _ h=>by cases d<;>exact h) rfl (.inr rfl) (hE 5) rfl (tkO (i:=13) (d:=97) (L':=(lb 21 16383)) rfl rfl rfl (by kernel_rfl) (by kernel_rfl) (fun _ _ d _ _ h=>by cases d<;>exact h) rfl (.inr rfl) (hE 5) rfl (tkO (i:=14) (d:=97) (L':=(lb 21 32767)) rfl rfl rfl (by kernel_rfl) (by kernel_rfl) (fun _ _ d _ _ h=>by cases d<;>exact h) rfl (.inr rfl) (hE 5) rfl (tkO (i:=15) (d:=93) (L':=(lb 21 65535)) rfl rfl rfl (by kernel_rfl) (by kernel_rfl) (fun _ _ d _ _ h=>by cases d<;>exact h) rfl (.inl (cg av)) (hE 5) rfl (tkO (i:=16) (d:=93) (L':=(lb 21 131071)) rfl rfl rfl (by kernel_rfl) (by kernel_rfl) (fun _ _ d _ _ h=>by cases d<;>exact h) rfl (.inl (cg av)) (hE 5) rfl (tkO (i:=17) (d:=102) (L':=(lb 21 262143)) rfl rfl rfl (by kernel_rfl) (by kernel_rfl) (fun _ _ d _ _ h=>by cases d<;>exact h) rfl (.inr rfl) (hE 5) rfl (tkO (i:=18) (d:=102) (L':=(lb 21 524287)) rfl rfl rfl (by kernel_rfl) (by kernel_rfl) (fun _ _ d _ _ h=>by cases d<;>exact h) rfl (.inr rfl) (hE 5) rfl (tkO (i:=19) (d:=93) (L':=(lb 21 1048575)) rfl rfl rfl (by kernel_rfl) (by kernel_rfl) (fun _ _ d _ _ h=>by cases d<;>exact h) rfl (.inl (cg av)) (hE 5) rfl (kH 20 vT rfl (fun w=>acU (b:=true) (v:=vT) (cg av) rfl) 5 (aD (aae (⟨_,cV,true,fR,((bp.sub.trans bQ).trans cw.sub),(cf.sel [0,3,1]),h⟩)))))))))))))))
         ·refine tkPG (i:=8) (d:=93) (v:=pp (zz wi) 0) (L':=(lb 21 511)) rfl (by kernel_rfl) (by kernel_rfl) (fun _ _ d _ _ h=>by cases d<;>exact h) rfl (cg av) (fun w=>akw (o':=0) abv rfl rfl) (hE 5) rfl (aO 9 rfl (n1 93 av (l1 3 (iI t) cf Tya3 (wt ⟨hE 5,tkPG (i:=10) (d:=93) (v:=.bool (t == 3)) (L':=(lb 21 2047)) rfl (by kernel_rfl) (by kernel_rfl) (fun _ _ d _ _ h=>by cases d<;>exact h) rfl (cg av) (fun w=>am2 (r:=(t == 3)) rfl rfl rfl) (hE 5) rfl (tkPG (i:=11) (d:=93) (v:=.bool (t == 3)) (L':=(lb 21 4095)) rfl (by kernel_rfl) (by kernel_rfl) (fun _ _ d _ _ h=>by cases d<;>exact h) rfl (cg av) (fun w=>mv_r (v:=.bool (t == 3)) rfl) (hE 5) rfl (cd h (fun bR h=>?_) (fun bR h=>?_)))⟩))))
          ·refine tkPG (i:=12) (d:=97) (v:=pp (zz wi) 1) (L':=(lb 21 8191)) rfl (by kernel_rfl) (by kernel_rfl) (fun _ _ d _ _ h=>by cases d<;>exact h) rfl (cg bR) (fun w=>akw (o':=1) ac1 rfl rfl) (hE 5) rfl (aO 13 rfl (n1 97 bR (l1 3 (.string Z) cf Tya9 (wt ⟨hE 5,tkPG (i:=14) (d:=97) (v:=.bool (!seq Z ⟨#[]⟩)) (L':=(lb 21 32767)) rfl (by kernel_rfl) (by kernel_rfl) (fun _ _ d _ _ h=>by cases d<;>exact h) rfl (cg bR) (fun w=>ass (r:=(!seq Z ⟨#[]⟩)) rfl rfl rfl) (hE 5) rfl (tkPG (i:=15) (d:=93) (v:=.bool (!seq Z ⟨#[]⟩)) (L':=(lb 21 65535)) rfl (by kernel_rfl) (by kernel_rfl) (fun _ _ d _ _ h=>by cases d<;>exact h) rfl (cg av) (fun w=>acU (b:=true) (v:=.bool (!seq Z ⟨#[]⟩)) (cg bR) rfl) (hE 5) rfl (tkPG (i:=16) (d:=93) (v:=.bool (!seq Z ⟨#[]⟩)) (L':=(lb 21 131071)) rfl (by kernel_rfl) (by kernel_rfl) (fun _ _ d _ _ h=>by cases d<;>exact h) rfl (cg av) (fun w=>mv_r (v:=.bool (!seq Z ⟨#[]⟩)) rfl) (hE 5) rfl (cd h (fun b2 h=>?_) (fun b2 h=>?_))))⟩))))
           ·exact tkPG (i:=17) (d:=102) (v:=iI ar) (L':=(lb 21 262143)) rfl (by kernel_rfl) (by kernel_rfl) (fun _ _ d _ _ h=>by cases d<;>exact h) rfl (cg b2) (fun w=>mv_r (v:=iI ar) rfl) (hE 5) rfl (tkPG (i:=18) (d:=102) (v:=.bool (ar == 0)) (L':=(lb 21 524287)) rfl (by kernel_rfl) (by kernel_rfl) (fun _ _ d _ _ h=>by cases d<;>exact h) rfl (cg b2) (fun w=>am2 (r:=(ar == 0)) rfl rfl rfl) (hE 5) rfl (tkPG (i:=19) (d:=93) (v:=.bool (ar == 0)) (L':=(lb 21 1048575)) rfl (by kernel_rfl) (by kernel_rfl) (fun _ _ d _ _ h=>by cases d<;>exact h) rfl (cg av) (fun w=>acU (b:=true) (v:=.bool (ar == 0)) (cg b2) rfl) (hE 5) rfl (kH 20 (.bool (ar == 0)) rfl (fun w=>acU (b:=false) (v:=.bool (ar == 0)) (cg av) rfl) 5 (aD (aae (⟨_,cV,(ar == 0),fR,((bp.sub.trans bQ).trans cw.sub),(cf.sel [0,3,1]),h⟩))))))
           ·exact tkO (i:=17) (d:=102) (L':=(lb 21 262143)) rfl rfl rfl (by kernel_rfl) (by kernel_rfl) (fun _ _ d _ _ h=>by cases d<;>exact h) rfl (.inl (cg b2)) (hE 5) rfl (tkO (i:=18) (d:=102) (L':=(lb 21 524287)) rfl rfl rfl (by kernel_rfl) (by kernel_rfl) (fun _ _ d _ _ h=>by cases d<;>exact h) rfl (.inl (cg b2)) (hE 5) rfl (tkPG (i:=19) (d:=93) (v:=vN) (L':=(lb 21 1048575)) rfl (by kernel_rfl) (by kernel_rfl) (fun _ _ d _ _ h=>by cases d<;>exact h) rfl (cg av) (fun w=>acU (b:=false) (v:=vN) (cg b2) rfl) (hE 5) rfl (kH 20 vN rfl (fun w=>acU (b:=false) (v:=vN) (cg av) rfl) 5 (aD (aae (⟨_,cV,false,fR,((bp.sub.trans bQ).trans cw.sub),(cf.sel [0,3,1]),h⟩))))))
          ·exact tkO (i:=12) (d:=97) (L':=(lb 21 8191)) rfl rfl rfl (by kernel_rfl) (by kernel_rfl) (fun _ _ d _ _ h=>by cases d<;>exact h) rfl (.inl (cg bR)) (hE 5) rfl (tkO (i:=13) (d:=97) (L':=(lb 21 16383)) rfl rfl rfl (by kernel_rfl) (by kernel_rfl) (fun _ _ d _ _ h=>by cases d<;>exact h) rfl (.inl (cg bR)) (hE 5) rfl (tkO (i:=14) (d:=97) (L':=(lb 21 32767)) rfl rfl rfl (by kernel_rfl) (by kernel_rfl) (fun _ _ d _ _ h=>by cases d<;>exact h) rfl (.inl (cg bR)) (hE 5) rfl (tkPG (i:=15) (d:=93) (v:=vN) (L':=(lb 21 65535)) rfl (by kernel_rfl) (by kernel_rfl) (fun _ _ d _ _ h=>by cases d<;>exact h) rfl (cg av) (fun w=>acU (b:=false) (v:=vN) (cg bR) rfl) (hE 5) rfl (tkPG (i:=16) (d:=93) (v:=vN) (L':=(lb 21 131071)) rfl (by kernel_rfl) (by kernel_rfl) (fun _ _ d _ _ h=>by cases d<;>exact h) rfl (cg av) (fun w=>mv_r (v:=vN) rfl) (hE 5) rfl (tkO (i:=17) (d:=102) (L':=(lb 21 262143)) rfl rfl rfl (by kernel_rfl) (by kernel_rfl) (fun _ _ d _ _ h=>by cases d<;>exact h) rfl (.inl rfl) (hE 5) rfl (tkO (i:=18) (d:=102) (L':=(lb 21 524287)) rfl rfl rfl (by kernel_rfl) (by kernel_rfl) (fun _ _ d _ _ h=>by cases d<;>exact h) rfl (.inl rfl) (hE 5) rfl (tkPG (i:=19) (d:=93) (v:=vN) (L':=(lb 21 1048575)) rfl (by kernel_rfl) (by kernel_rfl) (fun _ _ d _ _ h=>by cases d<;>exact h) rfl (cg av) (fun w=>acU (b:=false) (v:=vN) rfl rfl) (hE 5) rfl (kH 20 vN rfl (fun w=>acU (b:=false) (v:=vN) (cg av) rfl) 5 (aD (aae (⟨_,cV,false,fR,((bp.sub.trans bQ).trans cw.sub),(cf.sel [0,3,1]),h⟩)))))))))))
        ·rintro _ mG ⟨eS,bP,d0,rfl,bW,cx,h⟩;unfold agq at h;refine cd h (fun d1 h=>?_) (fun d1 h=>?_)
         ·refine cT d1 (sr (m2 vN (wt (wp_ret (aaw (blkR (aaw ?_)))))));have e_:=(Option.some.inj h).trans hr_;obtain ⟨hK,hL⟩:=Prod.mk.inj e_;obtain ⟨hM,hN,hO⟩:=aak.mk.inj hK;have hP:=aaa.mk.inj hM;subst hP;obtain ⟨hQ,hR,hS,hT,hU,hV⟩:=aaf.mk.inj hN;subst hQ;subst hR;subst hS;subst hT;subst hU;subst hV;subst hO;subst hL;exact aas rfl (resT rfl) ⟨bP,z,B,N,O,S,U,m,s,Y,rfl,(cx.sel [0,2]),(mf bf bW),bm,(mp bn bW),(ms bo bW),(aG.mono (fun _ _ h=>h)),aK⟩
         ·refine cF d1 (wp_skip (aae (aax (fun a w=>∃ eX cW,a=fr 205 (updL eX [(0,pp g 0),(3,pp (zz wi) 0),(5,iI cW)])∧SR K bP wi w [.box bs g #[sl z y B,.string C,sl N D O,iI x,.bool G,iI I,sl S J U,sl m f s] 82,eW br m f s 3 1 Y] [.box bs g #[sl z y B,.string C,sl N D O,iI x,.bool G,iI I,sl S J U,sl m f s] 82,.box (zz wi) (zz wi) (aS t Z W ap ag aq ab V ac aj ad ak al ae am an af ao ah X ai) 37,eW br m f s 3 1 Y]∧afX k F y C D x G I J f t Z W V ad ae af X cW=some r_) ?_ ?_)))
          ·refine sr (fd 0 abv rfl (l1 1 (iI t) cx Tya3 (c0 (t == 4) (wt (cd h (fun d2 h=>?_) (fun d2 h=>?_))))))
           ·refine cT d2 (wp_seq (aax (fun a w=>∃ eY d3,a=fr 205 (updL eY [(0,pp g 0),(3,pp (zz wi) 0),(115,.bool d3)])∧SR K bP wi w [.box bs g #[sl z y B,.string C,sl N D O,iI x,.bool G,iI I,sl S J U,sl m f s] 82,eW br m f s 3 1 Y] [.box bs g #[sl z y B,.string C,sl N D O,iI x,.bool G,iI I,sl S J U,sl m f s] 82,.box (zz wi) (zz wi) (aS t Z W ap ag aq ab V ac aj ad ak al ae am an af ao ah X ai) 37,eW br m f s 3 1 Y]∧ahA k F y C D x G I J f t Z W V ad ae af X d3=some r_) ?_ ?_))
            ·refine wp_region_lit (m1 (iI ar) (c0 (ar != 1) (m1 (.bool (ar != 1)) (cd h (fun b3 h=>?_) (fun b3 h=>?_)))))
             ·exact n1 112 b3 (m1 (iI ar) (n1 112 b3 (c0 (ar != 0) (m3 true (.bool (ar != 0)) (cg b3) (wt (⟨_,(ar != 0),fR,cx,h⟩))))))
             ·exact o1 112 b3 (o1 112 b3 (m3 false vN (cg b3) (wt (⟨_,false,fR,cx,h⟩))))
            ·rintro _ mH ⟨eY,d3,rfl,eZ,h⟩;unfold ahA at h;refine cd h (fun d4 h=>?_) (fun d4 h=>?_)
             ·refine cT d4 (sr (m2 vN (wt (wp_ret (aaw (aaw (blkR (aaw ?_))))))));have e_:=(Option.some.inj h).trans hr_;obtain ⟨hW,hX⟩:=Prod.mk.inj e_;obtain ⟨hY,hZ,h0⟩:=aak.mk.inj hW;have h3:=aaa.mk.inj hY;subst h3;obtain ⟨h4,h5,h6,h7,h8,h9⟩:=aaf.mk.inj hZ;subst h4;subst h5;subst h6;subst h7;subst h8;subst h9;subst h0;subst hX;exact aas rfl (resT rfl) ⟨bP,z,B,N,O,S,U,m,s,Y,rfl,(eZ.sel [0,2]),(mf bf bW),bm,(mp bn bW),(ms bo bW),(aG.mono (fun _ _ h=>h)),aK⟩
             ·exact cF d4 (wp_skip (aae (wp_region_lit (m2 (iI 5) (wt (⟨_,5,fR,eZ,h⟩))))))
           ·exact cF d2 (wp_skip (aae (⟨_,ar,fR,cx,h⟩)))
          ·rintro _ mI ⟨eX,cW,rfl,d5,h⟩;unfold afX at h;refine sr (fd 0 abv rfl (l1 1 (iI t) d5 Tya3 (c0 (t == 28) (wt (cd h (fun d6 h=>?_) (fun d6 h=>?_))))))
           ·exact cT d6 (wp_region_lit (m2 (iI 1) (wpList_nil (blkN (aae (⟨_,bP,1,fR,bW,d5,h⟩))))))
           ·exact cF d6 (wp_skip (blkN (aae (⟨_,bP,cW,fR,bW,d5,h⟩))))
       ·refine cF dY (sr (c0 (t == 7) (m2 (.bool (t == 7)) (wt (cd h (fun d7 h=>?_) (fun d7 h=>?_))))))
        ·exact cT d7 (wp_region_lit (m2 (iI 4) (wpList_nil (blkN (aae (⟨_,K,4,fR,kr,cu,h⟩))))))
        ·refine cF d7 (sr (c0 (t == 8) (m2 (.bool (t == 8)) (wt (cd h (fun d8 h=>?_) (fun d8 h=>?_))))))
         ·exact cT d8 (wp_region_lit (m2 (iI 6) (wpList_nil (blkN (aae (⟨_,K,6,fR,kr,cu,h⟩))))))
         ·refine cF d8 (sr (c0 (t == 24) (m2 (.bool (t == 24)) (wt (cd h (fun d9 h=>?_) (fun d9 h=>?_))))))
          ·exact cT d9 (wp_region_lit (m2 (iI 3) (wpList_nil (blkN (aae (⟨_,K,3,fR,kr,cu,h⟩))))))
          ·exact cF d9 (wp_skip (blkN (aae (⟨_,K,1,fR,kr,cu,h⟩))))
 ·rintro _ mJ ⟨et,cr,aL,rfl,aw,ia,h⟩;unfold aek at h;refine wp_seq (aax (fun a w=>∃ e0 b4 ch cy cz cA,a=fr 205 (updL e0 [(0,pp g 0),(3,pp (zz wi) 0),(5,iI aL),(7,sl cy ch cz),(8,.bool cA)])∧KH.sub cr b4∧SR K b4 wi w [.box bs g #[sl z y B,.string C,sl N D O,iI x,.bool G,iI I,sl S J U,sl m f s] 82,eW br m f s 3 1 Y] [.box bs g #[sl z y B,.string C,sl N D O,iI x,.bool G,iI I,sl S J U,sl m f s] 82,.box (zz wi) (zz wi) (aS t Z W ap ag aq ab V ac aj ad ak al ae am an af ao ah X ai) 37,eW br m f s 3 1 Y]∧RSl Int (RInt .i64) 1 8 b4 cy cz ch∧ale k F y C D x G I J f Z W V ad ae af X aL ch cA=some r_) ?_ ?_)
  ·have cB:=ia.drew;refine afx (E:=[3]) (F:=FW cr [.box bs g #[sl z y B,.string C,sl N D O,iI x,.bool G,iI I,sl S J U,sl m f s] 82,.box (zz wi) (zz wi) (aS t Z W ap ag aq ab V ac aj ad ak al ae am an af ao ah X ai) 37,eW br m f s 3 1 Y]) (L:=(lb 9 0)) ymx rfl rfl (kF 1 0 rfl abv rfl (fq [0,1,2] cB) (tL 2 (iI t) [[3,2]] 1 rfl Tya3 (fq [0,1,2] cB) (aO 0 rfl ?_)));obtain ⟨ea,ib,h⟩:=ob h;refine cv ([]) avd ((at1 k) ib (hG.mono aw) (pt cB)) ?_;rintro _ mK ⟨cX,mL,mM,mN,rfl,cY,e1⟩;have ic:=ca cY cB;have cC:=ic.lowerm_ (i:=0) rfl cB.size;refine wb (fwOf (is:=[1,2,3]) cC cY.sub rfl) (fun _=>aO 3 rfl ?_);rcases cZ:mget qI t ea with _ | b5
   ·have h:=abT cZ h;exact lkN (kv:=kI) (q:=qI) (R:=(VSl Int (RInt .i64) 1 8 cX)) (xs:=ea) (k:=t) (cC.entAt (i:=0) rfl).1 acg (aat Tyk3) keI arR e1 rfl rfl cZ (wt ⟨hE 3,kH 4 (.tuple #[nS,vN]) rfl (fun w=>mv_r (v:=.tuple #[nS,vN]) rfl) 3 (kH 5 nS rfl (fun w=>aex (v:=nS) rfl rfl) 3 (kH 6 vN rfl (fun w=>aex (v:=vN) rfl rfl) 3 (kH 7 nS rfl (fun w=>acM (v:=nS) rfl) 3 (kH 8 vN rfl (fun w=>acM (v:=vN) rfl) 3 (aD (aae (⟨_,cX,[],none,0,false,fR,cY.sub,(cC.sel [1,2,3]),(RSl.nil _ _ _ _ _ _),h⟩)))))))⟩)
   ·have h:=abS cZ h;refine lkS (kv:=kI) (q:=qI) (R:=(VSl Int (RInt .i64) 1 8 cX)) (xs:=ea) (k:=t) (cC.entAt (i:=0) rfl).1 acg (aat Tyk3) keI e1 rfl rfl cZ (fun mO id=>?_);obtain ⟨b6,b7,rfl,ie⟩:=id;exact wt ⟨hE 3,kH 4 (.tuple #[sl b6 b5 b7,vT]) rfl (fun w=>mv_r (v:=.tuple #[sl b6 b5 b7,vT]) rfl) 3 (kH 5 (sl b6 b5 b7) rfl (fun w=>aex (v:=sl b6 b5 b7) rfl rfl) 3 (kH 6 vT rfl (fun w=>aex (v:=vT) rfl rfl) 3 (kH 7 (sl b6 b5 b7) rfl (fun w=>acM (v:=sl b6 b5 b7) rfl) 3 (kH 8 vT rfl (fun w=>acM (v:=vT) rfl) 3 (aD (aae (⟨_,cX,b5,b6,b7,true,fR,cY.sub,(cC.sel [1,2,3]),ie,h⟩)))))))⟩
  ·rintro _ ig ⟨e0,b4,ch,cy,cz,cA,rfl,ax,c2,ih,h⟩;unfold ale at h;refine aax (fun a w=>∃ e2 bX ec,a=fr 205 (updL e2 [(0,pp g 0),(3,pp (zz wi) 0),(5,iI aL),(140,.bool ec)])∧KH.sub b4 bX∧SR K bX wi w [.box bs g #[sl z y B,.string C,sl N D O,iI x,.bool G,iI I,sl S J U,sl m f s] 82,eW br m f s 3 1 Y] [.box bs g #[sl z y B,.string C,sl N D O,iI x,.bool G,iI I,sl S J U,sl m f s] 82,.box (zz wi) (zz wi) (aS t Z W ap ag aq ab V ac aj ad ak al ae am an af ao ah X ai) 37,eW br m f s 3 1 Y]∧agU k F y C D x G I J f Z W ad ae af X aL ec=some r_) ?_ ?_
   ·refine wp_region_lit (m1 (.bool cA) (m1 (.bool cA) (cd h (fun aM h=>?_) (fun aM h=>?_))))
    ·refine n1 133 aM (m1 (pp g 0) (n1 133 aM (fd 6 abE rfl (n1 133 aM (l1 1 (sl ab V ac) c2 acb (n1 133 aM (m1 (sl cy ch cz) (n1 133 aM ?_))))))));have e3:SR K b4 wi ig [.box bs g #[sl z y B,.string C,sl N D O,iI x,.bool G,iI I,sl S J U,sl m f s] 82,eW br m f s 3 1 Y] [.box bs g #[sl z y B,.string C,sl N D O,iI x,.bool G,iI I,sl S J U,sl m f s] 82,eW br m f s 3 1 Y,.box (zz wi) (zz wi) (aS t Z W ap ag aq ab V ac aj ad ak al ae am an af ao ah X ai) 37]:=c2.sel [0,2,1];obtain ⟨ed,ii,h⟩:=ob h;refine cv ([pp g 0,sl ab V ac,sl cy ch cz]) ank ((akA k) ii (hG.mono (aw.trans ax)) (mf bf (aw.trans ax)) bm (mp bn (aw.trans ax)) (ms bo (aw.trans ax)) (aG.mono (fun _ _ h=>h)) aK (Nat.le_trans hbr c2.size) (me cc (aw.trans ax)) ih (pt e3)) ?_;rintro _ mP ⟨ij,rfl,e4⟩;have ik:=ca e4 e3;exact n1 133 aM (uN ed (m3 true (.bool (!ed)) (cg aM) (wt (⟨_,ij,(!ed),fR,e4.sub,(ik.sel [0,2,1]),h⟩))))
    ·exact o1 133 aM (o1 133 aM (o1 133 aM (o1 133 aM (o1 133 aM (o1 133 aM (m3 false vN (cg aM) (wt (⟨_,b4,false,fR,kr,c2,h⟩))))))))
   ·rintro _ mQ ⟨e2,bX,ec,rfl,aH,c4,h⟩;unfold agU at h;refine cd h (fun ee h=>?_) (fun ee h=>?_)
    ·refine cT ee (sr (m2 vN (wt (wp_ret (aaw ?_)))));have e_:=(Option.some.inj h).trans hr_;obtain ⟨il,im⟩:=Prod.mk.inj e_;obtain ⟨io,ip,iq⟩:=aak.mk.inj il;have ir:=aaa.mk.inj io;subst ir;obtain ⟨it,iu,iv,iw,ix,iy⟩:=aaf.mk.inj ip;subst it;subst iu;subst iv;subst iw;subst ix;subst iy;subst iq;subst im;exact aas rfl (resT rfl) ⟨bX,z,B,N,O,S,U,m,s,Y,rfl,(c4.sel [0,2]),(mf bf ((aw.trans ax).trans aH)),bm,(mp bn ((aw.trans ax).trans aH)),(ms bo ((aw.trans ax).trans aH)),(aG.mono (fun _ _ h=>h)),aK⟩
    ·refine cF ee (wp_skip (aae (aax (fun a w=>∃ e5 bq ci cj cD,a=fr 205 (updL e5 [(0,pp g 0),(3,pp (zz wi) 0)])∧SR K bX wi w [.box bs g #[sl z y B,.string C,sl N D O,iI x,.bool G,iI I,sl S J U,sl m f s] 82,eW br m f s 3 1 Y] [.box bs g #[sl z y B,.string C,sl N D O,iI x,.bool G,iI I,sl S J U,sl ci bq cj] 82,.box (zz wi) (zz wi) (aS t Z W ap ag aq ab V ac aj ad ak al ae am an af ao ah X ai) 37,eW br ci bq cj 3 1 cD]∧Reps (RInt .i64) 1 bq cD∧bq.length * 8 ≤ mB∧ald k F y C D x G I J ad ae af X bq=some r_) ?_ ?_)))
     ·refine sr (fd 1 ac1 rfl (l1 1 (.string Z) c4 Tya9 (bsc (r:=(!seq Z ⟨#[]⟩)) rfl rfl rfl (wt (cd h (fun ef h=>?_) (fun ef h=>?_))))))
      ·refine cT ef (rA [8] [0,1,2] c4 (fun bA q5=>kM 0 (pp g 0) rfl q5 (kN 1 rfl rfl q5 (kF 2 7 rfl aep rfl q5 (tL 3 (sl m f s) [[8,3]] 0 rfl ah2 q5 (kF 4 2 rfl adL rfl q5 (tL 5 (iI W) [[8,5]] 1 rfl Tya3 q5 (kM 6 (iI aL) rfl q5 ?_))))))));obtain ⟨iz,c5,h⟩:=ob h;obtain ⟨e6,mR,e7,mS,iA,mT⟩:=aib (bA.entAt (i:=2) rfl) (aG.mono (fun _ _ h=>h)) (aau c5).1;obtain rfl:=iA;refine kK 7 (pp e6 (0 + W.toNat * 1)) rfl (fun w=>aeM (b:=e6) (o:=0) (i:=W) abu Tys3 rfl e7 rfl (aau c5).2.1 (aau c5).2.2) q5 (aO 8 rfl (stR (R:=(RInt .i64)) (i:=2) (off:=0) (p:=iz) (p':=aL) (v:=iI aL) bA rfl (aG.mono (fun _ _ h=>h)) (aau c5).1 Tys3 e7 rfl rfl rfl rfl (by decide) (fun cs_ h_=>by cases h_; rfl) (fun e8 iB iC iD=>?_)));have iE:SR K bX wi iB [.box bs g #[sl z y B,.string C,sl N D O,iI x,.bool G,iI I,sl S J U,sl m f s] 82,eW br m f s 3 1 Y] [.box bs g #[sl z y B,.string C,sl N D O,iI x,.bool G,iI I,sl S J U,.slice m (f.set W.toNat aL).length s] 82,.box (zz wi) (zz wi) #[iI t,.string Z,iI W,.string ap,iI ag,iI aq,sl ab V ac,sl aj ad ak,sl al ae am,sl an af ao,sl ah X ai] 37,.row br (.slice m (f.set W.toNat aL).length s) 3 1 (f.set W.toNat aL).length e8]:=by simpa only [List.length_set,List.eraseIdx_zero,List.eraseIdx_cons_succ,List.tail_cons,List.set_cons_succ,List.set_cons_zero,List.nil_append,List.cons_append] using iC
       exact wt ⟨hE 8,aD (aae (⟨_,(f.set W.toNat aL),m,s,e8,fR,iE,iD,(adO aK),h⟩))⟩
      ·exact cF ef (wp_skip (aae (⟨_,f,m,s,Y,fR,c4,(aG.mono (fun _ _ h=>h)),aK,h⟩)))
     ·rintro _ aI ⟨e5,bq,ci,cj,cD,rfl,iF,iG,iH,h⟩;unfold ald at h;refine sr (mkm iF (fun iJ iK=>(bsl (e:=3) (cells:=#[iI 4]) (vs:=[(0,iI 4)]) iK rfl (aao abu Tys3 Tyz3 rfl (by decide) (by decide) rfl) (fun mU iL=>?_))));obtain ⟨iM,iN,aN,iO⟩:=frzI (i:=0) (bytes:=8) (xs:=[4]) (R:=fun K=>(RInt .i64)) iL rfl (Nat.le_refl _) ⟨[iI 4],_,rfl,rfl,rfl,(abl (R:=(RInt .i64)) (size:=1))⟩ rfl (Nat.le_of_ble_eq_true rfl) (fun hs=>(fun _ _ h=>h));refine mup_ (kv:=kI) (q:=qI) (R:=(VSl Int (RInt .i64) 1 8 iM)) (xs:=([]:List (Int × (List Int)))) (k:=1) (u:=[4]) (uv:=.slice (some ⟨(zz iJ),0,none⟩) [4].length 1) (i:=0) (.inl rfl) iN rfl acg (aat Tyk3) keI (MapR.mono (fun _ _ h=>by obtain ⟨A,c,h1,h2⟩:=h; exact ⟨A,c,h1,h2.mono aN (fun _ _ h=>h)⟩) (ajE (kv:=kI) (R:=(VSl Int (RInt .i64) 1 8 bX)))) rfl rfl rfl ⟨_,_,rfl,iO⟩ (fun mV mW iP iQ iR=>(bsl (e:=3) (cells:=#[iI 4,iI 1]) (vs:=[(0,iI 4),(1,iI 1)]) iQ rfl (fun w=>by kernel_rfl) (fun mX iS=>?_)));obtain ⟨iT,iU,aP,iV⟩:=frzI (i:=0) (bytes:=8) (xs:=[4,1]) (R:=fun K=>(RInt .i64)) iS rfl (Nat.le_refl _) ⟨[iI 4],_,rfl,rfl,rfl,⟨[iI 1],_,rfl,rfl,rfl,(abl (R:=(RInt .i64)) (size:=1))⟩⟩ rfl (Nat.le_of_ble_eq_true rfl) (fun hs=>(fun _ _ h=>h));refine mup_ (kv:=kI) (q:=qI) (R:=(VSl Int (RInt .i64) 1 8 iT)) (k:=2) (u:=[4,1]) (uv:=.slice (some ⟨(zz iP),0,none⟩) [4,1].length 2) (i:=0) (.inl rfl) iU rfl acg (aat Tyk3) keI (MapR.mono (fun _ _ h=>by obtain ⟨A,c,h1,h2⟩:=h; exact ⟨A,c,h1,h2.mono aP (fun _ _ h=>h)⟩) iR) rfl rfl rfl ⟨_,_,rfl,iV⟩ (fun mY mZ iW iX iY=>(bsl (e:=3) (cells:=#[iI 1]) (vs:=[(0,iI 1)]) iX rfl (aao abu Tys3 Tyz3 rfl (by decide) (by decide) rfl) (fun m0 iZ=>?_)));obtain ⟨c7,i0,aQ,i1⟩:=frzI (i:=0) (bytes:=8) (xs:=[1]) (R:=fun K=>(RInt .i64)) iZ rfl (Nat.le_refl _) ⟨[iI 1],_,rfl,rfl,rfl,(abl (R:=(RInt .i64)) (size:=1))⟩ rfl (Nat.le_of_ble_eq_true rfl) (fun hs=>(fun _ _ h=>h));refine mup_ (kv:=kI) (q:=qI) (R:=(VSl Int (RInt .i64) 1 8 c7)) (k:=3) (u:=[1]) (uv:=.slice (some ⟨(zz iW),0,none⟩) [1].length 1) (i:=0) (.inl rfl) i0 rfl acg (aat Tyk3) keI (MapR.mono (fun _ _ h=>by obtain ⟨A,c,h1,h2⟩:=h; exact ⟨A,c,h1,h2.mono aQ (fun _ _ h=>h)⟩) iY) rfl rfl rfl ⟨_,_,rfl,i1⟩ (fun bB bC i2 i3 e9=>?_);have fa:=i3;refine m1 (.map (some (zz aI))) (m2 (.map (some (zz aI))) (wt (wp_seq (sr (fd 10 abi rfl (l1 2 (sl ah X ai) fa ael (lS X.length aco (m1 (iI 0) (wt (wp_block (aaA (fun g_ a w=>∃ fb aJ bS,∃ (bi:Nat),∃ aT a0 a2 aU aV a3 a4 a5 a6 a7 aW a8 a9 au az aA bu,g_=bS.length∧a=fr 205 (updL fb [(0,pp g 0),(3,pp (zz wi) 0),(9,.map (some (zz aI))),(158,sl ah X ai),(159,iI (X.length:Int)),(160,iI (bi:Int))])∧KH.sub c7 aJ∧SR K aJ wi w [.box bs g #[sl z y B,.string C,sl N D O,iI x,.bool G,iI I,sl S J U,sl m f s] 82,eW br m f s 3 1 Y] [.box bs g #[sl a0 aT a2,.string aU,sl a3 aV a4,iI a5,.bool a6,iI a7,sl a8 aW a9,sl az au aA] 82,.box (zz wi) (zz wi) (aS t Z W ap ag aq ab V ac aj ad ak al ae am an af ao ah X ai) 37,.mp (zz wi) (zz aI) bB bC,eW br az au aA 3 1 bu]∧X.drop bi=bS∧tF aJ a0 a2 aT∧aU.size ≤ mB∧tP aJ a3 a4 aV∧tS aJ a8 a9 aW∧Reps (RInt .i64) 1 au bu∧au.length * 8 ≤ mB∧acV k F ad ae af bS bi aT aU aV a5 a6 a7 aW au=some r_) X.length ?_ ?_)))))))))))
      ·exact ⟨_,c7,X,0,y,z,B,C,D,N,O,x,G,I,J,S,U,bq,ci,cj,cD,rfl,fR,kr,(fa.sel [1,2,0,3]),List.drop_zero,(mf bf (((((aw.trans ax).trans aH).trans aN).trans aP).trans aQ)),bm,(mp bn (((((aw.trans ax).trans aH).trans aN).trans aP).trans aQ)),(ms bo (((((aw.trans ax).trans aH).trans aN).trans aP).trans aQ)),(iG.mono (fun _ _ h=>h)),iH,h⟩
      ·rintro _ _ bv ⟨fb,aJ,bS,bi,aT,a0,a2,aU,aV,a3,a4,a5,a6,a7,aW,a8,a9,au,az,aA,bu,rfl,rfl,aX,cG,ck,cl,cm,cn,co,bY,b8,h⟩;rcases bS with _ | ⟨⟨aY,ba,aB,bb,aZ⟩,bS⟩
       ·unfold acV at h;refine sr (bcm (r:=false) rfl rfl (congrArg some (aaq ck)) (wt (wp_seq (cndF rfl (wp_exit (aaF (aaF (blkX (aae (aax (fun a w=>∃ fc bD eg c8 da db dc dd de df eh ei ej dg dh di b9 dj dk dl,a=fr 205 (updL fc [(4,.bool eg)])∧KH.sub aJ bD∧SR K bD wi w [.box bs g #[sl z y B,.string C,sl N D O,iI x,.bool G,iI I,sl S J U,sl m f s] 82,eW br m f s 3 1 Y] [.box bs g #[sl da c8 db,.string dc,sl de dd df,iI eh,.bool ei,iI ej,sl dh dg di,sl dj b9 dk] 82,eW br dj b9 dk 3 1 dl]∧tF bD da db c8∧dc.size ≤ mB∧tP bD de df dd∧tS bD dh di dg∧Reps (RInt .i64) 1 b9 dl∧b9.length * 8 ≤ mB∧aic k F eg c8 dc dd eh ei ej dg b9=some r_) ?_ ?_))))))))))
        ·refine wp_region_lit (m1 (pp g 0) (fd 7 abp rfl (l1 1 (sl aj ad ak) cG abk ?_)));have fe:SR K aJ wi bv [.box bs g #[sl z y B,.string C,sl N D O,iI x,.bool G,iI I,sl S J U,sl m f s] 82,eW br m f s 3 1 Y] [.box bs g #[sl a0 aT a2,.string aU,sl a3 aV a4,iI a5,.bool a6,iI a7,sl a8 aW a9,sl az au aA] 82,eW br az au aA 3 1 bu,.box (zz wi) (zz wi) (aS t Z W ap ag aq ab V ac aj ad ak al ae am an af ao ah X ai) 37,.mp (zz wi) (zz aI) bB bC]:=cG.sel [0,3,1,2];obtain ⟨⟨⟨⟨i4⟩,⟨i5,i6,i7,i8,i9,ja⟩,jb⟩,jc⟩,jd,h⟩:=ob h;refine cv ([pp g 0,sl aj ad ak]) ans (IH36 jd (hG.mono ((((((aw.trans ax).trans aH).trans aN).trans aP).trans aQ).trans aX)) cl cm cn co bY b8 (Nat.le_trans hbr cG.size) (ms ga ((((((aw.trans ax).trans aH).trans aN).trans aP).trans aQ).trans aX)) (pt fe)) ?_;rintro _ m4 ⟨je,jf,jg,jh,ji,jj,jk,jl,jm,jn,rfl,bZ,ff,fg,fh,fi,fj,fk⟩;have cH:=ca bZ fe;refine m1 (.bool jc) (cd h (fun bw h=>?_) (fun bw h=>?_))
         ·refine n1 193 bw (m1 (pp g 0) (n1 193 bw (fd 8 acq rfl (n1 193 bw (l1 2 (sl al ae am) cH abk (n1 193 bw ?_))))));obtain ⟨⟨⟨⟨jo⟩,⟨jp,jq,jr,js,jt,ju⟩,jv⟩,fl⟩,jw,h⟩:=ob h;refine cv ([pp g 0,sl al ae am]) ans (IH36 jw (hG.mono (((((((aw.trans ax).trans aH).trans aN).trans aP).trans aQ).trans aX).trans bZ.sub)) ff fg fh fi fj fk (Nat.le_trans hbr cH.size) (ms gb (((((((aw.trans ax).trans aH).trans aN).trans aP).trans aQ).trans aX).trans bZ.sub)) (pt cH)) ?_;rintro _ m5 ⟨jx,jy,jz,jA,jB,jC,jD,jE,jF,jG,rfl,cI,fm,fn,fo,fp,fs,ft⟩;have cJ:=ca cI cH;refine m3 true (.bool fl) (cg bw) (m1 (.bool fl) (cd h (fun bx h=>?_) (fun bx h=>?_)))
          ·refine n1 199 bx (m1 (pp g 0) (n1 199 bx (fd 9 acJ rfl (n1 199 bx (l1 2 (sl an af ao) cJ abk (n1 199 bx ?_))))));obtain ⟨⟨⟨⟨jH⟩,⟨jI,jJ,jK,jL,jM,jN⟩,jO⟩,ek⟩,jP,h⟩:=ob h;refine cv ([pp g 0,sl an af ao]) ans (IH36 jP (hG.mono ((((((((aw.trans ax).trans aH).trans aN).trans aP).trans aQ).trans aX).trans bZ.sub).trans cI.sub)) fm fn fo fp fs ft (Nat.le_trans hbr cJ.size) (ms gc ((((((((aw.trans ax).trans aH).trans aN).trans aP).trans aQ).trans aX).trans bZ.sub).trans cI.sub)) (pt cJ)) ?_;rintro _ m6 ⟨jQ,jR,jS,jT,jU,jV,jW,jX,jY,jZ,rfl,fu,j0,j1,j2,j3,j4,j5⟩;have j6:=ca fu cJ;exact m3 true (.bool ek) (cg bx) (m2 (.bool ek) (wt (⟨_,jQ,ek,jH,jR,jS,jI,jJ,jT,jU,jK,jL,jM,jN,jV,jW,jO,jX,jY,jZ,fR,((bZ.sub.trans cI.sub).trans fu.sub),(j6.sel [0,1]),j0,j1,j2,j3,j4,j5,h⟩)))
          ·exact o1 199 bx (o1 199 bx (o1 199 bx (o1 199 bx (m3 false vN (cg bx) (m2 vN (wt (⟨_,jx,false,jo,jy,jz,jp,jq,jA,jB,jr,js,jt,ju,jC,jD,jv,jE,jF,jG,fR,(bZ.sub.trans cI.sub),(cJ.sel [0,1]),fm,fn,fo,fp,fs,ft,h⟩)))))))
         ·exact o1 193 bw (o1 193 bw (o1 193 bw (o1 193 bw (m3 false vN (cg bw) (m1 vN (o0 199 (o0 199 (o0 199 (o0 199 (m3 false vN rfl (m2 vN (wt (⟨_,je,false,i4,jf,jg,i5,i6,jh,ji,i7,i8,i9,ja,jj,jk,jb,jl,jm,jn,fR,bZ.sub,(cH.sel [0,1]),ff,fg,fh,fi,fj,fk,h⟩)))))))))))))
        ·rintro _ m7 ⟨fc,bD,eg,c8,da,db,dc,dd,de,df,eh,ei,ej,dg,dh,di,b9,dj,dk,dl,rfl,m8,j7,j8,j9,ka,kb,kc,kd,h⟩;unfold aic at h;refine wp_ret ?_;have e_:=(Option.some.inj h).trans hr_;obtain ⟨ke,kf⟩:=Prod.mk.inj e_;obtain ⟨kg,kh,ki⟩:=aak.mk.inj ke;have kj:=aaa.mk.inj kg;subst kj;obtain ⟨kk,kl,km,kn,ko,kp⟩:=aaf.mk.inj kh;subst kk;subst kl;subst km;subst kn;subst ko;subst kp;subst ki;subst kf;exact aas rfl (resT rfl) ⟨bD,da,db,de,df,dh,di,dj,dk,dl,rfl,j7,j8,j9,ka,kb,kc,kd⟩
       ·unfold acV at h;refine sr (bcm (r:=true) rfl rfl (congrArg some (aar ck)) (wt (wp_seq (cndT rfl (wp_skip (aae (wp_seq (wp_block (sr ?_)))))))));obtain ⟨kq,ks,m9,kt,na,ku,kw⟩:=((mc es ((((((aw.trans ax).trans aH).trans aN).trans aP).trans aQ).trans aX))).row.at_ (aan ck);obtain ⟨bd,be,bj,bk,rfl,nb,fv,kx⟩:=aaI.open kw;refine idxN (b:=kq) (o:=ks) (i:=bi) aco act rfl kt rfl (aad ck) (lD (vC aY ba aB bd bb be bj aZ bk) afO act rfl (fun j v hj=>cG.cell (kr.cell (ku j v hj))) (aC zC.toArray cG aiC (fun nc ky=>(sI 0 (.agg (aC' aY ba aB bd bb be bj aZ bk)) ((aC' aY ba aB bd bb be bj aZ bk)) ky act rfl rfl (fun fx b0=>(wt (aax (fun a w=>∃ fy cb,a=fr 205 (updL fy [(0,pp g 0),(3,pp (zz wi) 0),(9,.map (some (zz aI))),(11,pp (zz bv) 0),(158,sl ah X ai),(159,iI (X.length:Int)),(160,iI (bi:Int))])∧KH.sub aJ cb∧SR K cb wi w [.box bs g #[sl z y B,.string C,sl N D O,iI x,.bool G,iI I,sl S J U,sl m f s] 82,eW br m f s 3 1 Y] [.box bs g #[sl a0 aT a2,.string aU,sl a3 aV a4,iI a5,.bool a6,iI a7,sl a8 aW a9,sl az au aA] 82,.box (zz wi) (zz wi) (aS t Z W ap ag aq ab V ac aj ad ak al ae am an af ao ah X ai) 37,.box (zz wi) (zz bv) (aC' aY ba aB bd bb be bj aZ bk) 74,.mp (zz wi) (zz aI) bB bC,eW br az au aA 3 1 bu]∧ahp k F aT aU aV a5 a6 a7 aW au bi ba aB aZ (acV k F ad ae af bS)=some r_) ?_ ?_)))))))
        ·refine sr (m1 (pp g 0) (fd 3 adf rfl (l1 0 (sl bd bb be) b0 acb (m1 (.map (some (zz aI))) (fd 0 aht rfl (l1 0 (iI aY) b0 Tya3 ?_))))));rcases dm:mget qI aY (mput qI 3 [1] (mput qI 2 [4,1] (mput qI 1 [4] ([]:List (Int × (List Int)))))) with _ | kz
         ·have h:=abT dm h;refine lk1N (kv:=kI) (q:=qI) (R:=(VSl Int (RInt .i64) 1 8 aJ)) (xs:=(mput qI 3 [1] (mput qI 2 [4,1] (mput qI 1 [4] ([]:List (Int × (List Int))))))) (k:=aY) (b0.entAt (i:=3) rfl).1 acg (aat Tyk3) keI arR (MapR.mono (fun _ _ h=>by obtain ⟨A,c,h1,h2⟩:=h; exact ⟨A,c,h1,h2.mono aX (fun _ _ h=>h)⟩) e9) rfl rfl dm ?_;have fz:SR K aJ wi fx [.box bs g #[sl z y B,.string C,sl N D O,iI x,.bool G,iI I,sl S J U,sl m f s] 82,eW br m f s 3 1 Y] [.box bs g #[sl a0 aT a2,.string aU,sl a3 aV a4,iI a5,.bool a6,iI a7,sl a8 aW a9,sl az au aA] 82,eW br az au aA 3 1 bu,.box (zz wi) (zz bv) (aC' aY ba aB bd bb be bj aZ bk) 74,.box (zz wi) (zz wi) (aS t Z W ap ag aq ab V ac aj ad ak al ae am an af ao ah X ai) 37,.mp (zz wi) (zz aI) bB bC]:=b0.sel [1,4,0,2,3];obtain ⟨kB,kD,h⟩:=ob h;refine cv ([pp g 0,sl bd bb be,.slice none ([]:List Int).length 0]) ank ((akA k) kD (hG.mono ((((((aw.trans ax).trans aH).trans aN).trans aP).trans aQ).trans aX)) cl cm cn co bY b8 (Nat.le_trans hbr b0.size) fv (RSl.nil _ _ _ _ _ _) (pt fz)) ?_;rintro _ nd ⟨fA,rfl,cK⟩;have fB:=ca cK fz;refine uN kB (wt (cd h (fun el h=>?_) (fun el h=>?_)))
          ·refine cT el (sr (m2 vN (wt (wp_ret (aaw (blkR (aaw (aaw (blkR (aaw ?_))))))))));have e_:=(Option.some.inj h).trans hr_;obtain ⟨kJ,kO⟩:=Prod.mk.inj e_;obtain ⟨kP,kQ,kR⟩:=aak.mk.inj kJ;have kT:=aaa.mk.inj kP;subst kT;obtain ⟨kU,kV,kW,kX,kY,kZ⟩:=aaf.mk.inj kQ;subst kU;subst kV;subst kW;subst kX;subst kY;subst kZ;subst kR;subst kO;exact aas rfl (resT rfl) ⟨fA,a0,a2,a3,a4,a8,a9,az,aA,bu,rfl,(fB.sel [0,1]),(mf cl cK.sub),cm,(mp cn cK.sub),(ms co cK.sub),(bY.mono (fun _ _ h=>h)),b8⟩
          ·exact cF el (wp_skip (aae (⟨_,fA,fR,cK.sub,(fB.sel [0,3,2,4,1]),h⟩)))
         ·have h:=abS dm h;refine lk1S (kv:=kI) (q:=qI) (R:=(VSl Int (RInt .i64) 1 8 aJ)) (xs:=(mput qI 3 [1] (mput qI 2 [4,1] (mput qI 1 [4] ([]:List (Int × (List Int))))))) (k:=aY) (b0.entAt (i:=3) rfl).1 acg (aat Tyk3) keI (MapR.mono (fun _ _ h=>by obtain ⟨A,c,h1,h2⟩:=h; exact ⟨A,c,h1,h2.mono aX (fun _ _ h=>h)⟩) e9) rfl rfl dm (fun ne k0=>?_);obtain ⟨k1,k2,rfl,k3⟩:=k0;have fC:SR K aJ wi fx [.box bs g #[sl z y B,.string C,sl N D O,iI x,.bool G,iI I,sl S J U,sl m f s] 82,eW br m f s 3 1 Y] [.box bs g #[sl a0 aT a2,.string aU,sl a3 aV a4,iI a5,.bool a6,iI a7,sl a8 aW a9,sl az au aA] 82,eW br az au aA 3 1 bu,.box (zz wi) (zz bv) (aC' aY ba aB bd bb be bj aZ bk) 74,.box (zz wi) (zz wi) (aS t Z W ap ag aq ab V ac aj ad ak al ae am an af ao ah X ai) 37,.mp (zz wi) (zz aI) bB bC]:=b0.sel [1,4,0,2,3];obtain ⟨k4,k5,h⟩:=ob h;refine cv ([pp g 0,sl bd bb be,sl k1 kz k2]) ank ((akA k) k5 (hG.mono ((((((aw.trans ax).trans aH).trans aN).trans aP).trans aQ).trans aX)) cl cm cn co bY b8 (Nat.le_trans hbr b0.size) fv k3 (pt fC)) ?_;rintro _ nf ⟨fD,rfl,cL⟩;have fE:=ca cL fC;refine uN k4 (wt (cd h (fun em h=>?_) (fun em h=>?_)))
          ·refine cT em (sr (m2 vN (wt (wp_ret (aaw (blkR (aaw (aaw (blkR (aaw ?_))))))))));have e_:=(Option.some.inj h).trans hr_;obtain ⟨k6,k7⟩:=Prod.mk.inj e_;obtain ⟨k8,k9,la⟩:=aak.mk.inj k6;have lc:=aaa.mk.inj k8;subst lc;obtain ⟨ld,lf,lg,lh,li,lj⟩:=aaf.mk.inj k9;subst ld;subst lf;subst lg;subst lh;subst li;subst lj;subst la;subst k7;exact aas rfl (resT rfl) ⟨fD,a0,a2,a3,a4,a8,a9,az,aA,bu,rfl,(fE.sel [0,1]),(mf cl cL.sub),cm,(mp cn cL.sub),(ms co cL.sub),(bY.mono (fun _ _ h=>h)),b8⟩
          ·exact cF em (wp_skip (aae (⟨_,fD,fR,cL.sub,(fE.sel [0,3,2,4,1]),h⟩)))
        ·rintro _ ng ⟨fy,cb,rfl,cq,en,h⟩;unfold ahp at h;refine aax (fun a w=>∃ fF bE cM cN dn,a=fr 205 (updL fF [(0,pp g 0),(3,pp (zz wi) 0),(9,.map (some (zz aI))),(11,pp (zz bv) 0),(158,sl ah X ai),(159,iI (X.length:Int)),(160,iI (bi:Int))])∧SR K cb wi w [.box bs g #[sl z y B,.string C,sl N D O,iI x,.bool G,iI I,sl S J U,sl m f s] 82,eW br m f s 3 1 Y] [.box bs g #[sl a0 aT a2,.string aU,sl a3 aV a4,iI a5,.bool a6,iI a7,sl a8 aW a9,sl cM bE cN] 82,.box (zz wi) (zz wi) (aS t Z W ap ag aq ab V ac aj ad ak al ae am an af ao ah X ai) 37,.box (zz wi) (zz bv) (aC' aY ba aB bd bb be bj aZ bk) 74,.mp (zz wi) (zz aI) bB bC,eW br cM bE cN 3 1 dn]∧Reps (RInt .i64) 1 bE dn∧bE.length * 8 ≤ mB∧aiv k F aT aU aV a5 a6 a7 aW bi aZ bE (acV k F ad ae af bS)=some r_) ?_ ?_
         ·refine sr (fd 1 aeC rfl (l1 2 (.string ba) en Tya9 (bsc (r:=(!seq ba ⟨#[]⟩)) rfl rfl rfl (wt (cd h (fun eo h=>?_) (fun eo h=>?_))))))
          ·refine cT eo (rA [7] [0,1,2,3,4] en (fun bT q6=>kM 0 (pp g 0) rfl q6 (kN 1 rfl rfl q6 (kF 2 7 rfl aep rfl q6 (tL 3 (sl az au aA) [[7,3]] 0 rfl ah2 q6 (kF 4 2 rfl ahC rfl q6 (tL 5 (iI aB) [[7,5]] 2 rfl Tya3 q6 ?_)))))));obtain ⟨lk,dp,h⟩:=ob h;obtain ⟨fG,nh,fH,ni,ll,nj⟩:=aib (bT.entAt (i:=4) rfl) (bY.mono (fun _ _ h=>h)) (aau dp).1;obtain rfl:=ll;refine kK 6 (pp fG (0 + aB.toNat * 1)) rfl (fun w=>aeM (b:=fG) (o:=0) (i:=aB) abu Tys3 rfl fH rfl (aau dp).2.1 (aau dp).2.2) q6 (aO 7 rfl (stR (R:=(RInt .i64)) (i:=4) (off:=0) (p:=lk) (p':=1) (v:=iI 1) bT rfl (bY.mono (fun _ _ h=>h)) (aau dp).1 Tys3 fH rfl rfl rfl rfl (by decide) (fun cs_ h_=>by cases h_; rfl) (fun fI lm ln lo=>?_)));have lp:SR K cb wi lm [.box bs g #[sl z y B,.string C,sl N D O,iI x,.bool G,iI I,sl S J U,sl m f s] 82,eW br m f s 3 1 Y] [.box bs g #[sl a0 aT a2,.string aU,sl a3 aV a4,iI a5,.bool a6,iI a7,sl a8 aW a9,.slice az (au.set aB.toNat 1).length aA] 82,.box (zz wi) (zz wi) #[iI t,.string Z,iI W,.string ap,iI ag,iI aq,sl ab V ac,sl aj ad ak,sl al ae am,sl an af ao,sl ah X ai] 37,.box (zz wi) (zz bv) #[iI aY,.string ba,iI aB,sl bd bb be,sl bj aZ bk] 74,.mp (zz wi) (zz aI) bB bC,.row br (.slice az (au.set aB.toNat 1).length aA) 3 1 (au.set aB.toNat 1).length fI]:=by simpa only [List.length_set,List.eraseIdx_zero,List.eraseIdx_cons_succ,List.tail_cons,List.set_cons_succ,List.set_cons_zero,List.nil_append,List.cons_append] using ln
           exact wt ⟨hE 7,aD (aae (⟨_,(au.set aB.toNat 1),az,aA,fI,fR,lp,lo,(adO b8),h⟩))⟩
          ·exact cF eo (wp_skip (aae (⟨_,au,az,aA,bu,fR,en,(bY.mono (fun _ _ h=>h)),b8,h⟩)))
         ·rintro _ lq ⟨fF,bE,cM,cN,dn,rfl,ep,lr,ls,h⟩;unfold aiv at h;refine sr (m1 (pp g 0) (fd 4 ado rfl (l1 2 (sl bj aZ bk) ep abk ?_)));have fJ:=aq9 ep;obtain ⟨⟨⟨⟨lu⟩,⟨lv,lw,lx,ly,lz,lA⟩,lB⟩,lC⟩,lE,h⟩:=ob h;refine cv ([pp g 0,sl bj aZ bk]) ans (IH36 lE (hG.mono (((((((aw.trans ax).trans aH).trans aN).trans aP).trans aQ).trans aX).trans cq)) (mf cl cq) cm (mp cn cq) (ms co cq) lr ls (Nat.le_trans hbr ep.size) (ms kx cq) (pt fJ)) ?_;rintro _ nk ⟨fK,fL,fM,fN,fO,fP,fQ,fS,fT,fU,rfl,fV,fW,fX,fY,fZ,f0,f1⟩;have f2:=ca fV fJ;refine uN lC (wt (cd h (fun eq h=>?_) (fun eq h=>?_)))
          ·refine cT eq (sr (m2 vN (wt (wp_ret (blkR (aaw (aaw (blkR (aaw ?_)))))))));have e_:=(Option.some.inj h).trans hr_;obtain ⟨lF,lG⟩:=Prod.mk.inj e_;obtain ⟨lH,lI,lJ⟩:=aak.mk.inj lF;have lK:=aaa.mk.inj lH;subst lK;obtain ⟨lL,lM,lO,lP,lQ,lR⟩:=aaf.mk.inj lI;subst lL;subst lM;subst lO;subst lP;subst lQ;subst lR;subst lJ;subst lG;exact aas rfl (resT rfl) ⟨fK,fL,fM,fN,fO,fP,fQ,fS,fT,fU,rfl,(f2.sel [0,1]),fW,fX,fY,fZ,f0,f1⟩
          ·exact cF eq (wp_skip (blkN (aae (wp_region_lit (bar (r:=((bi + 1:Nat):Int)) rfl rfl (aaY (aa1 (((mc es ((((((aw.trans ax).trans aH).trans aN).trans aP).trans aQ).trans aX))).len) (by decide) (aad ck))) (m1 (iI ((bi + 1:Nat):Int)) (wt (⟨_,Nat.lt_succ_self _,_,fK,bS,bi + 1,lu,fL,fM,lv,lw,fN,fO,lx,ly,lz,lA,fP,fQ,lB,fS,fT,fU,rfl,fR,((aX.trans cq).trans fV.sub),(f2.sel [0,2,4,1]),aai ck,fW,fX,fY,fZ,f0,f1,h⟩))))))))
theorem amA (k0:Nat) : ∀ k,aed (agB k0 k).f36∧ad3 (agB k0 k).f57:=by
 intro k;induction k with
 | zero=>exact ⟨(by unfold aed; intro _ _ _ _ _ _ _ _ _ _ _ _ _ _ _ _ _ _ _ _ _ _ _ _ _ _ _ _ _ _ _ _ _ _ h_; cases h_),(by unfold ad3; intro _ _ _ _ _ _ _ _ _ _ _ _ _ _ _ _ _ _ _ _ _ _ _ _ _ _ _ _ _ _ _ _ _ h_; cases h_)⟩
 | succ k ih=>exact ⟨apC k0 (agB k0 k) ih.1 ih.2,aqo k0 (agB k0 k) ih.1 ih.2⟩
theorem aur (k:Nat):aed (f36 k):=(amA k k).1
theorem av8 (k:Nat):ad3 (f57 k):=(amA k k).2
theorem ap4 (k:Nat):aiX (aqf k):=by
 unfold aiX;intro K wi cS d3 d4 d5 d6 h hG cU cV;obtain ⟨r_,hr_,h⟩:=rz h;obtain ⟨bf⟩:=cS;obtain ⟨bg,c1,rfl,cW⟩:=aah.open cU;refine enter Tryz.func21 rfl (n:=82) rfl ?_;unfold aqf at h;refine sr (bxoC (cs:=#[sl bg bf c1]) cV rfl rfl (fun ah cX=>(aC #[nS] cX aff (fun d7 b0=>(m2 nS (m2 (iI 0) (wt (wp_scope_straight (sr (lN 1 ([sl bg bf c1]) b0 abC aa2 ?_))))))))));obtain ⟨⟨⟨aJ⟩,aK⟩,cY,h⟩:=ob h;refine cv ([.agg #[sl bg bf c1]]) avK ((auz k) cY (hG.mono kr) (aah.intro cW) (pt b0)) ?_;rintro _ cZ ⟨c2,d8,rfl,aw,c3⟩;have c4:=ca aw b0;obtain ⟨aL,aM,rfl,c5⟩:=aah.open c3;refine m1 (.tuple #[.agg #[sl aL aJ aM],iI aK]) (ext (v:=.agg #[sl aL aJ aM]) rfl rfl (ext (v:=iI aK) rfl rfl (aC #[nS] c4 aff (fun d9 c6=>(sI 0 (.agg #[sl aL aJ aM]) #[sl aL aJ aM] c6 aa2 rfl rfl (fun ea bh=>(m2 (iI aK) (wt (wp_seq (sr (m1 (iI aK) (c0 (aK != 0) (wt (cd h (fun b1 h=>?_) (fun b1 h=>?_)))))))))))))))
 ·refine cT b1 (sr (bld (cells:=#[nS]) (vs:=[]) rfl (fun w=>by kernel_rfl) (m1 (iI aK) (sI 1 (.agg #[nS]) #[nS] bh aa2 rfl rfl (fun ec cz=>(m2 nS (m2 (iI aK) (wt (wp_ret (aaw (ngR ?_)))))))))));have e_:=(Option.some.inj h).trans hr_;obtain ⟨c7,c8⟩:=Prod.mk.inj e_;subst c7;obtain ⟨c9,da⟩:=Prod.mk.inj c8;subst c9;subst da;exact apB rfl (resN (i:=1) (l:=[nS]) cz rfl abC aa2 rfl rfl rfl) (resT rfl) (resT rfl) ⟨c2,[nS],none,0,rfl,(cz.sel []),(aah.intro (RSl.nil _ _ _ _ _ _)),(RSl.nil _ _ _ _ _ _)⟩
 ·refine cF b1 (wp_skip (aae (sr (lN 0 ([sl aL aJ aM]) bh abC aa2 ?_))));obtain ⟨⟨⟨f⟩,aB⟩,db,h⟩:=ob h;refine cv ([.agg #[sl aL aJ aM]]) avA ((auG k) db (hG.mono aw.sub) (aah.intro c5) (pt bh)) ?_;rintro _ ai ⟨aW,ed,rfl,aG,dc⟩;have dd:=ca aG bh;obtain ⟨g,m,rfl,af⟩:=aah.open dc;refine m1 (.tuple #[.agg #[sl g f m],iI aB]) (ext (v:=.agg #[sl g f m]) rfl rfl (ext (v:=iI aB) rfl rfl (aC #[nS] dd aff (fun ee de=>(sI 0 (.agg #[sl g f m]) #[sl g f m] de aa2 rfl rfl (fun ef b2=>(m2 (iI aB) (wt (wp_seq (sr (m1 (iI aB) (c0 (aB != 0) (wt (cd h (fun b3 h=>?_) (fun b3 h=>?_)))))))))))))))
  ·refine cT b3 (sr (bld (cells:=#[nS]) (vs:=[]) rfl (fun w=>by kernel_rfl) (m1 (iI aB) (sI 2 (.agg #[nS]) #[nS] b2 aa2 rfl rfl (fun df dg=>?_)))));have cA:=dg;refine m2 nS (m2 (iI aB) (wt (wp_ret (aaw (ngR ?_)))));have e_:=(Option.some.inj h).trans hr_;obtain ⟨dh,di⟩:=Prod.mk.inj e_;subst dh;obtain ⟨dj,dk⟩:=Prod.mk.inj di;subst dj;subst dk;exact apB rfl (resN (i:=2) (l:=[nS]) cA rfl abC aa2 rfl rfl rfl) (resT rfl) (resT rfl) ⟨aW,[nS],none,0,rfl,(cA.sel []),(aah.intro (RSl.nil _ _ _ _ _ _)),(RSl.nil _ _ _ _ _ _)⟩
  ·refine cF b3 (wp_skip (aae (sr (m2 nS (wt (wp_seq (wp_label (aae (aax (fun a w=>∃ cB a4 aN ax aX aY b4,a=fr 82 (updL cB [(2,pp (zz ah) 0),(6,iI aN),(7,pp (zz ai) 0),(8,sl aX ax aY)])∧KH.sub aW a4∧SR K a4 wi w [] [.box (zz wi) (zz ah) #[nS] 24,.box (zz wi) (zz ai) #[sl g f m] 24,eW (zz wi) aX ax aY 48 1 b4]∧Reps (RSlE Int (fun K=>(RInt .i64)) 1 8 a4) 1 ax b4∧ax.length * 24 ≤ mB∧air k f aN ax=some r_) ?_ ?_)))))))))
   ·refine sr (fd 0 abU rfl (l1 0 (sl g f m) b2 aeL (lS f.length ac3 (m1 (iI 0) (wt (wp_block ?_))))));have dl:=b2.row_ (zz wi) 48 1;refine aaA (fun g_ a w=>∃ cC aP aq,∃ (aj:Nat),∃ ay O ak al ar,g_=aq.length∧a=fr 82 (updL cC [(2,pp (zz ah) 0),(6,iI ay),(7,pp (zz ai) 0),(8,sl ak O al),(31,sl g f m),(32,iI (f.length:Int)),(33,iI (aj:Int))])∧KH.sub aW aP∧SR K aP wi w [] [.box (zz wi) (zz ah) #[nS] 24,.box (zz wi) (zz ai) #[sl g f m] 24,eW (zz wi) ak O al 48 1 ar]∧f.drop aj=aq∧Reps (RSlE Int (fun K=>(RInt .i64)) 1 8 aP) 1 O ar∧O.length * 24 ≤ mB∧aeA k f aq aj ay O=some r_) f.length ?_ ?_
    ·exact ⟨_,aW,f,0,aB,([]:List (List Int)),none,0,[],rfl,fR,kr,(dl.sel [3,1,0]),List.drop_zero,(abl (R:=(RSlE Int (fun K=>(RInt .i64)) 1 8 aW)) (size:=1)),(by simp),h⟩
    ·rintro _ _ aZ ⟨cC,aP,aq,aj,ay,O,ak,al,ar,rfl,rfl,V,b5,a1,b6,cD,h⟩;rcases aq with _ | ⟨⟨z,c,s,A,d,q⟩,aq⟩
     ·unfold aeA at h;exact sr (bcm (r:=false) rfl rfl (congrArg some (aaq a1)) (wt (wp_seq (cndF rfl (wp_exit (aaF (aaF (blkX (aae (⟨_,aP,ay,O,ak,al,ar,fR,V,b5,b6,cD,h⟩))))))))))
     ·unfold aeA at h;refine sr (bcm (r:=true) rfl rfl (congrArg some (aar a1)) (wt (wp_seq (cndT rfl (wp_skip (aae (wp_seq (wp_block (sr ?_)))))))));obtain ⟨dm,dn,eg,dp,eh,dq,dr⟩:=((mf af V)).row.at_ (aan a1);obtain ⟨x,y,t,u,rfl,ab,ac,Z⟩:=aav.open dr;refine idxN (b:=dm) (o:=dn) (i:=aj) ac3 aby rfl dp rfl (aad a1) (lD (vF z x c y s A d t q u) adi aby rfl (fun j v hj=>b5.cell (kr.cell (dq j v hj))) (aC zF.toArray b5 alW (fun ei ds=>(sI 0 (.agg (aF z x c y s A d t q u)) ((aF z x c y s A d t q u)) ds aby rfl rfl (fun ej dt=>(wt (aax (fun a w=>∃ cG an am a5 bi bj a6 a7 bk bm bn bo bp a8 bq br au a9 ba bs,a=fr 82 (updL cG [(2,pp (zz ah) 0),(6,iI ay),(7,pp (zz ai) 0),(8,sl ak O al),(10,pp (zz aZ) 0),(11,pp am 0),(31,sl g f m),(32,iI (f.length:Int)),(33,iI (aj:Int))])∧KH.sub aP an∧SR K an wi w [] [.box (zz wi) (zz ah) #[nS] 24,.box (zz wi) (zz ai) #[sl g f m] 24,.box (zz wi) (zz aZ) (aF z x c y s A d t q u) 42,.box (zz wi) am #[sl bi a5 bj,.string a6,sl bk a7 bm,iI bn,.bool bo,iI bp,sl bq a8 br,sl a9 au ba] 82,eW (zz wi) ak O al 48 1 ar,eW (zz wi) a9 au ba 3 1 bs]∧tF an bi bj a5∧a6.size ≤ mB∧tP an bk bm a7∧tS an bq br a8∧Reps (RInt .i64) 1 au bs∧au.length * 8 ≤ mB∧amP k f ay O aj s q a5 a6 a7 bn bo bp a8 au (aeA k f aq)=some r_) ?_ ?_)))))))
      ·have S:=dt.drew;refine afx (E:=[10]) (F:=FW aP [.box (zz wi) (zz aZ) (aF z x c y s A d t q u) 42,.box (zz wi) (zz ah) #[nS] 24,.box (zz wi) (zz ai) #[sl g f m] 24,eW (zz wi) ak O al 48 1 ar]) (L:=(lb 14 0)) ymx rfl rfl (tT 2 (.agg (aF z x c y s A d t q u)) [[10,3,2]] rfl (fq [0,1,2,3] S) (fun w hF=>alK (i:=0) (l:=(vF z x c y s A d t q u)) hF rfl adi aby rfl rfl rfl) (kF 4 4 rfl ag3 rfl (fq [0,1,2,3] S) (tL 5 (iI d) [[10,9,5]] 0 rfl Tya3 (fq [0,1,2,3] S) (kF 6 1 rfl ac0 rfl (fq [0,1,2,3] S) (tL 7 (sl x c y) [[10,9,8,7]] 0 rfl ah5 (fq [0,1,2,3] S) (kL 8 c.length rfl agh (fq [0,1,2,3] S) (kA 9 (w64 (d - (c.length:Int))) rfl (fq [0,1,2,3] S) (ab0 (rs:=[0,1,3]) (by kernel_rfl) (by decide) (allC ?_ (allC ?_ (allC ?_ allN)))))))))))
       ·refine opL (i:=0) rfl (lN 2 ([sl g f m]) S abC aa2 (wb (fq [0,1,2,3] S) (fun _=>ab0 (rs:=[1,3]) (by kernel_rfl) (by decide) (allC ?_ (allC ?_ allN)))))
        ·refine opL (i:=1) rfl (lN 0 (vF z x c y s A d t q u) S adi aby (wb (fq [0,1,2,3] S) (fun _=>aO 3 rfl ?_)));obtain ⟨G,az,h⟩:=ob h;refine cv ([.agg (aF z x c y s A d t q u)]) alf ((ahh k) az (hG.mono ((aw.sub.trans aG.sub).trans V)) (aav.intro ab ac Z) (pt S)) ?_;rintro _ bu ⟨ad,bv,bw,bx,rfl,D,ag,bz⟩;have aA:=ca D S;have N:=aA.lower_ (i:=0) rfl S.size;refine wb (fwOf (is:=[1,2,3,4]) N D.sub rfl) (fun _=>aO 10 rfl ?_);obtain ⟨J,h⟩:=aaG h;exact apZ (i:=0) N rfl abu (by rw [Tyk3]; rfl) Tyi3 (by decide) rfl rfl ag (Nat.le_refl _) J (fun B C X I U Y=>(wt ⟨hE 10,kH 11 (.agg #[sl g f m,.string z,sl x c y,iI s,.bool A,iI d,sl t q u,.slice B (G ++ List.replicate (w64 (d - (c.length:Int))).toNat (0:Int)).length C]) rfl (fun w=>afJ (cells:=#[sl g f m,.string z,sl x c y,iI s,.bool A,iI d,sl t q u,.slice B (G ++ List.replicate (w64 (d - (c.length:Int))).toNat (0:Int)).length C]) (vs:=[(0,.agg #[sl g f m]),(1,.agg (aF z x c y s A d t q u)),(2,.slice B (G ++ List.replicate (w64 (d - (c.length:Int))).toNat (0:Int)).length C)]) rfl (fun w=>by kernel_rfl)) 10 (aO 12 rfl (bxoC (cs:=#[sl g f m,.string z,sl x c y,iI s,.bool A,iI d,sl t q u,.slice B (G ++ List.replicate (w64 (d - (c.length:Int))).toNat (0:Int)).length C]) U rfl rfl (fun ao W=>(wt ⟨hE 10,kH 13 (pp (zz I) 0) rfl (fun w=>acM (v:=pp (zz I) 0) rfl) 10 (aD (aae (⟨_,ad,(zz I),f,g,m,z,c,x,y,s,A,d,q,t,u,(G ++ List.replicate (w64 (d - (c.length:Int))).toNat (0:Int)),B,C,X,fR,D.sub,(W.sel [3,4,2,0,5,1]),(mf af (V.trans D.sub)),ab,(mp ac D.sub),(ms Z D.sub),Y,(abO J),h⟩)))⟩))))⟩))
        ·refine opL (i:=3) rfl ?_;obtain ⟨G,az,h⟩:=ob h;refine cv ([.agg (aF z x c y s A d t q u)]) alf ((ahh k) az (hG.mono ((aw.sub.trans aG.sub).trans V)) (aav.intro ab ac Z) (pt S)) ?_;rintro _ bu ⟨ad,bv,bw,bx,rfl,D,ag,bz⟩;have aA:=ca D S;have N:=aA.lower_ (i:=0) rfl S.size;refine wb (fwOf (is:=[1,2,3,4]) N D.sub rfl) (fun _=>ab0 (rs:=[1,10]) (by kernel_rfl) (by decide) (allC ?_ (allC ?_ allN)))
         ·refine opL (i:=1) rfl (lN 1 (vF z x c y s A d t q u) N adi aby (wb (fwOf (is:=[1,2,3,4]) N D.sub rfl) (fun _=>aO 10 rfl ?_)));obtain ⟨J,h⟩:=aaG h;exact apZ (i:=0) N rfl abu (by rw [Tyk3]; rfl) Tyi3 (by decide) rfl rfl ag (Nat.le_refl _) J (fun B C X I U Y=>(wt ⟨hE 10,kH 11 (.agg #[sl g f m,.string z,sl x c y,iI s,.bool A,iI d,sl t q u,.slice B (G ++ List.replicate (w64 (d - (c.length:Int))).toNat (0:Int)).length C]) rfl (fun w=>afJ (cells:=#[sl g f m,.string z,sl x c y,iI s,.bool A,iI d,sl t q u,.slice B (G ++ List.replicate (w64 (d - (c.length:Int))).toNat (0:Int)).length C]) (vs:=[(0,.agg #[sl g f m]),(1,.agg (aF z x c y s A d t q u)),(2,.slice B (G ++ List.replicate (w64 (d - (c.length:Int))).toNat (0:Int)).length C)]) rfl (fun w=>by kernel_rfl)) 10 (aO 12 rfl (bxoC (cs:=#[sl g f m,.string z,sl x c y,iI s,.bool A,iI d,sl t q u,.slice B (G ++ List.replicate (w64 (d - (c.length:Int))).toNat (0:Int)).length C]) U rfl rfl (fun ao W=>(wt ⟨hE 10,kH 13 (pp (zz I) 0) rfl (fun w=>acM (v:=pp (zz I) 0) rfl) 10 (aD (aae (⟨_,ad,(zz I),f,g,m,z,c,x,y,s,A,d,q,t,u,(G ++ List.replicate (w64 (d - (c.length:Int))).toNat (0:Int)),B,C,X,fR,D.sub,(W.sel [3,4,2,0,5,1]),(mf af (V.trans D.sub)),ab,(mp ac D.sub),(ms Z D.sub),Y,(abO J),h⟩)))⟩))))⟩))
         ·refine opL (i:=10) rfl ?_;obtain ⟨J,h⟩:=aaG h;exact apZ (i:=0) N rfl abu (by rw [Tyk3]; rfl) Tyi3 (by decide) rfl rfl ag (Nat.le_refl _) J (fun B C X I U Y=>(wt ⟨hE 10,aO 1 rfl (lN 1 (vF z x c y s A d t q u) U adi aby (wt ⟨hE 10,kH 11 (.agg #[sl g f m,.string z,sl x c y,iI s,.bool A,iI d,sl t q u,.slice B (G ++ List.replicate (w64 (d - (c.length:Int))).toNat (0:Int)).length C]) rfl (fun w=>afJ (cells:=#[sl g f m,.string z,sl x c y,iI s,.bool A,iI d,sl t q u,.slice B (G ++ List.replicate (w64 (d - (c.length:Int))).toNat (0:Int)).length C]) (vs:=[(0,.agg #[sl g f m]),(1,.agg (aF z x c y s A d t q u)),(2,.slice B (G ++ List.replicate (w64 (d - (c.length:Int))).toNat (0:Int)).length C)]) rfl (fun w=>by kernel_rfl)) 10 (aO 12 rfl (bxoC (cs:=#[sl g f m,.string z,sl x c y,iI s,.bool A,iI d,sl t q u,.slice B (G ++ List.replicate (w64 (d - (c.length:Int))).toNat (0:Int)).length C]) U rfl rfl (fun ao W=>(wt ⟨hE 10,kH 13 (pp (zz I) 0) rfl (fun w=>acM (v:=pp (zz I) 0) rfl) 10 (aD (aae (⟨_,ad,(zz I),f,g,m,z,c,x,y,s,A,d,q,t,u,(G ++ List.replicate (w64 (d - (c.length:Int))).toNat (0:Int)),B,C,X,fR,D.sub,(W.sel [3,4,2,0,5,1]),(mf af (V.trans D.sub)),ab,(mp ac D.sub),(ms Z D.sub),Y,(abO J),h⟩)))⟩))))⟩))⟩))
       ·refine opL (i:=1) rfl (lN 0 (vF z x c y s A d t q u) S adi aby (wb (fq [0,1,2,3] S) (fun _=>ab0 (rs:=[0,3]) (by kernel_rfl) (by decide) (allC ?_ (allC ?_ allN)))))
        ·refine opL (i:=0) rfl (lN 2 ([sl g f m]) S abC aa2 (wb (fq [0,1,2,3] S) (fun _=>aO 3 rfl ?_)));obtain ⟨G,az,h⟩:=ob h;refine cv ([.agg (aF z x c y s A d t q u)]) alf ((ahh k) az (hG.mono ((aw.sub.trans aG.sub).trans V)) (aav.intro ab ac Z) (pt S)) ?_;rintro _ bu ⟨ad,bv,bw,bx,rfl,D,ag,bz⟩;have aA:=ca D S;have N:=aA.lower_ (i:=0) rfl S.size;refine wb (fwOf (is:=[1,2,3,4]) N D.sub rfl) (fun _=>aO 10 rfl ?_);obtain ⟨J,h⟩:=aaG h;exact apZ (i:=0) N rfl abu (by rw [Tyk3]; rfl) Tyi3 (by decide) rfl rfl ag (Nat.le_refl _) J (fun B C X I U Y=>(wt ⟨hE 10,kH 11 (.agg #[sl g f m,.string z,sl x c y,iI s,.bool A,iI d,sl t q u,.slice B (G ++ List.replicate (w64 (d - (c.length:Int))).toNat (0:Int)).length C]) rfl (fun w=>afJ (cells:=#[sl g f m,.string z,sl x c y,iI s,.bool A,iI d,sl t q u,.slice B (G ++ List.replicate (w64 (d - (c.length:Int))).toNat (0:Int)).length C]) (vs:=[(0,.agg #[sl g f m]),(1,.agg (aF z x c y s A d t q u)),(2,.slice B (G ++ List.replicate (w64 (d - (c.length:Int))).toNat (0:Int)).length C)]) rfl (fun w=>by kernel_rfl)) 10 (aO 12 rfl (bxoC (cs:=#[sl g f m,.string z,sl x c y,iI s,.bool A,iI d,sl t q u,.slice B (G ++ List.replicate (w64 (d - (c.length:Int))).toNat (0:Int)).length C]) U rfl rfl (fun ao W=>(wt ⟨hE 10,kH 13 (pp (zz I) 0) rfl (fun w=>acM (v:=pp (zz I) 0) rfl) 10 (aD (aae (⟨_,ad,(zz I),f,g,m,z,c,x,y,s,A,d,q,t,u,(G ++ List.replicate (w64 (d - (c.length:Int))).toNat (0:Int)),B,C,X,fR,D.sub,(W.sel [3,4,2,0,5,1]),(mf af (V.trans D.sub)),ab,(mp ac D.sub),(ms Z D.sub),Y,(abO J),h⟩)))⟩))))⟩))
        ·refine opL (i:=3) rfl ?_;obtain ⟨G,az,h⟩:=ob h;refine cv ([.agg (aF z x c y s A d t q u)]) alf ((ahh k) az (hG.mono ((aw.sub.trans aG.sub).trans V)) (aav.intro ab ac Z) (pt S)) ?_;rintro _ bu ⟨ad,bv,bw,bx,rfl,D,ag,bz⟩;have aA:=ca D S;have N:=aA.lower_ (i:=0) rfl S.size;refine wb (fwOf (is:=[1,2,3,4]) N D.sub rfl) (fun _=>ab0 (rs:=[0,10]) (by kernel_rfl) (by decide) (allC ?_ (allC ?_ allN)))
         ·refine opL (i:=0) rfl (lN 3 ([sl g f m]) N abC aa2 (wb (fwOf (is:=[1,2,3,4]) N D.sub rfl) (fun _=>aO 10 rfl ?_)));obtain ⟨J,h⟩:=aaG h;exact apZ (i:=0) N rfl abu (by rw [Tyk3]; rfl) Tyi3 (by decide) rfl rfl ag (Nat.le_refl _) J (fun B C X I U Y=>(wt ⟨hE 10,kH 11 (.agg #[sl g f m,.string z,sl x c y,iI s,.bool A,iI d,sl t q u,.slice B (G ++ List.replicate (w64 (d - (c.length:Int))).toNat (0:Int)).length C]) rfl (fun w=>afJ (cells:=#[sl g f m,.string z,sl x c y,iI s,.bool A,iI d,sl t q u,.slice B (G ++ List.replicate (w64 (d - (c.length:Int))).toNat (0:Int)).length C]) (vs:=[(0,.agg #[sl g f m]),(1,.agg (aF z x c y s A d t q u)),(2,.slice B (G ++ List.replicate (w64 (d - (c.length:Int))).toNat (0:Int)).length C)]) rfl (fun w=>by kernel_rfl)) 10 (aO 12 rfl (bxoC (cs:=#[sl g f m,.string z,sl x c y,iI s,.bool A,iI d,sl t q u,.slice B (G ++ List.replicate (w64 (d - (c.length:Int))).toNat (0:Int)).length C]) U rfl rfl (fun ao W=>(wt ⟨hE 10,kH 13 (pp (zz I) 0) rfl (fun w=>acM (v:=pp (zz I) 0) rfl) 10 (aD (aae (⟨_,ad,(zz I),f,g,m,z,c,x,y,s,A,d,q,t,u,(G ++ List.replicate (w64 (d - (c.length:Int))).toNat (0:Int)),B,C,X,fR,D.sub,(W.sel [3,4,2,0,5,1]),(mf af (V.trans D.sub)),ab,(mp ac D.sub),(ms Z D.sub),Y,(abO J),h⟩)))⟩))))⟩))
         ·refine opL (i:=10) rfl ?_;obtain ⟨J,h⟩:=aaG h;exact apZ (i:=0) N rfl abu (by rw [Tyk3]; rfl) Tyi3 (by decide) rfl rfl ag (Nat.le_refl _) J (fun B C X I U Y=>(wt ⟨hE 10,aO 0 rfl (lN 3 ([sl g f m]) U abC aa2 (wt ⟨hE 10,kH 11 (.agg #[sl g f m,.string z,sl x c y,iI s,.bool A,iI d,sl t q u,.slice B (G ++ List.replicate (w64 (d - (c.length:Int))).toNat (0:Int)).length C]) rfl (fun w=>afJ (cells:=#[sl g f m,.string z,sl x c y,iI s,.bool A,iI d,sl t q u,.slice B (G ++ List.replicate (w64 (d - (c.length:Int))).toNat (0:Int)).length C]) (vs:=[(0,.agg #[sl g f m]),(1,.agg (aF z x c y s A d t q u)),(2,.slice B (G ++ List.replicate (w64 (d - (c.length:Int))).toNat (0:Int)).length C)]) rfl (fun w=>by kernel_rfl)) 10 (aO 12 rfl (bxoC (cs:=#[sl g f m,.string z,sl x c y,iI s,.bool A,iI d,sl t q u,.slice B (G ++ List.replicate (w64 (d - (c.length:Int))).toNat (0:Int)).length C]) U rfl rfl (fun ao W=>(wt ⟨hE 10,kH 13 (pp (zz I) 0) rfl (fun w=>acM (v:=pp (zz I) 0) rfl) 10 (aD (aae (⟨_,ad,(zz I),f,g,m,z,c,x,y,s,A,d,q,t,u,(G ++ List.replicate (w64 (d - (c.length:Int))).toNat (0:Int)),B,C,X,fR,D.sub,(W.sel [3,4,2,0,5,1]),(mf af (V.trans D.sub)),ab,(mp ac D.sub),(ms Z D.sub),Y,(abO J),h⟩)))⟩))))⟩))⟩))
       ·refine opL (i:=3) rfl ?_;obtain ⟨G,az,h⟩:=ob h;refine cv ([.agg (aF z x c y s A d t q u)]) alf ((ahh k) az (hG.mono ((aw.sub.trans aG.sub).trans V)) (aav.intro ab ac Z) (pt S)) ?_;rintro _ bu ⟨ad,bv,bw,bx,rfl,D,ag,bz⟩;have aA:=ca D S;have N:=aA.lower_ (i:=0) rfl S.size;refine wb (fwOf (is:=[1,2,3,4]) N D.sub rfl) (fun _=>ab0 (rs:=[0,1,10]) (by kernel_rfl) (by decide) (allC ?_ (allC ?_ (allC ?_ allN))))
        ·refine opL (i:=0) rfl (lN 3 ([sl g f m]) N abC aa2 (wb (fwOf (is:=[1,2,3,4]) N D.sub rfl) (fun _=>ab0 (rs:=[1,10]) (by kernel_rfl) (by decide) (allC ?_ (allC ?_ allN)))))
         ·refine opL (i:=1) rfl (lN 1 (vF z x c y s A d t q u) N adi aby (wb (fwOf (is:=[1,2,3,4]) N D.sub rfl) (fun _=>aO 10 rfl ?_)));obtain ⟨J,h⟩:=aaG h;exact apZ (i:=0) N rfl abu (by rw [Tyk3]; rfl) Tyi3 (by decide) rfl rfl ag (Nat.le_refl _) J (fun B C X I U Y=>(wt ⟨hE 10,kH 11 (.agg #[sl g f m,.string z,sl x c y,iI s,.bool A,iI d,sl t q u,.slice B (G ++ List.replicate (w64 (d - (c.length:Int))).toNat (0:Int)).length C]) rfl (fun w=>afJ (cells:=#[sl g f m,.string z,sl x c y,iI s,.bool A,iI d,sl t q u,.slice B (G ++ List.replicate (w64 (d - (c.length:Int))).toNat (0:Int)).length C]) (vs:=[(0,.agg #[sl g f m]),(1,.agg (aF z x c y s A d t q u)),(2,.slice B (G ++ List.replicate (w64 (d - (c.length:Int))).toNat (0:Int)).length C)]) rfl (fun w=>by kernel_rfl)) 10 (aO 12 rfl (bxoC (cs:=#[sl g f m,.string z,sl x c y,iI s,.bool A,iI d,sl t q u,.slice B (G ++ List.replicate (w64 (d - (c.length:Int))).toNat (0:Int)).length C]) U rfl rfl (fun ao W=>(wt ⟨hE 10,kH 13 (pp (zz I) 0) rfl (fun w=>acM (v:=pp (zz I) 0) rfl) 10 (aD (aae (⟨_,ad,(zz I),f,g,m,z,c,x,y,s,A,d,q,t,u,(G ++ List.replicate (w64 (d - (c.length:Int))).toNat (0:Int)),B,C,X,fR,D.sub,(W.sel [3,4,2,0,5,1]),(mf af (V.trans D.sub)),ab,(mp ac D.sub),(ms Z D.sub),Y,(abO J),h⟩)))⟩))))⟩))
         ·refine opL (i:=10) rfl ?_;obtain ⟨J,h⟩:=aaG h;exact apZ (i:=0) N rfl abu (by rw [Tyk3]; rfl) Tyi3 (by decide) rfl rfl ag (Nat.le_refl _) J (fun B C X I U Y=>(wt ⟨hE 10,aO 1 rfl (lN 1 (vF z x c y s A d t q u) U adi aby (wt ⟨hE 10,kH 11 (.agg #[sl g f m,.string z,sl x c y,iI s,.bool A,iI d,sl t q u,.slice B (G ++ List.replicate (w64 (d - (c.length:Int))).toNat (0:Int)).length C]) rfl (fun w=>afJ (cells:=#[sl g f m,.string z,sl x c y,iI s,.bool A,iI d,sl t q u,.slice B (G ++ List.replicate (w64 (d - (c.length:Int))).toNat (0:Int)).length C]) (vs:=[(0,.agg #[sl g f m]),(1,.agg (aF z x c y s A d t q u)),(2,.slice B (G ++ List.replicate (w64 (d - (c.length:Int))).toNat (0:Int)).length C)]) rfl (fun w=>by kernel_rfl)) 10 (aO 12 rfl (bxoC (cs:=#[sl g f m,.string z,sl x c y,iI s,.bool A,iI d,sl t q u,.slice B (G ++ List.replicate (w64 (d - (c.length:Int))).toNat (0:Int)).length C]) U rfl rfl (fun ao W=>(wt ⟨hE 10,kH 13 (pp (zz I) 0) rfl (fun w=>acM (v:=pp (zz I) 0) rfl) 10 (aD (aae (⟨_,ad,(zz I),f,g,m,z,c,x,y,s,A,d,q,t,u,(G ++ List.replicate (w64 (d - (c.length:Int))).toNat (0:Int)),B,C,X,fR,D.sub,(W.sel [3,4,2,0,5,1]),(mf af (V.trans D.sub)),ab,(mp ac D.sub),(ms Z D.sub),Y,(abO J),h⟩)))⟩))))⟩))⟩))
        ·refine opL (i:=1) rfl (lN 1 (vF z x c y s A d t q u) N adi aby (wb (fwOf (is:=[1,2,3,4]) N D.sub rfl) (fun _=>ab0 (rs:=[0,10]) (by kernel_rfl) (by decide) (allC ?_ (allC ?_ allN)))))
         ·refine opL (i:=0) rfl (lN 3 ([sl g f m]) N abC aa2 (wb (fwOf (is:=[1,2,3,4]) N D.sub rfl) (fun _=>aO 10 rfl ?_)));obtain ⟨J,h⟩:=aaG h;exact apZ (i:=0) N rfl abu (by rw [Tyk3]; rfl) Tyi3 (by decide) rfl rfl ag (Nat.le_refl _) J (fun B C X I U Y=>(wt ⟨hE 10,kH 11 (.agg #[sl g f m,.string z,sl x c y,iI s,.bool A,iI d,sl t q u,.slice B (G ++ List.replicate (w64 (d - (c.length:Int))).toNat (0:Int)).length C]) rfl (fun w=>afJ (cells:=#[sl g f m,.string z,sl x c y,iI s,.bool A,iI d,sl t q u,.slice B (G ++ List.replicate (w64 (d - (c.length:Int))).toNat (0:Int)).length C]) (vs:=[(0,.agg #[sl g f m]),(1,.agg (aF z x c y s A d t q u)),(2,.slice B (G ++ List.replicate (w64 (d - (c.length:Int))).toNat (0:Int)).length C)]) rfl (fun w=>by kernel_rfl)) 10 (aO 12 rfl (bxoC (cs:=#[sl g f m,.string z,sl x c y,iI s,.bool A,iI d,sl t q u,.slice B (G ++ List.replicate (w64 (d - (c.length:Int))).toNat (0:Int)).length C]) U rfl rfl (fun ao W=>(wt ⟨hE 10,kH 13 (pp (zz I) 0) rfl (fun w=>acM (v:=pp (zz I) 0) rfl) 10 (aD (aae (⟨_,ad,(zz I),f,g,m,z,c,x,y,s,A,d,q,t,u,(G ++ List.replicate (w64 (d - (c.length:Int))).toNat (0:Int)),B,C,X,fR,D.sub,(W.sel [3,4,2,0,5,1]),(mf af (V.trans D.sub)),ab,(mp ac D.sub),(ms Z D.sub),Y,(abO J),h⟩)))⟩))))⟩))
         ·refine opL (i:=10) rfl ?_;obtain ⟨J,h⟩:=aaG h;exact apZ (i:=0) N rfl abu (by rw [Tyk3]; rfl) Tyi3 (by decide) rfl rfl ag (Nat.le_refl _) J (fun B C X I U Y=>(wt ⟨hE 10,aO 0 rfl (lN 3 ([sl g f m]) U abC aa2 (wt ⟨hE 10,kH 11 (.agg #[sl g f m,.string z,sl x c y,iI s,.bool A,iI d,sl t q u,.slice B (G ++ List.replicate (w64 (d - (c.length:Int))).toNat (0:Int)).length C]) rfl (fun w=>afJ (cells:=#[sl g f m,.string z,sl x c y,iI s,.bool A,iI d,sl t q u,.slice B (G ++ List.replicate (w64 (d - (c.length:Int))).toNat (0:Int)).length C]) (vs:=[(0,.agg #[sl g f m]),(1,.agg (aF z x c y s A d t q u)),(2,.slice B (G ++ List.replicate (w64 (d - (c.length:Int))).toNat (0:Int)).length C)]) rfl (fun w=>by kernel_rfl)) 10 (aO 12 rfl (bxoC (cs:=#[sl g f m,.string z,sl x c y,iI s,.bool A,iI d,sl t q u,.slice B (G ++ List.replicate (w64 (d - (c.length:Int))).toNat (0:Int)).length C]) U rfl rfl (fun ao W=>(wt ⟨hE 10,kH 13 (pp (zz I) 0) rfl (fun w=>acM (v:=pp (zz I) 0) rfl) 10 (aD (aae (⟨_,ad,(zz I),f,g,m,z,c,x,y,s,A,d,q,t,u,(G ++ List.replicate (w64 (d - (c.length:Int))).toNat (0:Int)),B,C,X,fR,D.sub,(W.sel [3,4,2,0,5,1]),(mf af (V.trans D.sub)),ab,(mp ac D.sub),(ms Z D.sub),Y,(abO J),h⟩)))⟩))))⟩))⟩))
        ·refine opL (i:=10) rfl ?_;obtain ⟨J,h⟩:=aaG h;refine apZ (i:=0) N rfl abu (by rw [Tyk3]; rfl) Tyi3 (by decide) rfl rfl ag (Nat.le_refl _) J (fun B C X I U Y=>(wt ⟨hE 10,ab0 (rs:=[0,1]) (by kernel_rfl) (by decide) (allC ?_ (allC ?_ allN))⟩))
         ·exact opL (i:=0) rfl (lN 3 ([sl g f m]) U abC aa2 (wt ⟨hE 10,aO 1 rfl (lN 1 (vF z x c y s A d t q u) U adi aby (wt ⟨hE 10,kH 11 (.agg #[sl g f m,.string z,sl x c y,iI s,.bool A,iI d,sl t q u,.slice B (G ++ List.replicate (w64 (d - (c.length:Int))).toNat (0:Int)).length C]) rfl (fun w=>afJ (cells:=#[sl g f m,.string z,sl x c y,iI s,.bool A,iI d,sl t q u,.slice B (G ++ List.replicate (w64 (d - (c.length:Int))).toNat (0:Int)).length C]) (vs:=[(0,.agg #[sl g f m]),(1,.agg (aF z x c y s A d t q u)),(2,.slice B (G ++ List.replicate (w64 (d - (c.length:Int))).toNat (0:Int)).length C)]) rfl (fun w=>by kernel_rfl)) 10 (aO 12 rfl (bxoC (cs:=#[sl g f m,.string z,sl x c y,iI s,.bool A,iI d,sl t q u,.slice B (G ++ List.replicate (w64 (d - (c.length:Int))).toNat (0:Int)).length C]) U rfl rfl (fun ao W=>(wt ⟨hE 10,kH 13 (pp (zz I) 0) rfl (fun w=>acM (v:=pp (zz I) 0) rfl) 10 (aD (aae (⟨_,ad,(zz I),f,g,m,z,c,x,y,s,A,d,q,t,u,(G ++ List.replicate (w64 (d - (c.length:Int))).toNat (0:Int)),B,C,X,fR,D.sub,(W.sel [3,4,2,0,5,1]),(mf af (V.trans D.sub)),ab,(mp ac D.sub),(ms Z D.sub),Y,(abO J),h⟩)))⟩))))⟩))⟩))
         ·exact opL (i:=1) rfl (lN 1 (vF z x c y s A d t q u) U adi aby (wt ⟨hE 10,aO 0 rfl (lN 3 ([sl g f m]) U abC aa2 (wt ⟨hE 10,kH 11 (.agg #[sl g f m,.string z,sl x c y,iI s,.bool A,iI d,sl t q u,.slice B (G ++ List.replicate (w64 (d - (c.length:Int))).toNat (0:Int)).length C]) rfl (fun w=>afJ (cells:=#[sl g f m,.string z,sl x c y,iI s,.bool A,iI d,sl t q u,.slice B (G ++ List.replicate (w64 (d - (c.length:Int))).toNat (0:Int)).length C]) (vs:=[(0,.agg #[sl g f m]),(1,.agg (aF z x c y s A d t q u)),(2,.slice B (G ++ List.replicate (w64 (d - (c.length:Int))).toNat (0:Int)).length C)]) rfl (fun w=>by kernel_rfl)) 10 (aO 12 rfl (bxoC (cs:=#[sl g f m,.string z,sl x c y,iI s,.bool A,iI d,sl t q u,.slice B (G ++ List.replicate (w64 (d - (c.length:Int))).toNat (0:Int)).length C]) U rfl rfl (fun ao W=>(wt ⟨hE 10,kH 13 (pp (zz I) 0) rfl (fun w=>acM (v:=pp (zz I) 0) rfl) 10 (aD (aae (⟨_,ad,(zz I),f,g,m,z,c,x,y,s,A,d,q,t,u,(G ++ List.replicate (w64 (d - (c.length:Int))).toNat (0:Int)),B,C,X,fR,D.sub,(W.sel [3,4,2,0,5,1]),(mf af (V.trans D.sub)),ab,(mp ac D.sub),(ms Z D.sub),Y,(abO J),h⟩)))⟩))))⟩))⟩))
      ·rintro _ du ⟨cG,an,am,a5,bi,bj,a6,a7,bk,bm,bn,bo,bp,a8,bq,br,au,a9,ba,bs,rfl,aH,b7,dv,dw,dx,dy,dz,dA,h⟩;unfold amP at h;refine aax (fun a w=>∃ cH av aQ bA bB bC bD bE bF bG b8 b9 cb bH bI bJ ae aT aU cc,a=fr 82 (updL cH [(2,pp (zz ah) 0),(6,iI aQ),(7,pp (zz ai) 0),(8,sl ak O al),(11,pp am 0),(31,sl g f m),(32,iI (f.length:Int)),(33,iI (aj:Int))])∧KH.sub an av∧SR K av wi w [] [.box (zz wi) (zz ah) #[nS] 24,.box (zz wi) (zz ai) #[sl g f m] 24,.box (zz wi) am #[sl bB bA bC,.string bD,sl bF bE bG,iI b8,.bool b9,iI cb,sl bI bH bJ,sl aT ae aU] 82,eW (zz wi) ak O al 48 1 ar,eW (zz wi) aT ae aU 3 1 cc]∧tF av bB bC bA∧bD.size ≤ mB∧tP av bF bG bE∧tS av bI bJ bH∧Reps (RInt .i64) 1 ae cc∧ae.length * 8 ≤ mB∧ain k f O aj aQ ae (aeA k f aq)=some r_) ?_ ?_
       ·refine wp_block (sr (m1 (pp am 0) (fd 5 aes rfl (l1 2 (sl t q u) b7 abk ?_))));have cI:SR K an wi du [] [.box (zz wi) am #[sl bi a5 bj,.string a6,sl bk a7 bm,iI bn,.bool bo,iI bp,sl bq a8 br,sl a9 au ba] 82,eW (zz wi) a9 au ba 3 1 bs,.box (zz wi) (zz ah) #[nS] 24,.box (zz wi) (zz ai) #[sl g f m] 24,.box (zz wi) (zz aZ) (aF z x c y s A d t q u) 42,eW (zz wi) ak O al 48 1 ar]:=b7.sel [3,5,0,1,2,4];obtain ⟨⟨⟨⟨bK⟩,⟨bL,bM,bN,bO,bP,bQ⟩,aV⟩,cJ⟩,dB,h⟩:=ob h;refine cv ([pp am 0,sl t q u]) ans ((aur k) dB (hG.mono (((aw.sub.trans aG.sub).trans V).trans aH)) dv dw dx dy dz dA (Nat.le_trans (Nat.le_refl _) b7.size) (ms Z aH) (pt cI)) ?_;rintro _ ek ⟨ce,bR,bS,bT,bU,bV,bW,bb,bd,bX,rfl,a2,cf,ch,ci,cj,ck,cl⟩;have a3:=ca a2 cI;refine uN cJ (m2 (.bool (!cJ)) (wt (cd h (fun cm h=>?_) (fun cm h=>?_))))
        ·exact cT cm (wp_region_lit (m2 (iI 23) (wpList_nil (blkN (aae (⟨_,ce,23,bK,bR,bS,bL,bM,bT,bU,bN,bO,bP,bQ,bV,bW,aV,bb,bd,bX,fR,a2.sub,(a3.sel [2,3,0,5,1]),cf,ch,ci,cj,ck,cl,h⟩))))))
        ·refine cF cm (aax (fun a w=>∃ cK be cn,a=fr 82 (updL cK [(2,pp (zz ah) 0),(6,iI ay),(7,pp (zz ai) 0),(8,sl ak O al),(11,pp am 0),(31,sl g f m),(32,iI (f.length:Int)),(33,iI (aj:Int)),(56,.bool cn)])∧KH.sub ce be∧SR K be wi w [] [.box (zz wi) (zz ah) #[nS] 24,.box (zz wi) (zz ai) #[sl g f m] 24,.box (zz wi) am #[sl bR bK bS,.string bL,sl bT bM bU,iI bN,.bool bO,iI bP,sl bV bQ bW,sl bb aV bd] 82,eW (zz wi) ak O al 48 1 ar,eW (zz wi) bb aV bd 3 1 bX]∧akx k f ay O aj aV cn (aeA k f aq)=some r_) ?_ ?_)
         ·refine wp_region_lit (fd 2 adF rfl (l1 4 (iI s) a3 Tya3 (c0 (s != 0) (m1 (.bool (s != 0)) (cd h (fun ap h=>?_) (fun ap h=>?_))))))
          ·refine n1 60 ap (fd 5 aes rfl (n1 60 ap (l1 4 (sl t q u) a3 abk (n1 60 ap ?_))));obtain ⟨bY,dC,h⟩:=ob h;refine cv ([sl t q u]) aki ((att k) dC (hG.mono ((((aw.sub.trans aG.sub).trans V).trans aH).trans a2.sub)) (ms Z (aH.trans a2.sub)) (pt a3)) ?_;rintro _ el ⟨dD,rfl,cL⟩;have dE:=ca cL a3;exact n1 60 ap (uN bY (m3 true (.bool (!bY)) (cg ap) (m2 (.bool (!bY)) (wt (⟨_,dD,(!bY),fR,cL.sub,(dE.sel [2,3,0,5,1]),h⟩)))))
          ·exact o1 60 ap (o1 60 ap (o1 60 ap (o1 60 ap (m3 false vN (cg ap) (m2 vN (wt (⟨_,ce,false,fR,kr,(a3.sel [2,3,0,5,1]),h⟩)))))))
         ·rintro _ em ⟨cK,be,cn,rfl,aI,cM,h⟩;unfold akx at h;refine cd h (fun co h=>?_) (fun co h=>?_)
          ·exact cT co (wp_region_lit (m2 (iI 26) (wpList_nil (blkN (aae (⟨_,be,26,bK,bR,bS,bL,bM,bT,bU,bN,bO,bP,bQ,bV,bW,aV,bb,bd,bX,fR,(a2.sub.trans aI),cM,(mf cf aI),ch,(mp ci aI),(ms cj aI),(ck.mono (fun _ _ h=>h)),cl,h⟩))))))
          ·exact cF co (wp_skip (blkN (aae (⟨_,be,ay,bK,bR,bS,bL,bM,bT,bU,bN,bO,bP,bQ,bV,bW,aV,bb,bd,bX,fR,(a2.sub.trans aI),cM,(mf cf aI),ch,(mp ci aI),(ms cj aI),(ck.mono (fun _ _ h=>h)),cl,h⟩))))
       ·rintro _ en ⟨cH,av,aQ,bA,bB,bC,bD,bE,bF,bG,b8,b9,cb,bH,bI,bJ,ae,aT,aU,cc,rfl,bZ,cq,eo,ep,eq,es,dF,dG,h⟩;unfold ain at h;refine wp_seq (sr (m1 (iI aQ) (c0 (aQ != 0) (wt (cd h (fun cr h=>?_) (fun cr h=>?_))))))
        ·exact cT cr (wp_exit (aaF (blkO (by decide) (aaF (aaF (blkX (aae (⟨_,av,aQ,O,ak,al,ar,fR,((V.trans aH).trans bZ),(cq.sel [0,1,3]),(b6.mono (fun _ _ h=>RSlE.mono (R:=fun K=>(RInt .i64)) (fun _ _ _ h=>h) (aH.trans bZ) h)),cD,h⟩))))))))
        ·refine cF cr (wp_skip (aae (wp_region_lit (m1 (sl ak O al) (m1 (pp am 0) (nilc rfl (fd 7 aep rfl (l1 2 (sl aT ae aU) cq ah2 (bsl (e:=48) (cells:=#[sl aT ae aU]) (vs:=[(0,sl aT ae aU)]) cq rfl (aao aqE atb arR rfl (by decide) (by decide) rfl) (fun et dH=>?_))))))))));obtain ⟨ct,dI,cN,dJ⟩:=adr (i:=5) (bytes:=8) (R:=fun K=>(RInt .i64)) dH rfl (Nat.le_refl _) dF dG (fun hs=>(fun _ _ h=>h));obtain ⟨cO,h⟩:=aaG h;refine apR (R:=(RSlE Int (fun K=>(RInt .i64)) 1 8 ct)) (p:=ae) (i:=4) (j:=0) dI rfl rfl aqE avE rfl (by decide) rfl rfl (b6.mono (fun _ _ h=>RSlE.mono (R:=fun K=>(RInt .i64)) (fun _ _ _ h=>h) ((aH.trans bZ).trans cN) h)) ⟨_,_,rfl,dJ⟩ rfl rfl (Nat.le_refl _) cO (by decide) (fun cu cw cP dK dL dM=>?_);have dN:=apV dL;exact m2 (.slice cu (O ++ [ae]).length cw) (wpList_nil (blkN (aae (wp_region_lit (bar (r:=((aj + 1:Nat):Int)) rfl rfl (aaY (aa1 (((mf af V)).len) (by decide) (aad a1))) (m1 (iI ((aj + 1:Nat):Int)) (wt (⟨_,Nat.lt_succ_self _,_,ct,aq,aj + 1,aQ,(O ++ [ae]),cu,cw,cP,rfl,fR,(((V.trans aH).trans bZ).trans cN),(dN.sel [0,1,3]),aai a1,dM,(aaO cO),h⟩))))))))
   ·rintro _ eu ⟨cB,a4,aN,ax,aX,aY,b4,rfl,dO,cx,dP,dQ,h⟩;unfold air at h;refine wp_seq (sr (m1 (iI aN) (c0 (aN != 0) (wt (cd h (fun cy h=>?_) (fun cy h=>?_))))))
    ·refine cT cy (sr (bld (cells:=#[nS]) (vs:=[]) rfl (fun w=>by kernel_rfl) (m1 (iI aN) (sI 0 (.agg #[nS]) #[nS] cx aa2 rfl rfl (fun ew cQ=>(m2 nS (m2 (iI aN) (wt (wp_ret (aaw (ngR ?_)))))))))));have e_:=(Option.some.inj h).trans hr_;obtain ⟨dR,dS⟩:=Prod.mk.inj e_;subst dR;obtain ⟨dT,dU⟩:=Prod.mk.inj dS;subst dT;subst dU;exact apB rfl (resN (i:=0) (l:=[nS]) cQ rfl abC aa2 rfl rfl rfl) (resT rfl) (resT rfl) ⟨a4,[nS],none,0,rfl,(cQ.sel []),(aah.intro (RSl.nil _ _ _ _ _ _)),(RSl.nil _ _ _ _ _ _)⟩
    ·refine cF cy (wp_skip (aae (sr (lN 1 ([sl g f m]) cx abC aa2 (m1 (sl aX ax aY) (sI 0 (.agg #[sl g f m]) #[sl g f m] cx aa2 rfl rfl (fun ex cR=>(m2 (sl aX ax aY) (m2 (iI 0) (wt (wp_ret (ngR ?_))))))))))));obtain ⟨dV,dW,dX,dY⟩:=adr (i:=2) (bytes:=24) (R:=fun K=>(RSlE Int (fun K=>(RInt .i64)) 1 8 K)) cR rfl (Nat.le_refl _) dP dQ (fun hs=>(fun _ _ h=>RSlE.mono (R:=fun K=>(RInt .i64)) (fun _ _ _ h=>h) hs h));have e_:=(Option.some.inj h).trans hr_;obtain ⟨dZ,d0⟩:=Prod.mk.inj e_;subst dZ;obtain ⟨d1,d2⟩:=Prod.mk.inj d0;subst d1;subst d2;exact apB rfl (resN (i:=0) (l:=[sl g f m]) cR rfl abC aa2 rfl rfl rfl) (resT rfl) (resT rfl) ⟨dV,[sl g f m],aX,aY,rfl,(dW.sel []),(aah.intro (mf af (dO.trans dX))),dY⟩
theorem ao3 (k:Nat):aiX (f21 k):=ap4 k
theorem apo (k:Nat):aiS (aol k):=by
 unfold aiS;intro K wi U al c am an h hG V W;obtain ⟨r_,hr_,h⟩:=rz h;obtain ⟨t⟩:=U;obtain ⟨u,c1,rfl,X⟩:=aah.open V;refine enter Tryz.func15 rfl (n:=34) rfl ?_;unfold aol at h;refine sr (bxoC (cs:=#[sl u t c1]) W rfl rfl (fun ao x=>(m2 nS (m2 (iI 0) (wt (sr (lN 0 ([sl u t c1]) x abC aa2 ?_)))))));obtain ⟨⟨⟨p⟩,d,g⟩,Y,h⟩:=ob h;refine cv ([.agg #[sl u t c1]]) art ((ao3 k) Y (hG.mono kr) (aah.intro X) (pt x)) ?_;rintro _ ap ⟨q,aq,j,l,rfl,Z,ab,ac⟩;have ad:=ca Z x;obtain ⟨r,s,rfl,ar⟩:=aah.open ab;refine m1 (.tuple #[.agg #[sl r p s],sl j d l,iI g]) (ext (v:=.agg #[sl r p s]) rfl rfl (ext (v:=sl j d l) rfl rfl (ext (v:=iI g) rfl rfl (aC #[nS] ad aff (fun au ae=>(sI 0 (.agg #[sl r p s]) #[sl r p s] ae aa2 rfl rfl (fun av y=>(m2 (sl j d l) (m2 (iI g) (wt (aax (fun a w=>∃ J m,a=fr 34 (updL J [(1,iI c),(7,sl j d l),(8,iI m)])∧SR K q wi w [] []∧aij k c d m=some r_) ?_ ?_)))))))))))
 ·refine aax (fun a w=>∃ N z,a=fr 34 (updL N [(1,iI c),(7,sl j d l),(8,iI g),(26,.bool z)])∧SR K q wi w [] []∧ahm k c d g z=some r_) ?_ ?_
  ·refine wp_region_lit (m1 (iI g) (c0 (g == 0) (m1 (.bool (g == 0)) (cd h (fun e h=>?_) (fun e h=>?_)))))
   ·refine n1 17 e (m1 (iI c) (n1 17 e (c0 (decide (c < 0)) (n1 17 e (m1 (.bool (decide (c < 0))) (cd h (fun f h=>?_) (fun f h=>?_)))))))
    ·exact o1 20 f (o1 20 f (o1 20 f (o1 20 f (n1 17 e (m3 true vT (cg f) (m3 true vT (cg e) (wt (⟨_,true,fR,(y.sel []),h⟩))))))))
    ·exact n1 20 f (m1 (iI c) (n1 20 f (m1 (sl j d l) (n1 20 f (lS d.length aqE (n1 20 f (c0 (decide (c ≥ (d.length:Int))) (n1 17 e (m3 false (.bool (decide (c ≥ (d.length:Int)))) (cg f) (m3 true (.bool (decide (c ≥ (d.length:Int)))) (cg e) (wt (⟨_,(decide (c ≥ (d.length:Int))),fR,(y.sel []),h⟩))))))))))))
   ·exact o1 17 e (o1 17 e (o1 17 e (ou 20 (ou 20 (ou 20 (ou 20 (o1 17 e (m3 false vN (cg e) (wt (⟨_,false,fR,(y.sel []),h⟩))))))))))
  ·rintro _ aw ⟨N,z,rfl,O,h⟩;unfold ahm at h;refine cd h (fun A h=>?_) (fun A h=>?_)
   ·exact cT A (wp_region_lit (m2 (iI 2) (wt (⟨_,2,fR,O,h⟩))))
   ·exact cF A (wp_skip (aae (⟨_,g,fR,O,h⟩)))
 ·rintro _ ax ⟨J,m,rfl,B,h⟩;unfold aij at h;refine wp_seq (sr (m1 (iI m) (c0 (m != 0) (wt (cd h (fun C h=>?_) (fun C h=>?_))))))
  ·refine cT C (sr (m1 (iI m) (m2 nS (m2 (iI m) (wt (wp_ret (aaw ?_)))))));cases (oi h).trans hr_;exact af8 rfl (resT rfl) (resT rfl) ⟨q,none,0,rfl,B,(RSl.nil _ _ _ _ _ _)⟩
  ·refine cF C (wp_skip (aae (sr (m1 (sl j d l) (m1 (iI c) ?_)))));obtain ⟨S,D,h⟩:=ob h;obtain ⟨af,ag,ay,ah,az,ai,aj⟩:=(ac).row.at_ (aau D).1;obtain ⟨G,I,rfl,ak⟩:=aj;refine idxG (b:=af) (o:=ag) (i:=c) aqE atb rfl ah rfl (aau D).2.1 (aau D).2.2 (ld1 (v:=sl G S I) ah2 rfl (B.cell (kr.cell (ai 0 _ rfl))) (m2 (sl G S I) (m2 (iI 0) (wt (wp_ret ?_)))));cases (oi h).trans hr_;exact af8 rfl (resT rfl) (resT rfl) ⟨q,G,I,rfl,B,ak⟩
theorem atY (k:Nat):aiS (f15 k):=apo k
theorem aqy (k:Nat):ajf (arZ k):=by
 unfold ajf;intro K wi X ai aj h hG Y Z;obtain ⟨r_,hr_,h⟩:=rz h;obtain ⟨c,b,e⟩:=X;obtain ⟨rfl,ab⟩:=aaJ.open Y;refine enter Tryz.func27 rfl (n:=76) rfl ?_;unfold arZ at h;refine sr (bxoC (cs:=#[iI c,iI b,.string e]) Z rfl rfl (fun ak d=>(m2 vN (wt (sr (lN 0 ([iI c,iI b,.string e]) d anx ae9 (fd 0 ahW rfl (l1 0 (iI c) d Tya3 (fd 1 adH rfl (l1 0 (iI b) d Tya3 (bld (cells:=#[iI c,iI b,sE]) (vs:=[(0,iI c),(1,iI b)]) rfl (fun w=>by kernel_rfl) (bii (r:=(((c == c && (b == b && seq e ⟨#[]⟩))) == true)) (.of auy) rfl rfl rfl (m2 (.bool (((c == c && (b == b && seq e ⟨#[]⟩))) == true)) (wt (wp_seq (sr (fd 0 ahW rfl (l1 0 (iI c) d Tya3 (wt (wp_block (sr (c0 (c == 0) (m2 (.bool (c == 0)) (wt (cd h (fun s h=>?_) (fun s h=>?_))))))))))))))))))))))))))
 ·refine cT s (sr (lN 0 ([iI c,iI b,.string e]) d anx ae9 (bld (cells:=#[iI 0,iI 0,sE]) (vs:=[]) rfl (fun w=>by kernel_rfl) (bii (r:=(((c == 0 && (b == 0 && seq e ⟨#[]⟩))) == true)) (.of auy) rfl rfl rfl (m2 (.bool (((c == 0 && (b == 0 && seq e ⟨#[]⟩))) == true)) (wt (wp_ret (blkR (aaw ?_)))))))));cases (oi h).trans hr_;exact aas rfl (resT rfl) ⟨K,rfl,(d.sel [])⟩
 ·refine cF s (sr (c0 (c == 1) (m2 (.bool (c == 1)) (wt (cd h (fun t h=>?_) (fun t h=>?_))))))
  ·refine cT t (aax (fun a w=>∃ O u,a=fr 76 (updL O [(2,.bool u)])∧SR K K wi w [] []∧akK k u=some r_) ?_ ?_)
   ·refine wp_region_lit (m1 (.bool (((c == c && (b == b && seq e ⟨#[]⟩))) == true)) (m1 (.bool (((c == c && (b == b && seq e ⟨#[]⟩))) == true)) (cd h (fun g h=>?_) (fun g h=>?_))))
    ·refine n1 23 g (fd 1 adH rfl (n1 23 g (l1 0 (iI b) d Tya3 (n1 23 g (c0 (decide (b ≥ (-1000000000000))) (m3 true (.bool (decide (b ≥ (-1000000000000)))) (cg g) (m1 (.bool (decide (b ≥ (-1000000000000)))) (cd h (fun i h=>?_) (fun i h=>?_)))))))))
     ·exact n1 28 i (fd 1 adH rfl (n1 28 i (l1 0 (iI b) d Tya3 (n1 28 i (c0 (decide (b ≤ 1000000000000)) (m3 true (.bool (decide (b ≤ 1000000000000))) (cg i) (m2 (.bool (decide (b ≤ 1000000000000))) (wt (⟨_,(decide (b ≤ 1000000000000)),fR,(d.sel []),h⟩)))))))))
     ·exact o1 28 i (o1 28 i (o1 28 i (m3 false vN (cg i) (m2 vN (wt (⟨_,false,fR,(d.sel []),h⟩))))))
    ·exact o1 23 g (o1 23 g (o1 23 g (m3 false vN (cg g) (m1 vN (o0 28 (o0 28 (o0 28 (m3 false vN rfl (m2 vN (wt (⟨_,false,fR,(d.sel []),h⟩)))))))))))
   ·rintro _ al ⟨O,u,rfl,ac,h⟩;unfold akK at h;refine wp_ret (blkR (aaw ?_));cases (oi h).trans hr_;exact aas rfl (resT rfl) ⟨K,rfl,ac⟩
  ·refine cF t (sr (c0 (c == 2) (m2 (.bool (c == 2)) (wt (cd h (fun x h=>?_) (fun x h=>?_))))))
   ·refine cT x (aax (fun a w=>∃ S y,a=fr 76 (updL S [(2,.bool y)])∧SR K K wi w [] []∧akN k y=some r_) ?_ ?_)
    ·refine wp_region_lit (m1 (.bool (((c == c && (b == b && seq e ⟨#[]⟩))) == true)) (m1 (.bool (((c == c && (b == b && seq e ⟨#[]⟩))) == true)) (cd h (fun f h=>?_) (fun f h=>?_))))
     ·refine n1 36 f (fd 1 adH rfl (n1 36 f (l1 0 (iI b) d Tya3 (n1 36 f (c0 (b == 0) (n1 36 f (m1 (.bool (b == 0)) (cd h (fun j h=>?_) (fun j h=>?_)))))))))
      ·exact o1 40 j (o1 40 j (o1 40 j (n1 36 f (m3 true vT (cg j) (m3 true vT (cg f) (m2 vT (wt (⟨_,true,fR,(d.sel []),h⟩))))))))
      ·exact n1 40 j (fd 1 adH rfl (n1 40 j (l1 0 (iI b) d Tya3 (n1 40 j (c0 (b == 1) (n1 36 f (m3 false (.bool (b == 1)) (cg j) (m3 true (.bool (b == 1)) (cg f) (m2 (.bool (b == 1)) (wt (⟨_,(b == 1),fR,(d.sel []),h⟩)))))))))))
     ·exact o1 36 f (o1 36 f (o1 36 f (o1 36 f (ou 40 (ou 40 (ou 40 (o1 36 f (m3 false vN (cg f) (m2 vN (wt (⟨_,false,fR,(d.sel []),h⟩)))))))))))
    ·rintro _ am ⟨S,y,rfl,ad,h⟩;unfold akN at h;refine wp_ret (blkR (aaw ?_));cases (oi h).trans hr_;exact aas rfl (resT rfl) ⟨K,rfl,ad⟩
   ·refine cF x (sr (c0 (c == 3) (m2 (.bool (c == 3)) (wt (cd h (fun z h=>?_) (fun z h=>?_))))))
    ·refine cT z (sr (fd 2 arL rfl (l1 0 (.string e) d Tya9 ?_)));obtain ⟨o,ae,h⟩:=ob h;refine cv ([.string e]) avu (amG k (ark k) ae (hG.mono (KW.sub d.le)) ab (Sx.all _)) ?_;rintro _ an ⟨ao,A,rfl,af⟩;have B:=d.lend af;refine m1 (.tuple #[.string A,iI (cond o (0:Int) 2)]) (ext (v:=.string A) rfl rfl (ext (v:=iI (cond o (0:Int) 2)) rfl rfl (m2 (.string A) (m2 (iI (cond o (0:Int) 2)) (wt (aax (fun a w=>∃ U C,a=fr 76 (updL U [(2,.bool C)])∧SR K K wi w [] []∧al8 k C=some r_) ?_ ?_))))))
     ·refine wp_region_lit (fd 1 adH rfl (l1 0 (iI b) B Tya3 (c0 (b == 0) (m1 (.bool (b == 0)) (cd h (fun p h=>?_) (fun p h=>?_))))))
      ·exact n1 57 p (m1 (iI (cond o (0:Int) 2)) (n1 57 p (c0 ((cond o (0:Int) 2) == 0) (m3 true (.bool ((cond o (0:Int) 2) == 0)) (cg p) (m2 (.bool ((cond o (0:Int) 2) == 0)) (wt (⟨_,((cond o (0:Int) 2) == 0),fR,(B.sel []),h⟩)))))))
      ·exact o1 57 p (o1 57 p (m3 false vN (cg p) (m2 vN (wt (⟨_,false,fR,(B.sel []),h⟩)))))
     ·rintro _ ap ⟨U,C,rfl,ag,h⟩;unfold al8 at h;refine wp_ret (blkR (aaw ?_));cases (oi h).trans hr_;exact aas rfl (resT rfl) ⟨K,rfl,ag⟩
    ·refine cF z (aax (fun a w=>∃ V D,a=fr 76 (updL V [(1,pp (zz wi) 0),(3,.bool (((c == c && (b == b && seq e ⟨#[]⟩))) == true)),(61,.bool D)])∧SR K K wi w [] [.box (zz wi) (zz wi) #[iI c,iI b,.string e] 55]∧akk k c b e D=some r_) ?_ ?_)
     ·refine sr (c0 (c == 4) (m2 (.bool (c == 4)) (wt (cd h (fun G h=>?_) (fun G h=>?_)))))
      ·exact cT G (wp_skip (aae (⟨_,(c == 4),fR,d,h⟩)))
      ·refine cF G (sr (c0 (c == 5) (m2 (.bool (c == 5)) (wt (cd h (fun I h=>?_) (fun I h=>?_))))))
       ·exact cT I (wp_skip (aae (⟨_,(c == 5),fR,d,h⟩)))
       ·exact cF I (wp_region_lit (c0 (c == 6) (m2 (.bool (c == 6)) (wt (⟨_,(c == 6),fR,d,h⟩)))))
     ·rintro _ aq ⟨V,D,rfl,q,h⟩;unfold akk at h;refine cd h (fun J h=>?_) (fun J h=>?_)
      ·refine cT J (aax (fun a w=>∃ W N,a=fr 76 (updL W [(2,.bool N)])∧SR K K wi w [] []∧ala k N=some r_) ?_ ?_)
       ·refine wp_region_lit (m1 (.bool (((c == c && (b == b && seq e ⟨#[]⟩))) == true)) (m1 (.bool (((c == c && (b == b && seq e ⟨#[]⟩))) == true)) (cd h (fun l h=>?_) (fun l h=>?_))))
        ·refine n1 66 l (fd 1 adH rfl (n1 66 l (l1 0 (iI b) q Tya3 (n1 66 l (c0 (decide (b ≥ 1)) (m3 true (.bool (decide (b ≥ 1))) (cg l) (m1 (.bool (decide (b ≥ 1))) (cd h (fun m h=>?_) (fun m h=>?_)))))))))
         ·exact n1 71 m (fd 1 adH rfl (n1 71 m (l1 0 (iI b) q Tya3 (n1 71 m (c0 (decide (b ≤ 1000000000000)) (m3 true (.bool (decide (b ≤ 1000000000000))) (cg m) (m2 (.bool (decide (b ≤ 1000000000000))) (wt (⟨_,(decide (b ≤ 1000000000000)),fR,(q.sel []),h⟩)))))))))
         ·exact o1 71 m (o1 71 m (o1 71 m (m3 false vN (cg m) (m2 vN (wt (⟨_,false,fR,(q.sel []),h⟩))))))
        ·exact o1 66 l (o1 66 l (o1 66 l (m3 false vN (cg l) (m1 vN (o0 71 (o0 71 (o0 71 (m3 false vN rfl (m2 vN (wt (⟨_,false,fR,(q.sel []),h⟩)))))))))))
       ·rintro _ ar ⟨W,N,rfl,ah,h⟩;unfold ala at h;refine wp_ret (blkR (aaw ?_));cases (oi h).trans hr_;exact aas rfl (resT rfl) ⟨K,rfl,ah⟩
      ·refine cF J (wp_skip (blkN (aae (sr (m2 vN (wt (wp_ret ?_)))))));cases (oi h).trans hr_;exact aas rfl (resT rfl) ⟨K,rfl,(q.sel [])⟩
theorem auD (k:Nat):ajf (f27 k):=aqy k
theorem aqD (k:Nat):aiG (aqi k):=by
 unfold aiG;intro K wi aZ bz u p W X bA h hG a3 ax a4;obtain ⟨r_,hr_,h⟩:=rz h;obtain ⟨ac⟩:=aZ;obtain ⟨ad,c1,rfl,a5⟩:=aah.open a3;refine enter Tryz.func17 rfl (n:=62) rfl ?_;unfold aqi at h;refine sr (bxoC (cs:=#[sl ad ac c1]) a4 rfl rfl (fun bB ae=>(m2 (iI 0) (wt (sr (lN 0 ([sl ad ac c1]) ae abC aa2 ?_))))));obtain ⟨⟨⟨t⟩,af,A⟩,a6,h⟩:=ob h;refine cv ([.agg #[sl ad ac c1]]) art ((ao3 k) a6 (hG.mono kr) (aah.intro a5) (pt ae)) ?_;rintro _ ay ⟨ag,bC,ah,ai,rfl,B,a7,bD⟩;have a8:=ca B ae;obtain ⟨C,D,rfl,a9⟩:=aah.open a7;refine m1 (.tuple #[.agg #[sl C t D],sl ah af ai,iI A]) (ext (v:=.agg #[sl C t D]) rfl rfl (ext (v:=sl ah af ai) rfl rfl (ext (v:=iI A) rfl rfl (aC #[nS] a8 aff (fun bE ba=>(sI 0 (.agg #[sl C t D]) #[sl C t D] ba aa2 rfl rfl (fun bF Z=>(m2 (sl ah af ai) (m2 (iI A) (wt (wp_seq (sr (m1 (iI A) (c0 (A != 0) (wt (cd h (fun aj h=>?_) (fun aj h=>?_)))))))))))))))))
 ·refine cT aj (sr (m1 (iI A) (m2 (iI A) (wt (wp_ret (aaw ?_))))));cases (oi h).trans hr_;exact aas rfl (resT rfl) ⟨ag,rfl,(Z.sel [])⟩
 ·refine cF aj (wp_skip (aae (wp_seq (aax (fun a w=>∃ az ak,a=fr 62 (updL az [(1,iI u),(2,sl W p X),(7,pp (zz ay) 0),(30,.bool ak)])∧SR K ag wi w [] [.box (zz wi) (zz ay) #[sl C t D] 24]∧ak0 k u p t ak=some r_) ?_ ?_))))
  ·refine wp_region_lit (m1 (iI u) (c0 (decide (u < 0)) (m1 (.bool (decide (u < 0))) (cd h (fun s h=>?_) (fun s h=>?_)))))
   ·exact o1 24 s (o1 24 s (o1 24 s (o1 24 s (o1 24 s (m3 true vT (cg s) (wt (⟨_,true,fR,(Z.sel [0]),h⟩)))))))
   ·exact n1 24 s (m1 (iI u) (n1 24 s (fd 0 abU rfl (n1 24 s (l1 0 (sl C t D) Z aeL (n1 24 s (lS t.length ac3 (n1 24 s (c0 (decide (u ≥ (t.length:Int))) (m3 false (.bool (decide (u ≥ (t.length:Int)))) (cg s) (wt (⟨_,(decide (u ≥ (t.length:Int))),fR,(Z.sel [0]),h⟩))))))))))))
  ·rintro _ bG ⟨az,ak,rfl,N,h⟩;unfold ak0 at h;refine cd h (fun al h=>?_) (fun al h=>?_)
   ·refine cT al (sr (m2 (iI 2) (wt (wp_ret (aaw ?_)))));cases (oi h).trans hr_;exact aas rfl (resT rfl) ⟨ag,rfl,(N.sel [])⟩
   ·refine cF al (wp_skip (aae (sr (fd 0 abU rfl (l1 0 (sl C t D) N aeL (m1 (iI u) ?_))))));obtain ⟨⟨aA,aB,aG,aH,aI,aJ⟩,am,h⟩:=ob h;obtain ⟨bb,bd,bH,be,bI,bf,aK⟩:=(a9).row.at_ (aau am).1;obtain ⟨aL,aM,aN,aP,rfl,bJ,bK,bL⟩:=aav.open aK;refine idxG (b:=bb) (o:=bd) (i:=u) ac3 aby rfl be rfl (aau am).2.1 (aau am).2.2 (lD (vF aA aL aB aM aG aH aI aN aJ aP) adi aby rfl (fun j v hj=>N.cell (kr.cell (bf j v hj))) ?_);obtain ⟨g,bg,h⟩:=ob h;refine cv ([.agg (aF aA aL aB aM aG aH aI aN aJ aP)]) alf ((ahh k) bg (hG.mono B.sub) aK (pt N)) ?_;rintro _ bM ⟨an,x,y,ao,rfl,O,bh,bN⟩;have bi:=ca O N;have aQ:=bi.lower_ (i:=0) rfl N.size;refine m2 (sl x g y) (wt (wp_seq (sr (m1 (sl x g y) (lS g.length abu (m1 (sl W p X) (lS p.length ah3 (c0 ((g.length:Int) != (p.length:Int)) (wt (cd h (fun ap h=>?_) (fun ap h=>?_)))))))))))
    ·refine cT ap (sr (m2 (iI 24) (wt (wp_ret (aaw ?_)))));cases (oi h).trans hr_;exact aas rfl (resT rfl) ⟨an,rfl,(aQ.sel [])⟩
    ·refine cF ap (wp_skip (aae (wp_seq (sr (m1 (sl W p X) (lS p.length ah3 (m1 (iI 0) (wt (wp_block (aaA (fun g_ a w=>∃ aT S z,∃ (m:Nat),g_=z.length∧a=fr 62 (updL aT [(10,sl x g y),(42,sl W p X),(43,iI (p.length:Int)),(44,iI (m:Int))])∧KH.sub an S∧SR K S wi w [] [eW (zz wi) x g y 3 1 ao]∧p.drop m=z∧adw k g z m=some r_) p.length ?_ ?_))))))))))
     ·exact ⟨_,an,p,0,rfl,fR,kr,(aQ.sel [0]),List.drop_zero,h⟩
     ·rintro _ _ aU ⟨aT,S,z,m,rfl,rfl,U,aq,V,h⟩;rcases z with _ | ⟨⟨q,G,I⟩,z⟩
      ·unfold adw at h;refine sr (bcm (r:=false) rfl rfl (congrArg some (aaq V)) (wt (wp_seq (cndF rfl (wp_exit (aaF (aaF (blkX (aae (sr (m2 (iI 0) (wt (wp_ret ?_)))))))))))));cases (oi h).trans hr_;exact aas rfl (resT rfl) ⟨S,rfl,(aq.sel [])⟩
      ·unfold adw at h;refine sr (bcm (r:=true) rfl rfl (congrArg some (aar V)) (wt (wp_seq (cndT rfl (wp_skip (aae (wp_seq (wp_block (sr (m1 (iI (m:Int)) ?_))))))))));obtain ⟨bj,bk,bO,bm,bP,bn,bo⟩:=((ax.mono ((B.sub.trans O.sub).trans U) (fun _ _ h=>aaJ.mono ((B.sub.trans O.sub).trans U) h))).row.at_ (aan V);obtain ⟨rfl,bp⟩:=aaJ.open bo;refine idxN (b:=bj) (o:=bk) (i:=m) ah3 ae9 rfl bm rfl (aad V) (lD ([iI q,iI G,.string I]) anx ae9 rfl (fun j v hj=>aq.cell (kr.cell (bn j v hj))) (aC #[iI 0,iI 0,sE] aq apT (fun bQ bq=>(m2 (iI (m:Int)) (sI 0 (.agg #[iI q,iI G,.string I]) #[iI q,iI G,.string I] bq ae9 rfl rfl (fun bR br=>(wt (aax (fun a w=>∃ aV Y ar,a=fr 62 (updL aV [(10,sl x g y),(42,sl W p X),(43,iI (p.length:Int)),(44,iI (m:Int)),(60,.bool ar)])∧KH.sub S Y∧SR K Y wi w [] [eW (zz wi) x g y 3 1 ao]∧agY k m ar (adw k g z)=some r_) ?_ ?_))))))))
       ·have au:=br.drew;refine afx (E:=[]) (F:=FW S [.box (zz wi) (zz aU) #[iI q,iI G,.string I] 55,eW (zz wi) x g y 3 1 ao]) (L:=(lb 12 0)) ymx rfl rfl (tT 0 (.agg #[iI q,iI G,.string I]) [] rfl (fq [0,1] au) (fun w hF=>alK (i:=0) (l:=[iI q,iI G,.string I]) hF rfl anx ae9 rfl rfl rfl) (aO 1 rfl ?_));obtain ⟨ab,bs,h⟩:=ob h;refine cv ([.agg #[iI q,iI G,.string I]]) avN ((auD k) bs (hG.mono ((B.sub.trans O.sub).trans U)) (aaJ.intro bp) (pt au)) ?_;rintro _ bS ⟨aW,rfl,c⟩;have e:=ca c au;refine wb (fwOf (is:=[0,1]) e c.sub rfl) (fun q0=>kK 2 (.bool (!ab)) rfl (fun w=>akF (a:=ab) rfl) q0 (kM 3 (.bool (!ab)) rfl q0 (cd h (fun f h=>?_) (fun f h=>?_))))
        ·exact tkO (i:=4) (d:=52) (L':=(lb 12 31)) rfl rfl rfl (by kernel_rfl) (by kernel_rfl) (fun _ _ d _ _ h=>by cases d<;>exact h) rfl (.inl (cg f)) (abV (fwOf (is:=[0,1]) e c.sub rfl)) rfl (tkO (i:=5) (d:=52) (L':=(lb 12 63)) rfl rfl rfl (by kernel_rfl) (by kernel_rfl) (fun _ _ d _ _ h=>by cases d<;>exact h) rfl (.inl (cg f)) (abV (fwOf (is:=[0,1]) e c.sub rfl)) rfl (tkO (i:=6) (d:=52) (L':=(lb 12 127)) rfl rfl rfl (by kernel_rfl) (by kernel_rfl) (fun _ _ d _ _ h=>by cases d<;>exact h) rfl (.inl (cg f)) (abV (fwOf (is:=[0,1]) e c.sub rfl)) rfl (tkO (i:=7) (d:=52) (L':=(lb 12 255)) rfl rfl rfl (by kernel_rfl) (by kernel_rfl) (fun _ _ d _ _ h=>by cases d<;>exact h) rfl (.inl (cg f)) (abV (fwOf (is:=[0,1]) e c.sub rfl)) rfl (tkO (i:=8) (d:=52) (L':=(lb 12 511)) rfl rfl rfl (by kernel_rfl) (by kernel_rfl) (fun _ _ d _ _ h=>by cases d<;>exact h) rfl (.inl (cg f)) (abV (fwOf (is:=[0,1]) e c.sub rfl)) rfl (tkO (i:=9) (d:=52) (L':=(lb 12 1023)) rfl rfl rfl (by kernel_rfl) (by kernel_rfl) (fun _ _ d _ _ h=>by cases d<;>exact h) rfl (.inl (cg f)) (abV (fwOf (is:=[0,1]) e c.sub rfl)) rfl (tkO (i:=10) (d:=52) (L':=(lb 12 2047)) rfl rfl rfl (by kernel_rfl) (by kernel_rfl) (fun _ _ d _ _ h=>by cases d<;>exact h) rfl (.inl (cg f)) (abV (fwOf (is:=[0,1]) e c.sub rfl)) rfl (kK 11 vT rfl (fun w=>acU (b:=true) (v:=vT) (cg f) rfl) (fwOf (is:=[0,1]) e c.sub rfl) (aD (aae (⟨_,aW,true,fR,c.sub,(e.sel [1]),h⟩))))))))))
        ·refine tkPG (i:=4) (d:=52) (v:=pp (zz aU) 0) (L':=(lb 12 31)) rfl (by kernel_rfl) (by kernel_rfl) (fun _ _ d _ _ h=>by cases d<;>exact h) rfl (cg f) (fun w=>akw (o':=0) ahW rfl rfl) (abV (fwOf (is:=[0,1]) e c.sub rfl)) rfl (tkFG (i:=5) (d:=52) (v:=iI q) (ps:=[]) (L':=(lb 12 63)) rfl (by kernel_rfl) (by kernel_rfl) (by kernel_rfl) (by kernel_rfl) (fun _ _ d _ _ h=>by cases d<;>exact h) rfl (cg f) (fwOf (is:=[0,1]) e c.sub rfl) (fun w hF=>atK (i:=0) (v:=iI q) hF rfl Tya3 rfl rfl) rfl (tkPG (i:=6) (d:=52) (v:=sl x g y) (L':=(lb 12 127)) rfl (by kernel_rfl) (by kernel_rfl) (fun _ _ d _ _ h=>by cases d<;>exact h) rfl (cg f) (fun w=>mv_r (v:=sl x g y) rfl) (abV (fwOf (is:=[0,1]) e c.sub rfl)) rfl (tkPG (i:=7) (d:=52) (v:=iI (m:Int)) (L':=(lb 12 255)) rfl (by kernel_rfl) (by kernel_rfl) (fun _ _ d _ _ h=>by cases d<;>exact h) rfl (cg f) (fun w=>mv_r (v:=iI (m:Int)) rfl) (abV (fwOf (is:=[0,1]) e c.sub rfl)) rfl ?_)));obtain ⟨J,av,h⟩:=ob h;obtain ⟨aX,bT,bu,bU,bv,bw⟩:=aib (e.entAt (i:=1) rfl) (bh.mono (fun _ _ h=>h)) (aau av).1;obtain rfl:=bv;exact tkPG (i:=8) (d:=52) (v:=.pointer (some ⟨aX,0 + (m:Int).toNat * 1,none⟩)) (L':=(lb 12 511)) rfl (by kernel_rfl) (by kernel_rfl) (fun _ _ d _ _ h=>by cases d<;>exact h) rfl (cg f) (fun w=>aeM (b:=aX) (o:=0) (i:=(m:Int)) abu Tys3 rfl bu rfl (aau av).2.1 (aau av).2.2) (abV (fwOf (is:=[0,1]) e c.sub rfl)) rfl (tkFG (i:=9) (d:=52) (v:=iI J) (ps:=[]) (L':=(lb 12 1023)) rfl (by kernel_rfl) (by kernel_rfl) (by kernel_rfl) (by kernel_rfl) (fun _ _ d _ _ h=>by cases d<;>exact h) rfl (cg f) (fwOf (is:=[0,1]) e c.sub rfl) (fun w hF=>ah0 (v:=iI J) Tya3 rfl (bw _ (hF.entAt (i:=1) rfl) 0 _ rfl)) rfl (tkPG (i:=10) (d:=52) (v:=.bool (q != J)) (L':=(lb 12 2047)) rfl (by kernel_rfl) (by kernel_rfl) (fun _ _ d _ _ h=>by cases d<;>exact h) rfl (cg f) (fun w=>am2 (r:=(q != J)) rfl rfl rfl) (abV (fwOf (is:=[0,1]) e c.sub rfl)) rfl (kK 11 (.bool (q != J)) rfl (fun w=>acU (b:=false) (v:=.bool (q != J)) (cg f) rfl) (fwOf (is:=[0,1]) e c.sub rfl) (aD (aae (⟨_,aW,(q != J),fR,c.sub,(e.sel [1]),h⟩))))))
       ·rintro _ bV ⟨aV,Y,ar,rfl,bx,aY,h⟩;unfold agY at h;refine cd h (fun aw h=>?_) (fun aw h=>?_)
        ·refine cT aw (sr (m2 (iI 23) (wt (wp_ret (blkR (aaw (aaw (blkR (aaw ?_)))))))));cases (oi h).trans hr_;exact aas rfl (resT rfl) ⟨Y,rfl,(aY.sel [])⟩
        ·exact cF aw (wp_skip (blkN (aae (wp_region_lit (bar (r:=((m + 1:Nat):Int)) rfl rfl (aaY (aa1 (((ax.mono ((B.sub.trans O.sub).trans U) (fun _ _ h=>aaJ.mono ((B.sub.trans O.sub).trans U) h))).len) (by decide) (aad V))) (m1 (iI ((m + 1:Nat):Int)) (wt (⟨_,Nat.lt_succ_self _,_,Y,z,m + 1,rfl,fR,(U.trans bx),aY,aai V,h⟩))))))))
theorem amC (k:Nat):aiG (f17 k):=aqD k
theorem aph (k:Nat) (F:ao6) (IH28:aeW F.f28):aeW (anJ k F):=by
 unfold aeW;intro K wi e s t f ad h hG A B;obtain ⟨r_,hr_,h⟩:=rz h;refine enter Tryz.func28 rfl (n:=31) rfl ?_;unfold anJ at h;refine sr (m2 (iI 0) (wt (wp_seq (sr (m1 (iI f) (c0 (decide (f > 60)) (wt (cd h (fun x h=>?_) (fun x h=>?_)))))))))
 ·refine cT x (sr (m2 (iI 4000) (wt (wp_ret (aaw ?_)))));cases (oi h).trans hr_;exact aas rfl (resT rfl) ⟨K,rfl,B⟩
 ·refine cF x (wp_skip (aae (sr (m2 (iI 0) (wt (aax (fun a w=>∃ C u m,a=fr 31 (updL C [(5,iI m)])∧KH.sub K u∧SR K u wi w [] []∧amg k F m=some r_) ?_ ?_))))))
  ·refine sr (m2 (iI 0) (wt (wp_block (aaA (fun g_ a w=>∃ D p g,∃ (c:Nat),∃ d,g_=g.length∧a=fr 31 (updL D [(0,sl s e t),(1,iI f),(5,iI d),(6,iI (c:Int))])∧KH.sub K p∧SR K p wi w [] []∧e.drop c=g∧ahR k F f g c d=some r_) e.length ?_ ?_))))
   ·exact ⟨_,K,e,0,0,rfl,fR,kr,B,List.drop_zero,h⟩
   ·rintro _ _ ae ⟨D,p,g,c,d,rfl,rfl,j,q,l,h⟩;rcases g with _ | ⟨⟨af,ag,ah,ai,G⟩,g⟩
    ·unfold ahR at h;exact wp_seq (sr (m1 (iI (c:Int)) (m1 (sl s e t) (lS e.length ab2 (bcm (r:=false) rfl rfl (congrArg some (aaq l)) (m1 vN (o0 13 (o0 13 (m3 false vN rfl (wt (cndF rfl (wp_exit (aaF (aaF (blkX (aae (⟨_,p,d,fR,j,q,h⟩)))))))))))))))))
    ·unfold ahR at h;refine wp_seq (sr (m1 (iI (c:Int)) (m1 (sl s e t) (lS e.length ab2 (bcm (r:=true) rfl rfl (congrArg some (aar l)) (m1 vT (n0 13 (m1 (iI d) (n0 13 (c0 (decide (d ≤ 2000)) (m3 true (.bool (decide (d ≤ 2000))) rfl (wt (cd h (fun y h=>?_) (fun y h=>?_))))))))))))))
     ·refine cT y (wp_skip (aae (wp_seq (wp_block (wp_region_lit (m1 (iI d) (bar (r:=(w64 (d + 1))) rfl rfl rfl (m1 (sl s e t) (m1 (iI (c:Int)) ?_)))))))));obtain ⟨S,I,aj,U,ak,V,W⟩:=((me A j)).row.at_ (aan l);obtain ⟨J,N,rfl,al,X⟩:=aam.open W;refine idxN (b:=S) (o:=I) (i:=c) ab2 abh rfl U rfl (aad l) (fd (I + c * 5 + 4) acC rfl (ld1 (v:=sl J G N) acb rfl (q.cell (kr.cell (V 4 _ rfl))) (m1 (iI f) (bar (r:=(w64 (f + 1))) rfl rfl rfl ?_))));obtain ⟨z,Y,h⟩:=ob h;refine cv ([sl J G N,iI (w64 (f + 1))]) ar6 (IH28 Y (hG.mono j) X (pt q)) ?_;rintro _ am ⟨Z,rfl,O⟩;have ab:=ca O q;exact bar (r:=(w64 ((w64 (d + 1)) + z))) rfl rfl rfl (m2 (iI (w64 ((w64 (d + 1)) + z))) (wpList_nil (blkN (aae (wp_region_lit (m1 (iI (c:Int)) (bar (r:=((c + 1:Nat):Int)) rfl rfl (aaY (aa1 (((me A j)).len) (by decide) (aad l))) (m2 (iI ((c + 1:Nat):Int)) (wt (⟨_,Nat.lt_succ_self _,_,Z,g,c + 1,(w64 ((w64 (d + 1)) + z)),rfl,fR,(j.trans O.sub),ab,aai l,h⟩))))))))))
     ·exact cF y (wp_exit (aaF (aaF (blkX (aae (⟨_,p,d,fR,j,q,h⟩))))))
  ·rintro _ an ⟨C,u,m,rfl,ao,ac,h⟩;unfold amg at h;refine sr (m1 (iI m) (m2 (iI m) (wt (wp_ret ?_))));cases (oi h).trans hr_;exact aas rfl (resT rfl) ⟨u,rfl,ac⟩
theorem apc (k0:Nat) : ∀ k,aeW (alM k0 k).f28:=by
 intro k;induction k with
 | zero=>exact (by unfold aeW; intro _ _ _ _ _ _ _ h_; cases h_)
 | succ k ih=>exact aph k0 (alM k0 k) ih
theorem are (k:Nat):aeW (f28 k):=(apc k k)
theorem aqg (k:Nat) (F:alU) (IH18:ae0 F.f18):ae0 (aoI k F):=by
 unfold ae0;intro K wi y ak al c bG h hG a4 a5;obtain ⟨r_,hr_,h⟩:=rz h;refine enter Tryz.func18 rfl (n:=85) rfl ?_;unfold aoI at h;refine sr (m2 (iI 0) (wt (wp_seq (sr (m1 (iI c) (c0 (decide (c > 40)) (wt (cd h (fun aT h=>?_) (fun aT h=>?_)))))))))
 ·refine cT aT (sr (m2 (iI 4000) (wt (wp_ret (aaw ?_)))));cases (oi h).trans hr_;exact aas rfl (resT rfl) ⟨K,rfl,a5⟩
 ·refine cF aT (wp_skip (aae (sr (m2 (iI 0) (wt (aax (fun a w=>∃ a6 aG ax,a=fr 85 (updL a6 [(5,iI ax)])∧KH.sub K aG∧SR K aG wi w [] []∧amc k F ax=some r_) ?_ ?_))))))
  ·refine sr (m2 (iI 0) (wt (wp_block (aaA (fun g_ a w=>∃ a7 ae D,∃ (s:Nat),∃ d,g_=D.length∧a=fr 85 (updL a7 [(0,sl ak y al),(1,iI c),(5,iI d),(6,iI (s:Int))])∧KH.sub K ae∧SR K ae wi w [] []∧y.drop s=D∧afq k F c D s d=some r_) y.length ?_ ?_))))
   ·exact ⟨_,K,y,0,0,rfl,fR,kr,a5,List.drop_zero,h⟩
   ·rintro _ _ B ⟨a7,ae,D,s,d,rfl,rfl,z,aH,am,h⟩;rcases D with _ | ⟨⟨an,ao,ap,aq,ar,au,G,I,J,N,q⟩,D⟩
    ·unfold afq at h;exact wp_seq (sr (m1 (iI (s:Int)) (m1 (sl ak y al) (lS y.length abA (bcm (r:=false) rfl rfl (congrArg some (aaq am)) (m1 vN (o0 15 (o0 15 (m3 false vN rfl (wt (cndF rfl (wp_exit (aaF (aaF (blkX (aae (⟨_,ae,d,fR,z,aH,h⟩)))))))))))))))))
    ·unfold afq at h;refine wp_seq (sr (m1 (iI (s:Int)) (m1 (sl ak y al) (lS y.length abA (bcm (r:=true) rfl rfl (congrArg some (aar am)) (m1 vT (n0 15 (m1 (iI d) (n0 15 (c0 (decide (d ≤ 2000)) (m3 true (.bool (decide (d ≤ 2000))) rfl (wt (cd h (fun aU h=>?_) (fun aU h=>?_))))))))))))))
     ·refine cT aU (wp_skip (aae (aax (fun a w=>∃ a8 aI aJ,a=fr 85 (updL a8 [(0,sl ak y al),(1,iI c),(5,iI aJ),(6,iI (s:Int))])∧KH.sub ae aI∧SR K aI wi w [] []∧amD k F s aJ (afq k F c D)=some r_) ?_ ?_)))
      ·refine wp_block (sr (m1 (sl ak y al) (m1 (iI (s:Int)) ?_)));obtain ⟨bf,bg,bH,bh,bI,bi,bj⟩:=((ms a4 z)).row.at_ (aan am);obtain ⟨O,S,U,V,W,X,Y,Z,u,x,rfl,bJ,bK,bk,bm,bn,bo,a9⟩:=aaj.open bj;refine idxN (b:=bf) (o:=bg) (i:=s) abA aaX rfl bh rfl (aad am) (lD (vS an ao ap aq ar au O G S U I V W J X Y N Z u q x) ack aaX rfl (fun j v hj=>aH.cell (kr.cell (bi j v hj))) (aC zS.toArray aH adc (fun bL bp=>(sI 0 (.agg (aS an ao ap aq ar au O G S U I V W J X Y N Z u q x)) ((aS an ao ap aq ar au O G S U I V W J X Y N Z u q x)) bp aaX rfl rfl (fun bM bq=>(wt (wp_seq (rA [] [0] bq (fun g q0=>kM 0 (iI d) rfl q0 (kA 1 (w64 (d + 1)) rfl q0 (kF 2 6 rfl abE rfl q0 (tL 3 (sl O G S) [] 0 rfl acb q0 (kM 4 (iI c) rfl q0 (kA 5 (w64 (c + 1)) rfl q0 (kF 8 7 rfl abp rfl q0 (tL 9 (sl U I V) [] 0 rfl abk q0 (kM 10 (iI c) rfl q0 (kA 11 (w64 (c + 1)) rfl q0 (kF 14 8 rfl acq rfl q0 (tL 15 (sl W J X) [] 0 rfl abk q0 (kM 16 (iI c) rfl q0 (kA 17 (w64 (c + 1)) rfl q0 (kF 20 9 rfl acJ rfl q0 (tL 21 (sl Y N Z) [] 0 rfl abk q0 (kM 22 (iI c) rfl q0 (kA 23 (w64 (c + 1)) rfl q0 (aO 6 rfl ?_)))))))))))))))))))))))))));obtain ⟨A,br,h⟩:=ob h;refine cv ([sl O G S,iI (w64 (c + 1))]) ar6 ((are k) br (hG.mono z) bk (pt g)) ?_;rintro _ bN ⟨bO,rfl,e⟩;have aK:=ca e g;refine wb (fwOf (is:=[0]) aK e.sub rfl) (fun q2=>kA 7 (w64 ((w64 (d + 1)) + A)) rfl q2 (aO 12 rfl ?_));obtain ⟨ab,bs,h⟩:=ob h;refine cv ([sl U I V,iI (w64 (c + 1))]) anF (IH18 bs (hG.mono (z.trans e.sub)) (ms bm e.sub) (pt aK)) ?_;rintro _ bP ⟨bQ,rfl,p⟩;have aL:=ca p aK;refine wb (fwOf (is:=[0]) aL (e.sub.trans p.sub) rfl) (fun q3=>kA 13 (w64 ((w64 ((w64 (d + 1)) + A)) + ab)) rfl q3 (aO 18 rfl ?_));obtain ⟨af,bu,h⟩:=ob h;refine cv ([sl W J X,iI (w64 (c + 1))]) anF (IH18 bu (hG.mono ((z.trans e.sub).trans p.sub)) (ms bn (e.sub.trans p.sub)) (pt aL)) ?_;rintro _ bR ⟨bS,rfl,t⟩;have aM:=ca t aL;refine wb (fwOf (is:=[0]) aM ((e.sub.trans p.sub).trans t.sub) rfl) (fun q4=>kA 19 (w64 ((w64 ((w64 ((w64 (d + 1)) + A)) + ab)) + af)) rfl q4 (aO 24 rfl ?_));obtain ⟨ay,bv,h⟩:=ob h;refine cv ([sl Y N Z,iI (w64 (c + 1))]) anF (IH18 bv (hG.mono (((z.trans e.sub).trans p.sub).trans t.sub)) (ms bo ((e.sub.trans p.sub).trans t.sub)) (pt aM)) ?_;rintro _ bT ⟨ba,rfl,C⟩;have aN:=ca C aM;refine wb (fwOf (is:=[0]) aN (((e.sub.trans p.sub).trans t.sub).trans C.sub) rfl) (fun q5=>kA 25 (w64 ((w64 ((w64 ((w64 ((w64 (d + 1)) + A)) + ab)) + af)) + ay)) rfl q5 (kG 26 (iI (w64 ((w64 ((w64 ((w64 ((w64 (d + 1)) + A)) + ab)) + af)) + ay))) rfl q5 (aD (aae (sr (m2 (iI 0) (wt (wp_block (aaA (fun g_ a w=>∃ bb av ag,∃ (f:Nat),∃ m,g_=ag.length∧a=fr 85 (updL bb [(0,sl ak y al),(1,iI c),(5,iI m),(6,iI (s:Int)),(7,pp (zz B) 0),(8,iI (f:Int))])∧KH.sub ba av∧SR K av wi w [] [.box (zz wi) (zz B) (aS an ao ap aq ar au O G S U I V W J X Y N Z u q x) 37]∧q.drop f=ag∧ahJ k F c s (afq k F c D) ag f m=some r_) q.length ?_ ?_)))))))))
       ·exact ⟨_,ba,q,0,(w64 ((w64 ((w64 ((w64 ((w64 (d + 1)) + A)) + ab)) + af)) + ay)),rfl,fR,kr,aN,List.drop_zero,h⟩
       ·rintro _ _ bU ⟨bb,av,ag,f,m,rfl,rfl,ah,az,ai,h⟩;rcases ag with _ | ⟨⟨bV,bW,bX,aV,aW⟩,ag⟩
        ·unfold ahJ at h;exact wp_seq (sr (m1 (iI (f:Int)) (fd 10 abi rfl (l1 0 (sl u q x) az ael (lS q.length aco (bcm (r:=false) rfl rfl (congrArg some (aaq ai)) (m1 vN (o0 56 (o0 56 (m3 false vN rfl (wt (cndF rfl (wp_exit (aaF (aaF (blkX (blkN (aae (⟨_,av,m,fR,((((e.sub.trans p.sub).trans t.sub).trans C.sub).trans ah),(az.sel []),h⟩)))))))))))))))))))
        ·unfold ahJ at h;refine wp_seq (sr (m1 (iI (f:Int)) (fd 10 abi rfl (l1 0 (sl u q x) az ael (lS q.length aco (bcm (r:=true) rfl rfl (congrArg some (aar ai)) (m1 vT (n0 56 (m1 (iI m) (n0 56 (c0 (decide (m ≤ 2000)) (m3 true (.bool (decide (m ≤ 2000))) rfl (wt (cd h (fun aX h=>?_) (fun aX h=>?_)))))))))))))))
         ·refine cT aX (wp_skip (aae (wp_seq (wp_block (rA [] [0] az (fun l q1=>kM 0 (iI m) rfl q1 (kA 1 (w64 (m + 1)) rfl q1 (kF 2 10 rfl abi rfl q1 (tL 3 (sl u q x) [] 0 rfl ael q1 (kM 4 (iI (f:Int)) rfl q1 ?_))))))))));obtain ⟨aw,ad,bY,bd,bZ,be,bw⟩:=((mc a9 ((((e.sub.trans p.sub).trans t.sub).trans C.sub).trans ah))).row.at_ (aan ai);obtain ⟨aY,aZ,a2,a3,rfl,b0,bx,bz⟩:=aaI.open bw;refine kK 5 (pp aw (ad + f * 5)) rfl (fun w=>aqO (b:=aw) (o:=ad) (i:=f) aco act rfl bd rfl (aad ai)) q1 (kK 6 (pp aw (ad + f * 5 + 3)) rfl (fun w=>akw (o':=ad + f * 5 + 3) adf rfl rfl) q1 (tT 7 (sl aY aV aZ) [] rfl q1 (fun w hF=>ah0 (v:=sl aY aV aZ) acb rfl (hF.cell (kr.cell (be 3 _ rfl)))) (kM 8 (iI c) rfl q1 (kA 9 (w64 (c + 1)) rfl q1 (kF 12 10 rfl abi rfl q1 (tL 13 (sl u q x) [] 0 rfl ael q1 (kM 14 (iI (f:Int)) rfl q1 (kK 15 (pp aw (ad + f * 5)) rfl (fun w=>aqO (b:=aw) (o:=ad) (i:=f) aco act rfl bd rfl (aad ai)) q1 (kK 16 (pp aw (ad + f * 5 + 4)) rfl (fun w=>akw (o':=ad + f * 5 + 4) ado rfl rfl) q1 (tT 17 (sl a2 aW a3) [] rfl q1 (fun w hF=>ah0 (v:=sl a2 aW a3) abk rfl (hF.cell (kr.cell (be 4 _ rfl)))) (kM 18 (iI c) rfl q1 (kA 19 (w64 (c + 1)) rfl q1 (aO 10 rfl ?_)))))))))))));obtain ⟨aj,bA,h⟩:=ob h;refine cv ([sl aY aV aZ,iI (w64 (c + 1))]) ar6 ((are k) bA (hG.mono (((((z.trans e.sub).trans p.sub).trans t.sub).trans C.sub).trans ah)) bx (pt l)) ?_;rintro _ b1 ⟨b2,rfl,ac⟩;have aP:=ca ac l;refine wb (fwOf (is:=[0]) aP ac.sub rfl) (fun q6=>kA 11 (w64 ((w64 (m + 1)) + aj)) rfl q6 (aO 20 rfl ?_));obtain ⟨aA,bB,h⟩:=ob h;refine cv ([sl a2 aW a3,iI (w64 (c + 1))]) anF (IH18 bB (hG.mono ((((((z.trans e.sub).trans p.sub).trans t.sub).trans C.sub).trans ah).trans ac.sub)) (ms bz ac.sub) (pt aP)) ?_;rintro _ b3 ⟨bC,rfl,aB⟩;have aQ:=ca aB aP;exact wb (fwOf (is:=[0]) aQ (ac.sub.trans aB.sub) rfl) (fun q7=>kA 21 (w64 ((w64 ((w64 (m + 1)) + aj)) + aA)) rfl q7 (kG 22 (iI (w64 ((w64 ((w64 (m + 1)) + aj)) + aA))) rfl q7 (aD (blkN (aae (wp_region_lit (m1 (iI (f:Int)) (bar (r:=((f + 1:Nat):Int)) rfl rfl (aaY (aa1 (((mc a9 ((((e.sub.trans p.sub).trans t.sub).trans C.sub).trans ah))).len) (by decide) (aad ai))) (m2 (iI ((f + 1:Nat):Int)) (wt (⟨_,Nat.lt_succ_self _,_,bC,ag,f + 1,(w64 ((w64 ((w64 (m + 1)) + aj)) + aA)),rfl,fR,((ah.trans ac.sub).trans aB.sub),aQ,aai ai,h⟩)))))))))))
         ·exact cF aX (wp_exit (aaF (aaF (blkX (blkN (aae (⟨_,av,m,fR,((((e.sub.trans p.sub).trans t.sub).trans C.sub).trans ah),(az.sel []),h⟩)))))))
      ·rintro _ b4 ⟨a8,aI,aJ,rfl,bD,bE,h⟩;unfold amD at h;exact wp_region_lit (m1 (iI (s:Int)) (bar (r:=((s + 1:Nat):Int)) rfl rfl (aaY (aa1 (((ms a4 z)).len) (by decide) (aad am))) (m2 (iI ((s + 1:Nat):Int)) (wt (⟨_,Nat.lt_succ_self _,_,aI,D,s + 1,aJ,rfl,fR,(z.trans bD),bE,aai am,h⟩)))))
     ·exact cF aU (wp_exit (aaF (aaF (blkX (aae (⟨_,ae,d,fR,z,aH,h⟩))))))
  ·rintro _ b5 ⟨a6,aG,ax,rfl,b6,bF,h⟩;unfold amc at h;refine sr (m1 (iI ax) (m2 (iI ax) (wt (wp_ret ?_))));cases (oi h).trans hr_;exact aas rfl (resT rfl) ⟨aG,rfl,bF⟩
theorem aqH (k0:Nat) : ∀ k,ae0 (akr k0 k).f18:=by
 intro k;induction k with
 | zero=>exact (by unfold ae0; intro _ _ _ _ _ _ _ h_; cases h_)
 | succ k ih=>exact aqg k0 (akr k0 k) ih
theorem atS (k:Nat):ae0 (f18 k):=(aqH k k)
theorem arY (k:Nat):alz (f7_b k):=by
 unfold alz;intro K wi I ad ae h hG J N;obtain ⟨r_,hr_,h⟩:=rz h;obtain ⟨e⟩:=I;obtain ⟨p,c1,rfl,x⟩:=aah.open J;refine enter Tryz.func7 rfl (n:=28) rfl ?_;unfold f7_b at h;refine sr (bxoC (cs:=#[sl p e c1]) N rfl rfl (fun af O=>(m2 vN (wt (sr (m2 (iI 0) (wt (aax (fun a w=>∃ y s j,a=fr 28 (updL y [(3,iI j)])∧KH.sub K s∧SR K s wi w [] []∧apv k j=some r_) ?_ ?_))))))))
 ·refine sr (m2 (iI 0) (wt (wp_block (aaA (fun g_ a w=>∃ z q g,∃ (c:Nat),∃ d,g_=g.length∧a=fr 28 (updL z [(1,pp (zz wi) 0),(3,iI d),(4,iI (c:Int))])∧KH.sub K q∧SR K q wi w [] [.box (zz wi) (zz wi) #[sl p e c1] 24]∧e.drop c=g∧alk k g c d=some r_) e.length ?_ ?_))))
  ·exact ⟨_,K,e,0,0,rfl,fR,kr,O,List.drop_zero,h⟩
  ·rintro _ _ ag ⟨z,q,g,c,d,rfl,rfl,l,f,m,h⟩;rcases g with _ | ⟨⟨ah,ai,aj,ak,al,A⟩,g⟩
   ·unfold alk at h;exact wp_seq (sr (m1 (iI (c:Int)) (fd 0 abU rfl (l1 0 (sl p e c1) f aeL (lS e.length ac3 (bcm (r:=false) rfl rfl (congrArg some (aaq m)) (m1 vN (o0 10 (o0 10 (m3 false vN rfl (wt (cndF rfl (wp_exit (aaF (aaF (blkX (aae (⟨_,q,d,fR,l,(f.sel []),h⟩))))))))))))))))))
   ·unfold alk at h;refine wp_seq (sr (m1 (iI (c:Int)) (fd 0 abU rfl (l1 0 (sl p e c1) f aeL (lS e.length ac3 (bcm (r:=true) rfl rfl (congrArg some (aar m)) (m1 vT (n0 10 (m1 (iI d) (n0 10 (c0 (decide (d ≤ 2000)) (m3 true (.bool (decide (d ≤ 2000))) rfl (wt (cd h (fun t h=>?_) (fun t h=>?_)))))))))))))))
    ·refine cT t (wp_skip (aae (wp_seq (wp_block (wp_region_lit (m1 (iI d) (bar (r:=(w64 (d + 1))) rfl rfl rfl (fd 0 abU rfl (l1 0 (sl p e c1) f aeL (m1 (iI (c:Int)) ?_))))))))));obtain ⟨S,B,am,U,an,V,W⟩:=((mf x l)).row.at_ (aan m);obtain ⟨ao,ap,C,D,rfl,aq,ar,X⟩:=aav.open W;refine idxN (b:=S) (o:=B) (i:=c) ac3 aby rfl U rfl (aad m) (fd (B + c * 6 + 5) aes rfl (ld1 (v:=sl C A D) abk rfl (f.cell (kr.cell (V 5 _ rfl))) ?_));obtain ⟨u,Y,h⟩:=ob h;refine cv ([sl C A D,iI 0]) anF ((atS k) Y (hG.mono l) X (pt f)) ?_;rintro _ au ⟨Z,rfl,G⟩;have ab:=ca G f;exact bar (r:=(w64 ((w64 (d + 1)) + u))) rfl rfl rfl (m2 (iI (w64 ((w64 (d + 1)) + u))) (wpList_nil (blkN (aae (wp_region_lit (m1 (iI (c:Int)) (bar (r:=((c + 1:Nat):Int)) rfl rfl (aaY (aa1 (((mf x l)).len) (by decide) (aad m))) (m2 (iI ((c + 1:Nat):Int)) (wt (⟨_,Nat.lt_succ_self _,_,Z,g,c + 1,(w64 ((w64 (d + 1)) + u)),rfl,fR,(l.trans G.sub),ab,aai m,h⟩))))))))))
    ·exact cF t (wp_exit (aaF (aaF (blkX (aae (⟨_,q,d,fR,l,(f.sel []),h⟩))))))
 ·rintro _ av ⟨y,s,j,rfl,aw,ac,h⟩;unfold apv at h;refine sr (m1 (iI j) (c0 (decide (j ≤ 2000)) (m2 (.bool (decide (j ≤ 2000))) (wt (wp_ret ?_)))));cases (oi h).trans hr_;exact aas rfl (resT rfl) ⟨s,rfl,ac⟩
theorem avv (k:Nat):alz (f7 k):=arY k
theorem apb (k:Nat):akc (as7 k):=by
 unfold akc;intro K wi r G I J h hG s t;obtain ⟨r_,hr_,h⟩:=rz h;obtain ⟨e⟩:=r;obtain ⟨f,c1,rfl,u⟩:=aah.open s;refine enter Tryz.func10 rfl (n:=15) rfl ?_;unfold as7 at h;refine sr (bxoC (cs:=#[sl f e c1]) t rfl rfl (fun N w=>(aC #[nS] w aff (fun O g=>(m2 (iI 0) (wt (sr (lN 1 ([sl f e c1]) g abC aa2 ?_))))))));obtain ⟨⟨⟨a⟩,j,d⟩,x,h⟩:=ob h;refine cv ([.agg #[sl f e c1]]) art ((ao3 k) x (hG.mono kr) (aah.intro u) (pt g)) ?_;rintro _ S ⟨y,U,m,o,rfl,z,A,V⟩;have B:=ca z g;obtain ⟨b,c,rfl,C⟩:=aah.open A;refine m1 (.tuple #[.agg #[sl b a c],sl m j o,iI d]) (ext (v:=.agg #[sl b a c]) rfl rfl (ext (v:=sl m j o) rfl rfl (ext (v:=iI d) rfl rfl (aC #[nS] B aff (fun W D=>(sI 0 (.agg #[sl b a c]) #[sl b a c] D aa2 rfl rfl (fun X p=>(m2 (sl m j o) (m2 (iI d) (wt (sr (lN 0 ([sl b a c]) p abC aa2 (m1 (iI d) (sI 1 (.agg #[sl b a c]) #[sl b a c] p aa2 rfl rfl (fun Y q=>(m2 (iI d) (wt (wp_ret ?_))))))))))))))))));cases (oi h).trans hr_;exact af8 rfl (resN (i:=1) (l:=[sl b a c]) q rfl abC aa2 rfl rfl rfl) (resT rfl) ⟨y,[sl b a c],rfl,(q.sel []),(aah.intro C)⟩
theorem aqV (k:Nat):akc (f10 k):=apb k
theorem aqk (k:Nat):ai0 (arC k):=by
 unfold ai0;intro K wi a b c I h hG p j;obtain ⟨r_,hr_,h⟩:=rz h;refine enter Tryz.func19 rfl (n:=14) rfl ?_;unfold arC at h;refine sr (aC #[nS] j aff (fun d j=>(wt (sr (bld (cells:=#[iI 2,iI 1,sE,iI 0,nS]) (vs:=[(0,iI 2),(1,iI 1)]) rfl (fun w=>by kernel_rfl) (bsl (e:=33) (cells:=#[iI 2,iI 1,sE,iI 0,nS]) (vs:=[(0,.agg #[iI 2,iI 1,sE,iI 0,nS])]) j rfl (aao ab2 abh agD rfl (by decide) (by decide) rfl) (fun J q=>(m1 (sl b a c) (bld (cells:=#[iI 21,sE,iI 0,sE,iI 0,iI 0,.slice (some ⟨(zz d),0,none⟩) 1 1,sl b a c,nS,nS,nS]) (vs:=[(0,iI 21),(6,.slice (some ⟨(zz d),0,none⟩) 1 1),(7,sl b a c)]) rfl (fun w=>by kernel_rfl) (aC zS.toArray q adc (fun N r=>(sI 0 (.agg #[iI 21,sE,iI 0,sE,iI 0,iI 0,.slice (some ⟨(zz d),0,none⟩) 1 1,sl b a c,nS,nS,nS]) #[iI 21,sE,iI 0,sE,iI 0,iI 0,.slice (some ⟨(zz d),0,none⟩) 1 1,sl b a c,nS,nS,nS] r aaX rfl rfl (fun g m=>(wt (sr (bld (cells:=#[.string ⟨#[109,97,105,110]⟩,nS,iI 0,vN,iI 0,nS]) (vs:=[(0,.string ⟨#[109,97,105,110]⟩)]) rfl (fun w=>by kernel_rfl) (lN 0 ([iI 21,sE,iI 0,sE,iI 0,iI 0,.slice (some ⟨(zz d),0,none⟩) 1 1,sl b a c,nS,nS,nS]) m ack aaX (bsl (e:=37) (cells:=#[iI 21,sE,iI 0,sE,iI 0,iI 0,.slice (some ⟨(zz d),0,none⟩) 1 1,sl b a c,nS,nS,nS]) (vs:=[(0,.agg #[iI 21,sE,iI 0,sE,iI 0,iI 0,.slice (some ⟨(zz d),0,none⟩) 1 1,sl b a c,nS,nS,nS])]) m rfl (aao abA aaX adc rfl (by decide) (by decide) rfl) (fun f s=>(bld (cells:=#[.string ⟨#[102]⟩,nS,iI 1,vN,iI 0,.slice (some ⟨(zz g),0,none⟩) 1 1]) (vs:=[(0,.string ⟨#[102]⟩),(2,iI 1),(5,.slice (some ⟨(zz g),0,none⟩) 1 1)]) rfl (fun w=>by kernel_rfl) (bsl (e:=42) (cells:=#[.string ⟨#[109,97,105,110]⟩,nS,iI 0,vN,iI 0,nS,.string ⟨#[102]⟩,nS,iI 1,vN,iI 0,.slice (some ⟨(zz g),0,none⟩) 1 1]) (vs:=[(0,.agg #[.string ⟨#[109,97,105,110]⟩,nS,iI 0,vN,iI 0,nS]),(1,.agg #[.string ⟨#[102]⟩,nS,iI 1,vN,iI 0,.slice (some ⟨(zz g),0,none⟩) 1 1])]) s rfl (fun w=>by kernel_rfl) (fun O t=>(bld (cells:=#[.slice (some ⟨(zz f),0,none⟩) 2 2]) (vs:=[(0,.slice (some ⟨(zz f),0,none⟩) 2 2)]) rfl (fun w=>by kernel_rfl) (sI 4 (.agg #[.slice (some ⟨(zz f),0,none⟩) 2 2]) #[.slice (some ⟨(zz f),0,none⟩) 2 2] t aa2 rfl rfl (fun S o=>(wt (wp_ret ?_)))))))))))))))))))))))))));obtain ⟨u,v,x,y⟩:=frzI (i:=3) (bytes:=64) (xs:=[(aal.mk 2 1 ⟨#[]⟩ 0 [])]) (R:=fun K=>(aam K)) o rfl (Nat.le_refl _) ⟨[iI 2,iI 1,sE,iI 0,nS],_,rfl,rfl,(aam.intro (by decide) (RSl.nil _ _ _ _ _ _)),(abl (R:=(aam K)) (size:=5))⟩ rfl (Nat.le_of_ble_eq_true rfl) (fun hs=>(fun _ _ h=>aam.mono hs h));obtain ⟨z,A,U,B⟩:=frzI (i:=1) (bytes:=184) (xs:=[(aag.mk 21 ⟨#[]⟩ 0 ⟨#[]⟩ 0 0 [(aal.mk 2 1 ⟨#[]⟩ 0 [])] a [] [] [])]) (R:=fun K=>(aaj K)) v rfl (Nat.le_refl _) ⟨[iI 21,sE,iI 0,sE,iI 0,iI 0,.slice (some ⟨(zz d),0,none⟩) [(aal.mk 2 1 ⟨#[]⟩ 0 [])].length 1,sl b a c,nS,nS,nS],_,rfl,rfl,(aaj.intro (by decide) (by decide) y (ms p x) (RSl.nil _ _ _ _ _ _) (RSl.nil _ _ _ _ _ _) (RSl.nil _ _ _ _ _ _)),(abl (R:=(aaj u)) (size:=11))⟩ rfl (Nat.le_of_ble_eq_true rfl) (fun hs=>(fun _ _ h=>aaj.mono hs h));obtain ⟨C,D,V,G⟩:=frzI (i:=0) (bytes:=88) (xs:=[(aaf.mk ⟨#[109,97,105,110]⟩ [] 0 false 0 []),(aaf.mk ⟨#[102]⟩ [] 1 false 0 [(aag.mk 21 ⟨#[]⟩ 0 ⟨#[]⟩ 0 0 [(aal.mk 2 1 ⟨#[]⟩ 0 [])] a [] [] [])])]) (R:=fun K=>(aav K)) A rfl (Nat.le_refl _) ⟨[.string ⟨#[109,97,105,110]⟩,nS,iI 0,vN,iI 0,nS],_,rfl,rfl,(aav.intro (by decide) (RSl.nil _ _ _ _ _ _) (RSl.nil _ _ _ _ _ _)),⟨[.string ⟨#[102]⟩,nS,iI 1,vN,iI 0,.slice (some ⟨(zz g),0,none⟩) [(aag.mk 21 ⟨#[]⟩ 0 ⟨#[]⟩ 0 0 [(aal.mk 2 1 ⟨#[]⟩ 0 [])] a [] [] [])].length 1],_,rfl,rfl,(aav.intro (by decide) (RSl.nil _ _ _ _ _ _) B),(abl (R:=(aav z)) (size:=6))⟩⟩ rfl (Nat.le_of_ble_eq_true rfl) (fun hs=>(fun _ _ h=>aav.mono hs h));cases (oi h).trans hr_;exact aas rfl (resN (i:=4) (l:=[.slice (some ⟨(zz f),0,none⟩) 2 2]) o rfl abC aa2 rfl rfl rfl) ⟨C,[.slice (some ⟨(zz f),0,none⟩) [(aaf.mk ⟨#[109,97,105,110]⟩ [] 0 false 0 []),(aaf.mk ⟨#[102]⟩ [] 1 false 0 [(aag.mk 21 ⟨#[]⟩ 0 ⟨#[]⟩ 0 0 [(aal.mk 2 1 ⟨#[]⟩ 0 [])] a [] [] [])])].length 2],rfl,(D.sel []),(aah.intro G)⟩
theorem arl (k:Nat):ai0 (f19 k):=aqk k
theorem aqm (k:Nat):ajs (ast k):=by
 unfold ajs;intro K wi b i h hG e;obtain ⟨r_,hr_,h⟩:=rz h;refine enter Tryz.func30 rfl (n:=9) rfl ?_;unfold ast at h;refine sr (m2 vN (wt (aax (fun a w=>∃ f d,a=fr 9 (updL f [(2,.bool d)])∧SR K K wi w [] []∧amx k d=some r_) ?_ ?_)))
 ·refine wp_region_lit (m1 (iI b) (c0 (decide (b < 0)) (m1 (.bool (decide (b < 0))) (cd h (fun c h=>?_) (fun c h=>?_)))))
  ·exact o1 5 c (o1 5 c (m3 true vT (cg c) (m2 vT (wt (⟨_,true,fR,e,h⟩)))))
  ·exact n1 5 c (m1 (iI b) (n1 5 c (c0 (decide (b > 6)) (m3 false (.bool (decide (b > 6))) (cg c) (m2 (.bool (decide (b > 6))) (wt (⟨_,(decide (b > 6)),fR,e,h⟩)))))))
 ·rintro _ j ⟨f,d,rfl,g,h⟩;unfold amx at h;refine wp_ret ?_;cases (oi h).trans hr_;exact aas rfl (resT rfl) ⟨K,rfl,g⟩
theorem auB (k:Nat):ajs (f30 k):=aqm k
theorem ajd (k:Nat):aea (af1 k):=by
 unfold aea;intro K wi d m p N h hG s A;obtain ⟨r_,hr_,h⟩:=rz h;refine enter Tryz.func46 rfl (n:=19) rfl ?_;unfold af1 at h;refine sr (m2 (iI 0) (wt (wp_seq (sr (m1 (sl m d p) (lS d.length abu (m1 (iI 0) (wt (wp_block (aaA (fun g_ a w=>∃ t g e,∃ (c:Nat),g_=e.length∧a=fr 19 (updL t [(0,sl m d p),(1,.func (.func 30) #[] #[]),(7,iI (d.length:Int)),(8,iI (c:Int))])∧KH.sub K g∧SR K g wi w [] []∧d.drop c=e∧adh k e c=some r_) d.length ?_ ?_))))))))))
 ·exact ⟨_,K,d,0,rfl,fR,kr,A,List.drop_zero,h⟩
 ·rintro _ _ O ⟨t,g,e,c,rfl,rfl,j,l,f,h⟩;rcases e with _ | ⟨u,e⟩
  ·unfold adh at h;refine sr (bcm (r:=false) rfl rfl (congrArg some (aaq f)) (wt (wp_seq (cndF rfl (wp_exit (aaF (aaF (blkX (aae (sr (m2 (iI (-1)) (wt (wp_ret ?_)))))))))))));cases (oi h).trans hr_;exact aas rfl (resT rfl) ⟨g,rfl,l⟩
  ·unfold adh at h;refine sr (bcm (r:=true) rfl rfl (congrArg some (aar f)) (wt (wp_seq (cndT rfl (wp_skip (aae (wp_seq (wp_block (sr (m1 (iI (c:Int)) (m2 (iI (c:Int)) (wt (sr (m1 (.func (.func 30) #[] #[]) (m1 (sl m d p) (m1 (iI (c:Int)) ?_))))))))))))))));obtain ⟨B,C,S,D,U,G,I⟩:=((s.mono j (fun _ _ h=>h))).row.at_ (aan f);obtain rfl:=I;refine idxN (b:=B) (o:=C) (i:=c) abu Tys3 rfl D rfl (aad f) (ld1 (v:=iI u) Tya3 rfl (l.cell (kr.cell (G 0 _ rfl))) ?_);obtain ⟨V,J,h⟩:=ob h;refine cv ([iI u]) avs ((auB k) J (hG.mono j) (pt l)) ?_;rintro _ W ⟨x,rfl,y⟩;have z:=ca y l;refine wt (cd h (fun q h=>?_) (fun q h=>?_))
   ·refine cT q (sr (m1 (iI (c:Int)) (m2 (iI (c:Int)) (wt (wp_ret (blkR (aaw (aaw (blkR (aaw ?_))))))))));cases (oi h).trans hr_;exact aas rfl (resT rfl) ⟨x,rfl,z⟩
   ·exact cF q (wp_skip (blkN (aae (wp_region_lit (bar (r:=((c + 1:Nat):Int)) rfl rfl (aaY (aa1 (((s.mono j (fun _ _ h=>h))).len) (by decide) (aad f))) (m1 (iI ((c + 1:Nat):Int)) (wt (⟨_,Nat.lt_succ_self _,_,x,e,c + 1,rfl,fR,(j.trans y.sub),z,aai f,h⟩))))))))
theorem alj (k:Nat):aea (ama k):=ajd k
theorem ajv (k:Nat):aeb (agi k):=by
 unfold aeb;intro K wi b c d a h hG f e;obtain ⟨r_,hr_,h⟩:=rz h;refine enter Tryz.func29 rfl (n:=9) rfl ?_;unfold agi at h;refine sr (m2 vN (wt (sr (m1 (sl c b d) (m1 (.func (.func 30) #[] #[]) ?_)))));obtain ⟨a,g,h⟩:=ob h;refine cv ([sl c b d,.func (.func 30) #[] #[]]) avQ ((alj k) g (hG.mono kr) f (pt e)) ?_;rintro _ m ⟨i,rfl,j⟩;have l:=ca j e;refine c0 (decide (a ≥ 0)) (m2 (.bool (decide (a ≥ 0))) (wt (wp_ret ?_)));cases (oi h).trans hr_;exact aas rfl (resT rfl) ⟨i,rfl,l⟩
theorem alx (k:Nat):aeb (amb k):=ajv k
theorem apF (k:Nat):ajr (as1 k):=by
 unfold ajr;intro K wi l A a B h hG m o;obtain ⟨r_,hr_,h⟩:=rz h;obtain ⟨b,c,d,e,f⟩:=l;obtain ⟨g,i,rfl,p,q⟩:=aam.open m;refine enter Tryz.func31 rfl (n:=10) rfl ?_;unfold as1 at h;refine sr (bxoC (cs:=(aE b c d e g f i)) o rfl rfl (fun r s=>(m2 vN (wt (sr (m1 (.bool a) (bld (cells:=#[iI 0,iI 0,.bool a]) (vs:=[(2,.bool a)]) rfl (fun w=>by kernel_rfl) (aC #[iI 0,iI 0,vN] s auh (fun C t=>(sI 0 (.agg #[iI 0,iI 0,.bool a]) #[iI 0,iI 0,.bool a] t atz rfl rfl (fun D j=>(wt (sr (lN 1 (vE b c d e g f i) j acr abh ?_))))))))))))));obtain ⟨⟨⟨G,I,J⟩,u⟩,v,h⟩:=ob h;refine cv ([pp (zz r) 0,.agg (aE b c d e g f i),iI 1]) auo ((auu k) v (hG.mono kr) (aam.intro p q) (pt j)) ?_;rintro _ N ⟨x,rfl,y⟩;have z:=ca y j;refine m2 (.bool u) (wt (wp_ret ?_));cases (oi h).trans hr_;exact aas rfl (resT rfl) ⟨x,rfl,(z.sel [])⟩
theorem atP (k:Nat):ajr (f31 k):=apF k
theorem aqA (k:Nat) (F:afi) (IH32:acF F.f32) (IH1004841:aba F.f1004841) (IH1004932:aa9 F.f1004932) (IH1007390:aa4 F.f1007390) (IH1007438:aa8 F.f1007438) (IH1009890:aa3 F.f1009890):acF (as5 k F):=by
 unfold acF;intro K wi y V g W h hG z A;obtain ⟨r_,hr_,h⟩:=rz h;obtain ⟨m,B,C,f,i⟩:=y;obtain ⟨j,l,rfl,X,t⟩:=aam.open z;refine enter Tryz.func32 rfl (n:=25) rfl ?_;unfold as5 at h;refine sr (bxoC (cs:=(aE m B C f j i l)) A rfl rfl (fun o D=>(bxoC (cs:=#[iI g]) D rfl rfl (fun Y c=>(m2 vN (wt (aax (fun a w=>∃ u p q,a=fr 25 (updL u [(4,.bool q)])∧KH.sub K p∧SR K p wi w [] []∧aii k F q=some r_) ?_ ?_)))))))
 ·refine wp_region_lit (fd 0 aer rfl (l1 1 (iI m) c Tya3 (c0 (m != 4) (m1 (.bool (m != 4)) (cd h (fun b h=>?_) (fun b h=>?_))))))
  ·refine o1 8 b (o1 8 b (o1 8 b (o1 8 b (ou 12 (ou 12 (ou 12 (ou 12 (o1 8 b (m3 true vT (cg b) (m1 vT (n0 19 (fd 4 acC rfl (n0 19 (l1 1 (sl j i l) c acb (n0 19 (mkf (us:=[]) (vs:=[pp (zz o) 0]) rfl rfl (n0 19 ?_)))))))))))))))));obtain ⟨r,G,h⟩:=ob h;refine cv ([sl j i l,.func (.func 49) #[] #[pp (zz o) 0]]) auT (IH1004841 G (hG.mono kr) t (pt c)) ?_;rintro _ Z ⟨I,rfl,v⟩;have J:=ca v c;exact m3 true (.bool r) rfl (m2 (.bool r) (wt (⟨_,I,r,fR,v.sub,(J.sel []),h⟩)))
  ·refine n1 8 b (fd 3 aeG rfl (n1 8 b (l1 1 (iI f) c Tya3 (n1 8 b (c0 (decide (f ≥ 0)) (n1 8 b (m1 (.bool (decide (f ≥ 0))) (cd h (fun d h=>?_) (fun d h=>?_)))))))))
   ·refine n1 12 d (fd 3 aeG rfl (n1 12 d (l1 1 (iI f) c Tya3 (n1 12 d (l1 0 (iI g) c Tya3 (n1 12 d (c0 (decide (f < g)) (n1 8 b (m3 true (.bool (decide (f < g))) (cg d) (m3 false (.bool (decide (f < g))) (cg b) (m1 (.bool (decide (f < g))) (cd h (fun e h=>?_) (fun e h=>?_)))))))))))))
    ·refine n1 19 e (fd 4 acC rfl (n1 19 e (l1 1 (sl j i l) c acb (n1 19 e (mkf (us:=[]) (vs:=[pp (zz o) 0]) rfl rfl (n1 19 e ?_))))));obtain ⟨s,N,h⟩:=ob h;refine cv ([sl j i l,.func (.func 49) #[] #[pp (zz o) 0]]) auT (IH1004841 N (hG.mono kr) t (pt c)) ?_;rintro _ ab ⟨O,rfl,x⟩;have S:=ca x c;exact m3 true (.bool s) (cg e) (m2 (.bool s) (wt (⟨_,O,s,fR,x.sub,(S.sel []),h⟩)))
    ·exact o1 19 e (o1 19 e (o1 19 e (o1 19 e (m3 false vN (cg e) (m2 vN (wt (⟨_,K,false,fR,kr,(c.sel []),h⟩)))))))
   ·exact o1 12 d (o1 12 d (o1 12 d (o1 12 d (n1 8 b (m3 false vN (cg d) (m3 false vN (cg b) (m1 vN (o0 19 (o0 19 (o0 19 (o0 19 (m3 false vN rfl (m2 vN (wt (⟨_,K,false,fR,kr,(c.sel []),h⟩)))))))))))))))
 ·rintro _ ac ⟨u,p,q,rfl,ad,U,h⟩;unfold aii at h;refine wp_ret ?_;cases (oi h).trans hr_;exact aas rfl (resT rfl) ⟨p,rfl,U⟩
theorem aiY (k:Nat) (F:afi) (IH32:acF F.f32) (IH1004841:aba F.f1004841) (IH1004932:aa9 F.f1004932) (IH1007390:aa4 F.f1007390) (IH1007438:aa8 F.f1007438) (IH1009890:aa3 F.f1009890):aba (af7 k F):=by
 unfold aba;intro K wi b c d g bs s o h hG f a;obtain ⟨r_,hr_,h⟩:=rz h;refine enter Tryz.func48 rfl (n:=9) rfl ?_;unfold af7 at h;refine sr (bxoC (cs:=#[.func (.func 49) #[] #[pp g 0]]) a rfl rfl (fun p a=>(m2 vN (wt (sr (m1 (sl c b d) (mkf (us:=[]) (vs:=[pp (zz wi) 0]) rfl rfl ?_)))))));obtain ⟨e,i,h⟩:=ob h;refine cv ([sl c b d,.func (.func 74) #[] #[pp (zz wi) 0]]) avl (IH1007390 i (hG.mono kr) f (pt a)) ?_;rintro _ q ⟨j,rfl,l⟩;have m:=ca l a;refine uN e (m2 (.bool (!e)) (wt (wp_ret ?_)));cases (oi h).trans hr_;exact aas rfl (resT rfl) ⟨j,rfl,(m.sel [1])⟩
theorem aiO (k:Nat) (F:afi) (IH32:acF F.f32) (IH1004841:aba F.f1004841) (IH1004932:aa9 F.f1004932) (IH1007390:aa4 F.f1007390) (IH1007438:aa8 F.f1007438) (IH1009890:aa3 F.f1009890):aa9 (afZ k F):=by
 unfold aa9;intro K wi l x g bs s y h hG m o;obtain ⟨r_,hr_,h⟩:=rz h;obtain ⟨b,c,d,e,f⟩:=l;obtain ⟨i,j,rfl,p,q⟩:=aam.open m;refine enter Tryz.func49 rfl (n:=7) rfl ?_;unfold afZ at h;refine sr (bxoC (cs:=(aE b c d e i f j)) o rfl rfl (fun z a=>(m2 vN (wt (sr (lN 0 (vE b c d e i f j) a acr abh (l1 1 (iI s) a Tya3 ?_)))))));obtain ⟨r,t,h⟩:=ob h;refine cv ([.agg (aE b c d e i f j),iI s]) aua (IH32 t (hG.mono kr) (aam.intro p q) (pt a)) ?_;rintro _ A ⟨u,rfl,v⟩;have w:=ca v a;refine m2 (.bool r) (wt (wp_ret ?_));cases (oi h).trans hr_;exact aas rfl (resT rfl) ⟨u,rfl,(w.sel [1])⟩
theorem ai5 (k:Nat) (F:afi) (IH32:acF F.f32) (IH1004841:aba F.f1004841) (IH1004932:aa9 F.f1004932) (IH1007390:aa4 F.f1007390) (IH1007438:aa8 F.f1007438) (IH1009890:aa3 F.f1009890):aa4 (afG k F):=by
 unfold aa4;intro K wi b c d g bs gA bsA sA a h hG f e;obtain ⟨r_,hr_,h⟩:=rz h;refine enter Tryz.func73 rfl (n:=9) rfl ?_;unfold afG at h;refine sr (m2 vN (wt (sr (m1 (sl c b d) (m1 (.func (.func 74) #[] #[pp g 0]) ?_)))));obtain ⟨a,i,h⟩:=ob h;refine cv ([sl c b d,.func (.func 74) #[] #[pp g 0]]) avM (IH1009890 i (hG.mono kr) f (pt e)) ?_;rintro _ o ⟨j,rfl,l⟩;have m:=ca l e;refine c0 (decide (a ≥ 0)) (m2 (.bool (decide (a ≥ 0))) (wt (wp_ret ?_)));cases (oi h).trans hr_;exact aas rfl (resT rfl) ⟨j,rfl,m⟩
theorem ajZ (k:Nat) (F:afi) (IH32:acF F.f32) (IH1004841:aba F.f1004841) (IH1004932:aa9 F.f1004932) (IH1007390:aa4 F.f1007390) (IH1007438:aa8 F.f1007438) (IH1009890:aa3 F.f1009890):aa8 (afS k F):=by
 unfold aa8;intro K wi o y g bs gA bsA sA z h hG p q;obtain ⟨r_,hr_,h⟩:=rz h;obtain ⟨a,b,c,d,e⟩:=o;obtain ⟨f,i,rfl,r,s⟩:=aam.open p;refine enter Tryz.func74 rfl (n:=8) rfl ?_;unfold afS at h;refine sr (bxoC (cs:=(aE a b c d f e i)) q rfl rfl (fun t j=>(m2 vN (wt (sr (l1 1 (.func (.func 49) #[] #[pp gA 0]) j avh (lN 0 (vE a b c d f e i) j acr abh ?_)))))));have l:=p201 j;obtain ⟨m,u,h⟩:=ob h;refine clV (caps:=#[pp gA 0]) (vs:=[.agg (aE a b c d f e i),pp gA 0]) rfl au3 rfl (IH1004932 u (hG.mono kr) (aam.intro r s) (pt l)) ?_;rintro _ A ⟨v,rfl,w⟩;have x:=ca w l;refine uN m (m2 (.bool (!m)) (wt (wp_ret ?_)));cases (oi h).trans hr_;exact aas rfl (resT rfl) ⟨v,rfl,(x.sel [2,0])⟩
theorem ajN (k:Nat) (F:afi) (IH32:acF F.f32) (IH1004841:aba F.f1004841) (IH1004932:aa9 F.f1004932) (IH1007390:aa4 F.f1007390) (IH1007438:aa8 F.f1007438) (IH1009890:aa3 F.f1009890):aa3 (afH k F):=by
 unfold aa3;intro K wi d p q g bs gA bsA sA ac h hG u U;obtain ⟨r_,hr_,h⟩:=rz h;refine enter Tryz.func98 rfl (n:=19) rfl ?_;unfold afH at h;refine sr (m2 (iI 0) (wt (wp_seq (sr (m1 (sl p d q) (lS d.length ab2 (m1 (iI 0) (wt (wp_block (aaA (fun g_ a w=>∃ x l e,∃ (c:Nat),g_=e.length∧a=fr 19 (updL x [(0,sl p d q),(1,.func (.func 74) #[] #[pp g 0]),(7,iI (d.length:Int)),(8,iI (c:Int))])∧KH.sub K l∧SR K l wi w [.box bs g #[.func (.func 49) #[] #[pp gA 0]] 97,.box bsA gA #[iI sA] 3] [.box bsA gA #[iI sA] 3,.box bs g #[.func (.func 49) #[] #[pp gA 0]] 97]∧d.drop c=e∧adq k F sA e c=some r_) d.length ?_ ?_))))))))))
 ·exact ⟨_,K,d,0,rfl,fR,kr,(U.sel [1,0]),List.drop_zero,h⟩
 ·rintro _ _ V ⟨x,l,e,c,rfl,rfl,m,s,f,h⟩;rcases e with _ | ⟨⟨y,z,A,B,C⟩,e⟩
  ·unfold adq at h;refine sr (bcm (r:=false) rfl rfl (congrArg some (aaq f)) (wt (wp_seq (cndF rfl (wp_exit (aaF (aaF (blkX (aae (sr (m2 (iI (-1)) (wt (wp_ret ?_)))))))))))));cases (oi h).trans hr_;exact aas rfl (resT rfl) ⟨l,rfl,(s.sel [1,0])⟩
  ·unfold adq at h;refine sr (bcm (r:=true) rfl rfl (congrArg some (aar f)) (wt (wp_seq (cndT rfl (wp_skip (aae (wp_seq (wp_block (sr (m1 (iI (c:Int)) (m2 (iI (c:Int)) (wt (sr (m1 (.func (.func 74) #[] #[pp g 0]) (m1 (sl p d q) (m1 (iI (c:Int)) ?_))))))))))))))));obtain ⟨W,X,ad,Y,ae,Z,D⟩:=((me u m)).row.at_ (aan f);obtain ⟨G,I,rfl,af,ag⟩:=aam.open D;refine idxN (b:=W) (o:=X) (i:=c) ab2 abh rfl Y rfl (aad f) (lD (vE y z A B G C I) acr abh rfl (fun j v hj=>s.cell (kr.cell (Z j v hj))) ?_);have J:=p10 s;obtain ⟨ah,ab,h⟩:=ob h;refine clV (caps:=#[pp g 0]) (vs:=[.agg (aE y z A B G C I),pp g 0]) rfl ave rfl (IH1007438 ab (hG.mono m) D (pt J)) ?_;rintro _ ai ⟨N,rfl,O⟩;have S:=ca O J;refine wt (cd h (fun t h=>?_) (fun t h=>?_))
   ·refine cT t (sr (m1 (iI (c:Int)) (m2 (iI (c:Int)) (wt (wp_ret (blkR (aaw (aaw (blkR (aaw ?_))))))))));cases (oi h).trans hr_;exact aas rfl (resT rfl) ⟨N,rfl,S⟩
   ·exact cF t (wp_skip (blkN (aae (wp_region_lit (bar (r:=((c + 1:Nat):Int)) rfl rfl (aaY (aa1 (((me u m)).len) (by decide) (aad f))) (m1 (iI ((c + 1:Nat):Int)) (wt (⟨_,Nat.lt_succ_self _,_,N,e,c + 1,rfl,fR,(m.trans O.sub),(S.sel [1,0]),aai f,h⟩))))))))
theorem aeP (k0:Nat) : ∀ k,acF (ac4 k0 k).f32∧aba (ac4 k0 k).f1004841∧aa9 (ac4 k0 k).f1004932∧aa4 (ac4 k0 k).f1007390∧aa8 (ac4 k0 k).f1007438∧aa3 (ac4 k0 k).f1009890:=by
 intro k;induction k with
 | zero=>exact ⟨(by unfold acF; intro _ _ _ _ _ _ h_; cases h_),(by unfold aba; intro _ _ _ _ _ _ _ _ _ h_; cases h_),(by unfold aa9; intro _ _ _ _ _ _ _ _ h_; cases h_),(by unfold aa4; intro _ _ _ _ _ _ _ _ _ _ _ h_; cases h_),(by unfold aa8; intro _ _ _ _ _ _ _ _ _ _ h_; cases h_),(by unfold aa3; intro _ _ _ _ _ _ _ _ _ _ _ h_; cases h_)⟩
 | succ k ih=>exact ⟨aqA k0 (ac4 k0 k) ih.1 ih.2.1 ih.2.2.1 ih.2.2.2.1 ih.2.2.2.2.1 ih.2.2.2.2.2,aiY k0 (ac4 k0 k) ih.1 ih.2.1 ih.2.2.1 ih.2.2.2.1 ih.2.2.2.2.1 ih.2.2.2.2.2,aiO k0 (ac4 k0 k) ih.1 ih.2.1 ih.2.2.1 ih.2.2.2.1 ih.2.2.2.2.1 ih.2.2.2.2.2,ai5 k0 (ac4 k0 k) ih.1 ih.2.1 ih.2.2.1 ih.2.2.2.1 ih.2.2.2.2.1 ih.2.2.2.2.2,ajZ k0 (ac4 k0 k) ih.1 ih.2.1 ih.2.2.1 ih.2.2.2.1 ih.2.2.2.2.1 ih.2.2.2.2.2,ajN k0 (ac4 k0 k) ih.1 ih.2.1 ih.2.2.1 ih.2.2.2.1 ih.2.2.2.2.1 ih.2.2.2.2.2⟩
theorem atB (k:Nat):acF (f32 k):=(aeP k k).1
theorem arS (k:Nat):aba (f1004841 k):=(aeP k k).2.1
theorem asF (k:Nat):aa9 (f1004932 k):=(aeP k k).2.2.1
theorem asB (k:Nat):aa4 (f1007390 k):=(aeP k k).2.2.2.1
theorem arM (k:Nat):aa8 (f1007438 k):=(aeP k k).2.2.2.2.1
theorem ary (k:Nat):aa3 (f1009890 k):=(aeP k k).2.2.2.2.2
theorem apD (k:Nat):ajC (aro k):=by
 unfold ajC;intro K wi Z ak c o p al am h hG ab N ac;obtain ⟨r_,hr_,h⟩:=rz h;obtain ⟨d,e,f,g,i⟩:=Z;obtain ⟨j,l,rfl,y,z⟩:=aam.open ab;refine enter Tryz.func20 rfl (n:=29) rfl ?_;unfold aro at h;refine sr (bxoC (cs:=(aE d e f g j i l)) ac rfl rfl (fun an O=>(m2 (iI 0) (m2 (iI 0) (wt (sr (m1 (sl o c p) ?_)))))));obtain ⟨t,ad,h⟩:=ob h;refine cv ([sl o c p,.func (.func 30) #[] #[]]) avR ((alx k) ad (hG.mono kr) N (pt O)) ?_;rintro _ ao ⟨ae,rfl,m⟩;have A:=ca m O;refine m2 (.bool t) (wt (wp_seq (aax (fun a w=>∃ S u B,a=fr 29 (updL S [(1,sl o c p),(2,pp (zz wi) 0),(22,.bool B)])∧KH.sub ae u∧SR K u wi w [] [.box (zz wi) (zz wi) (aE d e f g j i l) 33]∧akE k d e f g i c B=some r_) ?_ ?_)))
 ·refine wp_region_lit (lN 0 (vE d e f g j i l) A acr abh ?_);obtain ⟨U,af,h⟩:=ob h;refine cv ([.agg (aE d e f g j i l),vT]) avC ((atP k) af (hG.mono m.sub) (aam.intro y (me z m.sub)) (pt A)) ?_;rintro _ ap ⟨ag,rfl,q⟩;have v:=ca q A;refine uN U (m1 (.bool (!U)) (cd h (fun b h=>?_) (fun b h=>?_)))
  ·exact o1 13 b (o1 13 b (o1 13 b (o1 13 b (o1 13 b (m3 true vT (cg b) (m1 vT (o0 20 (m3 true vT rfl (wt (⟨_,ag,true,fR,q.sub,v,h⟩))))))))))
  ·refine n1 13 b (lN 0 (vE d e f g j i l) v acr abh (n1 13 b (m1 (sl o c p) (n1 13 b (lS c.length abu (n1 13 b ?_))))));obtain ⟨C,ah,h⟩:=ob h;refine cv ([.agg (aE d e f g j i l),iI (c.length:Int)]) aua ((atB k) ah (hG.mono (m.sub.trans q.sub)) (aam.intro y (me z (m.sub.trans q.sub))) (pt v)) ?_;rintro _ aq ⟨V,rfl,D⟩;have W:=ca D v;refine n1 13 b (uN C (m3 false (.bool (!C)) (cg b) (m1 (.bool (!C)) (cd h (fun r h=>?_) (fun r h=>?_)))))
   ·exact o1 20 r (m3 true vT (cg r) (wt (⟨_,V,true,fR,(q.sub.trans D.sub),W,h⟩)))
   ·exact n1 20 r (m1 (.bool t) (m3 false (.bool t) (cg r) (wt (⟨_,V,t,fR,(q.sub.trans D.sub),W,h⟩))))
 ·rintro _ ar ⟨S,u,B,rfl,G,x,h⟩;unfold akE at h;refine cd h (fun I h=>?_) (fun I h=>?_)
  ·refine cT I (sr (m2 (iI 0) (m2 (iI 2) (wt (wp_ret (aaw ?_))))));cases (oi h).trans hr_;exact af8 rfl (resT rfl) (resT rfl) ⟨u,rfl,(x.sel [])⟩
  ·refine cF I (wp_skip (aae (sr (lN 0 (vE d e f g j i l) x acr abh (m1 (sl o c p) ?_)))));obtain ⟨s,ai,h⟩:=ob h;refine cv ([.agg (aE d e f g j i l),sl o c p]) al1 ((ak5 k) ai (hG.mono (m.sub.trans G)) (aam.intro y (me z (m.sub.trans G))) (N.mono (m.sub.trans G) (fun _ _ h=>h)) (pt x)) ?_;rintro _ au ⟨X,rfl,aj⟩;have Y:=ca aj x;refine m2 (iI s) (wt (wp_seq (sr (m1 (iI s) (c0 (s == (-1)) (wt (cd h (fun J h=>?_) (fun J h=>?_))))))))
   ·refine cT J (sr (m2 (iI 0) (m2 (iI 23) (wt (wp_ret (aaw ?_))))));cases (oi h).trans hr_;exact af8 rfl (resT rfl) (resT rfl) ⟨X,rfl,(Y.sel [])⟩
   ·refine cF J (wp_skip (aae (sr (m1 (iI s) (m2 (iI s) (m2 (iI 0) (wt (wp_ret ?_))))))));cases (oi h).trans hr_;exact af8 rfl (resT rfl) (resT rfl) ⟨X,rfl,(Y.sel [])⟩
theorem at8 (k:Nat):ajC (f20 k):=apD k
theorem asz (k:Nat):alJ (f8_b k):=by
 unfold alJ;intro K wi aM h hG D;obtain ⟨r_,hr_,h⟩:=rz h;refine enter Tryz.func8 rfl (n:=48) rfl ?_;unfold f8_b at h;refine sr (m2 vN (wt (sr ?_)));obtain ⟨⟨Y⟩,Z,h⟩:=ob h;refine cv ([.slice none ([]:LS).length 0]) at6 ((arl k) Z (hG.mono kr) (RSl.nil _ _ _ _ _ _) (pt D)) ?_;rintro _ aN ⟨aP,aQ,rfl,m,G⟩;have I:=ca m D;obtain ⟨ab,ac,rfl,aT⟩:=aah.open G;obtain ⟨⟨⟨p⟩,l⟩,ad,h⟩:=ob h;refine cv ([.agg #[sl ab Y ac]]) atX ((aqV k) ad (hG.mono m.sub) G (pt I)) ?_;rintro _ aU ⟨ae,aV,rfl,q,af⟩;have ag:=ca q I;obtain ⟨r,s,rfl,aW⟩:=aah.open af;refine m1 (.tuple #[.agg #[sl r p s],iI l]) (ext (v:=.agg #[sl r p s]) rfl rfl (ext (v:=iI l) rfl rfl (aC #[nS] ag aff (fun aX ah=>(sI 0 (.agg #[sl r p s]) #[sl r p s] ah aa2 rfl rfl (fun ai aj=>(m2 (iI l) (wt (sr (bld (cells:=#[iI 18,sE,iI 0,sE,iI 0,iI 0,nS,nS,nS,nS,nS]) (vs:=[(0,iI 18)]) rfl (fun w=>by kernel_rfl) (bsl (e:=37) (cells:=#[iI 18,sE,iI 0,sE,iI 0,iI 0,nS,nS,nS,nS,nS]) (vs:=[(0,.agg #[iI 18,sE,iI 0,sE,iI 0,iI 0,nS,nS,nS,nS,nS])]) aj rfl (aao abA aaX adc rfl (by decide) (by decide) rfl) (fun aY ak=>?_))))))))))));obtain ⟨aZ,J,y,al⟩:=frzI (i:=0) (bytes:=184) (xs:=[(aag.mk 18 ⟨#[]⟩ 0 ⟨#[]⟩ 0 0 [] [] [] [] [])]) (R:=fun K=>(aaj K)) ak rfl (Nat.le_refl _) ⟨[iI 18,sE,iI 0,sE,iI 0,iI 0,nS,nS,nS,nS,nS],_,rfl,rfl,(aaj.intro (by decide) (by decide) (RSl.nil _ _ _ _ _ _) (RSl.nil _ _ _ _ _ _) (RSl.nil _ _ _ _ _ _) (RSl.nil _ _ _ _ _ _) (RSl.nil _ _ _ _ _ _)),(abl (R:=(aaj ae)) (size:=11))⟩ rfl (Nat.le_of_ble_eq_true rfl) (fun hs=>(fun _ _ h=>aaj.mono hs h));obtain ⟨⟨am⟩,an,h⟩:=ob h;refine cv ([.slice (some ⟨(zz ai),0,none⟩) [(aag.mk 18 ⟨#[]⟩ 0 ⟨#[]⟩ 0 0 [] [] [] [] [])].length 1]) at6 ((arl k) an (hG.mono J.sub) al (pt J)) ?_;rintro _ a0 ⟨a1,a2,rfl,z,N⟩;have O:=ca z J;obtain ⟨ao,ap,rfl,a3⟩:=aah.open N;obtain ⟨⟨⟨t⟩,b⟩,aq,h⟩:=ob h;refine cv ([.agg #[sl ao am ap]]) atX ((aqV k) aq (hG.mono O.sub) N (pt O)) ?_;rintro _ a4 ⟨ar,a5,rfl,S,au⟩;have av:=ca S O;obtain ⟨u,x,rfl,a6⟩:=aah.open au;refine m1 (.tuple #[.agg #[sl u t x],iI b]) (ext (v:=.agg #[sl u t x]) rfl rfl (ext (v:=iI b) rfl rfl (aC #[nS] av aff (fun a7 aw=>(sI 0 (.agg #[sl u t x]) #[sl u t x] aw aa2 rfl rfl (fun A ax=>(m2 (iI b) (wt (sr (bld (cells:=#[iI 1,iI 0,sE,iI 0,nS]) (vs:=[(0,iI 1)]) rfl (fun w=>by kernel_rfl) (bld (cells:=#[iI 4,iI 0,.string ⟨#[120]⟩,iI 1,nS]) (vs:=[(0,iI 4),(2,.string ⟨#[120]⟩),(3,iI 1)]) rfl (fun w=>by kernel_rfl) (bsl (e:=33) (cells:=#[iI 1,iI 0,sE,iI 0,nS,iI 4,iI 0,.string ⟨#[120]⟩,iI 1,nS]) (vs:=[(0,.agg #[iI 1,iI 0,sE,iI 0,nS]),(1,.agg #[iI 4,iI 0,.string ⟨#[120]⟩,iI 1,nS])]) ax rfl (fun w=>by kernel_rfl) (fun ay az=>(bld (cells:=#[iI 11,iI 0,sE,iI 0,.slice (some ⟨(zz A),0,none⟩) 2 2]) (vs:=[(0,iI 11),(4,.slice (some ⟨(zz A),0,none⟩) 2 2)]) rfl (fun w=>by kernel_rfl) (bsl (e:=3) (cells:=#[iI 3,iI 1]) (vs:=[(0,iI 3),(1,iI 1)]) az rfl (fun w=>by kernel_rfl) (fun a8 aA=>?_))))))))))))))));obtain ⟨a9,aB,aG,aH⟩:=frzI (i:=1) (bytes:=64) (xs:=[(aal.mk 1 0 ⟨#[]⟩ 0 []),(aal.mk 4 0 ⟨#[120]⟩ 1 [])]) (R:=fun K=>(aam K)) aA rfl (Nat.le_refl _) ⟨[iI 1,iI 0,sE,iI 0,nS],_,rfl,rfl,(aam.intro (by decide) (RSl.nil _ _ _ _ _ _)),⟨[iI 4,iI 0,.string ⟨#[120]⟩,iI 1,nS],_,rfl,rfl,(aam.intro (by decide) (RSl.nil _ _ _ _ _ _)),(abl (R:=(aam ar)) (size:=5))⟩⟩ rfl (Nat.le_of_ble_eq_true rfl) (fun hs=>(fun _ _ h=>aam.mono hs h));obtain ⟨ba,U,V,aI⟩:=frzI (i:=0) (bytes:=8) (xs:=[3,1]) (R:=fun K=>(RInt .i64)) aB rfl (Nat.le_refl _) ⟨[iI 3],_,rfl,rfl,rfl,⟨[iI 1],_,rfl,rfl,rfl,(abl (R:=(RInt .i64)) (size:=1))⟩⟩ rfl (Nat.le_of_ble_eq_true rfl) (fun hs=>(fun _ _ h=>h));obtain ⟨⟨c,d⟩,aJ,h⟩:=ob h;refine cv ([.agg (aE 11 0 ⟨#[]⟩ 0 (some ⟨(zz A),0,none⟩) [(aal.mk 1 0 ⟨#[]⟩ 0 []),(aal.mk 4 0 ⟨#[120]⟩ 1 [])] 2),.slice (some ⟨(zz ay),0,none⟩) [3,1].length 2]) avV ((at8 k) aJ (hG.mono ((((((m.sub.trans q.sub).trans y).trans z.sub).trans S.sub).trans aG).trans V)) (aam.intro (by decide) (me aH V)) aI (pt U)) ?_;rintro _ bb ⟨W,rfl,aK⟩;have o:=ca aK U;refine m1 (.tuple #[iI c,iI d]) (ext (v:=iI c) rfl rfl (ext (v:=iI d) rfl rfl (m2 (iI c) (m2 (iI d) (wt (aax (fun a w=>∃ X B,a=fr 48 (updL X [(0,.bool B)])∧SR K W wi w [] []∧alT k B=some r_) ?_ ?_))))))
 ·refine wp_region_lit (m1 (iI l) (c0 (l == 0) (m1 (.bool (l == 0)) (cd h (fun f h=>?_) (fun f h=>?_)))))
  ·refine n1 30 f (m1 (iI b) (n1 30 f (c0 (b == 26) (m3 true (.bool (b == 26)) (cg f) (m1 (.bool (b == 26)) (cd h (fun g h=>?_) (fun g h=>?_)))))))
   ·refine n1 34 g (m1 (iI d) (n1 34 g (c0 (d == 0) (m3 true (.bool (d == 0)) (cg g) (m1 (.bool (d == 0)) (cd h (fun j h=>?_) (fun j h=>?_)))))))
    ·refine n1 38 j (m1 (iI c) (n1 38 j (c0 (c == 2) (m3 true (.bool (c == 2)) (cg j) (m1 (.bool (c == 2)) (cd h (fun C h=>?_) (fun C h=>?_)))))))
     ·exact m3 true vT (cg C) (m1 vT (m3 true vT rfl (m1 vT (m3 true vT rfl (m2 vT (wt (⟨_,true,fR,(o.sel []),h⟩)))))))
     ·exact m3 false vN (cg C) (m1 vN (m3 false vN rfl (m1 vN (m3 false vN rfl (m2 vN (wt (⟨_,false,fR,(o.sel []),h⟩)))))))
    ·exact o1 38 j (o1 38 j (m3 false vN (cg j) (m1 vN (m3 false vN rfl (m1 vN (m3 false vN rfl (m1 vN (m3 false vN rfl (m2 vN (wt (⟨_,false,fR,(o.sel []),h⟩)))))))))))
   ·exact o1 34 g (o1 34 g (m3 false vN (cg g) (m1 vN (o0 38 (o0 38 (m3 false vN rfl (m1 vN (m3 false vN rfl (m1 vN (m3 false vN rfl (m1 vN (m3 false vN rfl (m2 vN (wt (⟨_,false,fR,(o.sel []),h⟩)))))))))))))))
  ·exact o1 30 f (o1 30 f (m3 false vN (cg f) (m1 vN (o0 34 (o0 34 (m3 false vN rfl (m1 vN (o0 38 (o0 38 (m3 false vN rfl (m1 vN (m3 false vN rfl (m1 vN (m3 false vN rfl (m1 vN (m3 false vN rfl (m2 vN (wt (⟨_,false,fR,(o.sel []),h⟩)))))))))))))))))))
 ·rintro _ bd ⟨X,B,rfl,aL,h⟩;unfold alT at h;refine wp_ret ?_;cases (oi h).trans hr_;exact aas rfl (resT rfl) ⟨W,rfl,aL⟩
theorem aqa (k:Nat):alJ (f8 k):=asz k
theorem asv (k:Nat):alA (f9_b k):=by
 unfold alA;intro K wi b c f h hG d;obtain ⟨r_,hr_,h⟩:=rz h;refine enter Tryz.func9 rfl (n:=11) rfl ?_;unfold f9_b at h;refine sr (m2 (iI 0) (wt (sr (m1 (iI b) (cvi (a:=b) (k:=.i64) (k':=.u64) Tyk3 asW rfl (m1 (iI c) (cvi (a:=c) (k:=.i64) (k':=.u64) Tyk3 asW rfl ?_)))))));obtain ⟨e,h⟩:=aaG h;refine brm rfl rfl e (cvi (a:=((IntKind.u64.wrap b).tmod (IntKind.u64.wrap c))) (k:=.u64) (k':=.i64) asW Tyk3 rfl (m2 (iI (w64 ((IntKind.u64.wrap b).tmod (IntKind.u64.wrap c)))) (wt (wp_ret ?_))));cases (oi h).trans hr_;exact aas rfl (resT rfl) ⟨K,rfl,d⟩
theorem atL (k:Nat):alA (f9 k):=asv k
theorem ase (k:Nat):alo (f6_b k):=by
 unfold alo;intro K wi bX dq aH ac dr h hG bY bZ;obtain ⟨r_,hr_,h⟩:=rz h;obtain ⟨f⟩:=bX;obtain ⟨q,c1,rfl,ah⟩:=aah.open bY;refine enter Tryz.func6 rfl (n:=132) rfl ?_;unfold f6_b at h;refine sr (bxoC (cs:=#[sl q f c1]) bZ rfl rfl (fun ds aW=>(m2 vN (wt (wp_seq (aax (fun a w=>∃ bz aX aY,a=fr 132 (updL bz [(1,iI aH),(2,iI ac),(3,pp (zz wi) 0),(23,.bool aY)])∧KH.sub K aX∧SR K aX wi w [] [.box (zz wi) (zz wi) #[sl q f c1] 24]∧alX k f aH ac aY=some r_) ?_ ?_))))))
 ·refine wp_region_lit (lN 0 ([sl q f c1]) aW abC aa2 ?_);obtain ⟨bA,b0,h⟩:=ob h;refine cv ([.agg #[sl q f c1]]) Tyb7 ((avv k) b0 (hG.mono kr) (aah.intro ah) (pt aW)) ?_;rintro _ dt ⟨bB,rfl,aZ⟩;have a3:=ca aZ aW;refine uN bA (m1 (.bool (!bA)) (cd h (fun Z h=>?_) (fun Z h=>?_)))
  ·exact o1 18 Z (o1 18 Z (o1 18 Z (o1 18 Z (m3 true vT (cg Z) (wt (⟨_,bB,true,fR,aZ.sub,a3,h⟩))))))
  ·exact n1 18 Z (fd 0 abU rfl (n1 18 Z (l1 0 (sl q f c1) a3 aeL (n1 18 Z (lS f.length ac3 (n1 18 Z (c0 ((f.length:Int) == 0) (m3 false (.bool ((f.length:Int) == 0)) (cg Z) (wt (⟨_,bB,((f.length:Int) == 0),fR,aZ.sub,a3,h⟩))))))))))
 ·rintro _ du ⟨bz,aX,aY,rfl,J,ar,h⟩;unfold alX at h;refine cd h (fun a4 h=>?_) (fun a4 h=>?_)
  ·refine cT a4 (sr ?_);obtain ⟨b1,b2,h⟩:=ob h;refine cv ([]) Tyb8 ((aqa k) b2 (hG.mono J) (pt ar)) ?_;rintro _ dv ⟨b3,rfl,b4⟩;have b5:=ca b4 ar;refine m2 (.bool b1) (wt (wp_ret (aaw ?_)));cases (oi h).trans hr_;exact aas rfl (resT rfl) ⟨b3,rfl,(b5.sel [])⟩
  ·refine cF a4 (wp_skip (aae (sr (m1 (iI aH) (fd 0 abU rfl (l1 0 (sl q f c1) ar aeL (lS f.length ac3 ?_)))))));obtain ⟨s,b6,h⟩:=ob h;refine cv ([iI aH,iI (f.length:Int)]) Tyb9 ((atL k) b6 (hG.mono J) (pt ar)) ?_;rintro _ dw ⟨dx,rfl,N⟩;have a5:=ca N ar;refine m2 (iI s) (wt (sr (lN 0 ([sl q f c1]) a5 abC aa2 (m1 (iI s) ?_))));obtain ⟨⟨O,ab⟩,b7,h⟩:=ob h;refine cv ([.agg #[sl q f c1],iI s]) av3 ((atY k) b7 (hG.mono (J.trans N.sub)) (aah.intro (mf ah (J.trans N.sub))) (pt a5)) ?_;rintro _ dy ⟨X,ai,aj,rfl,S,b8⟩;have aI:=ca S a5;refine m1 (.tuple #[sl ai O aj,iI ab]) (ext (v:=sl ai O aj) rfl rfl (ext (v:=iI ab) rfl rfl (m2 (sl ai O aj) (m2 (iI ab) (wt (wp_seq (aax (fun a w=>∃ bC a6,a=fr 132 (updL bC [(1,iI s),(2,iI ac),(3,pp (zz wi) 0),(7,sl ai O aj),(8,iI ab),(49,.bool a6)])∧SR K X wi w [] [.box (zz wi) (zz wi) #[sl q f c1] 24]∧am0 k f ac s O ab a6=some r_) ?_ ?_)))))))
   ·refine wp_region_lit (m1 (iI ab) (c0 (ab != 0) (m1 (.bool (ab != 0)) (cd h (fun z h=>?_) (fun z h=>?_)))))
    ·exact o1 38 z (o1 38 z (o1 38 z (o1 38 z (o1 38 z (o1 38 z (o1 38 z (o1 38 z (o1 38 z (o1 38 z (m3 true vT (cg z) (wt (⟨_,true,fR,aI,h⟩))))))))))))
    ·refine n1 38 z (m1 (sl ai O aj) (n1 38 z (lS O.length abu (n1 38 z (fd 0 abU rfl (n1 38 z (l1 0 (sl q f c1) aI aeL (n1 38 z (m1 (iI s) (n1 38 z ?_))))))))));obtain ⟨⟨dz,au,dA,dB,dC,dD⟩,a7,h⟩:=ob h;obtain ⟨b9,bD,dE,cb,dF,cc,ce⟩:=((mf ah ((J.trans N.sub).trans S.sub))).row.at_ (aau a7).1;obtain ⟨cf,ch,dG,dH,rfl,dI,dJ,dK⟩:=aav.open ce;exact idxG (b:=b9) (o:=bD) (i:=s) ac3 aby rfl cb rfl (aau a7).2.1 (aau a7).2.2 (n1 38 z (fd (bD + s.toNat * 6 + 1) ac0 rfl (n1 38 z (ld1 (v:=sl cf au ch) ah5 rfl (aI.cell (kr.cell (cc 1 _ rfl))) (n1 38 z (lS au.length agh (n1 38 z (c0 (decide ((O.length:Int) < (au.length:Int))) (m3 false (.bool (decide ((O.length:Int) < (au.length:Int)))) (cg z) (wt (⟨_,(decide ((O.length:Int) < (au.length:Int))),fR,aI,h⟩)))))))))))
   ·rintro _ dL ⟨bC,a6,rfl,ap,h⟩;unfold am0 at h;refine cd h (fun a8 h=>?_) (fun a8 h=>?_)
    ·refine cT a8 (aax (fun a w=>∃ bE aJ a9,a=fr 132 (updL bE [(6,.bool a9)])∧KH.sub X aJ∧SR K aJ wi w [] []∧anq k a9=some r_) ?_ ?_)
     ·refine wp_region_lit (m1 (iI ab) (c0 (ab != 0) (m1 (.bool (ab != 0)) (cd h (fun av h=>?_) (fun av h=>?_)))))
      ·refine n1 52 av ?_;obtain ⟨ba,ci,h⟩:=ob h;refine cv ([]) Tyb8 ((aqa k) ci (hG.mono ap.sub) (pt ap)) ?_;rintro _ dM ⟨cj,rfl,bF⟩;have ck:=ca bF ap;exact m3 true (.bool ba) (cg av) (m2 (.bool ba) (wt (⟨_,cj,ba,fR,bF.sub,(ck.sel []),h⟩)))
      ·exact o1 52 av (m3 false vN (cg av) (m2 vN (wt (⟨_,X,false,fR,kr,(ap.sel []),h⟩))))
     ·rintro _ dN ⟨bE,aJ,a9,rfl,dO,cl,h⟩;unfold anq at h;refine wp_ret (aaw ?_);cases (oi h).trans hr_;exact aas rfl (resT rfl) ⟨aJ,rfl,cl⟩
    ·refine cF a8 (wp_skip (aae (sr (fd 0 abU rfl (l1 0 (sl q f c1) ap aeL (m1 (iI s) ?_))))));obtain ⟨⟨dP,t,dQ,dR,dS,dT⟩,bb,h⟩:=ob h;obtain ⟨cm,bG,dU,cn,dV,co,cq⟩:=((mf ah ((J.trans N.sub).trans S.sub))).row.at_ (aau bb).1;obtain ⟨cr,ct,dW,dX,rfl,dY,cu,dZ⟩:=aav.open cq;refine idxG (b:=cm) (o:=bG) (i:=s) ac3 aby rfl cn rfl (aau bb).2.1 (aau bb).2.2 (fd (bG + s.toNat * 6 + 1) ac0 rfl (ld1 (v:=sl cr t ct) ah5 rfl (ap.cell (kr.cell (co 1 _ rfl))) (lS t.length agh (m2 (iI (t.length:Int)) (wt (sr (m2 nS (wt (wp_seq (sr (m2 (iI 0) (wt (wp_block ?_)))))))))))));have cw:=ap.row_ (zz wi) 55 3;refine aaA (fun g_ a w=>∃ bH ak,∃ (V:Nat),∃ g B C aK,g_=ak.length∧a=fr 132 (updL bH [(1,iI s),(2,iI ac),(3,pp (zz wi) 0),(7,sl ai O aj),(9,iI (t.length:Int)),(10,sl B g C),(11,iI (V:Int))])∧SR K X wi w [] [.box (zz wi) (zz wi) #[sl q f c1] 24,eW (zz wi) B g C 55 3 aK]∧t.drop V=ak∧Reps (aaJ X) 3 g aK∧g.length * 32 ≤ mB∧ahl k f ac s O t ak V g=some r_) t.length ?_ ?_
     ·exact ⟨_,t,0,([]:List aaH),none,0,[],rfl,fR,(cw.sel [1,0]),List.drop_zero,(abl (R:=(aaJ X)) (size:=3)),(by simp),h⟩
     ·rintro _ _ bd ⟨bH,ak,V,g,B,C,aK,rfl,rfl,al,aL,aM,be,h⟩;rcases ak with _ | ⟨⟨d0,d1⟩,ak⟩
      ·unfold ahl at h;refine wp_seq (sr (m1 (iI (V:Int)) (m1 (iI (t.length:Int)) (bcm (r:=false) rfl rfl (congrArg some (aaq aL)) (wt (cndF rfl (wp_exit (aaF (aaF (blkX (aae (wp_seq (sr (lN 0 ([sl q f c1]) al abC aa2 (m1 (iI s) (m1 (sl B g C) ?_))))))))))))))));obtain ⟨cx,cy,h⟩:=ob h;refine cv ([.agg #[sl q f c1],iI s,sl B g C]) aqu ((amC k) cy (hG.mono (((J.trans N.sub).trans S.sub).trans (KW.sub al.le))) (aah.intro (mf ah (((J.trans N.sub).trans S.sub).trans (KW.sub al.le)))) (afz (al.entAt (i:=1) rfl) (aM.mono (fun _ _ h=>aaJ.mono (KW.sub al.le) h)) be) (Sx.all _)) ?_;rintro _ cz ⟨d2,rfl,cA⟩;have aw:=al.lend cA;refine c0 (cx != 0) (wt (cd h (fun bf h=>?_) (fun bf h=>?_)))
       ·refine cT bf (sr (m2 vN (wt (wp_ret (aaw ?_)))));cases (oi h).trans hr_;exact aas rfl (resT rfl) ⟨X,rfl,(aw.sel [])⟩
       ·refine cF bf (wp_skip (aae (wp_seq (sr (m1 (iI (t.length:Int)) (c0 ((t.length:Int) == 0) (wt (cd h (fun bg h=>?_) (fun bg h=>?_)))))))))
        ·refine cT bg (aax (fun a w=>∃ bI aN bh,a=fr 132 (updL bI [(6,.bool bh)])∧KH.sub X aN∧SR K aN wi w [] []∧aod k bh=some r_) ?_ ?_)
         ·refine wp_region_lit (lN 0 ([sl q f c1]) aw abC aa2 (m1 (iI s) (bld (cells:=#[iI 0,iI 0,sE]) (vs:=[]) rfl (fun w=>by kernel_rfl) (bsl (e:=55) (cells:=#[iI 0,iI 0,sE]) (vs:=[(0,.agg #[iI 0,iI 0,sE])]) aw rfl (aao ah3 ae9 apT rfl (by decide) (by decide) rfl) (fun d3 cB=>?_)))));obtain ⟨d4,bJ,ax,cC⟩:=frzI (i:=0) (bytes:=32) (xs:=[(aaH.mk 0 0 ⟨#[]⟩)]) (R:=fun K=>(aaJ K)) cB rfl (Nat.le_refl _) ⟨[iI 0,iI 0,sE],_,rfl,rfl,(aaJ.intro (by decide)),(abl (R:=(aaJ X)) (size:=3))⟩ rfl (Nat.le_of_ble_eq_true rfl) (fun hs=>(fun _ _ h=>aaJ.mono hs h));obtain ⟨bK,cD,h⟩:=ob h;refine cv ([.agg #[sl q f c1],iI s,.slice (some ⟨(zz cz),0,none⟩) [(aaH.mk 0 0 ⟨#[]⟩)].length 1]) aqu ((amC k) cD (hG.mono (((J.trans N.sub).trans S.sub).trans ax)) (aah.intro (mf ah (((J.trans N.sub).trans S.sub).trans ax))) cC (pt bJ)) ?_;rintro _ d5 ⟨cG,rfl,aP⟩;have bi:=ca aP bJ;refine c0 (bK == 24) (m1 (.bool (bK == 24)) (cd h (fun ay h=>?_) (fun ay h=>?_)))
          ·refine n1 94 ay ?_;obtain ⟨bj,cH,h⟩:=ob h;refine cv ([]) Tyb8 ((aqa k) cH (hG.mono bi.sub) (pt bi)) ?_;rintro _ d6 ⟨cI,rfl,bL⟩;have cJ:=ca bL bi;exact m3 true (.bool bj) (cg ay) (m2 (.bool bj) (wt (⟨_,cI,bj,fR,((ax.trans aP.sub).trans bL.sub),(cJ.sel []),h⟩)))
          ·exact o1 94 ay (m3 false vN (cg ay) (m2 vN (wt (⟨_,cG,false,fR,(ax.trans aP.sub),(bi.sel []),h⟩))))
         ·rintro _ d7 ⟨bI,aN,bh,rfl,d8,cK,h⟩;unfold aod at h;refine wp_ret (aaw ?_);cases (oi h).trans hr_;exact aas rfl (resT rfl) ⟨aN,rfl,cK⟩
        ·refine cF bg (wp_skip (aae (sr (m1 (iI ac) (m1 (iI (t.length:Int)) ?_)))));obtain ⟨x,cL,h⟩:=ob h;refine cv ([iI ac,iI (t.length:Int)]) Tyb9 ((atL k) cL (hG.mono aw.sub) (pt aw)) ?_;rintro _ d9 ⟨ao,rfl,am⟩;have bM:=ca am aw;refine m2 (iI x) (wt (sr (m1 (sl B g C) (m1 (iI x) ?_))));obtain ⟨⟨A,cM,D⟩,ad,h⟩:=ob h;obtain ⟨cN,ea,bN,ec,cO,ed⟩:=aib (bM.entAt (i:=1) rfl) (aM.mono (fun _ _ h=>aaJ.mono am.sub h)) (aau ad).1;obtain ⟨rfl,ee⟩:=aaJ.open cO;refine idxG (b:=cN) (o:=0) (i:=x) ah3 ae9 rfl bN rfl (aau ad).2.1 (aau ad).2.2 (fd (0 + x.toNat * 3 + 1) adH rfl (stR (R:=(aaJ ao)) (i:=1) (off:=1) (p:=(aaH.mk A cM D)) (p':=(aaH.mk A (-1) D)) (v:=iI (-1)) bM rfl (aM.mono (fun _ _ h=>aaJ.mono am.sub h)) (aau ad).1 Tys3 bN rfl rfl rfl rfl (by decide) (fun cs_ h_=>by obtain ⟨rfl,cP⟩:=aaJ.open h_; exact aaJ.intro cP) (fun bO cQ cR bk=>?_)));have aQ:SR K ao wi cQ [] [.box (zz wi) (zz wi) #[sl q f c1] 24,.row (zz wi) (.slice B (g.set x.toNat (aaH.mk A (-1) D)).length C) 55 3 (g.set x.toNat (aaH.mk A (-1) D)).length bO]:=by simpa only [List.length_set,List.eraseIdx_zero,List.eraseIdx_cons_succ,List.tail_cons,List.set_cons_succ,List.set_cons_zero,List.nil_append,List.cons_append] using cR
         (first | rw [show (sl B g C)=.slice B (g.set x.toNat (aaH.mk A (-1) D)).length C from by simp only [sl,List.length_set]] | rw [show (Value.slice B g.length C)=.slice B (g.set x.toNat (aaH.mk A (-1) D)).length C from by simp only [List.length_set]]);refine wt (aax (fun a w=>∃ bP U ae af bm,a=fr 132 (updL bP [(1,iI s),(3,pp (zz wi) 0),(9,iI (t.length:Int)),(10,sl ae U af)])∧SR K ao wi w [] [.box (zz wi) (zz wi) #[sl q f c1] 24,eW (zz wi) ae U af 55 3 bm]∧Reps (aaJ ao) 3 U bm∧U.length * 32 ≤ mB∧anh k f s t U=some r_) ?_ ?_)
         ·refine sr (m1 (.slice B (g.set x.toNat (aaH.mk A (-1) D)).length C) (m1 (iI x) ?_));obtain ⟨bQ,ef,bn,eg,cS,cU⟩:=aib (aQ.entAt (i:=1) rfl) bk (aau (aeY (y:=(aaH.mk A (-1) D)) ad)).1;obtain ⟨rfl,eh⟩:=aaJ.open cS;refine idxG (b:=bQ) (o:=0) (i:=x) ah3 ae9 rfl bn rfl (aau (aeY (y:=(aaH.mk A (-1) D)) ad)).2.1 (aau (aeY (y:=(aaH.mk A (-1) D)) ad)).2.2 (fd (0 + x.toNat * 3 + 0) ahW rfl (ld1 (v:=iI A) Tya3 rfl (cU _ (aQ.entAt (i:=1) rfl) 0 _ rfl) (c0 (A == 1) (wt (cd h (fun bo h=>?_) (fun bo h=>?_))))))
          ·refine cT bo (wp_region_lit (m1 (.slice B (g.set x.toNat (aaH.mk A (-1) D)).length C) (m1 (iI x) (bld (cells:=#[iI 1,iI 0,.string ⟨#[120]⟩]) (vs:=[(0,iI 1),(2,.string ⟨#[120]⟩)]) rfl (fun w=>by kernel_rfl) (idxG (b:=bQ) (o:=0) (i:=x) ah3 ae9 rfl bn rfl (aau (aeY (y:=(aaH.mk A (-1) D)) ad)).2.1 (aau (aeY (y:=(aaH.mk A (-1) D)) ad)).2.2 (stR (R:=(aaJ ao)) (i:=1) (off:=0) (p:=(aaH.mk A (-1) D)) (p':=(aaH.mk 1 0 ⟨#[120]⟩)) (v:=.agg #[iI 1,iI 0,.string ⟨#[120]⟩]) aQ rfl bk (aau (aeY (y:=(aaH.mk A (-1) D)) ad)).1 ae9 bn rfl rfl rfl rfl (by decide) (fun cs_ h_=>by obtain ⟨rfl,ei⟩:=aaJ.open h_; exact aaJ.intro (by decide)) (fun bR cV cW cX=>?_)))))));have cY:SR K ao wi cV [] [.box (zz wi) (zz wi) #[sl q f c1] 24,.row (zz wi) (.slice B ((g.set x.toNat (aaH.mk A (-1) D)).set x.toNat (aaH.mk 1 0 ⟨#[120]⟩)).length C) 55 3 ((g.set x.toNat (aaH.mk A (-1) D)).set x.toNat (aaH.mk 1 0 ⟨#[120]⟩)).length bR]:=by simpa only [List.length_set,List.eraseIdx_zero,List.eraseIdx_cons_succ,List.tail_cons,List.set_cons_succ,List.set_cons_zero,List.nil_append,List.cons_append] using cW
           rw [show (Value.slice B (g.set x.toNat (aaH.mk A (-1) D)).length C)=.slice B ((g.set x.toNat (aaH.mk A (-1) D)).set x.toNat (aaH.mk 1 0 ⟨#[120]⟩)).length C from by simp only [List.length_set]];exact wt (⟨_,((g.set x.toNat (aaH.mk A (-1) D)).set x.toNat (aaH.mk 1 0 ⟨#[120]⟩)),B,C,bR,fR,cY,cX,(adO (adO be)),h⟩)
          ·exact cF bo (wp_skip (aae (⟨_,(g.set x.toNat (aaH.mk A (-1) D)),B,C,bO,fR,aQ,bk,(adO be),h⟩)))
         ·rintro _ ej ⟨bP,U,ae,af,bm,rfl,cZ,c2,c3,h⟩;unfold anh at h;refine aax (fun a w=>∃ bS aT bp,a=fr 132 (updL bS [(6,.bool bp)])∧KH.sub ao aT∧SR K aT wi w [] []∧amT k bp=some r_) ?_ ?_
          ·obtain ⟨c4,c5,an,bq⟩:=adr (i:=1) (bytes:=32) (R:=fun K=>(aaJ K)) cZ rfl (Nat.le_refl _) c2 c3 (fun hs=>(fun _ _ h=>aaJ.mono hs h));have az:=c5.drew;refine afx (E:=[]) (F:=FW c4 [.box (zz wi) (zz wi) #[sl q f c1] 24]) (L:=(lb 19 0)) ymx rfl rfl (tT 0 (.agg #[sl q f c1]) [] rfl (fq [0] az) (fun w hF=>alK (i:=0) (l:=[sl q f c1]) hF rfl abC aa2 rfl rfl rfl) (kM 1 (iI s) rfl (fq [0] az) (kM 2 (sl ae U af) rfl (fq [0] az) (aO 3 rfl ?_))));obtain ⟨aU,c6,h⟩:=ob h;refine cv ([.agg #[sl q f c1],iI s,sl ae U af]) aqu ((amC k) c6 (hG.mono ((((J.trans N.sub).trans S.sub).trans am.sub).trans an)) (aah.intro (mf ah ((((J.trans N.sub).trans S.sub).trans am.sub).trans an))) bq (pt az)) ?_;rintro _ ek ⟨c7,rfl,c⟩;have u:=ca c az;refine wb (fwOf (is:=[0]) u c.sub rfl) (fun q0=>kC 4 (aU == 23) rfl q0 (kM 5 (.bool (aU == 23)) rfl q0 (cd h (fun G h=>?_) (fun G h=>?_))))
           ·refine tkFG (i:=6) (d:=119) (v:=.agg #[sl q f c1]) (ps:=[]) (L':=(lb 19 127)) rfl (by kernel_rfl) (by kernel_rfl) (by kernel_rfl) (by kernel_rfl) (fun _ _ d _ _ h=>by cases d<;>exact h) rfl (cg G) (fwOf (is:=[0]) u c.sub rfl) (fun w hF=>alK (i:=0) (l:=[sl q f c1]) hF rfl abC aa2 rfl rfl rfl) rfl (tkPG (i:=7) (d:=119) (v:=iI s) (L':=(lb 19 255)) rfl (by kernel_rfl) (by kernel_rfl) (fun _ _ d _ _ h=>by cases d<;>exact h) rfl (cg G) (fun w=>mv_r (v:=iI s) rfl) (abV (fwOf (is:=[0]) u c.sub rfl)) rfl (tkPG (i:=8) (d:=119) (v:=sl ae U af) (L':=(lb 19 511)) rfl (by kernel_rfl) (by kernel_rfl) (fun _ _ d _ _ h=>by cases d<;>exact h) rfl (cg G) (fun w=>mv_r (v:=sl ae U af) rfl) (abV (fwOf (is:=[0]) u c.sub rfl)) rfl (tkPG (i:=9) (d:=119) (v:=iI (t.length:Int)) (L':=(lb 19 1023)) rfl (by kernel_rfl) (by kernel_rfl) (fun _ _ d _ _ h=>by cases d<;>exact h) rfl (cg G) (fun w=>mv_r (v:=iI (t.length:Int)) rfl) (abV (fwOf (is:=[0]) u c.sub rfl)) rfl (tkPG (i:=10) (d:=119) (v:=iI (w64 ((t.length:Int) - 1))) (L':=(lb 19 2047)) rfl (by kernel_rfl) (by kernel_rfl) (fun _ _ d _ _ h=>by cases d<;>exact h) rfl (cg G) (fun w=>arw (r:=(w64 ((t.length:Int) - 1))) rfl rfl rfl) (abV (fwOf (is:=[0]) u c.sub rfl)) rfl ?_))));obtain ⟨br,h⟩:=aaG h;refine tkPG (i:=11) (d:=119) (v:=.slice ae (U.take (w64 ((t.length:Int) - 1)).toNat).length af) (L':=(lb 19 4095)) rfl (by kernel_rfl) (by kernel_rfl) (fun _ _ d _ _ h=>by cases d<;>exact h) rfl (cg G) (fun w=>amZ (m:=(U.take (w64 ((t.length:Int) - 1)).toNat).length) ah3 ae9 rfl rfl br.1 (Int.le_trans br.2 (Int.ofNat_le.2 ((bq.mono c.sub (fun _ _ h=>aaJ.mono c.sub h))).cap)) (agK br)) (abV (fwOf (is:=[0]) u c.sub rfl)) rfl (aO 12 rfl (n1 119 G ?_));obtain ⟨aq,c8,h⟩:=ob h;refine cv ([.agg #[sl q f c1],iI s,.slice ae (U.take (w64 ((t.length:Int) - 1)).toNat).length af]) aqu ((amC k) c8 (hG.mono (((((J.trans N.sub).trans S.sub).trans am.sub).trans an).trans c.sub)) (aah.intro (mf ah (((((J.trans N.sub).trans S.sub).trans am.sub).trans an).trans c.sub))) (RSl.take (bq.mono c.sub (fun _ _ h=>aaJ.mono c.sub h)) _) (pt u)) ?_;rintro _ el ⟨c9,rfl,W⟩;have ag:=ca W u;refine wb (fwOf (is:=[0]) ag (c.sub.trans W.sub) rfl) (fun q1=>tkPG (i:=13) (d:=119) (v:=.bool (aq == 24)) (L':=(lb 19 16383)) rfl (by kernel_rfl) (by kernel_rfl) (fun _ _ d _ _ h=>by cases d<;>exact h) rfl (cg G) (fun w=>am2 (r:=(aq == 24)) rfl rfl rfl) (abV q1) rfl (kK 14 (.bool (aq == 24)) rfl (fun w=>acU (b:=true) (v:=.bool (aq == 24)) (cg G) rfl) q1 (kM 15 (.bool (aq == 24)) rfl q1 (cd h (fun aA h=>?_) (fun aA h=>?_)))))
            ·refine aO 16 rfl (n1 129 aA ?_);obtain ⟨aB,da,h⟩:=ob h;refine cv ([]) Tyb8 ((aqa k) da (hG.mono ((((((J.trans N.sub).trans S.sub).trans am.sub).trans an).trans c.sub).trans W.sub)) (pt ag)) ?_;rintro _ em ⟨db,rfl,aG⟩;have aV:=ca aG ag;exact wb (fwOf (is:=[0]) aV ((c.sub.trans W.sub).trans aG.sub) rfl) (fun q2=>kK 17 (.bool aB) rfl (fun w=>acU (b:=true) (v:=.bool aB) (cg aA) rfl) q2 (kG 18 (.bool aB) rfl q2 (aD (aae (⟨_,db,aB,fR,(((an.trans c.sub).trans W.sub).trans aG.sub),(aV.sel []),h⟩)))))
            ·exact tkO (i:=16) (d:=129) (L':=(lb 19 131071)) rfl rfl rfl (by kernel_rfl) (by kernel_rfl) (fun _ _ d _ _ h=>by cases d<;>exact h) rfl (.inl (cg aA)) (abV (fwOf (is:=[0]) ag (c.sub.trans W.sub) rfl)) rfl (kK 17 vN rfl (fun w=>acU (b:=false) (v:=vN) (cg aA) rfl) (fwOf (is:=[0]) ag (c.sub.trans W.sub) rfl) (kG 18 vN rfl (fwOf (is:=[0]) ag (c.sub.trans W.sub) rfl) (aD (aae (⟨_,c9,false,fR,((an.trans c.sub).trans W.sub),(ag.sel []),h⟩)))))
           ·exact tkO (i:=6) (d:=119) (L':=(lb 19 127)) rfl rfl rfl (by kernel_rfl) (by kernel_rfl) (fun _ _ d _ _ h=>by cases d<;>exact h) rfl (.inl (cg G)) (abV (fwOf (is:=[0]) u c.sub rfl)) rfl (tkO (i:=7) (d:=119) (L':=(lb 19 255)) rfl rfl rfl (by kernel_rfl) (by kernel_rfl) (fun _ _ d _ _ h=>by cases d<;>exact h) rfl (.inl (cg G)) (abV (fwOf (is:=[0]) u c.sub rfl)) rfl (tkO (i:=8) (d:=119) (L':=(lb 19 511)) rfl rfl rfl (by kernel_rfl) (by kernel_rfl) (fun _ _ d _ _ h=>by cases d<;>exact h) rfl (.inl (cg G)) (abV (fwOf (is:=[0]) u c.sub rfl)) rfl (tkO (i:=9) (d:=119) (L':=(lb 19 1023)) rfl rfl rfl (by kernel_rfl) (by kernel_rfl) (fun _ _ d _ _ h=>by cases d<;>exact h) rfl (.inl (cg G)) (abV (fwOf (is:=[0]) u c.sub rfl)) rfl (tkO (i:=10) (d:=119) (L':=(lb 19 2047)) rfl rfl rfl (by kernel_rfl) (by kernel_rfl) (fun _ _ d _ _ h=>by cases d<;>exact h) rfl (.inl (cg G)) (abV (fwOf (is:=[0]) u c.sub rfl)) rfl (tkO (i:=11) (d:=119) (L':=(lb 19 4095)) rfl rfl rfl (by kernel_rfl) (by kernel_rfl) (fun _ _ d _ _ h=>by cases d<;>exact h) rfl (.inl (cg G)) (abV (fwOf (is:=[0]) u c.sub rfl)) rfl (tkO (i:=12) (d:=119) (L':=(lb 19 8191)) rfl rfl rfl (by kernel_rfl) (by kernel_rfl) (fun _ _ d _ _ h=>by cases d<;>exact h) rfl (.inl (cg G)) (abV (fwOf (is:=[0]) u c.sub rfl)) rfl (tkO (i:=13) (d:=119) (L':=(lb 19 16383)) rfl rfl rfl (by kernel_rfl) (by kernel_rfl) (fun _ _ d _ _ h=>by cases d<;>exact h) rfl (.inl (cg G)) (abV (fwOf (is:=[0]) u c.sub rfl)) rfl (kK 14 vN rfl (fun w=>acU (b:=false) (v:=vN) (cg G) rfl) (fwOf (is:=[0]) u c.sub rfl) (kM 15 vN rfl (fwOf (is:=[0]) u c.sub rfl) (tkO (i:=16) (d:=129) (L':=(lb 19 131071)) rfl rfl rfl (by kernel_rfl) (by kernel_rfl) (fun _ _ d _ _ h=>by cases d<;>exact h) rfl (.inl rfl) (abV (fwOf (is:=[0]) u c.sub rfl)) rfl (kK 17 vN rfl (fun w=>acU (b:=false) (v:=vN) rfl rfl) (fwOf (is:=[0]) u c.sub rfl) (kG 18 vN rfl (fwOf (is:=[0]) u c.sub rfl) (aD (aae (⟨_,c7,false,fR,(an.trans c.sub),(u.sel []),h⟩)))))))))))))))
          ·rintro _ en ⟨bS,aT,bp,rfl,eo,dc,h⟩;unfold amT at h;refine wp_ret ?_;cases (oi h).trans hr_;exact aas rfl (resT rfl) ⟨aT,rfl,dc⟩
      ·unfold ahl at h;refine wp_seq (sr (m1 (iI (V:Int)) (m1 (iI (t.length:Int)) (bcm (r:=true) rfl rfl (congrArg some (aar aL)) (wt (cndT rfl (wp_skip (aae (wp_seq (wp_block (sr (m1 (sl ai O aj) (m1 (iI (V:Int)) ?_)))))))))))));obtain ⟨I,bs,h⟩:=ob h;obtain ⟨dd,de,ep,df,eq,dg,dh⟩:=(b8).row.at_ (aau bs).1;obtain rfl:=dh;refine idxG (b:=dd) (o:=de) (i:=(V:Int)) abu Tys3 rfl df rfl (aau bs).2.1 (aau bs).2.2 (ld1 (v:=iI I) Tya3 rfl (al.cell (kr.cell (dg 0 _ rfl))) (bld (cells:=#[iI I,iI 0,sE]) (vs:=[(0,iI I)]) rfl (fun w=>by kernel_rfl) (aC #[iI 0,iI 0,sE] al apT (fun es di=>(sI 0 (.agg #[iI I,iI 0,sE]) #[iI I,iI 0,sE] di ae9 rfl rfl (fun et bu=>(wt (aax (fun a w=>∃ bT Y,a=fr 132 (updL bT [(1,iI s),(2,iI ac),(3,pp (zz wi) 0),(7,sl ai O aj),(9,iI (t.length:Int)),(10,sl B g C),(11,iI (V:Int)),(12,pp (zz bd) 0)])∧SR K X wi w [] [.box (zz wi) (zz wi) #[sl q f c1] 24,.box (zz wi) (zz bd) #[iI I,iI Y,sE] 55,eW (zz wi) B g C 55 3 aK]∧aoK k g V I Y (ahl k f ac s O t ak)=some r_) ?_ ?_))))))))
       ·refine sr (fd 0 ahW rfl (l1 0 (iI I) bu Tya3 (c0 (decide (I > 3)) (wt (cd h (fun bv h=>?_) (fun bv h=>?_))))))
        ·exact cT bv (wp_region_lit (fd 1 adH rfl (sI 0 (iI 1) #[iI I,iI 1,sE] bu Tys3 rfl rfl (fun eu dj=>(wt (⟨_,1,fR,(dj.sel [1,0,2]),h⟩))))))
        ·exact cF bv (wp_skip (aae (⟨_,0,fR,(bu.sel [1,0,2]),h⟩)))
       ·rintro _ ew ⟨bT,Y,rfl,bU,h⟩;unfold aoK at h;refine sr (m1 (sl B g C) (m2 (sl B g C) (wt (wp_region_lit (m1 (sl B g C) (lN 1 ([iI I,iI Y,sE]) bU anx ae9 (bsl (e:=55) (cells:=#[iI I,iI Y,sE]) (vs:=[(0,.agg #[iI I,iI Y,sE])]) bU rfl (aao ah3 ae9 apT rfl (by decide) (by decide) rfl) (fun ex dk=>?_))))))));obtain ⟨bV,h⟩:=aaG h;refine apR (R:=(aaJ X)) (p:=(aaH.mk I Y ⟨#[]⟩)) (i:=3) (j:=0) dk rfl rfl ah3 auZ rfl (by decide) rfl rfl aM (aaJ.intro (by decide)) rfl rfl (Nat.le_refl _) bV (by decide) (fun bw bx bW dl dm dn=>?_);have dp:=p123 dm;exact m2 (.slice bw (g ++ [(aaH.mk I Y ⟨#[]⟩)]).length bx) (wpList_nil (blkN (aae (wp_region_lit (m1 (iI (V:Int)) (bar (r:=((V + 1:Nat):Int)) rfl rfl (aaY (aa1 ((cu).len) (by decide) (aad aL))) (m2 (iI ((V + 1:Nat):Int)) (wt (⟨_,Nat.lt_succ_self _,_,ak,V + 1,(g ++ [(aaH.mk I Y ⟨#[]⟩)]),bw,bx,bW,rfl,fR,(dp.sel [0,2]),aai aL,dn,(aaO bV),h⟩)))))))))
theorem avD (k:Nat):alo (f6 k):=ase k
end Go.Proofs.YtoegpkmhifmamaaGreatDoor
set_option maxRecDepth 512
set_option maxHeartbeats 200000
namespace Go.Proofs.YtoegpkmhifmamaaGreatDoor
open Go
mutual
def szE:aal→Nat | .mk _ _ _ _ l=>szEs l + 1
def szEs:List aal→Nat | []=>0 | e :: l=>szE e + szEs l
end
mutual
def szS:aag→Nat | .mk _ _ _ _ _ _ a b c d e=>szEs a + szSs b + szSs c + szSs d + szCs e + 1
def szSs:List aag→Nat | []=>0 | s :: l=>szS s + szSs l
def szC:aaz→Nat | .mk _ _ _ a b=>szEs a + szSs b + 1
def szCs:List aaz→Nat | []=>0 | c :: l=>szC c + szCs l
end
def szF:aaf→Nat | .mk _ ps _ _ _ b=>ps.length + szSs b + 1
def szFs:List aaf→Nat | []=>0 | f :: l=>szF f + szFs l
def szP:aaa→Nat | .mk fs=>szFs fs + 1
theorem al7 : ∀ l:List aal,l.length≤szEs l
 | []=>by simp
 | .mk _ _ _ _ a :: l=>by have:=al7 l; simp only [List.length_cons,szEs,szE]; omega
theorem amv : ∀ l:List aaz,l.length≤szCs l
 | []=>by simp
 | .mk _ _ _ _ _ :: l=>by have:=amv l; simp only [List.length_cons,szCs,szC]; omega
def aiB (c:Int):Bool:=decide (c ≥ 97) && decide (c≤122)
def amK (c:Int):Bool:=decide (c ≥ 48) && decide (c≤57)
def runL:List UInt8→Nat→Bool
 | [],_=>true
 | e :: r,i=>(aiB e.toNat || (!((i:Int) == 0) && amK e.toNat)) && runL r (i + 1)
def isN (s:ByteArray):Bool:=runL s.data.toList 0 && !seq s ⟨#[]⟩ && decide ((s.size:Int)≤12) && !adl.any (seq s)
theorem ar0 (k:Nat) (c:Int):f115 k c=some (aiB c):=by
 unfold f115 ams ahU aiB;cases decide (c ≥ 97) <;> rfl
theorem as0 (k:Nat) (c:Int):f116 k c=some (amK c):=by
 unfold f116 al5 ahM amK;cases decide (c ≥ 48) <;> rfl
theorem aku (k:Nat) (a:ByteArray) : ∀ (l:List UInt8) (i:Nat),aeH k a l i=some (runL l i && !seq a ⟨#[]⟩)
 | [],i=>by simp [aeH,runL]
 | e :: l,i=>by
  unfold aeH runL;rw [ar0];simp only [Option.bind_some,ah9,as0,aku k a l];cases aiB e.toNat <;> cases ((i:Int) == 0) <;> cases amK e.toNat <;> simp
theorem aiA (k:Nat) (a:ByteArray) : ∀ (l:List ByteArray) (i:Nat),∃ r,afe k a l i=some r∧decide (r ≥ 0)=l.any (seq a)
 | [],i=>⟨-1,rfl,rfl⟩
 | e :: l,i=>by
  unfold afe;cases h:seq a e
  ·obtain ⟨r,h1,h2⟩:=aiA k a l (i + 1);exact ⟨r,h1,by simp [h,h2]⟩
  ·exact ⟨(i:Int),rfl,by simp [h]⟩
theorem ak1 (k:Nat) (s:ByteArray):f71 k s=some (isN s):=by
 unfold f71 apa f96 aqK isN;rw [aku];simp only [Option.bind_some,ait];obtain ⟨r,h1,h2⟩:=aiA k s adl 0;have h92:f97 k s=some (adl.any (seq s)):=by
  unfold f97 apn f118 f117 aml f134 amL;simp [h1,h2]
 rw [h92];simp only [Option.bind_some];cases runL s.data.toList 0 <;> cases seq s ⟨#[]⟩ <;> cases decide ((s.size:Int)≤12) <;> rfl
theorem ajt (a b:ByteArray):seq a b=seq b a:=by
 unfold seq;rw [Bool.eq_iff_iff,beq_iff_eq,beq_iff_eq];exact eq_comm
def aoR:List UInt8→Bool
 | []=>true
 | e :: l=>!decide ((e.toNat:Int) < 32) && !decide ((e.toNat:Int) > 126) && aoR l
def isT (s:ByteArray):Bool:=aoR s.data.toList && decide ((s.size:Int)≤60)
theorem ak3 (k:Nat) (a:ByteArray) : ∀ (l:List UInt8) (i:Nat),adS k a l i=some (aoR l && decide ((a.size:Int)≤60))
 | [],i=>by simp [adS,aoR]
 | e :: l,i=>by
  unfold adS aoR;simp only [ahz,ak3 k a l];cases decide ((e.toNat:Int) < 32) <;> cases decide ((e.toNat:Int) > 126) <;> simp
theorem atE (k:Nat) (s:ByteArray):f70 k s=some (isT s):=ak3 k s _ 0
theorem acj {x:Int} {n:Nat} (h:x=(n:Int)) (h2:n≤4611686018427387904):w64 x=(n:Int):=by
 subst h; unfold w64 IntKind.wrap; simp [IntKind.bits,IntKind.signed]; omega
def alg (op num:Int) (txt:ByteArray) (len:Nat):Bool :=
 cond (op == 1) (decide (num ≥ 0) && decide (num≤1000000000000) && seq txt ⟨#[]⟩ && (len:Int) == 0)
 (cond (op == 2) (decide (num ≥ 0) && decide (num≤1) && seq txt ⟨#[]⟩ && (len:Int) == 0)
 (cond (op == 3) (num == 0 && isT txt && (len:Int) == 0)
 (cond (op == 4) (num == 0 && isN txt && (len:Int) == 0)
 (cond (op == 5 || op == 6) (num == 0 && seq txt ⟨#[]⟩ && (len:Int) == 1)
  (decide (op ≥ 7) && decide (op≤19) && num == 0 && seq txt ⟨#[]⟩ && (len:Int) == 2)))))
mutual
def gE (z:Bool):aal→Nat→Bool
 | .mk op num txt slot l,a=>decide (a≤16) && (z || slot == 0) && alg op num txt l.length && gEs z l (a + 1)
def gEs (z:Bool):List aal→Nat→Bool
 | [],_=>true
 | e :: l,a=>gE z e a && gEs z l a
end
def NRes (r:Option (aac × Bool)) (g:Bool) (n sz:Nat) (z:Bool):Prop :=
 ∃ c,r=some (c,g && decide (n + sz≤600))∧((g && decide (n + sz≤600))=true→∃ d,c=.mk ((n + sz:Nat):Int) d z)
theorem aif (k:Nat) (x a b:Int):f69 k x a b=some (decide (x ≥ a) && decide (x≤b)):=by
 unfold f69 aqj akn; cases decide (x ≥ a) <;> rfl
theorem amB (k:Nat) (n:Nat) (d:Int) (z:Bool) (a:Nat) (h:n≤600) :
  f68 k (.mk n d z) a=some (.mk ((n + 1:Nat):Int) (imax d a) z,decide (n + 1≤600) && decide (a≤16)):=by
 unfold f68 apf akL;simp only;rw [acj (n:=n + 1) (by omega) (by omega)];have e1:decide (((n + 1:Nat):Int)≤600)=decide (n + 1≤600):=by rw [decide_eq_decide]; omega
 have e2:decide ((a:Int)≤16)=decide (a≤16):=by rw [decide_eq_decide]; omega
 rw [e1,e2];cases decide (n + 1≤600) <;> rfl
theorem anH (k:Nat) (F:afK) (op num:Int) (txt:ByteArray) (l:List aal) (a n d:Int) (q:Bool) :
  agl k F op num txt l a n d q false=cond (alg op num txt l.length) (ac2 k F l a n d q (l.length:Int) true) (some (.mk n d q,false)):=by
 unfold agl akZ akI aiz ac2 ahG alg;simp only [aif,atE,ak1,Option.bind_some,Bool.cond_eq_ite];grind
theorem afI : ∀ e:aal,1≤szE e
 | .mk _ _ _ _ _=>by simp only [szE]; omega
theorem NRes.no {r:Option (aac × Bool)} {g:Bool} {n sz:Nat} {z:Bool} {c:aac} (h:r=some (c,false)) (hg:(g && decide (n + sz≤600))=false):NRes r g n sz z :=
 ⟨c,by rw [h,hg],by rw [hg]; intro h; cases h⟩
theorem NRes.yes {r:Option (aac × Bool)} {g:Bool} {n sz:Nat} {z:Bool} {d:Int} (h:r=some (.mk ((n + sz:Nat):Int) d z,true)) (hg:(g && decide (n + sz≤600))=true):NRes r g n sz z :=
 ⟨_,by rw [h,hg],fun _=>⟨d,rfl⟩⟩
theorem nE (k:Nat) (z:Bool) : ∀ m,
  (∀ e,2 * szE e≤m→∀ (n:Nat) (d:Int) (a:Nat),n≤600→a≤17→NRes ((afd k m).f47 (.mk n d z) e a) (gE z e a) n (szE e) z) ∧
  (∀ l,2 * szEs l + 1≤m→∀ (n:Nat) (d:Int) (a:Nat),n≤600→a≤17→NRes ((afd k m).f72 (.mk n d z) l a) (gEs z l a) n (szEs l) z)
 | 0=>⟨fun e he=>by have:=afI e; omega,fun l hl=>by omega⟩
 | m + 1=>by
  obtain ⟨ihe,ihl⟩:=nE k z m;constructor
  ·intro e he n d a hn ha;obtain ⟨op,num,txt,slot,l⟩:=e;simp only [szE] at he;show NRes (aoV k (afd k m) (.mk n d z) (.mk op num txt slot l) a) _ _ _ _;unfold aoV;simp only [szE];rw [amB k n d z a hn];simp only [Option.bind_some];have hj : ∀ q:Bool,agl k (afd k m) op num txt l a ((n + 1:Nat):Int) (imax d a) z q=cond q (some (.mk ((n + 1:Nat):Int) (imax d a) z,false)) (cond (alg op num txt l.length) (ac2 k (afd k m) l a ((n + 1:Nat):Int) (imax d a) z (l.length:Int) true) (some (.mk ((n + 1:Nat):Int) (imax d a) z,false))):=by
    intro q; cases q
    ·exact anH _ _ _ _ _ _ _ _ _ _
    ·rfl
   simp only [hj];by_cases h1:n + 1≤600∧a≤16
   ·obtain ⟨h1,h2⟩:=h1;simp only [h1,h2,decide_true,Bool.and_self,Bool.not_true,cond_false];by_cases h3:(z || slot == 0)=true
    ·have h3' : (cond (slot != 0) (!z) false)=false:=by cases z <;> simp_all
     have h4 : ∀ (x y:Option (aac × Bool)),cond (slot != 0) (cond (!z) x y) y=y:=by
      intro x y; cases z <;> simp_all
     rw [h4];by_cases h5:alg op num txt l.length=true
     ·simp only [h5,cond_true];unfold ac2;simp only [beq_self_eq_true,cond_true];rw [acj (n:=a + 1) (by omega) (by omega)];obtain ⟨c,hc,hd⟩:=ihl l (by omega) (n + 1) (imax d a) (a + 1) h1 (by omega);rw [hc];refine ⟨c,?_,?_⟩
      ·obtain ⟨c0,c1,c2⟩:=c;have:n + 1 + szEs l=n + (szEs l + 1):=by omega
       simp [ahG,gE,h2,h3,h5,this]
      ·intro hg;have e1:n + (szEs l + 1)=n + 1 + szEs l:=by omega
       rw [e1];refine hd ?_;rw [e1] at hg;simp [gE,h2,h3,h5] at hg;simp [hg]
     ·have h5' : alg op num txt l.length=false:=by simpa using h5
      simp only [h5',cond_false];exact .no rfl (by simp [gE,h5'])
    ·have h3' : (z || slot == 0)=false:=by simpa using h3
     have h4 : ∀ (x y:Option (aac × Bool)),cond (slot != 0) (cond (!z) x y) y=x:=by
      intro x y;simp only [Bool.or_eq_false_iff,beq_eq_false_iff_ne] at h3';have e:(slot != 0)=true:=bne_iff_ne.mpr h3'.2;rw [e,h3'.1]; rfl
     rw [h4];exact .no rfl (by simp [gE,h3'])
   ·have h1' : (decide (n + 1≤600) && decide (a≤16))=false:=by
     simp only [Bool.and_eq_false_iff,decide_eq_false_iff_not]; omega
    simp only [h1',Bool.not_false,cond_true];refine .no rfl ?_;simp only [gE,Bool.and_eq_false_iff,decide_eq_false_iff_not];omega
  ·intro l hl n d a hn ha;show NRes (agt k (afd k m) a l 0 n d z) _ _ _ _;have loop : ∀ (l:List aal) (i:Nat) (n:Nat) (d:Int),2 * szEs l≤m→n≤600→NRes (agt k (afd k m) a l i n d z) (gEs z l a) n (szEs l) z:=by
    intro l;induction l with
    | nil=>intro i n d _ hn; exact .yes rfl (by simp [gEs,szEs,hn])
    | cons e l ih =>
     intro i n d hm hn;obtain ⟨e0,e1,e2,e3,e4⟩:=e;unfold agt;simp only [szEs] at hm;obtain ⟨c,hc,hd⟩:=ihe (.mk e0 e1 e2 e3 e4) (by omega) n d a hn ha;rw [hc];by_cases hg:(gE z (.mk e0 e1 e2 e3 e4) a && decide (n + szE (.mk e0 e1 e2 e3 e4)≤600))=true
     ·obtain ⟨d',rfl⟩:=hd hg;have hg':=hg;simp only [Bool.and_eq_true,decide_eq_true_eq] at hg';simp only [hg,Option.bind_some,Bool.not_true,cond_false];obtain ⟨c2,hc2,hd2⟩:=ih (i + 1) _ d' (by omega) hg'.2;have e1:n + (szE (aal.mk e0 e1 e2 e3 e4) + szEs l)=n + szE (aal.mk e0 e1 e2 e3 e4) + szEs l:=by omega
      refine ⟨c2,?_,?_⟩
      ·rw [hc2]; simp only [gEs,szEs,hg'.1,Bool.true_and,e1]
      ·simp only [gEs,szEs,hg'.1,Bool.true_and,e1]; exact hd2
     ·have hg' : (gE z (.mk e0 e1 e2 e3 e4) a && decide (n + szE (.mk e0 e1 e2 e3 e4)≤600))=false:=by simpa using hg
      obtain ⟨c0,c1,c2⟩:=c;simp only [hg',Option.bind_some,Bool.not_false,cond_true];refine .no rfl ?_;simp only [Bool.and_eq_false_iff,decide_eq_false_iff_not,gEs,szEs] at hg' ⊢;rcases hg' with h | h
      ·exact .inl (.inl h)
      ·exact .inr (decide_eq_false (fun h'=>h (by omega)))
   exact loop l 0 n d (by omega) hn
theorem awb (g1 g2:Bool) (n s1 s2:Nat):(!(g1 && decide (n + s1≤600)) || !(g2 && decide (n + s1 + s2≤600)))=!(g1 && g2 && decide (n + (s1 + s2)≤600)):=by
 rw [← Nat.add_assoc];by_cases hh:n + s1 + s2≤600
 ·have:n + s1≤600:=by omega
  simp only [hh,this,decide_true]; cases g1 <;> cases g2 <;> rfl
 ·simp only [hh,decide_false]; cases g1 <;> cases g2 <;> simp
mutual
def stE:aal→aal | .mk op num txt _ l=>.mk op num txt 0 (stEs l)
def stEs:List aal→List aal | []=>[] | e :: l=>stE e :: stEs l
end
mutual
theorem atH : ∀ e,szE (stE e)=szE e
 | .mk _ _ _ _ l=>by simp only [stE,szE,aiV l]
theorem aiV : ∀ l,szEs (stEs l)=szEs l
 | []=>rfl
 | e :: l=>by simp only [stEs,szEs,atH e,aiV l]
end
def shp (op:Int):Option (Int × Bool × Int × Int × Bool × Int) :=
 match op with
 | 1=>some (1,false,1,1,false,0) | 2=>some (1,false,1,1,false,0) | 3=>some (2,true,0,600,false,0) | 4=>some (2,true,0,600,false,0)
 | 5=>some (2,false,1,1,false,0) | 6=>some (2,false,1,1,false,1) | 7=>some (1,false,1,1,false,2) | 8=>some (1,false,1,1,false,0)
 | 9=>some (1,false,0,0,false,0) | 10=>some (0,false,2,2,false,0) | 11=>some (0,false,1,1,false,0) | 12=>some (0,false,1,1,false,0)
 | 13=>some (0,false,0,0,false,0) | 14=>some (0,false,1,1,false,0) | 15=>some (0,false,1,1,false,0) | 16=>some (0,false,1,1,false,0)
 | 17=>some (0,false,0,1,false,0) | 18=>some (0,false,0,0,false,0) | 19=>some (0,false,0,0,false,0) | 20=>some (0,false,1,1,true,1)
 | 21=>some (0,false,1,1,true,0) | 22=>some (0,false,0,1,true,1) | 23=>some (0,false,0,0,true,0) | 24=>some (2,false,0,0,true,3)
 | 25=>some (1,false,1,1,true,0) | 26=>some (0,false,1,1,true,0) | 27=>some (0,false,0,0,false,0) | 28=>some (1,true,0,600,true,66)
 | 29=>some (0,false,1,1,false,0) | _=>none
theorem apI {P:Int→Prop} (op:Int) (h : ∀ n:Nat,n < 29→P ((n + 1:Nat):Int)) (h0:op < 1∨op > 29→P op):P op:=by
 by_cases h1:op < 1∨op > 29
 ·exact h0 h1
 ·obtain ⟨n,rfl⟩ : ∃ n:Nat,op=((n + 1:Nat):Int):=⟨(op - 1).toNat,by omega⟩;exact h n (by omega)
theorem agN {op:Int} (h:op < 1∨op > 29):shp op=none:=by
 unfold shp;split <;> first | rfl | (exfalso; omega)
def toN:Option (Int × Bool × Int × Int × Bool × Int)→Option aaC
 | none=>none
 | some (nm,fr,lo,hi,bd,fl)=>some (.mk nm fr lo (if hi=600 then 601 else hi) bd)
theorem akT (op:Int) : ∀ L:List (Int × aaC),(∀ x ∈ L,qI op x.1=false)→mget qI op L=none
 | [],_=>rfl
 | (a,v) :: L,h=>by
  unfold mget;rw [if_neg (by rw [h (a,v) (by simp)]; simp)];exact akT op L fun x hx=>h x (by simp [hx])
theorem ar5 (k:Nat) (op:Int):(f148 k).bind (fun r=>some (mget qI op r))=some (toN (shp op)):=by
 refine apI (P:=fun op=>(f148 k).bind (fun r=>some (mget qI op r))=some (toN (shp op))) op ?_ ?_
 ·intro n hn
  match n,hn with
  | 0,_=>rfl | 1,_=>rfl | 2,_=>rfl | 3,_=>rfl | 4,_=>rfl | 5,_=>rfl | 6,_=>rfl | 7,_=>rfl | 8,_=>rfl | 9,_=>rfl
  | 10,_=>rfl | 11,_=>rfl | 12,_=>rfl | 13,_=>rfl | 14,_=>rfl | 15,_=>rfl | 16,_=>rfl | 17,_=>rfl | 18,_=>rfl | 19,_=>rfl
  | 20,_=>rfl | 21,_=>rfl | 22,_=>rfl | 23,_=>rfl | 24,_=>rfl | 25,_=>rfl | 26,_=>rfl | 27,_=>rfl | 28,_=>rfl
  | n + 29,h=>omega
 ·intro h;rw [agN h];obtain ⟨L,hL,hA⟩ : ∃ L,f148 k=some L∧(L.all fun x=>decide (1≤x.1) && decide (x.1≤29))=true:=⟨_,rfl,rfl⟩;rw [hL];simp only [Option.bind_some];rw [akT op L]
  ·rfl
  ·intro x hx;have:=List.all_eq_true.mp hA x hx;simp only [Bool.and_eq_true,decide_eq_true_eq] at this;unfold qI; rw [beq_eq_false_iff_ne]; omega
def alH (op:Int) (name:ByteArray) (flag:Int) (l8 l9:Int):Bool :=
 let b0:=(IntKind.i64.wrap (BitVec.ofInt IntKind.i64.bits flag &&& BitVec.ofInt IntKind.i64.bits 1).toNat) == 1
 let b1:=(IntKind.i64.wrap (BitVec.ofInt IntKind.i64.bits flag &&& BitVec.ofInt IntKind.i64.bits 2).toNat) == 2
 cond (op == 6) (decide (flag ≥ 0) && decide (flag≤1) && (flag == 0 || !seq name ⟨#[]⟩) && l8 == 0 && l9 == 0)
 (cond (op == 7) (decide (flag ≥ 0) && decide (flag≤2) && l8 == 0 && l9 == 0)
 (cond (op == 22) (decide (flag ≥ 0) && decide (flag≤1) && l8 == 0 && l9 == 0)
 (cond (op == 20) (decide (flag ≥ 0) && decide (flag≤1) && (flag == 1 || l8 == 0) && l9 == 0)
 (cond (op == 24) (decide (flag ≥ 1) && decide (flag≤3) && ((!seq name ⟨#[]⟩) == b0) && (b0 || l8 == 0) && (b1 || l9 == 0))
 (cond (op == 28) (decide (flag ≥ 0) && decide (flag≤66) && decide (flag.tmod 4 < 3) && l8 == 0 && l9 == 0)
  (flag == 0 && l8 == 0 && l9 == 0))))))
theorem asj (k:Nat) (op:Int) (name:ByteArray) (s2:Int) (fr:ByteArray) (s4 flag:Int) (l6:List aal) (l7 l8 l9:List aag) (l10:List aaz) :
  f149 k (.mk op name s2 fr s4 flag l6 l7 l8 l9 l10)=some (alH op name flag l8.length l9.length):=by
 unfold f149 amm ahu acL ad7 alH;simp only [aif,Option.bind_some,Bool.cond_eq_ite];generalize (IntKind.i64.wrap (BitVec.ofInt IntKind.i64.bits flag &&& BitVec.ofInt IntKind.i64.bits 1).toNat == 1)=b0;generalize (IntKind.i64.wrap (BitVec.ofInt IntKind.i64.bits flag &&& BitVec.ofInt IntKind.i64.bits 2).toNat == 2)=b1;generalize ((l8.length:Int) == 0)=c8;generalize ((l9.length:Int) == 0)=c9;generalize seq name ⟨#[]⟩=e;grind (splits:=20)
def anf (nm:Int) (fr:Bool) (name from_:ByteArray):Bool :=
 (seq name ⟨#[]⟩ || (!(nm == 0) && isN name)) && (!seq name ⟨#[]⟩ || !(nm == 1)) && ((!seq from_ ⟨#[]⟩) == fr) && (!fr || isN from_)
def aiK (op lo hi:Int) (bd:Bool) (l6 l7 l10:Int):Bool :=
 decide (l6 ≥ lo) && decide (l6≤hi) && (bd || !decide (l7 > 0)) && (cond (op == 27) (decide (l10 ≥ 1) && decide (l10≤4)) (!decide (l10 > 0)))
section
variable (k:Nat) (F:acD) (op:Int) (name:ByteArray) (s2:Int) (from_:ByteArray) (s4 flag:Int) (l6:List aal) (l7 l8 l9:List aag) (l10:List aaz) (a nm:Int) (fr:Bool) (lo hi:Int) (bd:Bool) (n d:Int) (z q:Bool)
theorem am9:abB k F op l6 l7 l8 l9 l10 a lo hi bd n d z q =
  cond (!q && aiK op lo hi bd l6.length l7.length l10.length) (aci k F l6 l7 l8 l9 l10 a l10 0 n d z) (some (.mk n d z,false)):=by
 unfold abB acv aiK;simp only [aif,Option.bind_some,Bool.cond_eq_ite];grind (splits:=20)
theorem aio:adp k F op name from_ l6 l7 l8 l9 l10 a nm fr lo hi bd n d z q =
  cond (!q && anf nm fr name from_ && aiK op lo hi bd l6.length l7.length l10.length) (aci k F l6 l7 l8 l9 l10 a l10 0 n d z) (some (.mk n d z,false)):=by
 unfold adp anf;simp only [ak1,am9,Option.bind_some,Bool.cond_eq_ite];grind (splits:=20)
theorem am5:afg k F n d z op name s2 from_ s4 flag l6 l7 l8 l9 l10 a nm fr lo hi bd true =
  (f68 k (.mk n d z) a).bind fun x=>match x with
   | (.mk n1 d1 z1,ok)=>cond (ok && ((s2 == 0 && s4 == 0) || z1) && alH op name flag l8.length l9.length && anf nm fr name from_ && aiK op lo hi bd l6.length l7.length l10.length)
    (aci k F l6 l7 l8 l9 l10 a l10 0 n1 d1 z1) (some (.mk n1 d1 z1,false)):=by
 unfold afg;simp only [Bool.not_true,cond_false];congr 1;funext x;obtain ⟨⟨n1,d1,z1⟩,ok⟩:=x;simp only [asj,aio,Option.bind_some,Bool.cond_eq_ite];grind (splits:=20)
end
def arD (nm:Int) (name:ByteArray):Bool:=(nm == 0 && seq name ⟨#[]⟩) || (nm == 1 && isN name) || (nm == 2 && (seq name ⟨#[]⟩ || isN name))
def ape (fr:Bool) (from_:ByteArray):Bool:=cond fr (isN from_) (seq from_ ⟨#[]⟩)
def aqr (op:Int) (name:ByteArray) (flag:Int) (l8 l9:Int):Bool :=
 (l8 == 0 || (op == 20 && flag == 1) || (op == 24 && flag.tmod 2 == 1)) && (l9 == 0 || (op == 24 && decide (flag ≥ 2))) &&
 cond (op == 6) (flag == 0 || !seq name ⟨#[]⟩) (cond (op == 24) (decide (flag > 0) && ((flag.tmod 2 == 1) == !seq name ⟨#[]⟩)) (cond (op == 28) (decide (flag.tmod 4 < 3)) true))
def an2 (op l10:Int):Bool:=((op == 27) == decide (l10 > 0)) && decide (l10≤4)
def anc (op:Int) (name from_:ByteArray) (flag:Int) (l6 l7 l8 l9 l10:Nat):Bool :=
 match shp op with
 | none=>false
 | some (nm,fr,lo,hi,bd,fl)=>alH op name flag l8 l9 && anf nm fr name from_ && aiK op lo (if hi=600 then 601 else hi) bd l6 l7 l10
def afU (op:Int) (name from_:ByteArray) (flag:Int) (l6 l7 l8 l9 l10:Nat):Bool :=
 match shp op with
 | none=>false
 | some (nm,fr,lo,hi,bd,fl)=>decide ((l6:Int) ≥ lo) && decide ((l6:Int)≤hi) && decide (flag ≥ 0) && decide (flag≤fl) && (arD nm name && ape fr from_ && (bd || (l7:Int) == 0) && aqr op name flag l8 l9 && an2 op l10)
theorem amd {s:ByteArray} (h:isN s=true):seq s ⟨#[]⟩=false:=by
 unfold isN at h; cases hs:seq s ⟨#[]⟩ with
 | false=>rfl
 | true=>rw [hs] at h; simp at h
theorem bits (flag:Int) (h1:1≤flag) (h2:flag≤3):(IntKind.i64.wrap (BitVec.ofInt IntKind.i64.bits flag &&& BitVec.ofInt IntKind.i64.bits 1).toNat == 1)=(flag.tmod 2 == 1) ∧
  (IntKind.i64.wrap (BitVec.ofInt IntKind.i64.bits flag &&& BitVec.ofInt IntKind.i64.bits 2).toNat == 2)=decide (flag ≥ 2):=by
 rcases (by omega:flag=1∨flag=2∨flag=3) with rfl | rfl | rfl <;> exact ⟨rfl,rfl⟩
theorem arg (op:Int) (name from_:ByteArray) (flag:Int) (l6 l7 l8 l9 l10:Nat) (h6:l6≤600):anc op name from_ flag l6 l7 l8 l9 l10=afU op name from_ flag l6 l7 l8 l9 l10:=by
 have hn:=@amd name;have hf:=@amd from_;have hb:=bits flag;unfold anc afU alH anf aiK arD ape aqr an2;generalize (IntKind.i64.wrap (BitVec.ofInt IntKind.i64.bits flag &&& BitVec.ofInt IntKind.i64.bits 1).toNat == 1)=b0 at hb ⊢;generalize (IntKind.i64.wrap (BitVec.ofInt IntKind.i64.bits flag &&& BitVec.ofInt IntKind.i64.bits 2).toNat == 2)=b1 at hb ⊢;generalize isN name=n1 at hn ⊢;generalize isN from_=n2 at hf ⊢;generalize seq name ⟨#[]⟩=e1 at hn ⊢;generalize seq from_ ⟨#[]⟩=e2 at hf ⊢;generalize flag.tmod 2=t2 at hb ⊢;generalize flag.tmod 4=t4;by_cases hop:op < 1∨op > 29
 ·rw [agN hop]
 rcases (by omega:op=1∨op=2∨op=3∨op=4∨op=5∨op=6∨op=7∨op=8∨op=9∨op=10∨op=11∨op=12∨op=13∨op=14∨op=15∨op=16∨op=17∨op=18∨op=19∨op=20∨op=21∨op=22∨op=23∨op=24∨op=25∨op=26∨op=27∨op=28∨op=29) with rfl | rfl | rfl | rfl | rfl | rfl | rfl | rfl | rfl | rfl | rfl | rfl | rfl | rfl | rfl | rfl | rfl | rfl | rfl | rfl | rfl | rfl | rfl | rfl | rfl | rfl | rfl | rfl | rfl <;>
  simp only [shp,Int.reduceBEq,cond_true,cond_false,Int.reduceEq,if_true,if_false] <;> grind (splits:=20)
end Go.Proofs.YtoegpkmhifmamaaGreatDoor
namespace Go.Proofs.YtoegpkmhifmamaaGreatDoor
open Go
def alh (kind:Int) (name:ByteArray) (len:Int):Bool :=
 decide (kind ≥ 1) && decide (kind≤4) && len == (cond (kind == 2) 2 (cond (kind == 4) 0 1)) && cond (kind == 1) (isN name) (seq name ⟨#[]⟩)
mutual
def gS (z:Bool):aag→Nat→Bool
 | .mk op name s2 fr s4 flag l6 l7 l8 l9 l10,a=>decide (a≤16) && (z || (s2 == 0 && s4 == 0)) && afU op name fr flag l6.length l7.length l8.length l9.length l10.length &&
  (gEs z l6 (a + 1) && (gSs z l7 (a + 1) && (gSs z l8 (a + 1) && (gSs z l9 (a + 1) && gCs z l10 (a + 1)))))
def gSs (z:Bool):List aag→Nat→Bool
 | [],_=>true
 | s :: l,a=>gS z s a && gSs z l a
def gC (z:Bool):aaz→Nat→Bool
 | .mk kind name slot es b,a=>decide (a≤16) && (z || slot == 0) && alh kind name es.length && (gEs z es (a + 1) && gSs z b (a + 1))
def gCs (z:Bool):List aaz→Nat→Bool
 | [],_=>true
 | .mk kind name slot es b :: l,a=>(!(kind == 4) || l.isEmpty) && gC z (.mk kind name slot es b) a && gCs z l a
end
theorem abI : ∀ e:aag,1≤szS e
 | .mk _ _ _ _ _ _ _ _ _ _ _=>by simp only [szS]; omega
theorem acZ : ∀ e:aaz,1≤szC e
 | .mk _ _ _ _ _=>by simp only [szC]; omega
theorem NRes.bind {r:Option (aac × Bool)} {f:aac × Bool→Option (aac × Bool)} {g1 g2:Bool} {n s1 s2:Nat} {z:Bool} (h1:NRes r g1 n s1 z)
  (hf : ∀ c,∃ c',f (c,false)=some (c',false)) (h2 : ∀ d,n + s1≤600→NRes (f (.mk ((n + s1:Nat):Int) d z,true)) g2 (n + s1) s2 z):NRes (r.bind f) (g1 && g2) n (s1 + s2) z:=by
 obtain ⟨c,rfl,hc⟩:=h1;by_cases hg:(g1 && decide (n + s1≤600))=true
 ·obtain ⟨d,rfl⟩:=hc hg;rw [Bool.and_eq_true,decide_eq_true_eq] at hg;obtain ⟨h3,h4⟩:=hg;subst h3;simp only [h4,decide_true,Bool.and_self,Bool.true_and,Option.bind_some];obtain ⟨c,h5,h6⟩:=h2 d h4;rw [Nat.add_assoc] at h5 h6;exact ⟨c,h5,h6⟩
 ·have hg' : (g1 && decide (n + s1≤600))=false:=by simpa using hg
  rw [hg'];obtain ⟨c',h⟩:=hf c;refine .no h ?_;rw [Bool.and_eq_false_iff,decide_eq_false_iff_not] at hg' ⊢;rcases hg' with h | h
  ·left; rw [h]; rfl
  ·right; omega
theorem NRes.conv {r:Option (aac × Bool)} {g g' : Bool} {n s n' s' : Nat} {z:Bool} (h:NRes r g n s z) (hs:n + s=n' + s') (hg:n + s≤600→g=g'):NRes r g' n' s' z:=by
 unfold NRes at h ⊢;rw [← hs];have:(g && decide (n + s≤600))=(g' && decide (n + s≤600)):=by
  by_cases h:n + s≤600
  ·rw [hg h]
  ·simp [h]
 rwa [← this]
theorem aog (k:Nat) (z:Bool) (l:List aal) (hk:2 * szEs l + 1≤k) (n:Nat) (d:Int) (a:Nat) (hn:n≤600) (ha:a≤17):NRes (f72 k (.mk n d z) l a) (gEs z l a) n (szEs l) z :=
 (nE k z k).2 l hk n d a hn ha
theorem avo (kind:Int):mget qI kind (mput qI 4 0 (mput qI 3 1 (mput qI 2 2 (mput qI 1 1 ([]:List (Int × Int)))))) =
  cond (decide (kind ≥ 1) && decide (kind≤4)) (some (cond (kind == 2) 2 (cond (kind == 4) 0 1))) none:=by
 have e:mput qI 4 0 (mput qI 3 1 (mput qI 2 2 (mput qI 1 1 ([]:List (Int × Int)))))=[(1,1),(2,2),(3,1),(4,0)]:=rfl;rw [e];unfold mget mget mget mget mget qI;simp only [Bool.cond_eq_ite];grind
theorem aov (k:Nat) (F:acD) (kind:Int) (name:ByteArray) (slot:Int) (es:List aal) (b:List aag) (a n d:Int) (z:Bool) :
  aiw k F (.mk n d z) (.mk kind name slot es b) a=cond (decide (kind ≥ 1) && decide (kind≤4)) ((f68 k (.mk n d z) a).bind fun x=>match x with
   | (.mk n1 d1 z1,ok)=>cond (ok && (z1 || slot == 0) && alh kind name es.length) (acu k F es b a n1 d1 z1 false) (some (.mk n1 d1 z1,false))) (some (.mk n d z,false)):=by
 unfold aiw;simp only [avo];by_cases hk:(decide (kind ≥ 1) && decide (kind≤4))=true
 ·simp only [hk,cond_true,ae4];congr 1;funext x;obtain ⟨⟨n1,d1,z1⟩,ok⟩:=x;unfold acu;have hn:=@amd name;simp only [ak1,Option.bind_some,alh,hk,Bool.true_and];generalize (cond (kind == 2) (2:Int) (cond (kind == 4) 0 1))=e;generalize isN name=n1 at hn ⊢;generalize seq name ⟨#[]⟩=e1 at hn ⊢;simp only [Bool.cond_eq_ite];grind (splits:=20)
 ·have hk' : (decide (kind ≥ 1) && decide (kind≤4))=false:=by simpa using hk
  simp only [hk',cond_false,ae4]
theorem aoO {op lo hi:Int} {bd:Bool} {l6 l7:Int} {l10:Nat} (h:aiK op lo hi bd l6 l7 l10=true):l10≤4:=by
 unfold aiK at h;cases hop:(op == 27) <;> simp only [hop,cond_true,cond_false,Bool.and_eq_true,Bool.not_eq_true',decide_eq_true_eq,decide_eq_false_iff_not] at h <;> omega
theorem nSt (k:Nat) (z:Bool) : ∀ m,m≤k →
  (∀ s,2 * szS s≤m→∀ (n:Nat) (d:Int) (a:Nat),n≤600→a≤17→NRes ((abW k m).f136 (.mk n d z) s a) (gS z s a) n (szS s) z) ∧
  (∀ l,2 * szSs l + 1≤m→∀ (n:Nat) (d:Int) (a:Nat),n≤600→a≤17→NRes ((abW k m).f119 (.mk n d z) l a) (gSs z l a) n (szSs l) z) ∧
  (∀ c,2 * szC c≤m→∀ (n:Nat) (d:Int) (a:Nat),n≤600→a≤17→NRes ((abW k m).f150 (.mk n d z) c a) (gC z c a) n (szC c) z)
 | 0,_=>⟨fun e he=>by have:=abI e; omega,fun l hl=>by omega,fun c hc=>by have:=acZ c; omega⟩
 | m + 1,hmk=>by
  obtain ⟨ihs,ihl,ihc⟩:=nSt k z m (by omega);refine ⟨?_,?_,?_⟩
  ·intro s hs n d a hn ha;obtain ⟨op,name,s2,fr,s4,flag,l6,l7,l8,l9,l10⟩:=s;simp only [szS] at hs;show NRes (ak8 k (abW k m) (.mk n d z) (.mk op name s2 fr s4 flag l6 l7 l8 l9 l10) a) _ _ _ _;have tail : ∀ (n:Nat) (d:Int),a≤16→n≤600→NRes (aci k (abW k m) l6 l7 l8 l9 l10 a [] l10.length n d z) (gEs z l6 (a + 1) && (gSs z l7 (a + 1) && (gSs z l8 (a + 1) && gSs z l9 (a + 1)))) n (szEs l6 + (szSs l7 + (szSs l8 + szSs l9))) z:=by
    intro n d ha hn;unfold aci;rw [acj (n:=a + 1) (by omega) (by omega)];refine (aog k z l6 (by omega) n d (a + 1) hn (by omega)).bind (fun c=>by obtain ⟨_,_,_⟩:=c; exact ⟨_,rfl⟩) fun d hn=>?_
    refine (ihl l7 (by omega) _ d (a + 1) hn (by omega)).bind (fun c=>by obtain ⟨_,_,_⟩:=c; exact ⟨_,rfl⟩) fun d hn=>?_
    refine (ihl l8 (by omega) _ d (a + 1) hn (by omega)).bind (fun c=>by obtain ⟨_,_,_⟩:=c; exact ⟨_,rfl⟩) fun d hn=>?_
    refine ((ihl l9 (by omega) _ d (a + 1) hn (by omega)).bind (g2:=true) (s2:=0) (fun c=>by obtain ⟨_,_,_⟩:=c; exact ⟨_,rfl⟩) fun d hn=>?_).conv (by omega) (fun _=>by simp);exact .yes rfl (by simp [hn])
   have loop:a≤16→l10.length≤4→∀ (rest:List aaz) (i:Nat) (n:Nat) (d:Int),2 * szCs rest≤m→i + rest.length=l10.length→n≤600 →
     NRes (aci k (abW k m) l6 l7 l8 l9 l10 a rest i n d z) (gCs z rest (a + 1) && (gEs z l6 (a + 1) && (gSs z l7 (a + 1) && (gSs z l8 (a + 1) && gSs z l9 (a + 1))))) n (szCs rest + (szEs l6 + (szSs l7 + (szSs l8 + szSs l9)))) z:=by
    intro ha h10 rest;induction rest with
    | nil =>
     intro i n d _ hi hn;obtain rfl:i=l10.length:=by simpa using hi
     exact (tail n d ha hn).conv (by simp [szCs]) (fun _=>by simp [gCs])
    | cons c rest ih =>
     intro i n d hm hi hn;obtain ⟨e0,e1,e2,e3,e4⟩:=c;simp only [szCs,List.length_cons] at hm hi;unfold aci;rw [acj (x:=(a:Int) + 1) (n:=a + 1) (by omega) (by omega),acj (x:=(l10.length:Int) - 1) (n:=l10.length - 1) (by omega) (by omega)];have step:NRes (((abW k m).f150 (.mk n d z) (.mk e0 e1 e2 e3 e4) ((a + 1:Nat):Int)).bind fun q_=>match q_ with | (.mk z1467_0 z1467_1 z1467_2,r1468)=>(af0 k (abW k m) i z1467_0 z1467_1 z1467_2 (!r1468) (aci k (abW k m) l6 l7 l8 l9 l10 a rest)))
       (gC z (.mk e0 e1 e2 e3 e4) (a + 1) && (gCs z rest (a + 1) && (gEs z l6 (a + 1) && (gSs z l7 (a + 1) && (gSs z l8 (a + 1) && gSs z l9 (a + 1)))))) n (szC (.mk e0 e1 e2 e3 e4) + (szCs rest + (szEs l6 + (szSs l7 + (szSs l8 + szSs l9))))) z :=
      (ihc (.mk e0 e1 e2 e3 e4) (by omega) n d (a + 1) hn (by omega)).bind (fun c=>by obtain ⟨_,_,_⟩:=c; exact ⟨_,rfl⟩) fun d hn=>ih (i + 1) _ d (by omega) (by omega) hn
     by_cases h4:(e0 == 4)=true
     ·simp only [h4,cond_true];by_cases hl:i < l10.length - 1
      ·have:((i:Int) < ((l10.length - 1:Nat):Int)):=by omega
       simp only [this,decide_true,cond_true];refine .no rfl ?_;have:rest.isEmpty=false:=by cases rest with
        | nil=>simp at hi; omega
        | cons=>rfl
       simp [gCs,h4,this]
      ·have : ¬ ((i:Int) < ((l10.length - 1:Nat):Int)):=by omega
       simp only [this,decide_false,cond_false];have:rest.isEmpty=true:=by cases rest with
        | nil=>rfl
        | cons=>simp at hi; omega
       exact step.conv (by simp only [szCs]; omega) (fun _=>by simp [gCs,this,Bool.and_assoc])
     ·have h4' : (e0 == 4)=false:=by simpa using h4
      simp only [h4',cond_false];exact step.conv (by simp only [szCs]; omega) (fun _=>by simp [gCs,h4',Bool.and_assoc])
   unfold ak8;obtain ⟨L,hL⟩ : ∃ L,f148 k=some L:=⟨_,rfl⟩;have hg:=ar5 k op;rw [hL] at hg ⊢;simp only [Option.bind_some,Option.some.injEq] at hg ⊢;rw [hg];cases hsh:shp op with
   | none =>
    have:afU op name fr flag l6.length l7.length l8.length l9.length l10.length=false:=by unfold afU; rw [hsh]
    refine .no (c:=.mk n d z) ?_ (by simp [gS,this]);simp only [toN,ae4];unfold afg;simp only [Bool.not_false,cond_true,aio];rfl
   | some t =>
    obtain ⟨nm,frm,lo,hi,bd,fl⟩:=t;simp only [toN,ae4,am5,amB k n d z a hn,Option.bind_some];have hN:anc op name fr flag l6.length l7.length l8.length l9.length l10.length=(alH op name flag l8.length l9.length && anf nm frm name fr && aiK op lo (if hi=600 then 601 else hi) bd l6.length l7.length l10.length):=by unfold anc; rw [hsh]
    rw [Bool.and_assoc,Bool.and_assoc,← Bool.and_assoc (alH _ _ _ _ _),← hN];have hl6:=al7 l6;by_cases h1:n + 1≤600∧a≤16
    ·obtain ⟨h1,h2⟩:=h1;by_cases h3:((s2 == 0 && s4 == 0) || z)=true
     ·by_cases h4:anc op name fr flag l6.length l7.length l8.length l9.length l10.length=true
      ·have h10:l10.length≤4:=by
        rw [hN] at h4;rw [Bool.and_eq_true] at h4;exact aoO h4.2
       simp only [h1,h2,h3,h4,decide_true,Bool.and_self,cond_true];refine (loop h2 h10 l10 0 (n + 1) (imax d a) (by omega) (by omega) h1).conv (by simp only [szS]; omega) (fun hh=>?_);have h5:afU op name fr flag l6.length l7.length l8.length l9.length l10.length=true:=by rw [← arg _ _ _ _ _ _ _ _ _ (by omega)]; exact h4
       simp only [gS,h2,decide_true,h5];rw [Bool.or_comm] at h3;simp only [h3,Bool.and_self,Bool.true_and];cases gCs z l10 (a + 1) <;> cases gEs z l6 (a + 1) <;> cases gSs z l7 (a + 1) <;> cases gSs z l8 (a + 1) <;> cases gSs z l9 (a + 1) <;> rfl
      ·have h4' : anc op name fr flag l6.length l7.length l8.length l9.length l10.length=false:=by simpa using h4
       simp only [h4',Bool.and_false,cond_false];refine .no rfl ?_;by_cases hh:n + szS (.mk op name s2 fr s4 flag l6 l7 l8 l9 l10)≤600
       ·have h5:afU op name fr flag l6.length l7.length l8.length l9.length l10.length=false:=by
         rw [← arg _ _ _ _ _ _ _ _ _ (by simp only [szS] at hh; omega)]; exact h4'
        simp [gS,h5]
       ·simp [hh]
     ·have h3' : ((s2 == 0 && s4 == 0) || z)=false:=by simpa using h3
      simp only [h3',Bool.false_and,Bool.and_false,cond_false];refine .no rfl ?_;rw [Bool.or_comm] at h3';simp only [gS,h3',Bool.false_and,Bool.and_false]
    ·have h1' : (decide (n + 1≤600) && decide (a≤16))=false:=by
      simp only [Bool.and_eq_false_iff,decide_eq_false_iff_not]; omega
     simp only [h1',Bool.false_and,cond_false];refine .no rfl ?_;rw [Bool.and_eq_false_iff,decide_eq_false_iff_not];by_cases h2:a≤16
     ·right; simp only [szS]; omega
     ·left; simp [gS,h2]
  ·intro l hl n d a hn ha;show NRes (aeB k (abW k m) a l 0 n d z) _ _ _ _;have loop : ∀ (l:List aag) (i:Nat) (n:Nat) (d:Int),2 * szSs l≤m→n≤600→NRes (aeB k (abW k m) a l i n d z) (gSs z l a) n (szSs l) z:=by
    intro l;induction l with
    | nil=>intro i n d _ hn; exact .yes rfl (by simp [gSs,szSs,hn])
    | cons e l ih =>
     intro i n d hm hn;obtain ⟨e0,e1,e2,e3,e4,e5,e6,e7,e8,e9,e10⟩:=e;unfold aeB;simp only [szSs] at hm;exact (ihs (.mk e0 e1 e2 e3 e4 e5 e6 e7 e8 e9 e10) (by omega) n d a hn ha).bind (fun c=>by obtain ⟨_,_,_⟩:=c; exact ⟨_,rfl⟩) fun d hn=>ih (i + 1) _ d (by omega) hn
   exact loop l 0 n d (by omega) hn
  ·intro c hc n d a hn ha;obtain ⟨kind,name,slot,es,b⟩:=c;simp only [szC] at hc;show NRes (aiw k (abW k m) (.mk n d z) (.mk kind name slot es b) a) _ _ _ _;rw [aov];by_cases hk:(decide (kind ≥ 1) && decide (kind≤4))=true
   ·simp only [hk,cond_true];rw [amB k n d z a hn];simp only [Option.bind_some];by_cases h1:n + 1≤600∧a≤16
    ·obtain ⟨h1,h2⟩:=h1;by_cases h3:((z || slot == 0) && alh kind name es.length)=true
     ·rw [Bool.and_assoc,h3];simp only [h1,h2,decide_true,Bool.and_self,cond_true];unfold acu;simp only [cond_false];rw [acj (x:=(a:Int) + 1) (n:=a + 1) (by omega) (by omega)];refine NRes.conv (g:=gEs z es (a + 1) && (gSs z b (a + 1) && true)) (n:=n + 1) (s:=szEs es + (szSs b + 0)) ?_ (by simp only [szC]; omega) (fun _=>?_)
      ·refine (aog k z es (by omega) (n + 1) _ (a + 1) h1 (by omega)).bind (fun c=>by obtain ⟨_,_,_⟩:=c; exact ⟨_,rfl⟩) fun d hn=>?_
       refine (ihl b (by omega) _ d (a + 1) hn (by omega)).bind (fun c=>by obtain ⟨_,_,_⟩:=c; exact ⟨_,rfl⟩) fun d hn=>?_
       exact .yes rfl (by simp [hn])
      ·simp only [gC,h2,decide_true,Bool.true_and,Bool.and_true,h3]
     ·have h3' : ((z || slot == 0) && alh kind name es.length)=false:=by simpa using h3
      rw [Bool.and_assoc,h3',Bool.and_false];refine .no rfl ?_;rw [gC,Bool.and_assoc (decide (a≤16)),h3'];simp
    ·have h1' : (decide (n + 1≤600) && decide (a≤16))=false:=by
      simp only [Bool.and_eq_false_iff,decide_eq_false_iff_not]; omega
     simp only [h1',Bool.false_and,cond_false];refine .no rfl ?_;rw [Bool.and_eq_false_iff,decide_eq_false_iff_not];by_cases h2:a≤16
     ·right; simp only [szC]; omega
     ·left; simp [gC,h2]
   ·have hk' : (decide (kind ≥ 1) && decide (kind≤4))=false:=by simpa using hk
    simp only [hk',cond_false];exact .no rfl (by simp only [gC,alh,hk',Bool.false_and,Bool.and_false])
def okP:List aaL→Bool
 | []=>true
 | .mk nm kd :: l=>isN nm && decide (kd ≥ 1) && decide (kd≤6) && okP l
def alI (z:Bool) (name:ByteArray) (np:Nat) (res:Int) (f3:Bool) (s4:Int):Bool :=
 isN name && decide (np≤4) && (z || s4 == 0) && (!f3 || res == 0) && decide (res ≥ 0) && decide (res≤6)
def gFs (z:Bool):List aaf→Bool
 | []=>true
 | .mk name ps res f3 s4 b :: l=>alI z name ps.length res f3 s4 && (okP ps && (gSs z b 1 && gFs z l))
def cnF:aaf→Nat | .mk _ _ _ _ _ b=>szSs b + 1
def cnFs:List aaf→Nat | []=>0 | f :: l=>cnF f + cnFs l
def wf (z:Bool):aaa→Bool
 | .mk fs=>decide (1≤fs.length) && decide (fs.length≤16) && gFs z fs && decide (cnFs fs≤600)
section
variable (k i:Nat) (body:List aag) (n d:Int) (z q:Bool) (nx:Nat→Int→Int→Bool→Option (aac × Bool))
theorem ak7 : ∀ (ps:List aaL) (j:Nat),adA k i body n d z nx ps j=cond (okP ps) (adA k i body n d z nx [] 0) (some (.mk n d z,false))
 | [],j=>rfl
 | .mk nm kd :: ps,j=>by
  have ih:=ak7 ps;generalize adA k i body n d z nx [] 0=A at ih ⊢;rw [adA];simp only [ak1,aif,Option.bind_some,akB,ih,okP];cases isN nm <;> cases decide (kd ≥ 1) <;> cases decide (kd≤6) <;> rfl
theorem aoC (ps:List aaL):adt k i ps body n d z q nx=cond (!q && okP ps) (adA k i body n d z nx [] 0) (some (.mk n d z,false)):=by
 unfold adt;rw [ak7];cases q <;> rfl
end
theorem ap2 (k:Nat) (z:Bool) (l:List aag) (hk:2 * szSs l + 1≤k) (n:Nat) (d:Int) (a:Nat) (hn:n≤600) (ha:a≤17):NRes (f119 k (.mk n d z) l a) (gSs z l a) n (szSs l) z :=
 (nSt k z k (Nat.le_refl k)).2.1 l hk n d a hn ha
theorem ao7 (k:Nat) (name:ByteArray) (ps:List aaL) (res:Int) (f3:Bool) (s4:Int) (b:List aag) (l:List aaf) (i:Nat) (n d:Int) (z:Bool) :
  ach k (.mk name ps res f3 s4 b :: l) i n d z=(f68 k (.mk n d z) 0).bind fun x=>match x with
   | (.mk n1 d1 z1,ok)=>cond (ok && alI z1 name ps.length res f3 s4 && okP ps) (adA k i b n1 d1 z1 (ach k l) [] 0) (some (.mk n1 d1 z1,false)):=by
 rw [ach];congr 1;funext x;obtain ⟨⟨n1,d1,z1⟩,ok⟩:=x;simp only [ak1,aif,Option.bind_some,aoC,alI];have e:decide ((ps.length:Int) > 4)=!decide (ps.length≤4):=by rw [← decide_not,decide_eq_decide]; omega
 rw [e];simp only [Bool.cond_eq_ite];grind (splits:=20)
theorem nFs (k:Nat) (z:Bool) : ∀ (l:List aaf) (i:Nat) (n:Nat) (d:Int),2 * szFs l + 1≤k→n≤600→NRes (ach k l i n d z) (gFs z l) n (cnFs l) z
 | [],i,n,d,hk,hn=>.yes rfl (by simp [gFs,cnFs,hn])
 | .mk name ps res f3 s4 b :: l,i,n,d,hk,hn=>by
  simp only [szFs,szF] at hk;rw [ao7];have e0:((0:Nat):Int)=0:=rfl;rw [← e0,amB k n d z 0 hn,e0];simp only [Option.bind_some,Nat.zero_le,decide_true,Bool.and_true];by_cases h1:n + 1≤600
  ·by_cases h2:(alI z name ps.length res f3 s4 && okP ps)=true
   ·rw [Bool.and_assoc,h2];simp only [h1,decide_true,Bool.and_self,cond_true];rw [adA];refine ((ap2 k z b (by omega) (n + 1) (imax d 0) 1 h1 (by omega)).bind (f:=fun q_=>match q_ with | (.mk z10628_0 z10628_1 z10628_2,r10629)=>(cond (!r10629) (some ((aac.mk z10628_0 z10628_1 z10628_2),false)) (ach k l (i + 1) z10628_0 z10628_1 z10628_2)))
     (fun c=>by obtain ⟨_,_,_⟩:=c; exact ⟨_,rfl⟩) fun d hn=>nFs k z l (i + 1) _ d (by omega) hn).conv (by simp only [cnFs,cnF]; omega) (fun _=>?_)
    rw [Bool.and_eq_true] at h2;simp only [gFs,h2.1,h2.2,Bool.true_and]
   ·have h2' : (alI z name ps.length res f3 s4 && okP ps)=false:=by simpa using h2
    rw [Bool.and_assoc,h2',Bool.and_false];refine .no rfl ?_;rw [gFs,← Bool.and_assoc,h2'];simp
  ·simp only [h1,decide_false,Bool.false_and,cond_false];refine .no rfl ?_;have : ¬ (n + (szSs b + 1 + cnFs l)≤600):=by omega
   simp [cnFs,cnF,this]
theorem ara (k:Nat) (p:aaa) (z:Bool) (hk:2 * szP p + 1≤k):f78 k p z=some (wf z p):=by
 obtain ⟨fs⟩:=p;simp only [szP] at hk;unfold f78 ap7 f99 apH;simp only [aif,Option.bind_some];have e1:(decide ((fs.length:Int) ≥ 1) && decide ((fs.length:Int)≤16))=(decide (1≤fs.length) && decide (fs.length≤16)):=by
  congr 1
  ·rw [decide_eq_decide]; omega
  ·rw [decide_eq_decide]; omega
 rw [e1];by_cases h:(decide (1≤fs.length) && decide (fs.length≤16))=true
 ·rw [h];simp only [Bool.not_true,cond_false];obtain ⟨c,h1,h2⟩:=nFs k z fs 0 0 0 (by omega) (by omega);have e0:((0:Nat):Int)=0:=rfl;rw [e0] at h1;rw [h1];obtain ⟨_,_,_⟩:=c;simp only [Option.bind_some,wf,h,Nat.zero_add,Bool.true_and]
 ·have h' : (decide (1≤fs.length) && decide (fs.length≤16))=false:=by simpa using h
  rw [h'];simp only [Bool.not_false,cond_true,Option.bind_some,wf,h',Bool.false_and]
mutual
def stS:aag→aag | .mk op name _ fr _ flag l6 l7 l8 l9 l10=>.mk op name 0 fr 0 flag (stEs l6) (stSs l7) (stSs l8) (stSs l9) (stCs l10)
def stSs:List aag→List aag | []=>[] | s :: l=>stS s :: stSs l
def stC:aaz→aaz | .mk kind name _ es b=>.mk kind name 0 (stEs es) (stSs b)
def stCs:List aaz→List aaz | []=>[] | c :: l=>stC c :: stCs l
end
def stF:aaf→aaf | .mk name ps res f3 _ b=>.mk name ps res f3 0 (stSs b)
def stFs:List aaf→List aaf | []=>[] | f :: l=>stF f :: stFs l
def stP:aaa→aaa | .mk fs=>.mk (stFs fs)
mutual
theorem aus : ∀ e,szS (stS e)=szS e
 | .mk _ _ _ _ _ _ _ l7 l8 l9 l10=>by simp only [stS,szS,aiV,afb l7,afb l8,afb l9,anw l10]
theorem afb : ∀ l,szSs (stSs l)=szSs l
 | []=>rfl
 | e :: l=>by simp only [stSs,szSs,aus e,afb l]
theorem at5 : ∀ e,szC (stC e)=szC e
 | .mk _ _ _ _ b=>by simp only [stC,szC,aiV,afb b]
theorem anw : ∀ l,szCs (stCs l)=szCs l
 | []=>rfl
 | e :: l=>by simp only [stCs,szCs,at5 e,anw l]
end
theorem aoS : ∀ l,szFs (stFs l)=szFs l
 | []=>rfl
 | .mk _ _ _ _ _ b :: l=>by simp only [stFs,stF,szFs,szF,afb,aoS l]
theorem atI : ∀ p,szP (stP p)=szP p
 | .mk fs=>by simp only [stP,szP,aoS]
end Go.Proofs.YtoegpkmhifmamaaGreatDoor
namespace Go.Proofs.YtoegpkmhifmamaaGreatDoor
open Go
def maxB:Nat:=140737488355328
mutual
def fitE:aal→Prop | .mk _ _ _ _ l=>l.length * 64≤maxB∧aje l
def aje:List aal→Prop | []=>True | e :: l=>fitE e∧aje l
end
mutual
def fitS:aag→Prop | .mk _ _ _ _ _ _ l6 l7 l8 l9 l10=>(l6.length * 64≤maxB∧aje l6)∧(l7.length * 184≤maxB∧agG l7)∧(l8.length * 184≤maxB∧agG l8)∧(l9.length * 184≤maxB∧agG l9)∧(l10.length * 80≤maxB∧aoD l10)
def agG:List aag→Prop | []=>True | e :: l=>fitS e∧agG l
def fitC:aaz→Prop | .mk _ _ _ l b=>(l.length * 64≤maxB∧aje l)∧(b.length * 184≤maxB∧agG b)
def aoD:List aaz→Prop | []=>True | e :: l=>fitC e∧aoD l
end
def fitF:aaf→Prop | .mk _ ps _ _ _ b=>ps.length * 24≤maxB∧(b.length * 184≤maxB∧agG b)
def aoN:List aaf→Prop | []=>True | e :: l=>fitF e∧aoN l
def fitP:aaa→Prop | .mk fs=>fs.length * 88≤maxB∧aoN fs
theorem abz {α:Type} {a:Nat} {x:Option α} (h:a≤maxB):aaW (decide (a≤140737488355328)) x=x:=by
 unfold maxB at h; unfold aaW; rw [decide_eq_true h]; rfl
theorem acY {α:Type} (xs:List α) (e:α):(xs ++ [e]).length=xs.length + 1:=by simp
theorem cE (k:Nat) : ∀ m,(∀ e,2 * szE e≤m→fitE e→(abn k m).f1013727 e=some (stE e)) ∧
  (∀ l,2 * szEs l + 1≤m→l.length * 64≤maxB→aje l→(abn k m).f1012227 l=some (stEs l))
 | 0=>⟨fun e h=>by have:=afI e; omega,fun l h=>by omega⟩
 | m + 1=>by
  obtain ⟨ihe,ihl⟩:=cE k m;constructor
  ·intro e h hf;obtain ⟨e0,e1,e2,e3,e4⟩:=e;simp only [szE,fitE] at h hf;show adT k (abn k m) (.mk e0 e1 e2 e3 e4)=_;unfold adT;simp only;rw [ihl e4 (by omega) hf.1 hf.2];simp [f120,amM,stE]
  ·intro l h hl hf;show abJ k (abn k m) l 0 []=_;have loop : ∀ (l:List aal) (i:Nat) (xs:List aal),2 * szEs l≤m→(xs.length + l.length) * 64≤maxB→aje l→abJ k (abn k m) l i xs=some (xs ++ stEs l):=by
    intro l;induction l with
    | nil=>intro i xs _ _ _; simp [abJ,stEs]
    | cons e l ih =>
     intro i xs hm hl hf;obtain ⟨e0,e1,e2,e3,e4⟩:=e;simp only [szEs,aje,List.length_cons] at hm hl hf;unfold abJ;rw [ihe (.mk e0 e1 e2 e3 e4) (by omega) hf.1];simp only [Option.bind_some,stE];rw [abz (by omega),ih (i + 1) _ (by omega) (by rw [acY]; omega) hf.2];simp [stEs,stE]
   exact loop l 0 [] (by omega) (by simpa using hl) hf
theorem ahb (k:Nat) : ∀ m l,szSs l + 1≤m→2 * szSs l + 1≤k→l.length * 184≤maxB→agG l→(agA k m).f101 l false=some (stSs l)
 | 0,l,h,_,_,_=>by omega
 | m + 1,l,h,hk,hl,hf=>by
  show acK k (agA k m) false l 0 []=some (stSs l);have cs : ∀ (xs:List aag) (i:Nat) (e0:Int) (e1:ByteArray) (e3:ByteArray) (e5 n1 n2:Int) (r6:List aal) (r7 r8 r9:List aag) (nx:Nat→List aag→Option (List aag)) (l:List aaz) (j:Nat) (ys:List aaz),szCs l≤m→2 * szCs l≤k →
    (ys.length + l.length) * 80≤maxB→(xs.length + 1) * 184≤maxB→aoD l→adI k (agA k m) false xs i e0 e1 e3 e5 n1 n2 r6 r7 r8 r9 nx l j ys=nx (i + 1) (xs ++ [.mk e0 e1 n1 e3 n2 e5 r6 r7 r8 r9 (ys ++ stCs l)]):=by
   intro xs i e0 e1 e3 e5 n1 n2 r6 r7 r8 r9 nx l;induction l with
   | nil=>intro j ys _ _ _ hx _; unfold adI; rw [abz hx]; simp [stCs]
   | cons c l ih =>
    intro j ys hm hk hl hx hf;obtain ⟨c0,c1,c2,c3,c4⟩:=c;simp only [szCs,szC,aoD,fitC,List.length_cons] at hm hl hf hk;unfold adI ahO f1012227;rw [(cE k k).2 c3 (by omega) hf.1.1.1 hf.1.1.2];simp only [Bool.not_false,cond_true,Option.bind_some];rw [ahb k m c4 (by omega) (by omega) hf.1.2.1 hf.1.2.2];simp only [Option.bind_some];rw [abz (by omega),ih (j + 1) _ (by omega) (by omega) (by rw [acY]; omega) hx hf.2];simp [stCs,stC]
  have loop : ∀ (l:List aag) (i:Nat) (xs:List aag),szSs l≤m→2 * szSs l≤k→(xs.length + l.length) * 184≤maxB→agG l→acK k (agA k m) false l i xs=some (xs ++ stSs l):=by
   intro l;induction l with
   | nil=>intro i xs _ _ _ _; simp [acK,stSs]
   | cons e l ih =>
    intro i xs hm hk hl hf;obtain ⟨e0,e1,e2,e3,e4,e5,e6,e7,e8,e9,e10⟩:=e;simp only [szSs,szS,agG,fitS,List.length_cons] at hm hl hf hk;obtain ⟨⟨⟨h6,h6'⟩,⟨h7,h7'⟩,⟨h8,h8'⟩,⟨h9,h9'⟩,h10,h10'⟩,hf⟩:=hf;unfold acK ag4 f1012227;rw [(cE k k).2 e6 (by omega) h6 h6',ahb k m e7 (by omega) (by omega) h7 h7',ahb k m e8 (by omega) (by omega) h8 h8',ahb k m e9 (by omega) (by omega) h9 h9'];simp only [Bool.not_false,cond_true,Option.bind_some];rw [cs xs i e0 e1 e3 e5 _ _ _ _ _ _ _ e10 0 [] (by omega) (by omega) (by simpa using h10) (by omega) h10',ih (i + 1) _ (by omega) (by omega) (by rw [acY]; omega) hf];simp [stSs,stS]
  exact loop l 0 [] (by omega) (by omega) (by simpa using hl) hf
theorem auF (k:Nat) (p:aaa) (hk:2 * szP p + 1≤k) (hf:fitP p):f79 k p false=some (stP p):=by
 obtain ⟨fs⟩:=p;simp only [szP,fitP] at hk hf;show aet k false fs 0 []=some (.mk (stFs fs));have loop : ∀ (l:List aaf) (i:Nat) (xs:List aaf),2 * szFs l + 1≤k→(xs.length + l.length) * 88≤maxB→aoN l→aet k false l i xs=some (.mk (xs ++ stFs l)):=by
  intro l;induction l with
  | nil=>intro i xs _ _ _; simp [aet,stFs]
  | cons e l ih =>
   intro i xs hk hl hf;obtain ⟨e0,e1,e2,e3,e4,e5⟩:=e;simp only [szFs,szF,aoN,fitF,List.length_cons] at hk hl hf;unfold aet aky f100 f101;rw [abz hf.1.1,ahb k k e5 (by omega) (by omega) hf.1.2.1 hf.1.2.2];simp only [Bool.not_false,cond_true,Option.bind_some];rw [abz (by omega),ih (i + 1) _ (by omega) (by rw [acY]; omega) hf.2];simp [stFs,stF]
 exact loop fs 0 [] (by omega) (by simpa using hf.1) hf.2
theorem aqb {α:Type} (xs:List α) (e:α) (l:List α) (i:Int) (hi:i=(xs.length:Int)):idxO (xs ++ e :: l) i=some e:=by
 subst hi;unfold idxO;rw [if_pos (by omega)];simp
theorem apJ (a:ByteArray):seq a a=true:=by unfold seq; simp
theorem als (k:Nat) : ∀ m l (a:Int),szEs l + 1≤m→∃ r,(alM k m).f28 l a=some r
 | 0,l,a,h=>by omega
 | m + 1,l,a,h=>by
  show ∃ r,anJ k (alM k m) l a=some r;unfold anJ;have loop : ∀ (l:List aal) (i:Nat) (n:Int),szEs l≤m→∃ r,ahR k (alM k m) a l i n=some r:=by
   intro l;induction l with
   | nil=>intro i n _; exact ⟨_,rfl⟩
   | cons e l ih =>
    intro i n hm;obtain ⟨e0,e1,e2,e3,e4⟩:=e;simp only [szEs,szE] at hm;unfold ahR;cases decide (n≤2000)
    ·exact ⟨_,rfl⟩
    ·obtain ⟨r,hr⟩:=als k m e4 (w64 (a + 1)) (by omega);rw [hr];exact ih _ _ (by omega)
  cases decide (a > 60)
  ·exact loop l 0 0 (by omega)
  ·exact ⟨_,rfl⟩
theorem ahw (k:Nat) : ∀ m l (a:Int),szSs l + 1≤m→szSs l + 1≤k→∃ r,(akr k m).f18 l a=some r
 | 0,l,a,h,_=>by omega
 | m + 1,l,a,h,hk=>by
  show ∃ r,aoI k (akr k m) l a=some r;unfold aoI;have cs : ∀ (i:Nat) (nx:Nat→Int→Option Int) (hnx : ∀ n,∃ r,nx (i + 1) n=some r) (l:List aaz) (j:Nat) (n:Int),szCs l≤m→szCs l≤k→∃ r,ahJ k (akr k m) a i nx l j n=some r:=by
   intro i nx hnx l;induction l with
   | nil=>intro j n _ _; exact hnx _
   | cons e l ih =>
    intro j n hm hk;obtain ⟨e0,e1,e2,e3,e4⟩:=e;simp only [szCs,szC] at hm hk;unfold ahJ f28;cases decide (n≤2000)
    ·exact hnx _
    ·obtain ⟨r,hr⟩:=als k k e3 (w64 (a + 1)) (by omega);obtain ⟨r2,hr2⟩:=ahw k m e4 (w64 (a + 1)) (by omega) (by omega);rw [hr,cond_true,Option.bind_some,hr2];exact ih _ _ (by omega) (by omega)
  have loop : ∀ (l:List aag) (i:Nat) (n:Int),szSs l≤m→szSs l≤k→∃ r,afq k (akr k m) a l i n=some r:=by
   intro l;induction l with
   | nil=>intro i n _ _; exact ⟨_,rfl⟩
   | cons e l ih =>
    intro i n hm hk;obtain ⟨e0,e1,e2,e3,e4,e5,e6,e7,e8,e9,e10⟩:=e;simp only [szSs,szS] at hm hk;unfold afq f28;cases decide (n≤2000)
    ·exact ⟨_,rfl⟩
    ·obtain ⟨r,hr⟩:=als k k e6 (w64 (a + 1)) (by omega);obtain ⟨r7,hr7⟩:=ahw k m e7 (w64 (a + 1)) (by omega) (by omega);obtain ⟨r8,hr8⟩:=ahw k m e8 (w64 (a + 1)) (by omega) (by omega);obtain ⟨r9,hr9⟩:=ahw k m e9 (w64 (a + 1)) (by omega) (by omega);rw [hr,cond_true,Option.bind_some,hr7,Option.bind_some,hr8,Option.bind_some,hr9];exact cs i _ (fun n=>ih _ _ (by omega) (by omega)) e10 0 _ (by omega) (by omega)
  cases decide (a > 40)
  ·exact loop l 0 0 (by omega) (by omega)
  ·exact ⟨_,rfl⟩
theorem ath (k:Nat) (p:aaa) (hk:2 * szP p + 1≤k) (hf:fitP p):f34 k p=some (cond (wf true p) (stP p,0) (.mk [],2)):=by
 have h78:=ara k p true hk;have h88:=auF k p hk hf;obtain ⟨fs⟩:=p;unfold f34 aql agM agI aeR f54 aqJ;simp only [h78,h88,Option.bind_some];cases hw:wf true (.mk fs) <;> rfl
abbrev Ex (α:Type):=Except Int α
def abq (nm:List ByteArray) (vis:List Nat) (a:ByteArray):Option Nat :=
 vis.find? fun v=>match nm[v]? with | some b=>seq b a | none=>false
mutual
def uE (nm:List ByteArray) (vis:List Nat):aal→Ex aal
 | .mk op num txt slot l=>match uEs nm vis l with
  | .error c=>.error c
  | .ok l'=>cond (op == 4) (match abq nm vis txt with | none=>.error 20 | some v=>.ok (.mk op num txt (v:Int) l')) (.ok (.mk op num txt 0 l'))
def uEs (nm:List ByteArray) (vis:List Nat):List aal→Ex (List aal)
 | []=>.ok []
 | e :: l=>match uE nm vis e with
  | .error c=>.error c
  | .ok e'=>match uEs nm vis l with
   | .error c=>.error c
   | .ok l'=>.ok (e' :: l')
end
def lkU (a:ByteArray):List (List (ByteArray × Int))→Option Int
 | []=>none
 | d :: sc=>match mget seq a d with
  | some v=>some v
  | none=>lkU a sc
def okV (nm:List ByteArray) (vis:List Nat):Prop:=∀ v ∈ vis,v < nm.length
structure Rel (sc:List (List (ByteArray × Int))) (vis:List Nat) (nm:List ByteArray):Prop where
 look : ∀ a,lkU a sc=(abq nm vis a).map (fun (v:Nat)=>(v:Int))
 ok:okV nm vis
theorem asq (k:Nat) (p:List aaf) (f:aaf) (nm:List ByteArray) (sc:List (List (ByteArray × Int))) (lo:Int) (a:ByteArray) :
  f123 k (.mk (.mk p) f nm sc lo) a=some (match lkU a sc with | some v=>(v,true) | none=>(0,false)):=by
 obtain ⟨f0,f1,f2,f3,f4,f5⟩:=f;have h : ∀ (sc:List (List (ByteArray × Int))) (i:Nat),afc k a sc i=some (match lkU a sc with | some v=>(v,true) | none=>(0,false)):=by
  intro sc;induction sc with
  | nil=>intro i; rfl
  | cons d sc ih =>
   intro i;unfold afc lkU;rw [ih];cases mget seq a d <;> rfl
 exact h sc 0
theorem Rel.f123 {k:Nat} {p:List aaf} {f:aaf} {nm:List ByteArray} {sc:List (List (ByteArray × Int))} {lo:Int} {vis:List Nat} (R:Rel sc vis nm) (a:ByteArray) :
  Go.Proofs.YtoegpkmhifmamaaGreatDoor.f123 k (.mk (.mk p) f nm sc lo) a=some (match abq nm vis a with | some v=>((v:Int),true) | none=>(0,false)):=by
 rw [asq,R.look];cases abq nm vis a <;> rfl
theorem adZ (k:Nat) (b:Bool) (c:Int):f77 k b c=some (cond b (.ok ()) (.error c)):=by cases b <;> rfl
theorem nU (k:Nat) (p:List aaf) (f:aaf) {nm:List ByteArray} {sc:List (List (ByteArray × Int))} (lo:Int) {vis:List Nat} (R:Rel sc vis nm) : ∀ m,
  (∀ e,2 * szE e≤m→szE e≤100000→(abo k m).f1013722 e (.mk (.mk p) f nm sc lo)=some (uE nm vis e)) ∧
  (∀ l,2 * szEs l + 1≤m→szEs l≤100000→(abo k m).f1012222 l (.mk (.mk p) f nm sc lo)=some (uEs nm vis l))
 | 0=>⟨fun e h=>by have:=afI e; omega,fun l h=>by omega⟩
 | m + 1=>by
  obtain ⟨ihe,ihl⟩:=nU k p f lo R m;constructor
  ·intro e h hb;obtain ⟨op,num,txt,slot,l⟩:=e;obtain ⟨f0,f1,f2,f3,f4,f5⟩:=f;simp only [szE] at h hb;show adU k (abo k m) (.mk op num txt slot l) (.mk (.mk p) (.mk f0 f1 f2 f3 f4 f5) nm sc lo)=_;unfold adU uE;simp only;rw [ihl l (by omega) (by omega)];simp only [Option.bind_some];cases uEs nm vis l with
   | error c=>rfl
   | ok l' =>
    simp only;unfold aja aeV;simp only;rw [R.f123];simp only [Option.bind_some,adZ,bne];cases (op == 4) <;> cases abq nm vis txt <;> rfl
  ·intro l h hb;obtain ⟨f0,f1,f2,f3,f4,f5⟩:=f;show abH k (abo k m) p f0 f1 f2 f3 f4 f5 nm sc lo l 0 []=_;have loop : ∀ (l:List aal) (i:Nat) (xs:List aal),2 * szEs l≤m→xs.length + szEs l≤100000→abH k (abo k m) p f0 f1 f2 f3 f4 f5 nm sc lo l i xs=some (match uEs nm vis l with | .error c=>.error c | .ok l'=>.ok (xs ++ l')):=by
    intro l;induction l with
    | nil=>intro i xs _ _; simp [abH,uEs]
    | cons e l ih =>
     intro i xs hm hx;obtain ⟨e0,e1,e2,e3,e4⟩:=e;simp only [szEs] at hm hx;have hp:=afI (.mk e0 e1 e2 e3 e4);unfold abH uEs;rw [ihe (.mk e0 e1 e2 e3 e4) (by omega) (by omega)];simp only [Option.bind_some];cases uE nm vis (.mk e0 e1 e2 e3 e4) with
     | error c=>rfl
     | ok e' =>
      obtain ⟨r0,r1,r2,r3,r4⟩:=e';simp only;rw [abz (by unfold maxB; omega),ih (i + 1) _ (by omega) (by rw [acY]; omega)];cases uEs nm vis l with
      | error c=>rfl
      | ok l'=>simp
   rw [loop l 0 [] (by omega) (by simpa using hb)];cases uEs nm vis l <;> simp
theorem ao4 (k:Nat) (p:List aaf) (f:aaf) {nm:List ByteArray} {sc:List (List (ByteArray × Int))} (lo:Int) {vis:List Nat} (R:Rel sc vis nm) (l:List aal) (hk:2 * szEs l + 1≤k) (hb:szEs l≤100000) :
  f124 k (.mk (.mk p) f nm sc lo) l=some (uEs nm vis l):=by
 have h:=(nU k p f lo R k).2 l hk hb;obtain ⟨f0,f1,f2,f3,f4,f5⟩:=f;unfold f124 amo f1012222;simp only;rw [h];cases uEs nm vis l <;> rfl
theorem aqN {nm:List ByteArray} {vis:List Nat} : ∀ m,(∀ e c,szE e≤m→uE nm vis e=.error c→c=20)∧(∀ l c,szEs l≤m→uEs nm vis l=.error c→c=20)
 | 0=>⟨fun e c h=>by have:=afI e; omega,fun l c h hu=>by
   cases l with
   | nil=>cases hu
   | cons e l=>have:=afI e; simp only [szEs] at h; omega⟩
 | m + 1=>by
  obtain ⟨ihe,ihl⟩:=aqN (nm:=nm) (vis:=vis) m;have he : ∀ e c,szE e≤m + 1→uE nm vis e=.error c→c=20:=by
   intro e c h hu;obtain ⟨op,num,txt,slot,l⟩:=e;simp only [szE] at h;unfold uE at hu;cases hl:uEs nm vis l with
   | error c'=>rw [hl] at hu; have:=ihl l c' (by omega) hl; cases hu; exact this
   | ok l' =>
    rw [hl] at hu;cases h4:(op == 4) <;> rw [h4] at hu
    ·cases hu
    ·cases hs:abq nm vis txt <;> simp only [hs,cond_true] at hu <;> cases hu
     rfl
  refine ⟨he,?_⟩;intro l;induction l with
  | nil=>intro c _ hu; cases hu
  | cons e l ih =>
   intro c h hu;simp only [szEs] at h;unfold uEs at hu;cases he' : uE nm vis e with
   | error c'=>rw [he'] at hu; have:=he e c' (by omega) he'; cases hu; exact this
   | ok e' =>
    rw [he'] at hu;cases hl:uEs nm vis l with
    | error c'=>rw [hl] at hu; have:=ih c' (by omega) hl; cases hu; exact this
    | ok l'=>rw [hl] at hu; cases hu
theorem auH {nm:List ByteArray} {vis:List Nat} {e:List aal} {c:Int} (h:uEs nm vis e=.error c):c=20:=(aqN _).2 e c (Nat.le_refl _) h
def eb {α β:Type} (u:Ex α) (f:α→Ex β):Ex β:=match u with | .error c=>.error c | .ok x=>f x
def eb3 {α β:Type} (u:Ex (List ByteArray × List Nat × α)) (f:List ByteArray→List Nat→α→Ex β):Ex β:=match u with | .error c=>.error c | .ok (a,b,x)=>f a b x
def uMk (nm:List ByteArray) (vis:List Nat) (a:ByteArray):Ex (List ByteArray × List Nat × Int) :=
 match abq nm vis a with | some _=>.error 21 | none=>.ok (nm ++ [a],vis ++ [nm.length],(nm.length:Int))
def uCall (op:Int) (fr:ByteArray) (na:Nat):List aaf→Nat→Ex Int
 | [],_=>.error 20
 | .mk nm ps _ fl _ _ :: l,i=>cond (seq nm fr) (cond (fl == (op == 28)) (cond ((ps.length:Int) == (na:Int)) (.ok (i:Int)) (.error 24)) (.error 25)) (uCall op fr na l (i + 1))
def uD {α:Type} (b:Bool) (c:Int) (x:Ex α):Ex α:=cond b x (.error c)
section
variable (fs:List aaf) (f2:Int) (f3:Bool)
mutual
def uS:Nat→List ByteArray→List Nat→aag→Ex (List ByteArray × List Nat × aag)
 | lo,nm,vis,.mk op name s2 fr s4 flag l6 l7 l8 l9 l10 =>
  eb (uEs nm vis l6) fun r6 =>
  cond (op == 27) (eb3 (uCs lo nm vis l10) fun nm1 _ cs=>.ok (nm1,vis,.mk op name s2 fr s4 flag r6 l7 l8 l9 cs))
  (eb (cond (seq fr ⟨#[]⟩) (.ok s4) (uCall op fr r6.length fs 0)) fun ix =>
  cond (op == 2) (match abq nm vis name with | none=>.error 20 | some v=>.ok (nm,vis,.mk op name (v:Int) fr ix flag r6 l7 l8 l9 l10))
  (cond (op == 18 || op == 19) (uD (decide (lo > 0)) 22 (.ok (nm,vis,.mk op name s2 fr ix flag r6 l7 l8 l9 l10)))
  (cond (op == 29) (uD f3 22 (.ok (nm,vis,.mk op name s2 fr ix flag r6 l7 l8 l9 l10)))
  (cond (op == 17) (uD ((decide (r6.length > 0)) == (f2 != 0)) 22 (.ok (nm,vis,.mk op name s2 fr ix flag r6 l7 l8 l9 l10)))
  (cond (op == 21) (eb3 (uB (lo + 1) nm vis l7) fun nm1 _ b=>.ok (nm1,vis,.mk op name s2 fr ix flag r6 b l8 l9 l10))
  (cond (op == 28) (eb3 (uI (lo + 1) nm vis name s2 l7) fun nm1 _ vb=>.ok (nm1,vis,.mk op name vb.1 fr ix flag r6 vb.2 l8 l9 l10))
  (cond (op == 25) (eb3 (uI lo nm vis name s2 l7) fun nm1 _ vb=>.ok (nm1,vis,.mk op name vb.1 fr ix flag r6 vb.2 l8 l9 l10))
  (cond (op == 24) (eb3 (uB lo nm vis l7) fun nm1 _ b7=>eb3 (uI lo nm1 vis name s2 l8) fun nm2 _ vb=>eb3 (uB lo nm2 vis l9) fun nm3 _ b9=>.ok (nm3,vis,.mk op name vb.1 fr ix flag r6 b7 vb.2 b9 l10))
  (cond (op == 20 || op == 22 || op == 23 || op == 26) (eb3 (uB lo nm vis l7) fun nm1 _ b7=>eb3 (uB lo nm1 vis l8) fun nm2 _ b8=>.ok (nm2,vis,.mk op name s2 fr ix flag r6 b7 b8 l9 l10))
   (eb3 (cond (seq name ⟨#[]⟩) (.ok (nm,vis,s2)) (uMk nm vis name)) fun nm1 vis1 v=>uD (op != 6 || flag == 0 || decide (lo > 0)) 22 (.ok (nm1,vis1,.mk op name v fr ix flag r6 l7 l8 l9 l10))))))))))))
def uSs:Nat→List ByteArray→List Nat→List aag→Ex (List ByteArray × List Nat × List aag)
 | _,nm,vis,[]=>.ok (nm,vis,[])
 | lo,nm,vis,s :: l=>eb3 (uS lo nm vis s) fun nm1 vis1 s'=>eb3 (uSs lo nm1 vis1 l) fun nm2 vis2 l'=>.ok (nm2,vis2,s' :: l')
def uB:Nat→List ByteArray→List Nat→List aag→Ex (List ByteArray × List Nat × List aag)
 | _,nm,vis,[]=>.ok (nm,vis,[])
 | lo,nm,vis,s :: l=>eb3 (uS lo nm vis s) fun nm1 vis1 s'=>eb3 (uSs lo nm1 vis1 l) fun nm2 vis2 l'=>.ok (nm2,vis,s' :: l')
def uI:Nat→List ByteArray→List Nat→ByteArray→Int→List aag→Ex (List ByteArray × List Nat × (Int × List aag))
 | lo,nm,vis,name,s2,[]=>eb3 (cond (seq name ⟨#[]⟩) (.ok (nm,vis,s2)) (uMk nm vis name)) fun nm1 _ v=>.ok (nm1,vis,(v,[]))
 | lo,nm,vis,name,s2,s :: l=>eb3 (cond (seq name ⟨#[]⟩) (.ok (nm,vis,s2)) (uMk nm vis name)) fun nm1 vis1 v=>eb3 (uS lo nm1 vis1 s) fun nm2 vis2 s'=>eb3 (uSs lo nm2 vis2 l) fun nm3 _ l'=>.ok (nm3,vis,(v,s' :: l'))
def uC:Nat→List ByteArray→List Nat→aaz→Ex (List ByteArray × List Nat × aaz)
 | lo,nm,vis,.mk kind name slot es b=>eb (uEs nm vis es) fun r=>eb3 (uI lo nm vis name slot b) fun nm1 _ vb=>.ok (nm1,vis,.mk kind name vb.1 r vb.2)
def uCs:Nat→List ByteArray→List Nat→List aaz→Ex (List ByteArray × List Nat × List aaz)
 | _,nm,vis,[]=>.ok (nm,vis,[])
 | lo,nm,vis,c :: l=>eb3 (uC lo nm vis c) fun nm1 _ c'=>eb3 (uCs lo nm1 vis l) fun nm2 _ l'=>.ok (nm2,vis,c' :: l')
end
theorem aoj (lo:Nat) (nm:List ByteArray) (vis:List Nat) (l:List aag):uB fs f2 f3 lo nm vis l=eb3 (uSs fs f2 f3 lo nm vis l) fun nm1 _ l'=>.ok (nm1,vis,l'):=by
 cases l with
 | nil=>simp [uB,uSs,eb3]
 | cons s l =>
  rw [uB,uSs];cases uS fs f2 f3 lo nm vis s with
  | error c=>rfl
  | ok x =>
   simp only [eb3];cases uSs fs f2 f3 lo x.1 x.2.1 l <;> rfl
theorem ah8 (lo:Nat) (nm:List ByteArray) (vis:List Nat) (name:ByteArray) (s2:Int) (l:List aag):uI fs f2 f3 lo nm vis name s2 l =
  eb3 (cond (seq name ⟨#[]⟩) (.ok (nm,vis,s2)) (uMk nm vis name)) fun nm1 vis1 v=>eb3 (uSs fs f2 f3 lo nm1 vis1 l) fun nm2 _ l'=>.ok (nm2,vis,(v,l')):=by
 cases l with
 | nil=>simp [uI,uSs,eb3]
 | cons s l =>
  rw [uI];congr 1;funext nm1 vis1 v;rw [uSs];cases uS fs f2 f3 lo nm1 vis1 s with
  | error c=>rfl
  | ok x =>
   simp only [eb3];cases uSs fs f2 f3 lo x.1 x.2.1 l <;> rfl
end
theorem aiu {nm nm' : List ByteArray} {vis:List Nat} (hv:okV nm vis) (hn:nm <+: nm') (a:ByteArray):abq nm' vis a=abq nm vis a:=by
 obtain ⟨t,rfl⟩:=hn;unfold abq;induction vis with
 | nil=>rfl
 | cons v vis ih =>
  have h:v < nm.length:=hv v (by simp);rw [List.find?_cons,List.find?_cons,List.getElem?_append_left h,ih (fun w hw=>hv w (by simp [hw]))]
theorem amX {nm:List ByteArray} {vis:List Nat} (hv:okV nm vis) (a b:ByteArray) (hn:abq nm vis a=none):abq (nm ++ [a]) (vis ++ [nm.length]) b=match abq nm vis b with | some v=>some v | none=>cond (seq a b) (some nm.length) none:=by
 have h1:=aiu (nm':=nm ++ [a]) hv ⟨[a],rfl⟩ b;unfold abq at h1 ⊢;rw [List.find?_append,h1];cases List.find? (fun v=>match nm[v]? with | some b_1=>seq b_1 b | none=>false) vis with
 | some v=>rfl
 | none =>
  simp only [Option.none_or,List.find?_cons,List.find?_nil];have:(nm ++ [a])[nm.length]?=some a:=by simp
  rw [this];dsimp only;cases seq a b <;> rfl
theorem anU {a b:ByteArray} (h:seq a b=true):a=b:=by
 unfold seq at h;rw [ByteArray.toList_eq,ByteArray.toList_eq] at h;have h:=eq_of_beq h;obtain ⟨⟨a⟩⟩:=a; obtain ⟨⟨b⟩⟩:=b
 exact congrArg (fun l=>(⟨⟨l⟩⟩:ByteArray)) h
theorem amt (a:ByteArray) (k:Int) (b:ByteArray) : ∀ d:List (ByteArray × Int),mget seq b (mput seq a k d)=cond (seq a b) (some k) (mget seq b d)
 | []=>by
  unfold mput mget;rw [ajt b a];cases seq a b <;> rfl
 | (x,v) :: d=>by
  unfold mput;cases h:seq a x with
  | true =>
   obtain rfl:=anU h;simp only [if_true,mget];rw [ajt b a];cases seq a b <;> rfl
  | false =>
   rw [if_neg (by simp)];simp only [mget,amt a k b d];cases hb:seq b x with
   | false=>simp
   | true =>
    obtain rfl:=anU hb;simp [h]
theorem ai9 (a:ByteArray) : ∀ (x y:List (List (ByteArray × Int))),lkU a (x ++ y)=match lkU a x with | some v=>some v | none=>lkU a y
 | [],y=>rfl
 | d :: x,y=>by
  simp only [List.cons_append,lkU,ai9 a x y];cases mget seq a d <;> rfl
theorem alS (a:ByteArray) (d:List (ByteArray × Int)):lkU a [d]=mget seq a d:=by
 unfold lkU; cases mget seq a d <;> rfl
theorem Rel.push {sc:List (List (ByteArray × Int))} {vis:List Nat} {nm:List ByteArray} (R:Rel sc vis nm):Rel (sc ++ [[]]) vis nm :=
 ⟨fun a=>by rw [ai9,alS,← R.look a]; cases lkU a sc <;> rfl,R.ok⟩
theorem Rel.ext {sc:List (List (ByteArray × Int))} {vis:List Nat} {nm nm' : List ByteArray} (R:Rel sc vis nm) (h:nm <+: nm'):Rel sc vis nm' :=
 ⟨fun a=>by rw [R.look,aiu R.ok h],fun v hv=>Nat.lt_of_lt_of_le (R.ok v hv) h.length_le⟩
theorem Rel.make {pre:List (List (ByteArray × Int))} {d:List (ByteArray × Int)} {vis:List Nat} {nm:List ByteArray} {a:ByteArray} (R:Rel (pre ++ [d]) vis nm) (hn:abq nm vis a=none) :
  Rel (pre ++ [mput seq a (nm.length:Int) d]) (vis ++ [nm.length]) (nm ++ [a]):=by
 refine ⟨fun b=>?_,fun v hv=>?_⟩
 ·rw [amX R.ok a b hn,ai9,alS,amt];have h:=R.look b;rw [ai9,alS] at h;cases hs:seq a b with
  | false =>
   simp only [cond_false];rw [h];cases abq nm vis b <;> rfl
  | true =>
   obtain rfl:=anU hs;rw [hn] at h ⊢;simp only [Option.map_none] at h;cases hp:lkU a pre with
   | some v=>rw [hp] at h; cases h
   | none=>rfl
 ·rcases List.mem_append.1 hv with hv | hv
  ·have:=R.ok v hv; simp; omega
  ·simp at hv; simp; omega
theorem arH (k:Nat) (p:List aaf) (f:aaf) {nm:List ByteArray} {pre:List (List (ByteArray × Int))} {d:List (ByteArray × Int)} (lo:Int) {vis:List Nat} (R:Rel (pre ++ [d]) vis nm) (a:ByteArray) (hb:nm.length≤1000000) (hp:pre.length≤1000000) :
  f104 k (.mk (.mk p) f nm (pre ++ [d]) lo) a=some (match uMk nm vis a with | .error c=>.error c | .ok (nm',_,v)=>.ok (.mk (.mk p) f nm' (pre ++ [mput seq a (nm.length:Int) d]) lo,v)):=by
 have h119:=R.f123 (k:=k) (p:=p) (f:=f) (lo:=lo) a;obtain ⟨f0,f1,f2,f3,f4,f5⟩:=f;unfold f104 amw uMk;simp only;rw [h119];cases abq nm vis a with
 | some v=>rfl
 | none =>
  simp only [Option.bind_some,adZ,Bool.not_false,cond_true];rw [abz (by unfold maxB; omega)];have e1:w64 (((pre ++ [d]).length:Int) - 1)=(pre.length:Int):=acj (n:=pre.length) (by simp) (by omega);rw [e1,aqb pre d [] _ rfl];simp
def fdL (fr:ByteArray):List aaf→Nat→Option Int
 | [],_=>some (-1)
 | .mk nm _ _ _ _ _ :: l,i=>cond (seq nm fr) (some (i:Int)) (fdL fr l (i + 1))
theorem ahx (k:Nat) (s0:Int) (s1:ByteArray) (s2:Int) (fr:ByteArray) (s4 s5:Int) (s6:List aal) (s7 s8 s9:List aag) (s10:List aaz) : ∀ (l:List aaf) (i:Nat),
  acn k s0 s1 s2 fr s4 s5 s6 s7 s8 s9 s10 l i=fdL fr l i
 | [],i=>rfl
 | .mk e0 e1 e2 e3 e4 e5 :: l,i=>by
  unfold acn fdL ajg aeO;simp only [Option.bind_some];rw [ahx k s0 s1 s2 fr s4 s5 s6 s7 s8 s9 s10 l (i + 1)]
theorem anS (op:Int) (fr:ByteArray) (na:Nat) : ∀ (l:List aaf) (pre:List aaf),∃ r,fdL fr l pre.length=some r ∧
  ((r=-1∧uCall op fr na l pre.length=.error 20)∨(∃ (j:Nat) (g0:ByteArray) (g1:List aaL) (g2:Int) (g3:Bool) (g4:Int) (g5:List aag),r=(j:Int)∧(pre ++ l)[j]?=some (.mk g0 g1 g2 g3 g4 g5) ∧
   uCall op fr na l pre.length=cond (g3 == (op == 28)) (cond ((g1.length:Int) == (na:Int)) (.ok (j:Int)) (.error 24)) (.error 25)))
 | [],pre=>⟨-1,rfl,.inl ⟨rfl,rfl⟩⟩
 | .mk g0 g1 g2 g3 g4 g5 :: l,pre=>by
  unfold fdL uCall;cases h:seq g0 fr with
  | true=>exact ⟨_,rfl,.inr ⟨pre.length,g0,g1,g2,g3,g4,g5,rfl,by simp,rfl⟩⟩
  | false =>
   obtain ⟨r,h1,h2⟩:=anS op fr na l (pre ++ [.mk g0 g1 g2 g3 g4 g5]);rw [acY] at h1 h2;rw [List.append_assoc,List.singleton_append] at h2;exact ⟨r,h1,h2⟩
theorem asx (k:Nat) (p:List aaf) (f:aaf) (nm:List ByteArray) (sc:List (List (ByteArray × Int))) (lo:Int) (op:Int) (name:ByteArray) (s2:Int) (fr:ByteArray) (s4 flag:Int) (l6:List aal) (l7 l8 l9:List aag) (l10:List aaz) :
  f126 k (.mk (.mk p) f nm sc lo) (.mk op name s2 fr s4 flag l6 l7 l8 l9 l10)=some (match uCall op fr l6.length p 0 with | .error c=>.error c | .ok ix=>.ok (.mk (.mk p) f nm sc lo,.mk op name s2 fr ix flag l6 l7 l8 l9 l10)):=by
 obtain ⟨f0,f1,f2,f3,f4,f5⟩:=f;unfold f126 amk ajx aeQ;simp only;rw [ahx];obtain ⟨r,h1,h2⟩:=anS op fr l6.length p [];simp only [List.length_nil,List.nil_append] at h1 h2;rw [h1];simp only [Option.bind_some,adZ];rcases h2 with ⟨rfl,h2⟩ | ⟨j,g0,g1,g2,g3,g4,g5,rfl,h3,h2⟩
 ·rw [h2]; rfl
 ·rw [h2];have:idxO p (j:Int)=some (.mk g0 g1 g2 g3 g4 g5):=by unfold idxO; rw [if_pos (by omega)]; simpa using h3
  have hj:decide ((j:Int) ≥ 0)=true:=by simp
  rw [this,hj];simp only [cond_true,Option.bind_some];cases (g3 == (op == 28)) <;> cases ((g1.length:Int) == (l6.length:Int)) <;> rfl
end Go.Proofs.YtoegpkmhifmamaaGreatDoor
namespace Go.Proofs.YtoegpkmhifmamaaGreatDoor
open Go
abbrev Sc:=List (List (ByteArray × Int))
def NN {α:Type} (r:Option (Ex (aab × α))) (p:List aaf) (f:aaf) (lo:Nat) (pre:Sc) (nm:List ByteArray) (u:Ex (List ByteArray × List Nat × α)) (n:Nat):Prop :=
 match u with
 | .error c=>r=some (.error c)
 | .ok (nm',vis',y)=>∃ d',r=some (.ok (.mk (.mk p) f nm' (pre ++ [d']) lo,y))∧Rel (pre ++ [d']) vis' nm'∧nm <+: nm'∧nm'.length≤nm.length + n
def NB {α β:Type} (r:Option (Ex (aab × β))) (p:List aaf) (f:aaf) (lo:Nat) (sc:Sc) (nm:List ByteArray) (u:Ex (List ByteArray × List Nat × α)) (g:α→β) (n:Nat):Prop :=
 match u with
 | .error c=>r=some (.error c)
 | .ok (nm',_,y)=>r=some (.ok (.mk (.mk p) f nm' sc lo,g y))∧nm <+: nm'∧nm'.length≤nm.length + n
theorem agR (k:Nat) (p:List aaf) (f:aaf) {nm:List ByteArray} {pre:Sc} {d:List (ByteArray × Int)} (lo:Nat) {vis:List Nat} (R:Rel (pre ++ [d]) vis nm) (a:ByteArray) (hb:nm.length≤1000000) (hp:pre.length≤1000000) :
  NN (f104 k (.mk (.mk p) f nm (pre ++ [d]) lo) a) p f lo pre nm (uMk nm vis a) 1:=by
 rw [arH k p f lo R a hb hp];unfold uMk NN;cases hs:abq nm vis a with
 | some v=>rfl
 | none=>exact ⟨_,rfl,R.make hs,⟨[a],rfl⟩,by simp⟩
theorem aoY (lo:Nat):decide ((lo:Int) > 0)=decide (lo > 0):=by rw [decide_eq_decide]; omega
theorem ahy {α:Type} (sc:Sc) (d:List (ByteArray × Int)) (h:sc.length≤1000000) (x:Option α):aaW (decide (0≤(w64 (((sc ++ [d]).length:Int) - 1))∧(w64 (((sc ++ [d]).length:Int) - 1))≤((sc ++ [d]).length:Int))) x=x:=by
 have e1:w64 (((sc ++ [d]).length:Int) - 1)=(sc.length:Int):=acj (n:=sc.length) (by simp) (by omega);rw [e1];have:(0≤(sc.length:Int)∧(sc.length:Int)≤((sc ++ [d]).length:Int)):=⟨by omega,by simp; omega⟩;rw [decide_eq_true this]; rfl
theorem ai4 (sc:Sc) (d:List (ByteArray × Int)) (h:sc.length≤1000000):(sc ++ [d]).take (w64 (((sc ++ [d]).length:Int) - 1)).toNat=sc:=by
 have e1:w64 (((sc ++ [d]).length:Int) - 1)=(sc.length:Int):=acj (n:=sc.length) (by simp) (by omega);rw [e1]; simp
theorem nR (k:Nat) (p:List aaf) (f0:ByteArray) (f1:List aaL) (f2:Int) (f3:Bool) (f4:Int) (f5:List aag) : ∀ m,m≤k →
  (∀ s,4 * szS s≤m→∀ (nm:List ByteArray) (vis:List Nat) (pre:Sc) (d:List (ByteArray × Int)) (lo:Nat),nm.length + szS s≤100000→pre.length + szS s≤100000→lo + szS s≤100000→Rel (pre ++ [d]) vis nm →
   NN ((aa0 k m).f105 (.mk (.mk p) (.mk f0 f1 f2 f3 f4 f5) nm (pre ++ [d]) lo) s) p (.mk f0 f1 f2 f3 f4 f5) lo pre nm (uS p f2 f3 lo nm vis s) (szS s)) ∧
  (∀ l,4 * szSs l + 1≤m→∀ (nm:List ByteArray) (vis:List Nat) (sc:Sc) (lo:Nat),nm.length + szSs l≤100000→sc.length + szSs l≤100000→lo + szSs l≤100000→Rel sc vis nm →
   NB ((aa0 k m).f1012566 (.mk (.mk p) (.mk f0 f1 f2 f3 f4 f5) nm sc lo) ⟨#[]⟩ l) p (.mk f0 f1 f2 f3 f4 f5) lo sc nm (uB p f2 f3 lo nm vis l) id (szSs l)) ∧
  (∀ l,4 * szSs l + 1≤m→∀ (name:ByteArray) (s0:Int) (s1:ByteArray) (s2:Int) (s3:ByteArray) (s4 s5:Int) (s6:List aal) (s7 s8 s9:List aag) (s10:List aaz) (nm:List ByteArray) (vis:List Nat) (sc:Sc) (lo:Nat),nm.length + szSs l + 1≤100000→sc.length + szSs l≤100000→lo + szSs l≤100000→Rel sc vis nm →
   NB ((aa0 k m).f1012531 (.mk (.mk p) (.mk f0 f1 f2 f3 f4 f5) nm sc lo) name l (.mk s0 s1 s2 s3 s4 s5 s6 s7 s8 s9 s10)) p (.mk f0 f1 f2 f3 f4 f5) lo sc nm (uI p f2 f3 lo nm vis name s2 l) (fun vb=>(aag.mk s0 s1 vb.1 s3 s4 s5 s6 s7 s8 s9 s10,vb.2)) (szSs l + 1)) ∧
  (∀ l,4 * szSs l + 1≤m→∀ (name:ByteArray) (s0:Int) (s1:ByteArray) (s2:Int) (s3:List aal) (s4:List aag) (nm:List ByteArray) (vis:List Nat) (sc:Sc) (lo:Nat),nm.length + szSs l + 1≤100000→sc.length + szSs l≤100000→lo + szSs l≤100000→Rel sc vis nm →
   NB ((aa0 k m).f1012528 (.mk (.mk p) (.mk f0 f1 f2 f3 f4 f5) nm sc lo) name l (.mk s0 s1 s2 s3 s4)) p (.mk f0 f1 f2 f3 f4 f5) lo sc nm (uI p f2 f3 lo nm vis name s2 l) (fun vb=>(aaz.mk s0 s1 vb.1 s3 s4,vb.2)) (szSs l + 1)) ∧
  (∀ l,4 * szSs l + 2≤m→∀ (nm:List ByteArray) (vis:List Nat) (sc:Sc) (lo:Nat),nm.length + szSs l≤100000→sc.length + szSs l≤100000→lo + szSs l + 1≤100000→Rel sc vis nm →
   NB ((aa0 k m).f1012766 (.mk (.mk p) (.mk f0 f1 f2 f3 f4 f5) nm sc lo) ⟨#[]⟩ l) p (.mk f0 f1 f2 f3 f4 f5) lo sc nm (uB p f2 f3 (lo + 1) nm vis l) id (szSs l)) ∧
  (∀ l,4 * szSs l + 2≤m→∀ (name:ByteArray) (s0:Int) (s1:ByteArray) (s2:Int) (s3:ByteArray) (s4 s5:Int) (s6:List aal) (s7 s8 s9:List aag) (s10:List aaz) (nm:List ByteArray) (vis:List Nat) (sc:Sc) (lo:Nat),nm.length + szSs l + 1≤100000→sc.length + szSs l≤100000→lo + szSs l + 1≤100000→Rel sc vis nm →
   NB ((aa0 k m).f1012731 (.mk (.mk p) (.mk f0 f1 f2 f3 f4 f5) nm sc lo) name l (.mk s0 s1 s2 s3 s4 s5 s6 s7 s8 s9 s10)) p (.mk f0 f1 f2 f3 f4 f5) lo sc nm (uI p f2 f3 (lo + 1) nm vis name s2 l) (fun vb=>(aag.mk s0 s1 vb.1 s3 s4 s5 s6 s7 s8 s9 s10,vb.2)) (szSs l + 1))
 | 0,_=>⟨fun e he=>by have:=abI e; omega,fun l hl=>by omega,fun l hl=>by omega,fun l hl=>by omega,fun l hl=>by omega,fun l hl=>by omega⟩
 | m + 1,hmk=>by
  obtain ⟨ihs,ihb,ihi,ihc,ihlb,ihli⟩:=nR k p f0 f1 f2 f3 f4 f5 m (by omega);have loopB : ∀ (l:List aag) (i:Nat) (xs:List aag) (nm:List ByteArray) (vis:List Nat) (sc:Sc) (d:List (ByteArray × Int)) (lo:Nat),4 * szSs l≤m→xs.length + szSs l≤100000→nm.length + szSs l≤100000→sc.length + szSs l≤100000→lo + szSs l≤100000→Rel (sc ++ [d]) vis nm →
    NB (ab5 k (aa0 k m) l i p f0 f1 f2 f3 f4 f5 nm (sc ++ [d]) lo xs) p (.mk f0 f1 f2 f3 f4 f5) lo sc nm (uSs p f2 f3 lo nm vis l) (fun l'=>xs ++ l') (szSs l):=by
   intro l;induction l with
   | nil =>
    intro i xs nm vis sc d lo _ _ _ hsc _ R;unfold ab5;rw [ahy sc d (by omega),ai4 sc d (by omega),uSs];exact ⟨by simp,List.prefix_refl _,by simp⟩
   | cons s l ih =>
    intro i xs nm vis sc d lo hm hxs hnm hsc hlo R;obtain ⟨e0,e1,e2,e3,e4,e5,e6,e7,e8,e9,e10⟩:=s;simp only [szSs] at hm hxs hnm hsc hlo;have hp:=abI (.mk e0 e1 e2 e3 e4 e5 e6 e7 e8 e9 e10);unfold ab5;rw [uSs];have h:=ihs (.mk e0 e1 e2 e3 e4 e5 e6 e7 e8 e9 e10) (by omega) nm vis sc d lo (by omega) (by omega) (by omega) R;revert h;cases uS p f2 f3 lo nm vis (.mk e0 e1 e2 e3 e4 e5 e6 e7 e8 e9 e10) with
    | error c=>intro h; simp only [NN] at h; rw [h]; rfl
    | ok x =>
     obtain ⟨nm1,vis1,s'⟩:=x;rintro ⟨d1,h,R1,hp1,hl1⟩;rw [h];obtain ⟨r0,r1,r2,r3,r4,r5,r6,r7,r8,r9,r10⟩:=s';simp only [Option.bind_some,eb3];rw [abz (by unfold maxB; omega)];have h2:=ih (i + 1) (xs ++ [.mk r0 r1 r2 r3 r4 r5 r6 r7 r8 r9 r10]) nm1 vis1 sc d1 lo (by omega) (by rw [acY]; omega) (by omega) (by omega) (by omega) R1;revert h2;cases uSs p f2 f3 lo nm1 vis1 l with
     | error c=>intro h2; exact h2
     | ok x =>
      obtain ⟨nm2,vis2,l'⟩:=x;rintro ⟨h3,hp2,hl2⟩;refine ⟨by rw [h3]; simp,hp1.trans hp2,by simp only [szSs]; omega⟩
  have loopS : ∀ (s0:Int) (s1:ByteArray) (s3:ByteArray) (s4 s5:Int) (s6:List aal) (s7 s8 s9:List aag) (s10:List aaz) (v:Int) (l:List aag) (i:Nat) (xs:List aag) (nm:List ByteArray) (vis:List Nat) (sc:Sc) (d:List (ByteArray × Int)) (lo:Nat),4 * szSs l≤m→xs.length + szSs l≤100000→nm.length + szSs l≤100000→sc.length + szSs l≤100000→lo + szSs l≤100000→Rel (sc ++ [d]) vis nm →
    NB (ab4 k (aa0 k m) s0 s1 s3 s4 s5 s6 s7 s8 s9 s10 v l i p f0 f1 f2 f3 f4 f5 nm (sc ++ [d]) lo xs) p (.mk f0 f1 f2 f3 f4 f5) lo sc nm (uSs p f2 f3 lo nm vis l) (fun l'=>(aag.mk s0 s1 v s3 s4 s5 s6 s7 s8 s9 s10,xs ++ l')) (szSs l):=by
   intro s0 s1 s3 s4 s5 s6 s7 s8 s9 s10 v l;induction l with
   | nil =>
    intro i xs nm vis sc d lo _ _ _ hsc _ R;unfold ab4;rw [ahy sc d (by omega),ai4 sc d (by omega),uSs];exact ⟨by simp,List.prefix_refl _,by simp⟩
   | cons s l ih =>
    intro i xs nm vis sc d lo hm hxs hnm hsc hlo R;obtain ⟨e0,e1,e2,e3,e4,e5,e6,e7,e8,e9,e10⟩:=s;simp only [szSs] at hm hxs hnm hsc hlo;have hp:=abI (.mk e0 e1 e2 e3 e4 e5 e6 e7 e8 e9 e10);unfold ab4;rw [uSs];have h:=ihs (.mk e0 e1 e2 e3 e4 e5 e6 e7 e8 e9 e10) (by omega) nm vis sc d lo (by omega) (by omega) (by omega) R;revert h;cases uS p f2 f3 lo nm vis (.mk e0 e1 e2 e3 e4 e5 e6 e7 e8 e9 e10) with
    | error c=>intro h; simp only [NN] at h; rw [h]; rfl
    | ok x =>
     obtain ⟨nm1,vis1,s'⟩:=x;rintro ⟨d1,h,R1,hp1,hl1⟩;rw [h];obtain ⟨r0,r1,r2,r3,r4,r5,r6,r7,r8,r9,r10⟩:=s';simp only [Option.bind_some,eb3];rw [abz (by unfold maxB; omega)];have h2:=ih (i + 1) (xs ++ [.mk r0 r1 r2 r3 r4 r5 r6 r7 r8 r9 r10]) nm1 vis1 sc d1 lo (by omega) (by rw [acY]; omega) (by omega) (by omega) (by omega) R1;revert h2;cases uSs p f2 f3 lo nm1 vis1 l with
     | error c=>intro h2; exact h2
     | ok x =>
      obtain ⟨nm2,vis2,l'⟩:=x;rintro ⟨h3,hp2,hl2⟩;refine ⟨by rw [h3]; simp,hp1.trans hp2,by simp only [szSs]; omega⟩
  have loopC : ∀ (s0:Int) (s1:ByteArray) (s3:List aal) (s4:List aag) (v:Int) (l:List aag) (i:Nat) (xs:List aag) (nm:List ByteArray) (vis:List Nat) (sc:Sc) (d:List (ByteArray × Int)) (lo:Nat),4 * szSs l≤m→xs.length + szSs l≤100000→nm.length + szSs l≤100000→sc.length + szSs l≤100000→lo + szSs l≤100000→Rel (sc ++ [d]) vis nm →
    NB (ab8 k (aa0 k m) s0 s1 s3 s4 v l i p f0 f1 f2 f3 f4 f5 nm (sc ++ [d]) lo xs) p (.mk f0 f1 f2 f3 f4 f5) lo sc nm (uSs p f2 f3 lo nm vis l) (fun l'=>(aaz.mk s0 s1 v s3 s4,xs ++ l')) (szSs l):=by
   intro s0 s1 s3 s4 v l;induction l with
   | nil =>
    intro i xs nm vis sc d lo _ _ _ hsc _ R;unfold ab8;rw [ahy sc d (by omega),ai4 sc d (by omega),uSs];exact ⟨by simp,List.prefix_refl _,by simp⟩
   | cons s l ih =>
    intro i xs nm vis sc d lo hm hxs hnm hsc hlo R;obtain ⟨e0,e1,e2,e3,e4,e5,e6,e7,e8,e9,e10⟩:=s;simp only [szSs] at hm hxs hnm hsc hlo;have hp:=abI (.mk e0 e1 e2 e3 e4 e5 e6 e7 e8 e9 e10);unfold ab8;rw [uSs];have h:=ihs (.mk e0 e1 e2 e3 e4 e5 e6 e7 e8 e9 e10) (by omega) nm vis sc d lo (by omega) (by omega) (by omega) R;revert h;cases uS p f2 f3 lo nm vis (.mk e0 e1 e2 e3 e4 e5 e6 e7 e8 e9 e10) with
    | error c=>intro h; simp only [NN] at h; rw [h]; rfl
    | ok x =>
     obtain ⟨nm1,vis1,s'⟩:=x;rintro ⟨d1,h,R1,hp1,hl1⟩;rw [h];obtain ⟨r0,r1,r2,r3,r4,r5,r6,r7,r8,r9,r10⟩:=s';simp only [Option.bind_some,eb3];rw [abz (by unfold maxB; omega)];have h2:=ih (i + 1) (xs ++ [.mk r0 r1 r2 r3 r4 r5 r6 r7 r8 r9 r10]) nm1 vis1 sc d1 lo (by omega) (by rw [acY]; omega) (by omega) (by omega) (by omega) R1;revert h2;cases uSs p f2 f3 lo nm1 vis1 l with
     | error c=>intro h2; exact h2
     | ok x =>
      obtain ⟨nm2,vis2,l'⟩:=x;rintro ⟨h3,hp2,hl2⟩;refine ⟨by rw [h3]; simp,hp1.trans hp2,by simp only [szSs]; omega⟩
  have loopK : ∀ (s0:Int) (s1:ByteArray) (s2:Int) (s3:ByteArray) (s4 s5:Int) (s7 s8 s9:List aag) (r:List aal) (l:List aaz) (i:Nat) (xs:List aaz) (nm:List ByteArray) (vis:List Nat) (pre:Sc) (d:List (ByteArray × Int)) (lo:Nat),4 * szCs l≤m + 1→xs.length + szCs l≤100000→nm.length + szCs l≤100000→pre.length + szCs l≤100000→lo + szCs l≤100000→Rel (pre ++ [d]) vis nm →
    NB (aev k (aa0 k m) s0 s1 s2 s3 s4 s5 s7 s8 s9 r l i p f0 f1 f2 f3 f4 f5 nm (pre ++ [d]) lo xs) p (.mk f0 f1 f2 f3 f4 f5) lo (pre ++ [d]) nm (uCs p f2 f3 lo nm vis l) (fun l'=>aag.mk s0 s1 s2 s3 s4 s5 r s7 s8 s9 (xs ++ l')) (szCs l):=by
   intro s0 s1 s2 s3 s4 s5 s7 s8 s9 r l;induction l with
   | nil =>
    intro i xs nm vis pre d lo _ _ _ hsc _ R;unfold aev;rw [uCs];exact ⟨by simp,List.prefix_refl _,by simp⟩
   | cons c l ih =>
    intro i xs nm vis pre d lo hm hxs hnm hsc hlo R;obtain ⟨e0,e1,e2,e3,e4⟩:=c;simp only [szCs,szC] at hm hxs hnm hsc hlo;unfold aev;rw [uCs,uC];rw [ao4 k p (.mk f0 f1 f2 f3 f4 f5) lo R e3 (by omega) (by omega)];cases uEs nm vis e3 with
    | error c=>exact rfl
    | ok r3 =>
     simp only [Option.bind_some,eb];have h:=ihc e4 (by omega) e1 e0 e1 e2 r3 e4 nm vis (pre ++ [d]) lo (by omega) (by simp; omega) (by omega) R;revert h;cases uI p f2 f3 lo nm vis e1 e2 e4 with
     | error c=>intro h; simp only [NB] at h; rw [h]; exact rfl
     | ok x =>
      obtain ⟨nm1,vis1,v,b⟩:=x;rintro ⟨h,hp1,hl1⟩;rw [h];simp only [Option.bind_some,eb3];rw [abz (by unfold maxB; omega)];have h2:=ih (i + 1) (xs ++ [.mk e0 e1 v r3 b]) nm1 vis pre d lo (by omega) (by rw [acY]; omega) (by omega) (by omega) (by omega) (R.ext hp1);revert h2;cases uCs p f2 f3 lo nm1 vis l with
      | error c=>intro h2; exact h2
      | ok x =>
       obtain ⟨nm2,vis2,l'⟩:=x;rintro ⟨h3,hp2,hl2⟩;refine ⟨by rw [h3]; simp,hp1.trans hp2,by simp only [szCs,szC]; omega⟩
  refine ⟨?_,?_,?_,?_,?_,?_⟩
  ·intro s hs nm vis pre d lo hnm hpre hlo R;obtain ⟨op,name,s2,fr,s4,flag,l6,l7,l8,l9,l10⟩:=s;simp only [szS] at hs hnm hpre hlo;show NN (akW k (aa0 k m) (.mk (.mk p) (.mk f0 f1 f2 f3 f4 f5) nm (pre ++ [d]) lo) (.mk op name s2 fr s4 flag l6 l7 l8 l9 l10)) p _ lo pre nm _ _;rw [uS];unfold akW;simp only;rw [ao4 k p (.mk f0 f1 f2 f3 f4 f5) lo R l6 (by omega) (by omega)];cases uEs nm vis l6 with
   | error c=>exact rfl
   | ok r6 =>
    simp only [Option.bind_some,eb];have stay : ∀ y:aag,NN (some (.ok (aab.mk (aaa.mk p) (.mk f0 f1 f2 f3 f4 f5) nm (pre ++ [d]) lo,y))) p (.mk f0 f1 f2 f3 f4 f5) lo pre nm (.ok (nm,vis,y)) (szS (.mk op name s2 fr s4 flag l6 l7 l8 l9 l10)) :=
     fun y=>⟨d,rfl,R,List.prefix_refl _,by omega⟩
    cases h27:(op == 27) with
    | true =>
     simp only [cond_true];have h:=loopK op name s2 fr s4 flag l7 l8 l9 r6 l10 0 [] nm vis pre d lo (by omega) (by simp; omega) (by omega) (by omega) (by omega) R;revert h;cases uCs p f2 f3 lo nm vis l10 with
     | error c=>intro h; exact h
     | ok x =>
      obtain ⟨nm1,vis1,cs⟩:=x;rintro ⟨h,hp1,hl1⟩;exact ⟨d,by rw [h]; simp,R.ext hp1,hp1,by simp only [szS]; omega⟩
    | false =>
     simp only [cond_false];have tail : ∀ ix:Int,NN (afF k (aa0 k m) p f0 f1 f2 f3 f4 f5 nm (pre ++ [d]) lo op name s2 fr ix flag r6 l7 l8 l9 l10) p (.mk f0 f1 f2 f3 f4 f5) lo pre nm
       (cond (op == 2) (match abq nm vis name with | none=>.error 20 | some v=>.ok (nm,vis,.mk op name (v:Int) fr ix flag r6 l7 l8 l9 l10))
       (cond (op == 18 || op == 19) (uD (decide (lo > 0)) 22 (.ok (nm,vis,.mk op name s2 fr ix flag r6 l7 l8 l9 l10)))
       (cond (op == 29) (uD f3 22 (.ok (nm,vis,.mk op name s2 fr ix flag r6 l7 l8 l9 l10)))
       (cond (op == 17) (uD ((decide (r6.length > 0)) == (f2 != 0)) 22 (.ok (nm,vis,.mk op name s2 fr ix flag r6 l7 l8 l9 l10)))
       (cond (op == 21) (eb3 (uB p f2 f3 (lo + 1) nm vis l7) fun nm1 _ b=>.ok (nm1,vis,.mk op name s2 fr ix flag r6 b l8 l9 l10))
       (cond (op == 28) (eb3 (uI p f2 f3 (lo + 1) nm vis name s2 l7) fun nm1 _ vb=>.ok (nm1,vis,.mk op name vb.1 fr ix flag r6 vb.2 l8 l9 l10))
       (cond (op == 25) (eb3 (uI p f2 f3 lo nm vis name s2 l7) fun nm1 _ vb=>.ok (nm1,vis,.mk op name vb.1 fr ix flag r6 vb.2 l8 l9 l10))
       (cond (op == 24) (eb3 (uB p f2 f3 lo nm vis l7) fun nm1 _ b7=>eb3 (uI p f2 f3 lo nm1 vis name s2 l8) fun nm2 _ vb=>eb3 (uB p f2 f3 lo nm2 vis l9) fun nm3 _ b9=>.ok (nm3,vis,.mk op name vb.1 fr ix flag r6 b7 vb.2 b9 l10))
       (cond (op == 20 || op == 22 || op == 23 || op == 26) (eb3 (uB p f2 f3 lo nm vis l7) fun nm1 _ b7=>eb3 (uB p f2 f3 lo nm1 vis l8) fun nm2 _ b8=>.ok (nm2,vis,.mk op name s2 fr ix flag r6 b7 b8 l9 l10))
        (eb3 (cond (seq name ⟨#[]⟩) (.ok (nm,vis,s2)) (uMk nm vis name)) fun nm1 vis1 v=>uD (op != 6 || flag == 0 || decide (lo > 0)) 22 (.ok (nm1,vis1,.mk op name v fr ix flag r6 l7 l8 l9 l10)))))))))))) (szS (.mk op name s2 fr s4 flag l6 l7 l8 l9 l10)):=by
      intro ix;unfold afF;cases h2:(op == 2) with
      | true =>
       simp only [cond_true];rw [R.f123];cases abq nm vis name with
       | none=>simp only [Option.bind_some,adZ]; exact rfl
       | some v=>simp only [Option.bind_some,adZ,cond_true]; exact stay _
      | false =>
       simp only [cond_false];have tail2 : ∀ q,q=(op == 18 || op == 19)→NN (aga k (aa0 k m) p f0 f1 f2 f3 f4 f5 nm (pre ++ [d]) lo op name s2 fr ix flag r6 l7 l8 l9 l10 q) p (.mk f0 f1 f2 f3 f4 f5) lo pre nm
         (cond (op == 18 || op == 19) (uD (decide (lo > 0)) 22 (.ok (nm,vis,.mk op name s2 fr ix flag r6 l7 l8 l9 l10)))
         (cond (op == 29) (uD f3 22 (.ok (nm,vis,.mk op name s2 fr ix flag r6 l7 l8 l9 l10)))
         (cond (op == 17) (uD ((decide (r6.length > 0)) == (f2 != 0)) 22 (.ok (nm,vis,.mk op name s2 fr ix flag r6 l7 l8 l9 l10)))
         (cond (op == 21) (eb3 (uB p f2 f3 (lo + 1) nm vis l7) fun nm1 _ b=>.ok (nm1,vis,.mk op name s2 fr ix flag r6 b l8 l9 l10))
         (cond (op == 28) (eb3 (uI p f2 f3 (lo + 1) nm vis name s2 l7) fun nm1 _ vb=>.ok (nm1,vis,.mk op name vb.1 fr ix flag r6 vb.2 l8 l9 l10))
         (cond (op == 25) (eb3 (uI p f2 f3 lo nm vis name s2 l7) fun nm1 _ vb=>.ok (nm1,vis,.mk op name vb.1 fr ix flag r6 vb.2 l8 l9 l10))
         (cond (op == 24) (eb3 (uB p f2 f3 lo nm vis l7) fun nm1 _ b7=>eb3 (uI p f2 f3 lo nm1 vis name s2 l8) fun nm2 _ vb=>eb3 (uB p f2 f3 lo nm2 vis l9) fun nm3 _ b9=>.ok (nm3,vis,.mk op name vb.1 fr ix flag r6 b7 vb.2 b9 l10))
         (cond (op == 20 || op == 22 || op == 23 || op == 26) (eb3 (uB p f2 f3 lo nm vis l7) fun nm1 _ b7=>eb3 (uB p f2 f3 lo nm1 vis l8) fun nm2 _ b8=>.ok (nm2,vis,.mk op name s2 fr ix flag r6 b7 b8 l9 l10))
          (eb3 (cond (seq name ⟨#[]⟩) (.ok (nm,vis,s2)) (uMk nm vis name)) fun nm1 vis1 v=>uD (op != 6 || flag == 0 || decide (lo > 0)) 22 (.ok (nm1,vis1,.mk op name v fr ix flag r6 l7 l8 l9 l10))))))))))) (szS (.mk op name s2 fr s4 flag l6 l7 l8 l9 l10)):=by
        rintro _ rfl;unfold aga;cases (op == 18 || op == 19) with
        | true =>
         simp only [cond_true,adZ,Option.bind_some,aoY,uD];cases decide (lo > 0)
         ·exact rfl
         ·exact stay _
        | false =>
        simp only [cond_false];cases (op == 29) with
        | true =>
         simp only [cond_true,adZ,Option.bind_some,uD];cases f3
         ·exact rfl
         ·exact stay _
        | false =>
        simp only [cond_false];cases (op == 17) with
        | true =>
         simp only [cond_true,adZ,Option.bind_some,uD,aoY];cases (decide (r6.length > 0) == (f2 != 0))
         ·exact rfl
         ·exact stay _
        | false =>
        simp only [cond_false];cases (op == 21) with
        | true =>
         simp only [cond_true];have h:=ihlb l7 (by omega) nm vis (pre ++ [d]) lo (by omega) (by simp; omega) (by omega) R;revert h;cases uB p f2 f3 (lo + 1) nm vis l7 with
         | error c=>intro h; simp only [NB] at h; rw [h]; exact rfl
         | ok x =>
          obtain ⟨nm1,vis1,b⟩:=x;rintro ⟨h,hp1,hl1⟩;rw [h];exact ⟨d,rfl,R.ext hp1,hp1,by simp only [szS]; omega⟩
        | false =>
        simp only [cond_false];cases (op == 28) with
        | true =>
         simp only [cond_true];have h:=ihli l7 (by omega) name op name s2 fr ix flag r6 l7 l8 l9 l10 nm vis (pre ++ [d]) lo (by omega) (by simp; omega) (by omega) R;revert h;cases uI p f2 f3 (lo + 1) nm vis name s2 l7 with
         | error c=>intro h; simp only [NB] at h; rw [h]; exact rfl
         | ok x =>
          obtain ⟨nm1,vis1,v,b⟩:=x;rintro ⟨h,hp1,hl1⟩;rw [h];exact ⟨d,rfl,R.ext hp1,hp1,by simp only [szS]; omega⟩
        | false =>
        simp only [cond_false];cases (op == 25) with
        | true =>
         simp only [cond_true];have h:=ihi l7 (by omega) name op name s2 fr ix flag r6 l7 l8 l9 l10 nm vis (pre ++ [d]) lo (by omega) (by simp; omega) (by omega) R;revert h;cases uI p f2 f3 lo nm vis name s2 l7 with
         | error c=>intro h; simp only [NB] at h; rw [h]; exact rfl
         | ok x =>
          obtain ⟨nm1,vis1,v,b⟩:=x;rintro ⟨h,hp1,hl1⟩;rw [h];exact ⟨d,rfl,R.ext hp1,hp1,by simp only [szS]; omega⟩
        | false =>
        simp only [cond_false];cases (op == 24) with
        | true =>
         simp only [cond_true];have h:=ihb l7 (by omega) nm vis (pre ++ [d]) lo (by omega) (by simp; omega) (by omega) R;revert h;cases uB p f2 f3 lo nm vis l7 with
         | error c=>intro h; simp only [NB] at h; rw [h]; exact rfl
         | ok x =>
          obtain ⟨nm1,vis1,b⟩:=x;rintro ⟨h,hp1,hl1⟩;rw [h];simp only [Option.bind_some,eb3,id];have h:=ihi l8 (by omega) name op name s2 fr ix flag r6 b l8 l9 l10 nm1 vis (pre ++ [d]) lo (by omega) (by simp; omega) (by omega) (R.ext hp1);revert h;cases uI p f2 f3 lo nm1 vis name s2 l8 with
          | error c=>intro h; simp only [NB] at h; rw [h]; exact rfl
          | ok x =>
           obtain ⟨nm2,vis2,v,b8⟩:=x;rintro ⟨h,hp2,hl2⟩;rw [h];simp only [Option.bind_some];have h:=ihb l9 (by omega) nm2 vis (pre ++ [d]) lo (by omega) (by simp; omega) (by omega) ((R.ext hp1).ext hp2);revert h;cases uB p f2 f3 lo nm2 vis l9 with
           | error c=>intro h; simp only [NB] at h; rw [h]; exact rfl
           | ok x =>
            obtain ⟨nm3,vis3,b9⟩:=x;rintro ⟨h,hp3,hl3⟩;rw [h];exact ⟨d,rfl,((R.ext hp1).ext hp2).ext hp3,(hp1.trans hp2).trans hp3,by simp only [szS]; omega⟩
        | false =>
        simp only [cond_false];have tail3 : ∀ q,q=(op == 20 || op == 22 || op == 23 || op == 26)→NN (aeq k (aa0 k m) p f0 f1 f2 f3 f4 f5 nm (pre ++ [d]) lo op name s2 fr ix flag r6 l7 l8 l9 l10 q) p (.mk f0 f1 f2 f3 f4 f5) lo pre nm
          (cond (op == 20 || op == 22 || op == 23 || op == 26) (eb3 (uB p f2 f3 lo nm vis l7) fun nm1 _ b7=>eb3 (uB p f2 f3 lo nm1 vis l8) fun nm2 _ b8=>.ok (nm2,vis,.mk op name s2 fr ix flag r6 b7 b8 l9 l10))
           (eb3 (cond (seq name ⟨#[]⟩) (.ok (nm,vis,s2)) (uMk nm vis name)) fun nm1 vis1 v=>uD (op != 6 || flag == 0 || decide (lo > 0)) 22 (.ok (nm1,vis1,.mk op name v fr ix flag r6 l7 l8 l9 l10)))) (szS (.mk op name s2 fr s4 flag l6 l7 l8 l9 l10)):=by
         rintro _ rfl;unfold aeq;cases (op == 20 || op == 22 || op == 23 || op == 26) with
         | true =>
          simp only [cond_true];have h:=ihb l7 (by omega) nm vis (pre ++ [d]) lo (by omega) (by simp; omega) (by omega) R;revert h;cases uB p f2 f3 lo nm vis l7 with
          | error c=>intro h; simp only [NB] at h; rw [h]; exact rfl
          | ok x =>
           obtain ⟨nm1,vis1,b⟩:=x;rintro ⟨h,hp1,hl1⟩;rw [h];simp only [Option.bind_some,eb3,id];have h:=ihb l8 (by omega) nm1 vis (pre ++ [d]) lo (by omega) (by simp; omega) (by omega) (R.ext hp1);revert h;cases uB p f2 f3 lo nm1 vis l8 with
           | error c=>intro h; simp only [NB] at h; rw [h]; exact rfl
           | ok x =>
            obtain ⟨nm2,vis2,b8⟩:=x;rintro ⟨h,hp2,hl2⟩;rw [h];exact ⟨d,rfl,(R.ext hp1).ext hp2,hp1.trans hp2,by simp only [szS]; omega⟩
         | false =>
          simp only [cond_false];have fin : ∀ (nm1:List ByteArray) (vis1:List Nat) (d1:List (ByteArray × Int)) (v:Int),Rel (pre ++ [d1]) vis1 nm1→nm <+: nm1→nm1.length≤nm.length + 1 →
            NN (agf k (aa0 k m) op name fr ix flag r6 l7 l8 l9 l10 p f0 f1 f2 f3 f4 f5 nm1 (pre ++ [d1]) lo v) p (.mk f0 f1 f2 f3 f4 f5) lo pre nm
             (uD (op != 6 || flag == 0 || decide (lo > 0)) 22 (.ok (nm1,vis1,.mk op name v fr ix flag r6 l7 l8 l9 l10))) (szS (.mk op name s2 fr s4 flag l6 l7 l8 l9 l10)):=by
           intro nm1 vis1 d1 v R1 hp1 hl1;unfold agf;simp only [adZ,Option.bind_some,aoY,uD,cond_true];cases (op != 6) <;> cases (flag == 0) <;> cases decide (lo > 0) <;> first | exact rfl | exact ⟨d1,rfl,R1,hp1,by simp only [szS]; omega⟩
          cases seq name ⟨#[]⟩ with
          | true =>
           simp only [Bool.not_true,cond_false,cond_true,eb3];exact fin nm vis d s2 R (List.prefix_refl _) (by omega)
          | false =>
           simp only [Bool.not_false,cond_true,cond_false];have h:=agR k p (.mk f0 f1 f2 f3 f4 f5) lo R name (by omega) (by omega);revert h;cases uMk nm vis name with
           | error c=>intro h; simp only [NN] at h; rw [h]; exact rfl
           | ok x =>
            obtain ⟨nm1,vis1,v⟩:=x;rintro ⟨d1,h,R1,hp1,hl1⟩;rw [h];exact fin nm1 vis1 d1 v R1 hp1 hl1
        cases h20:(op == 20) <;> cases h22:(op == 22) <;> cases h23:(op == 23) <;> (have h:=tail3 _ rfl; simp only [h20,h22,h23,Bool.true_or,Bool.or_true,Bool.false_or,cond_true,cond_false] at h ⊢; exact h)
       cases h18:(op == 18) with
       | true=>simp only [cond_true,Bool.true_or]; have h:=tail2 true (by simp [h18]); simpa only [h18,Bool.true_or,cond_true] using h
       | false=>simp only [cond_false,Bool.false_or]; have h:=tail2 (op == 19) (by simp [h18]); simpa only [h18,Bool.false_or] using h
     cases hfr:seq fr ⟨#[]⟩ with
     | true =>
      simp only [Bool.not_true,cond_false,cond_true];exact tail s4
     | false =>
      simp only [Bool.not_false,cond_true,cond_false];rw [asx];cases uCall op fr r6.length p 0 with
      | error c=>exact rfl
      | ok ix=>exact tail ix
  ·intro l hl nm vis sc lo hnm hsc hlo R;show NB (adQ k (aa0 k m) (.mk (.mk p) (.mk f0 f1 f2 f3 f4 f5) nm sc lo) ⟨#[]⟩ l) _ _ _ _ _ _ _ _;rw [aoj];unfold adQ;simp only;rw [abz (by unfold maxB; omega)];have hs:seq ⟨#[]⟩ ⟨#[]⟩=true:=apJ _;rw [hs];simp only [Bool.not_true,cond_false];have h:=loopB l 0 [] nm vis sc [] lo (by omega) (by simp; omega) (by omega) (by omega) (by omega) R.push;revert h;cases uSs p f2 f3 lo nm vis l with
   | error c=>intro h; exact h
   | ok x =>
    obtain ⟨nm1,vis1,l'⟩:=x;rintro ⟨h,hp1,hl1⟩;exact ⟨by rw [h]; simp,hp1,by omega⟩
  ·intro l hl name s0 s1 s2 s3 s4 s5 s6 s7 s8 s9 s10 nm vis sc lo hnm hsc hlo R;show NB (adX k (aa0 k m) (.mk (.mk p) (.mk f0 f1 f2 f3 f4 f5) nm sc lo) name l (.mk s0 s1 s2 s3 s4 s5 s6 s7 s8 s9 s10)) _ _ _ _ _ _ _ _;rw [ah8];unfold adX adn;simp only;rw [abz (by unfold maxB; omega)];cases hn:seq name ⟨#[]⟩ with
   | true =>
    simp only [Bool.not_true,cond_false,cond_true,eb3];have h:=loopS s0 s1 s3 s4 s5 s6 s7 s8 s9 s10 s2 l 0 [] nm vis sc [] lo (by omega) (by simp; omega) (by omega) (by omega) (by omega) R.push;revert h;cases uSs p f2 f3 lo nm vis l with
    | error c=>intro h; exact h
    | ok x =>
     obtain ⟨nm1,vis1,l'⟩:=x;rintro ⟨h,hp1,hl1⟩;exact ⟨by rw [h]; simp,hp1,by omega⟩
   | false =>
    simp only [Bool.not_false,cond_true,cond_false];have h:=agR k p (.mk f0 f1 f2 f3 f4 f5) lo R.push name (by omega) (by omega);revert h;cases hu:uMk nm vis name with
    | error c=>intro h; simp only [NN] at h; rw [h]; rfl
    | ok x =>
     obtain ⟨nm1,vis1,v⟩:=x;rintro ⟨d1,h,R1,hp1,hl1⟩;rw [h];simp only [Option.bind_some,eb3];have h2:=loopS s0 s1 s3 s4 s5 s6 s7 s8 s9 s10 v l 0 [] nm1 vis1 sc d1 lo (by omega) (by simp; omega) (by omega) (by omega) (by omega) R1;revert h2;cases uSs p f2 f3 lo nm1 vis1 l with
     | error c=>intro h2; exact h2
     | ok x =>
      obtain ⟨nm2,vis2,l'⟩:=x;rintro ⟨h2,hp2,hl2⟩;exact ⟨by rw [h2]; simp,hp1.trans hp2,by omega⟩
  ·intro l hl name s0 s1 s2 s3 s4 nm vis sc lo hnm hsc hlo R;show NB (adY k (aa0 k m) (.mk (.mk p) (.mk f0 f1 f2 f3 f4 f5) nm sc lo) name l (.mk s0 s1 s2 s3 s4)) _ _ _ _ _ _ _ _;rw [ah8];unfold adY adj;simp only;rw [abz (by unfold maxB; omega)];cases hn:seq name ⟨#[]⟩ with
   | true =>
    simp only [Bool.not_true,cond_false,cond_true,eb3];have h:=loopC s0 s1 s3 s4 s2 l 0 [] nm vis sc [] lo (by omega) (by simp; omega) (by omega) (by omega) (by omega) R.push;revert h;cases uSs p f2 f3 lo nm vis l with
    | error c=>intro h; exact h
    | ok x =>
     obtain ⟨nm1,vis1,l'⟩:=x;rintro ⟨h,hp1,hl1⟩;exact ⟨by rw [h]; simp,hp1,by omega⟩
   | false =>
    simp only [Bool.not_false,cond_true,cond_false];have h:=agR k p (.mk f0 f1 f2 f3 f4 f5) lo R.push name (by omega) (by omega);revert h;cases hu:uMk nm vis name with
    | error c=>intro h; simp only [NN] at h; rw [h]; rfl
    | ok x =>
     obtain ⟨nm1,vis1,v⟩:=x;rintro ⟨d1,h,R1,hp1,hl1⟩;rw [h];simp only [Option.bind_some,eb3];have h2:=loopC s0 s1 s3 s4 v l 0 [] nm1 vis1 sc d1 lo (by omega) (by simp; omega) (by omega) (by omega) (by omega) R1;revert h2;cases uSs p f2 f3 lo nm1 vis1 l with
     | error c=>intro h2; exact h2
     | ok x =>
      obtain ⟨nm2,vis2,l'⟩:=x;rintro ⟨h2,hp2,hl2⟩;exact ⟨by rw [h2]; simp,hp1.trans hp2,by omega⟩
  ·intro l hl nm vis sc lo hnm hsc hlo R;show NB (adP k (aa0 k m) (.mk (.mk p) (.mk f0 f1 f2 f3 f4 f5) nm sc lo) ⟨#[]⟩ l) _ _ _ _ _ _ _ _;unfold adP;simp only;rw [acj (x:=(lo:Int) + 1) (n:=lo + 1) (by omega) (by omega)];have h:=ihb l (by omega) nm vis sc (lo + 1) (by omega) (by omega) (by omega) R;revert h;cases uB p f2 f3 (lo + 1) nm vis l with
   | error c=>intro h; simp only [NB] at h; rw [h]; rfl
   | ok x =>
    obtain ⟨nm1,vis1,l'⟩:=x;rintro ⟨h,hp1,hl1⟩;rw [h];simp only [Option.bind_some];rw [acj (x:=((lo + 1:Nat):Int) - 1) (n:=lo) (by omega) (by omega)];exact ⟨rfl,hp1,hl1⟩
  ·intro l hl name s0 s1 s2 s3 s4 s5 s6 s7 s8 s9 s10 nm vis sc lo hnm hsc hlo R;show NB (ad0 k (aa0 k m) (.mk (.mk p) (.mk f0 f1 f2 f3 f4 f5) nm sc lo) name l (.mk s0 s1 s2 s3 s4 s5 s6 s7 s8 s9 s10)) _ _ _ _ _ _ _ _;unfold ad0;simp only;rw [acj (x:=(lo:Int) + 1) (n:=lo + 1) (by omega) (by omega)];have h:=ihi l (by omega) name s0 s1 s2 s3 s4 s5 s6 s7 s8 s9 s10 nm vis sc (lo + 1) (by omega) (by omega) (by omega) R;revert h;cases uI p f2 f3 (lo + 1) nm vis name s2 l with
   | error c=>intro h; simp only [NB] at h; rw [h]; rfl
   | ok x =>
    obtain ⟨nm1,vis1,l'⟩:=x;rintro ⟨h,hp1,hl1⟩;rw [h];simp only [Option.bind_some];rw [acj (x:=((lo + 1:Nat):Int) - 1) (n:=lo) (by omega) (by omega)];exact ⟨rfl,hp1,hl1⟩
def uPs:List ByteArray→List Nat→List aaL→Ex (List ByteArray × List Nat × Unit)
 | nm,vis,[]=>.ok (nm,vis,())
 | nm,vis,.mk a _ :: l=>eb3 (uMk nm vis a) fun nm1 vis1 _=>uPs nm1 vis1 l
def uF (fs:List aaf):aaf→Ex (aaf × List ByteArray)
 | .mk n ps res fl _ b=>eb3 (uPs [] [] ps) fun nm vis _=>eb3 (uSs fs res fl 0 nm vis b) fun nm1 _ b'=>uD (decide (nm1.length≤32)) 5 (.ok (.mk n ps res fl (nm1.length:Int) b',nm1))
def uFs (fs:List aaf):List aaf→Ex (List aaf × List (List ByteArray))
 | []=>.ok ([],[])
 | f :: l=>eb (uF fs f) fun x=>eb (uFs fs l) fun y=>.ok (x.1 :: y.1,x.2 :: y.2)
def alR:aaf→ByteArray | .mk n _ _ _ _ _=>n
def hasF (a:ByteArray):List aaf→Bool
 | []=>false
 | f :: l=>seq (alR f) a || hasF a l
def dupF:List aaf→List aaf→Bool
 | _,[]=>false
 | pre,f :: l=>hasF (alR f) pre || dupF (pre ++ [f]) l
def uP:aaa→Ex (aaa × List (List ByteArray))
 | .mk fs=>uD (wf false (.mk fs)) 2 (uD (!dupF [] fs) 21 (uD (decide (acA fs=0)) (acA fs) (eb (uFs fs fs) fun x=>.ok (.mk x.1,x.2))))
theorem aeT {z:Bool} : ∀ {l:List aaf} {f:aaf},f ∈ l→cnFs l≤600→gFs z l=true→(match f with | .mk n ps res fl v b=>szSs b≤600∧ps.length≤4∧gSs z b 1=true)
 | .mk n ps res fl v b :: l,f,hf,hc,hg=>by
  simp only [cnFs,cnF] at hc;simp only [gFs,alI,Bool.and_eq_true,decide_eq_true_eq] at hg;rcases List.mem_cons.1 hf with rfl | h
  ·exact ⟨by omega,hg.1.1.1.1.1.2,hg.2.2.1⟩
  ·exact aeT h (by omega) hg.2.2.2
theorem akt (k:Nat) (p:List aaf) (n:ByteArray) (ps0:List aaL) (res:Int) (fl:Bool) (v:Int) (b0 b:List aag) (g1:List aaL) : ∀ (ps:List aaL) (i:Nat) (nm:List ByteArray) (vis:List Nat) (d:List (ByteArray × Int)),nm.length + ps.length≤1000→Rel ([] ++ [d]) vis nm →
  match uPs nm vis ps with
  | .error c=>adB k n g1 res fl b ps i p n ps0 res fl v b0 nm ([] ++ [d]) 0=some (.error c)
  | .ok (nm',vis',_)=>∃ d' j,adB k n g1 res fl b ps i p n ps0 res fl v b0 nm ([] ++ [d]) 0=adB k n g1 res fl b [] j p n ps0 res fl v b0 nm' ([] ++ [d']) 0∧Rel ([] ++ [d']) vis' nm'∧nm'.length≤nm.length + ps.length
 | [],i,nm,vis,d,hn,R=>⟨d,i,rfl,R,by simp⟩
 | .mk a kd :: ps,i,nm,vis,d,hn,R=>by
  simp only [List.length_cons] at hn;have h:=agR k p (.mk n ps0 res fl v b0) 0 R a (by omega) (by simp);unfold uPs;revert h;cases uMk nm vis a with
  | error c =>
   intro h;simp only [NN] at h;unfold adB;simp only [eb3];rw [show f104 k (.mk (.mk p) (.mk n ps0 res fl v b0) nm ([] ++ [d]) 0) a=some (.error c) from h];rfl
  | ok x =>
   obtain ⟨nm1,vis1,w⟩:=x;rintro ⟨d1,h,R1,hp,hl⟩;simp only [eb3];have ih:=akt k p n ps0 res fl v b0 b g1 ps (i + 1) nm1 vis1 d1 (by omega) R1;have e:adB k n g1 res fl b (.mk a kd :: ps) i p n ps0 res fl v b0 nm ([] ++ [d]) 0=adB k n g1 res fl b ps (i + 1) p n ps0 res fl v b0 nm1 ([] ++ [d1]) 0:=by
    conv=>lhs; unfold adB
    rw [show f104 k (.mk (.mk p) (.mk n ps0 res fl v b0) nm ([] ++ [d]) 0) a=some (.ok (.mk (.mk p) (.mk n ps0 res fl v b0) nm1 ([] ++ [d1]) 0,w)) from h];rfl
   revert ih;cases uPs nm1 vis1 ps with
   | error c=>intro ih; rw [e]; exact ih
   | ok x =>
    obtain ⟨nm2,vis2,u⟩:=x;rintro ⟨d2,j,h2,R2,hl2⟩;exact ⟨d2,j,by rw [e]; exact h2,R2,by simp only [List.length_cons]; omega⟩
theorem alb (k:Nat) (p:List aaf) (n:ByteArray) (ps0:List aaL) (res:Int) (fl:Bool) (v:Int) (b0:List aag) (g1:List aaL) : ∀ (l:List aag) (i:Nat) (xs:List aag) (nm:List ByteArray) (vis:List Nat) (d:List (ByteArray × Int)),4 * szSs l≤k→xs.length + szSs l≤100000→nm.length + szSs l≤100000→Rel ([] ++ [d]) vis nm →
  agy k n res fl g1 l i p n ps0 res fl v b0 nm ([] ++ [d]) 0 xs=some (eb3 (uSs p res fl 0 nm vis l) fun nm1 _ b'=>uD (decide (nm1.length≤32)) 5 (.ok (.mk n g1 res fl (nm1.length:Int) (xs ++ b'),nm1)))
 | [],i,xs,nm,vis,d,hm,hx,hn,R=>by
  unfold agy amn;rw [uSs];have e:decide ((nm.length:Int)≤32)=decide (nm.length≤32):=by rw [decide_eq_decide]; omega
  simp only [adZ,Option.bind_some,eb3,e,uD,List.append_nil];cases decide (nm.length≤32) <;> rfl
 | s :: l,i,xs,nm,vis,d,hm,hx,hn,R=>by
  simp only [szSs] at hm hx hn;have hp0:=abI s;obtain ⟨e0,e1,e2,e3,e4,e5,e6,e7,e8,e9,e10⟩:=s;unfold agy;rw [uSs];have h:=(nR k p n ps0 res fl v b0 k (Nat.le_refl k)).1 (.mk e0 e1 e2 e3 e4 e5 e6 e7 e8 e9 e10) (by omega) nm vis [] d 0 (by omega) (by simp; omega) (by omega) R;rw [show (aa0 k k).f105=f105 k from rfl,show (((0:Nat):Int))=0 from rfl] at h;revert h;cases uS p res fl 0 nm vis (.mk e0 e1 e2 e3 e4 e5 e6 e7 e8 e9 e10) with
  | error c=>intro h; simp only [NN] at h; rw [h]; rfl
  | ok x =>
   obtain ⟨nm1,vis1,s'⟩:=x;rintro ⟨d1,h,R1,hp,hl⟩;rw [h];obtain ⟨r0,r1,r2,r3,r4,r5,r6,r7,r8,r9,r10⟩:=s';simp only [Option.bind_some,eb3];rw [abz (by unfold maxB; omega)];refine (alb k p n ps0 res fl v b0 g1 l (i + 1) (xs ++ [.mk r0 r1 r2 r3 r4 r5 r6 r7 r8 r9 r10]) nm1 vis1 d1 (by omega) (by rw [acY]; omega) (by omega) R1).trans ?_;cases uSs p res fl 0 nm1 vis1 l with
   | error c=>rfl
   | ok x=>simp [eb3]
theorem ati (k:Nat) (p:List aaf) (f:aaf) (h:match f with | .mk n ps res fl v b=>szSs b≤600∧ps.length≤4∧gSs false b 1=true) (hk:4 * 600≤k):f83 k (.mk p) f=some (uF p f):=by
 obtain ⟨n,ps,res,fl,v,b⟩:=f;obtain ⟨h1,h2,h3⟩:=h;unfold f83 ap3 uF;simp only;have R0:Rel ([] ++ [[]]) [] []:=⟨fun a=>rfl,fun v hv=>by cases hv⟩;have h:=akt k p n ps res fl v b b ps ps 0 [] [] [] (by simp; omega) R0;revert h;cases uPs [] [] ps with
 | error c=>intro h; exact h
 | ok x =>
  obtain ⟨nm,vis,u⟩:=x;rintro ⟨d,j,h,R,hl⟩;refine (h:adB k n ps res fl b ps 0 p n ps res fl v b [] [[]] 0=_).trans ?_;unfold adB f100;rw [abz (by unfold maxB; omega)];simp only [Option.bind_some,eb3];exact alb k p n ps res fl v b ps b 0 [] nm vis d (by omega) (by simp; omega) (by simp at hl; omega) R
theorem al2 (k:Nat) (l:List aaf) (f:aaf):afl k l f=some (hasF (alR f) l):=by
 obtain ⟨n,ps,res,fl,v,b⟩:=f;have h : ∀ (l:List aaf) (i:Nat),(acs k n ps res fl v b l i).bind (fun r=>some (decide (r ≥ 0)))=some (hasF n l):=by
  intro l;induction l with
  | nil=>intro i; rfl
  | cons e l ih =>
   intro i;obtain ⟨e0,e1,e2,e3,e4,e5⟩:=e;unfold acs ajq ae1 hasF;simp only [Option.bind_some,alR];rw [ajt n e0];cases seq e0 n with
   | true=>simp
   | false=>simpa using ih (i + 1)
 unfold afl aeN aj1 aeU;exact h l 0
theorem akQ (k:Nat) : ∀ (rest pre:List aaf),agr k (pre ++ rest) rest pre.length=some (cond (dupF pre rest) (.error 21) (.ok ()))
 | [],pre=>rfl
 | f :: rest,pre=>by
  unfold agr dupF;have e:(pre ++ f :: rest).take pre.length=pre:=by simp
  rw [e,al2];simp only [Option.bind_some,adZ];cases hasF (alR f) pre with
  | true=>rfl
  | false =>
   have ih:=akQ k rest (pre ++ [f]);rw [acY,List.append_assoc,List.singleton_append] at ih;simpa using ih
theorem akG (k:Nat) (p:List aaf) (hk:4 * 600≤k) : ∀ (rest:List aaf) (out:List aaf) (names:List (List ByteArray)),(∀ f ∈ rest,match f with | .mk n ps res fl v b=>szSs b≤600∧ps.length≤4∧gSs false b 1=true) →
  afs k (.mk p) rest out names=some (eb (uFs p rest) fun x=>.ok (.mk (out ++ x.1),names ++ x.2))
 | [],out,names,h=>by simp [afs,uFs,eb]
 | f :: rest,out,names,h=>by
  unfold afs uFs;rw [ati k p f (h f (by simp)) hk];cases uF p f with
  | error c=>rfl
  | ok x =>
   simp only [Option.bind_some,eb];rw [akG k p hk rest (out ++ [x.1]) (names ++ [x.2]) (fun g hg=>h g (by simp [hg]))];cases uFs p rest with
   | error c=>rfl
   | ok y=>simp [eb]
theorem auw (k:Nat) (p:aaa) (hk:2 * szP p + 1≤k) (hk2:4 * 600≤k):f56 k p=some (uP p):=by
 have h78:=ara k p false hk;obtain ⟨fs⟩:=p;unfold f56 uP;simp only [h78,Option.bind_some,adZ];cases hw:wf false (.mk fs) with
 | false=>rfl
 | true =>
  simp only [wf,Bool.and_eq_true,decide_eq_true_eq] at hw;have h1:=akQ k fs [];simp only [List.nil_append,List.length_nil] at h1;simp only [cond_true,h1,Option.bind_some,uD];cases dupF [] fs with
  | true=>rfl
  | false =>
   simp only [cond_false,cond_true,Bool.not_false,adZ,Option.bind_some];cases decide (acA fs=0) with
   | false=>rfl
   | true =>
    simp only [cond_true];rw [akG k fs hk2 fs [] [] (fun f hf=>aeT hf hw.2 hw.1.2)];rfl
theorem atT (k:Nat) (p:aaa) (hk:2 * szP p + 1≤k) (hk2:4 * 600 + 1≤k):f35 k p=some (match uP p with | .error c=>(.mk [],c) | .ok x=>(x.1,0)):=by
 have h:=auw k p hk (by omega);obtain ⟨fs⟩:=p;unfold f35 ap5 agS agJ ae3;simp only [h,Option.bind_some];cases uP (.mk fs) with
 | error c=>rfl
 | ok x=>obtain ⟨⟨q⟩,l⟩:=x; rfl
end Go.Proofs.YtoegpkmhifmamaaGreatDoor
