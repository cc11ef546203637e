/- Words of the same proof, part 6: what the last text needs; nothing is claimed here. -/
import Derived.Test.YtoajecnoffhlbaaGreatDoorH5
set_option linter.unusedVariables false
set_option linter.unusedSimpArgs false
namespace Go.Proofs.YtoajecnoffhlbaaGreatDoor
open Go
abbrev Sc:=List (List (ByteArray × Int))
def NN {α:Type} (r:Option (Ex (Dresolver × α))) (p:List DFunc) (f:DFunc) (lo:Nat) (pre:Sc) (nm:List ByteArray) (u:Ex (List ByteArray × List Nat × α)) (n:Nat):Prop :=
 match u with
 | .error c=>r=some (.error c)
 | .ok (nm',vis',y)=>∃ d',r=some (.ok (.mk (.mk p) f nm' (pre ++ [d']) lo,y))∧Rel (pre ++ [d']) vis' nm'∧nm <+: nm'∧nm'.length≤nm.length + n
def NB {α β:Type} (r:Option (Ex (Dresolver × β))) (p:List DFunc) (f:DFunc) (lo:Nat) (sc:Sc) (nm:List ByteArray) (u:Ex (List ByteArray × List Nat × α)) (g:α→β) (n:Nat):Prop :=
 match u with
 | .error c=>r=some (.error c)
 | .ok (nm',_,y)=>r=some (.ok (.mk (.mk p) f nm' sc lo,g y))∧nm <+: nm'∧nm'.length≤nm.length + n
theorem opt_make (k:Nat) (p:List DFunc) (f:DFunc) {nm:List ByteArray} {pre:Sc} {d:List (ByteArray × Int)} (lo:Nat) {vis:List Nat} (R:Rel (pre ++ [d]) vis nm) (a:ByteArray) (hb:nm.length≤1000000) (hp:pre.length≤1000000) :
  NN (f103 k (.mk (.mk p) f nm (pre ++ [d]) lo) a) p f lo pre nm (uMk nm vis a) 1:=by
 rw [f103_eq k p f lo R a hb hp]
 unfold uMk NN
 cases hs:slotOf nm vis a with
 | some v=>rfl
 | none=>exact ⟨_,rfl,R.make hs,⟨[a],rfl⟩,by simp⟩
theorem gt_nat (lo:Nat):decide ((lo:Int) > 0)=decide (lo > 0):=by rw [decide_eq_decide]; omega
theorem cut_guard {α:Type} (sc:Sc) (d:List (ByteArray × Int)) (h:sc.length≤1000000) (x:Option α):guardB (decide (0≤(w64 (((sc ++ [d]).length:Int) - 1))∧(w64 (((sc ++ [d]).length:Int) - 1))≤((sc ++ [d]).length:Int))) x=x:=by
 have e1:w64 (((sc ++ [d]).length:Int) - 1)=(sc.length:Int):=w64_nat (n:=sc.length) (by simp) (by omega)
 rw [e1]
 have:(0≤(sc.length:Int)∧(sc.length:Int)≤((sc ++ [d]).length:Int)):=⟨by omega,by simp; omega⟩
 rw [decide_eq_true this]; rfl
theorem cut_take (sc:Sc) (d:List (ByteArray × Int)) (h:sc.length≤1000000):(sc ++ [d]).take (w64 (((sc ++ [d]).length:Int) - 1)).toNat=sc:=by
 have e1:w64 (((sc ++ [d]).length:Int) - 1)=(sc.length:Int):=w64_nat (n:=sc.length) (by simp) (by omega)
 rw [e1]; simp
section
variable (k:Nat) (p:List DFunc) (f0:ByteArray) (f1:List DParam) (f2:Int) (f3:Bool) (f4:Int) (f5:List DStmt)
end
theorem nR (k:Nat) (p:List DFunc) (f0:ByteArray) (f1:List DParam) (f2:Int) (f3:Bool) (f4:Int) (f5:List DStmt) : ∀ m,m≤k →
  (∀ s,4 * szS s≤m→∀ (nm:List ByteArray) (vis:List Nat) (pre:Sc) (d:List (ByteArray × Int)) (lo:Nat),nm.length + szS s≤100000→pre.length + szS s≤100000→lo + szS s≤100000→Rel (pre ++ [d]) vis nm →
   NN ((fam105 k m).f105 (.mk (.mk p) (.mk f0 f1 f2 f3 f4 f5) nm (pre ++ [d]) lo) s) p (.mk f0 f1 f2 f3 f4 f5) lo pre nm (uS p f2 f3 lo nm vis s) (szS s)) ∧
  (∀ l,4 * szSs l + 1≤m→∀ (nm:List ByteArray) (vis:List Nat) (sc:Sc) (lo:Nat),nm.length + szSs l≤100000→sc.length + szSs l≤100000→lo + szSs l≤100000→Rel sc vis nm →
   NB ((fam105 k m).f1012166 (.mk (.mk p) (.mk f0 f1 f2 f3 f4 f5) nm sc lo) ⟨#[]⟩ l) p (.mk f0 f1 f2 f3 f4 f5) lo sc nm (uB p f2 f3 lo nm vis l) id (szSs l)) ∧
  (∀ l,4 * szSs l + 1≤m→∀ (name:ByteArray) (s0:Int) (s1:ByteArray) (s2:Int) (s3:ByteArray) (s4 s5:Int) (s6:List DExpr) (s7 s8 s9:List DStmt) (s10:List DCase) (nm:List ByteArray) (vis:List Nat) (sc:Sc) (lo:Nat),nm.length + szSs l + 1≤100000→sc.length + szSs l≤100000→lo + szSs l≤100000→Rel sc vis nm →
   NB ((fam105 k m).f1012152 (.mk (.mk p) (.mk f0 f1 f2 f3 f4 f5) nm sc lo) name l (.mk s0 s1 s2 s3 s4 s5 s6 s7 s8 s9 s10)) p (.mk f0 f1 f2 f3 f4 f5) lo sc nm (uI p f2 f3 lo nm vis name s2 l) (fun vb=>(DStmt.mk s0 s1 vb.1 s3 s4 s5 s6 s7 s8 s9 s10,vb.2)) (szSs l + 1)) ∧
  (∀ l,4 * szSs l + 1≤m→∀ (name:ByteArray) (s0:Int) (s1:ByteArray) (s2:Int) (s3:List DExpr) (s4:List DStmt) (nm:List ByteArray) (vis:List Nat) (sc:Sc) (lo:Nat),nm.length + szSs l + 1≤100000→sc.length + szSs l≤100000→lo + szSs l≤100000→Rel sc vis nm →
   NB ((fam105 k m).f1012148 (.mk (.mk p) (.mk f0 f1 f2 f3 f4 f5) nm sc lo) name l (.mk s0 s1 s2 s3 s4)) p (.mk f0 f1 f2 f3 f4 f5) lo sc nm (uI p f2 f3 lo nm vis name s2 l) (fun vb=>(DCase.mk s0 s1 vb.1 s3 s4,vb.2)) (szSs l + 1)) ∧
  (∀ l,4 * szSs l + 2≤m→∀ (nm:List ByteArray) (vis:List Nat) (sc:Sc) (lo:Nat),nm.length + szSs l≤100000→sc.length + szSs l≤100000→lo + szSs l + 1≤100000→Rel sc vis nm →
   NB ((fam105 k m).f1012366 (.mk (.mk p) (.mk f0 f1 f2 f3 f4 f5) nm sc lo) ⟨#[]⟩ l) p (.mk f0 f1 f2 f3 f4 f5) lo sc nm (uB p f2 f3 (lo + 1) nm vis l) id (szSs l)) ∧
  (∀ l,4 * szSs l + 2≤m→∀ (name:ByteArray) (s0:Int) (s1:ByteArray) (s2:Int) (s3:ByteArray) (s4 s5:Int) (s6:List DExpr) (s7 s8 s9:List DStmt) (s10:List DCase) (nm:List ByteArray) (vis:List Nat) (sc:Sc) (lo:Nat),nm.length + szSs l + 1≤100000→sc.length + szSs l≤100000→lo + szSs l + 1≤100000→Rel sc vis nm →
   NB ((fam105 k m).f1012352 (.mk (.mk p) (.mk f0 f1 f2 f3 f4 f5) nm sc lo) name l (.mk s0 s1 s2 s3 s4 s5 s6 s7 s8 s9 s10)) p (.mk f0 f1 f2 f3 f4 f5) lo sc nm (uI p f2 f3 (lo + 1) nm vis name s2 l) (fun vb=>(DStmt.mk s0 s1 vb.1 s3 s4 s5 s6 s7 s8 s9 s10,vb.2)) (szSs l + 1))
 | 0,_=>⟨fun e he=>by have:=szS_pos e; omega,fun l hl=>by omega,fun l hl=>by omega,fun l hl=>by omega,fun l hl=>by omega,fun l hl=>by omega⟩
 | m + 1,hmk=>by
  obtain ⟨ihs,ihb,ihi,ihc,ihlb,ihli⟩:=nR k p f0 f1 f2 f3 f4 f5 m (by omega)
  have loopB : ∀ (l:List DStmt) (i:Nat) (xs:List DStmt) (nm:List ByteArray) (vis:List Nat) (sc:Sc) (d:List (ByteArray × Int)) (lo:Nat),4 * szSs l≤m→xs.length + szSs l≤100000→nm.length + szSs l≤100000→sc.length + szSs l≤100000→lo + szSs l≤100000→Rel (sc ++ [d]) vis nm →
    NB (f1012166_l1 k (fam105 k m) l i p f0 f1 f2 f3 f4 f5 nm (sc ++ [d]) lo xs) p (.mk f0 f1 f2 f3 f4 f5) lo sc nm (uSs p f2 f3 lo nm vis l) (fun l'=>xs ++ l') (szSs l):=by
   intro l
   induction l with
   | nil =>
    intro i xs nm vis sc d lo _ _ _ hsc _ R
    unfold f1012166_l1
    rw [cut_guard sc d (by omega),cut_take sc d (by omega),uSs]
    exact ⟨by simp,List.prefix_refl _,by simp⟩
   | cons s l ih =>
    intro i xs nm vis sc d lo hm hxs hnm hsc hlo R
    obtain ⟨e0,e1,e2,e3,e4,e5,e6,e7,e8,e9,e10⟩:=s
    simp only [szSs] at hm hxs hnm hsc hlo
    have hp:=szS_pos (.mk e0 e1 e2 e3 e4 e5 e6 e7 e8 e9 e10)
    unfold f1012166_l1
    rw [uSs]
    have h:=ihs (.mk e0 e1 e2 e3 e4 e5 e6 e7 e8 e9 e10) (by omega) nm vis sc d lo (by omega) (by omega) (by omega) R
    revert h
    cases uS p f2 f3 lo nm vis (.mk e0 e1 e2 e3 e4 e5 e6 e7 e8 e9 e10) with
    | error c=>intro h; simp only [NN] at h; rw [h]; rfl
    | ok x =>
     obtain ⟨nm1,vis1,s'⟩:=x
     rintro ⟨d1,h,R1,hp1,hl1⟩
     rw [h]
     obtain ⟨r0,r1,r2,r3,r4,r5,r6,r7,r8,r9,r10⟩:=s'
     simp only [Option.bind_some,eb3]
     rw [guard_le (by unfold maxB; omega)]
     have h2:=ih (i + 1) (xs ++ [.mk r0 r1 r2 r3 r4 r5 r6 r7 r8 r9 r10]) nm1 vis1 sc d1 lo (by omega) (by rw [app_len]; omega) (by omega) (by omega) (by omega) R1
     revert h2
     cases uSs p f2 f3 lo nm1 vis1 l with
     | error c=>intro h2; exact h2
     | ok x =>
      obtain ⟨nm2,vis2,l'⟩:=x
      rintro ⟨h3,hp2,hl2⟩
      refine ⟨by rw [h3]; simp,hp1.trans hp2,by simp only [szSs]; omega⟩
  have loopS : ∀ (s0:Int) (s1:ByteArray) (s3:ByteArray) (s4 s5:Int) (s6:List DExpr) (s7 s8 s9:List DStmt) (s10:List DCase) (v:Int) (l:List DStmt) (i:Nat) (xs:List DStmt) (nm:List ByteArray) (vis:List Nat) (sc:Sc) (d:List (ByteArray × Int)) (lo:Nat),4 * szSs l≤m→xs.length + szSs l≤100000→nm.length + szSs l≤100000→sc.length + szSs l≤100000→lo + szSs l≤100000→Rel (sc ++ [d]) vis nm →
    NB (f1012152_l1 k (fam105 k m) s0 s1 s3 s4 s5 s6 s7 s8 s9 s10 v l i p f0 f1 f2 f3 f4 f5 nm (sc ++ [d]) lo xs) p (.mk f0 f1 f2 f3 f4 f5) lo sc nm (uSs p f2 f3 lo nm vis l) (fun l'=>(DStmt.mk s0 s1 v s3 s4 s5 s6 s7 s8 s9 s10,xs ++ l')) (szSs l):=by
   intro s0 s1 s3 s4 s5 s6 s7 s8 s9 s10 v l
   induction l with
   | nil =>
    intro i xs nm vis sc d lo _ _ _ hsc _ R
    unfold f1012152_l1
    rw [cut_guard sc d (by omega),cut_take sc d (by omega),uSs]
    exact ⟨by simp,List.prefix_refl _,by simp⟩
   | cons s l ih =>
    intro i xs nm vis sc d lo hm hxs hnm hsc hlo R
    obtain ⟨e0,e1,e2,e3,e4,e5,e6,e7,e8,e9,e10⟩:=s
    simp only [szSs] at hm hxs hnm hsc hlo
    have hp:=szS_pos (.mk e0 e1 e2 e3 e4 e5 e6 e7 e8 e9 e10)
    unfold f1012152_l1
    rw [uSs]
    have h:=ihs (.mk e0 e1 e2 e3 e4 e5 e6 e7 e8 e9 e10) (by omega) nm vis sc d lo (by omega) (by omega) (by omega) R
    revert h
    cases uS p f2 f3 lo nm vis (.mk e0 e1 e2 e3 e4 e5 e6 e7 e8 e9 e10) with
    | error c=>intro h; simp only [NN] at h; rw [h]; rfl
    | ok x =>
     obtain ⟨nm1,vis1,s'⟩:=x
     rintro ⟨d1,h,R1,hp1,hl1⟩
     rw [h]
     obtain ⟨r0,r1,r2,r3,r4,r5,r6,r7,r8,r9,r10⟩:=s'
     simp only [Option.bind_some,eb3]
     rw [guard_le (by unfold maxB; omega)]
     have h2:=ih (i + 1) (xs ++ [.mk r0 r1 r2 r3 r4 r5 r6 r7 r8 r9 r10]) nm1 vis1 sc d1 lo (by omega) (by rw [app_len]; omega) (by omega) (by omega) (by omega) R1
     revert h2
     cases uSs p f2 f3 lo nm1 vis1 l with
     | error c=>intro h2; exact h2
     | ok x =>
      obtain ⟨nm2,vis2,l'⟩:=x
      rintro ⟨h3,hp2,hl2⟩
      refine ⟨by rw [h3]; simp,hp1.trans hp2,by simp only [szSs]; omega⟩
  have loopC : ∀ (s0:Int) (s1:ByteArray) (s3:List DExpr) (s4:List DStmt) (v:Int) (l:List DStmt) (i:Nat) (xs:List DStmt) (nm:List ByteArray) (vis:List Nat) (sc:Sc) (d:List (ByteArray × Int)) (lo:Nat),4 * szSs l≤m→xs.length + szSs l≤100000→nm.length + szSs l≤100000→sc.length + szSs l≤100000→lo + szSs l≤100000→Rel (sc ++ [d]) vis nm →
    NB (f1012148_l1 k (fam105 k m) s0 s1 s3 s4 v l i p f0 f1 f2 f3 f4 f5 nm (sc ++ [d]) lo xs) p (.mk f0 f1 f2 f3 f4 f5) lo sc nm (uSs p f2 f3 lo nm vis l) (fun l'=>(DCase.mk s0 s1 v s3 s4,xs ++ l')) (szSs l):=by
   intro s0 s1 s3 s4 v l
   induction l with
   | nil =>
    intro i xs nm vis sc d lo _ _ _ hsc _ R
    unfold f1012148_l1
    rw [cut_guard sc d (by omega),cut_take sc d (by omega),uSs]
    exact ⟨by simp,List.prefix_refl _,by simp⟩
   | cons s l ih =>
    intro i xs nm vis sc d lo hm hxs hnm hsc hlo R
    obtain ⟨e0,e1,e2,e3,e4,e5,e6,e7,e8,e9,e10⟩:=s
    simp only [szSs] at hm hxs hnm hsc hlo
    have hp:=szS_pos (.mk e0 e1 e2 e3 e4 e5 e6 e7 e8 e9 e10)
    unfold f1012148_l1
    rw [uSs]
    have h:=ihs (.mk e0 e1 e2 e3 e4 e5 e6 e7 e8 e9 e10) (by omega) nm vis sc d lo (by omega) (by omega) (by omega) R
    revert h
    cases uS p f2 f3 lo nm vis (.mk e0 e1 e2 e3 e4 e5 e6 e7 e8 e9 e10) with
    | error c=>intro h; simp only [NN] at h; rw [h]; rfl
    | ok x =>
     obtain ⟨nm1,vis1,s'⟩:=x
     rintro ⟨d1,h,R1,hp1,hl1⟩
     rw [h]
     obtain ⟨r0,r1,r2,r3,r4,r5,r6,r7,r8,r9,r10⟩:=s'
     simp only [Option.bind_some,eb3]
     rw [guard_le (by unfold maxB; omega)]
     have h2:=ih (i + 1) (xs ++ [.mk r0 r1 r2 r3 r4 r5 r6 r7 r8 r9 r10]) nm1 vis1 sc d1 lo (by omega) (by rw [app_len]; omega) (by omega) (by omega) (by omega) R1
     revert h2
     cases uSs p f2 f3 lo nm1 vis1 l with
     | error c=>intro h2; exact h2
     | ok x =>
      obtain ⟨nm2,vis2,l'⟩:=x
      rintro ⟨h3,hp2,hl2⟩
      refine ⟨by rw [h3]; simp,hp1.trans hp2,by simp only [szSs]; omega⟩
  have loopK : ∀ (s0:Int) (s1:ByteArray) (s2:Int) (s3:ByteArray) (s4 s5:Int) (s7 s8 s9:List DStmt) (r:List DExpr) (l:List DCase) (i:Nat) (xs:List DCase) (nm:List ByteArray) (vis:List Nat) (pre:Sc) (d:List (ByteArray × Int)) (lo:Nat),4 * szCs l≤m + 1→xs.length + szCs l≤100000→nm.length + szCs l≤100000→pre.length + szCs l≤100000→lo + szCs l≤100000→Rel (pre ++ [d]) vis nm →
    NB (f105_l1 k (fam105 k m) s0 s1 s2 s3 s4 s5 s7 s8 s9 r l i p f0 f1 f2 f3 f4 f5 nm (pre ++ [d]) lo xs) p (.mk f0 f1 f2 f3 f4 f5) lo (pre ++ [d]) nm (uCs p f2 f3 lo nm vis l) (fun l'=>DStmt.mk s0 s1 s2 s3 s4 s5 r s7 s8 s9 (xs ++ l')) (szCs l):=by
   intro s0 s1 s2 s3 s4 s5 s7 s8 s9 r l
   induction l with
   | nil =>
    intro i xs nm vis pre d lo _ _ _ hsc _ R
    unfold f105_l1
    rw [uCs]
    exact ⟨by simp,List.prefix_refl _,by simp⟩
   | cons c l ih =>
    intro i xs nm vis pre d lo hm hxs hnm hsc hlo R
    obtain ⟨e0,e1,e2,e3,e4⟩:=c
    simp only [szCs,szC] at hm hxs hnm hsc hlo
    unfold f105_l1
    rw [uCs,uC]
    rw [f120_eq k p (.mk f0 f1 f2 f3 f4 f5) lo R e3 (by omega) (by omega)]
    cases uEs nm vis e3 with
    | error c=>exact rfl
    | ok r3 =>
     simp only [Option.bind_some,eb]
     have h:=ihc e4 (by omega) e1 e0 e1 e2 r3 e4 nm vis (pre ++ [d]) lo (by omega) (by simp; omega) (by omega) R
     revert h
     cases uI p f2 f3 lo nm vis e1 e2 e4 with
     | error c=>intro h; simp only [NB] at h; rw [h]; exact rfl
     | ok x =>
      obtain ⟨nm1,vis1,v,b⟩:=x
      rintro ⟨h,hp1,hl1⟩
      rw [h]
      simp only [Option.bind_some,eb3]
      rw [guard_le (by unfold maxB; omega)]
      have h2:=ih (i + 1) (xs ++ [.mk e0 e1 v r3 b]) nm1 vis pre d lo (by omega) (by rw [app_len]; omega) (by omega) (by omega) (by omega) (R.ext hp1)
      revert h2
      cases uCs p f2 f3 lo nm1 vis l with
      | error c=>intro h2; exact h2
      | ok x =>
       obtain ⟨nm2,vis2,l'⟩:=x
       rintro ⟨h3,hp2,hl2⟩
       refine ⟨by rw [h3]; simp,hp1.trans hp2,by simp only [szCs,szC]; omega⟩
  refine ⟨?_,?_,?_,?_,?_,?_⟩
  ·intro s hs nm vis pre d lo hnm hpre hlo R
   obtain ⟨op,name,s2,fr,s4,flag,l6,l7,l8,l9,l10⟩:=s
   simp only [szS] at hs hnm hpre hlo
   show NN (f105_b k (fam105 k m) (.mk (.mk p) (.mk f0 f1 f2 f3 f4 f5) nm (pre ++ [d]) lo) (.mk op name s2 fr s4 flag l6 l7 l8 l9 l10)) p _ lo pre nm _ _
   rw [uS]
   unfold f105_b
   simp only
   rw [f120_eq k p (.mk f0 f1 f2 f3 f4 f5) lo R l6 (by omega) (by omega)]
   cases uEs nm vis l6 with
   | error c=>exact rfl
   | ok r6 =>
    simp only [Option.bind_some,eb]
    have stay : ∀ y:DStmt,NN (some (.ok (Dresolver.mk (DProgram.mk p) (.mk f0 f1 f2 f3 f4 f5) nm (pre ++ [d]) lo,y))) p (.mk f0 f1 f2 f3 f4 f5) lo pre nm (.ok (nm,vis,y)) (szS (.mk op name s2 fr s4 flag l6 l7 l8 l9 l10)) :=
     fun y=>⟨d,rfl,R,List.prefix_refl _,by omega⟩
    cases h27:(op == 27) with
    | true =>
     simp only [cond_true]
     have h:=loopK op name s2 fr s4 flag l7 l8 l9 r6 l10 0 [] nm vis pre d lo (by omega) (by simp; omega) (by omega) (by omega) (by omega) R
     revert h
     cases uCs p f2 f3 lo nm vis l10 with
     | error c=>intro h; exact h
     | ok x =>
      obtain ⟨nm1,vis1,cs⟩:=x
      rintro ⟨h,hp1,hl1⟩
      exact ⟨d,by rw [h]; simp,R.ext hp1,hp1,by simp only [szS]; omega⟩
    | false =>
     simp only [cond_false]
     have tail : ∀ ix:Int,NN (f105_j1 k (fam105 k m) p f0 f1 f2 f3 f4 f5 nm (pre ++ [d]) lo op name s2 fr ix flag r6 l7 l8 l9 l10) p (.mk f0 f1 f2 f3 f4 f5) lo pre nm
       (cond (op == 2) (match slotOf nm vis name with | none=>.error 20 | some v=>.ok (nm,vis,.mk op name (v:Int) fr ix flag r6 l7 l8 l9 l10))
       (cond (op == 18 || op == 19) (uD (decide (lo > 0)) 22 (.ok (nm,vis,.mk op name s2 fr ix flag r6 l7 l8 l9 l10)))
       (cond (op == 29) (uD f3 22 (.ok (nm,vis,.mk op name s2 fr ix flag r6 l7 l8 l9 l10)))
       (cond (op == 17) (uD ((decide (r6.length > 0)) == (f2 != 0)) 22 (.ok (nm,vis,.mk op name s2 fr ix flag r6 l7 l8 l9 l10)))
       (cond (op == 21) (eb3 (uB p f2 f3 (lo + 1) nm vis l7) fun nm1 _ b=>.ok (nm1,vis,.mk op name s2 fr ix flag r6 b l8 l9 l10))
       (cond (op == 28) (eb3 (uI p f2 f3 (lo + 1) nm vis name s2 l7) fun nm1 _ vb=>.ok (nm1,vis,.mk op name vb.1 fr ix flag r6 vb.2 l8 l9 l10))
       (cond (op == 25) (eb3 (uI p f2 f3 lo nm vis name s2 l7) fun nm1 _ vb=>.ok (nm1,vis,.mk op name vb.1 fr ix flag r6 vb.2 l8 l9 l10))
       (cond (op == 24) (eb3 (uB p f2 f3 lo nm vis l7) fun nm1 _ b7=>eb3 (uI p f2 f3 lo nm1 vis name s2 l8) fun nm2 _ vb=>eb3 (uB p f2 f3 lo nm2 vis l9) fun nm3 _ b9=>.ok (nm3,vis,.mk op name vb.1 fr ix flag r6 b7 vb.2 b9 l10))
       (cond (op == 20 || op == 22 || op == 23 || op == 26) (eb3 (uB p f2 f3 lo nm vis l7) fun nm1 _ b7=>eb3 (uB p f2 f3 lo nm1 vis l8) fun nm2 _ b8=>.ok (nm2,vis,.mk op name s2 fr ix flag r6 b7 b8 l9 l10))
        (eb3 (cond (seq name ⟨#[]⟩) (.ok (nm,vis,s2)) (uMk nm vis name)) fun nm1 vis1 v=>uD (op != 6 || flag == 0 || decide (lo > 0)) 22 (.ok (nm1,vis1,.mk op name v fr ix flag r6 l7 l8 l9 l10)))))))))))) (szS (.mk op name s2 fr s4 flag l6 l7 l8 l9 l10)):=by
      intro ix
      unfold f105_j1
      cases h2:(op == 2) with
      | true =>
       simp only [cond_true]
       rw [R.f119]
       cases slotOf nm vis name with
       | none=>simp only [Option.bind_some,f58_eq]; exact rfl
       | some v=>simp only [Option.bind_some,f58_eq,cond_true]; exact stay _
      | false =>
       simp only [cond_false]
       have tail2 : ∀ q,q=(op == 18 || op == 19)→NN (f105_j3 k (fam105 k m) p f0 f1 f2 f3 f4 f5 nm (pre ++ [d]) lo op name s2 fr ix flag r6 l7 l8 l9 l10 q) p (.mk f0 f1 f2 f3 f4 f5) lo pre nm
         (cond (op == 18 || op == 19) (uD (decide (lo > 0)) 22 (.ok (nm,vis,.mk op name s2 fr ix flag r6 l7 l8 l9 l10)))
         (cond (op == 29) (uD f3 22 (.ok (nm,vis,.mk op name s2 fr ix flag r6 l7 l8 l9 l10)))
         (cond (op == 17) (uD ((decide (r6.length > 0)) == (f2 != 0)) 22 (.ok (nm,vis,.mk op name s2 fr ix flag r6 l7 l8 l9 l10)))
         (cond (op == 21) (eb3 (uB p f2 f3 (lo + 1) nm vis l7) fun nm1 _ b=>.ok (nm1,vis,.mk op name s2 fr ix flag r6 b l8 l9 l10))
         (cond (op == 28) (eb3 (uI p f2 f3 (lo + 1) nm vis name s2 l7) fun nm1 _ vb=>.ok (nm1,vis,.mk op name vb.1 fr ix flag r6 vb.2 l8 l9 l10))
         (cond (op == 25) (eb3 (uI p f2 f3 lo nm vis name s2 l7) fun nm1 _ vb=>.ok (nm1,vis,.mk op name vb.1 fr ix flag r6 vb.2 l8 l9 l10))
         (cond (op == 24) (eb3 (uB p f2 f3 lo nm vis l7) fun nm1 _ b7=>eb3 (uI p f2 f3 lo nm1 vis name s2 l8) fun nm2 _ vb=>eb3 (uB p f2 f3 lo nm2 vis l9) fun nm3 _ b9=>.ok (nm3,vis,.mk op name vb.1 fr ix flag r6 b7 vb.2 b9 l10))
         (cond (op == 20 || op == 22 || op == 23 || op == 26) (eb3 (uB p f2 f3 lo nm vis l7) fun nm1 _ b7=>eb3 (uB p f2 f3 lo nm1 vis l8) fun nm2 _ b8=>.ok (nm2,vis,.mk op name s2 fr ix flag r6 b7 b8 l9 l10))
          (eb3 (cond (seq name ⟨#[]⟩) (.ok (nm,vis,s2)) (uMk nm vis name)) fun nm1 vis1 v=>uD (op != 6 || flag == 0 || decide (lo > 0)) 22 (.ok (nm1,vis1,.mk op name v fr ix flag r6 l7 l8 l9 l10))))))))))) (szS (.mk op name s2 fr s4 flag l6 l7 l8 l9 l10)):=by
        rintro _ rfl
        unfold f105_j3
        cases (op == 18 || op == 19) with
        | true =>
         simp only [cond_true,f58_eq,Option.bind_some,gt_nat,uD]
         cases decide (lo > 0)
         ·exact rfl
         ·exact stay _
        | false =>
        simp only [cond_false]
        cases (op == 29) with
        | true =>
         simp only [cond_true,f58_eq,Option.bind_some,uD]
         cases f3
         ·exact rfl
         ·exact stay _
        | false =>
        simp only [cond_false]
        cases (op == 17) with
        | true =>
         simp only [cond_true,f58_eq,Option.bind_some,uD,gt_nat]
         cases (decide (r6.length > 0) == (f2 != 0))
         ·exact rfl
         ·exact stay _
        | false =>
        simp only [cond_false]
        cases (op == 21) with
        | true =>
         simp only [cond_true]
         have h:=ihlb l7 (by omega) nm vis (pre ++ [d]) lo (by omega) (by simp; omega) (by omega) R
         revert h
         cases uB p f2 f3 (lo + 1) nm vis l7 with
         | error c=>intro h; simp only [NB] at h; rw [h]; exact rfl
         | ok x =>
          obtain ⟨nm1,vis1,b⟩:=x
          rintro ⟨h,hp1,hl1⟩
          rw [h]
          exact ⟨d,rfl,R.ext hp1,hp1,by simp only [szS]; omega⟩
        | false =>
        simp only [cond_false]
        cases (op == 28) with
        | true =>
         simp only [cond_true]
         have h:=ihli l7 (by omega) name op name s2 fr ix flag r6 l7 l8 l9 l10 nm vis (pre ++ [d]) lo (by omega) (by simp; omega) (by omega) R
         revert h
         cases uI p f2 f3 (lo + 1) nm vis name s2 l7 with
         | error c=>intro h; simp only [NB] at h; rw [h]; exact rfl
         | ok x =>
          obtain ⟨nm1,vis1,v,b⟩:=x
          rintro ⟨h,hp1,hl1⟩
          rw [h]
          exact ⟨d,rfl,R.ext hp1,hp1,by simp only [szS]; omega⟩
        | false =>
        simp only [cond_false]
        cases (op == 25) with
        | true =>
         simp only [cond_true]
         have h:=ihi l7 (by omega) name op name s2 fr ix flag r6 l7 l8 l9 l10 nm vis (pre ++ [d]) lo (by omega) (by simp; omega) (by omega) R
         revert h
         cases uI p f2 f3 lo nm vis name s2 l7 with
         | error c=>intro h; simp only [NB] at h; rw [h]; exact rfl
         | ok x =>
          obtain ⟨nm1,vis1,v,b⟩:=x
          rintro ⟨h,hp1,hl1⟩
          rw [h]
          exact ⟨d,rfl,R.ext hp1,hp1,by simp only [szS]; omega⟩
        | false =>
        simp only [cond_false]
        cases (op == 24) with
        | true =>
         simp only [cond_true]
         have h:=ihb l7 (by omega) nm vis (pre ++ [d]) lo (by omega) (by simp; omega) (by omega) R
         revert h
         cases uB p f2 f3 lo nm vis l7 with
         | error c=>intro h; simp only [NB] at h; rw [h]; exact rfl
         | ok x =>
          obtain ⟨nm1,vis1,b⟩:=x
          rintro ⟨h,hp1,hl1⟩
          rw [h]
          simp only [Option.bind_some,eb3,id]
          have h:=ihi l8 (by omega) name op name s2 fr ix flag r6 b l8 l9 l10 nm1 vis (pre ++ [d]) lo (by omega) (by simp; omega) (by omega) (R.ext hp1)
          revert h
          cases uI p f2 f3 lo nm1 vis name s2 l8 with
          | error c=>intro h; simp only [NB] at h; rw [h]; exact rfl
          | ok x =>
           obtain ⟨nm2,vis2,v,b8⟩:=x
           rintro ⟨h,hp2,hl2⟩
           rw [h]
           simp only [Option.bind_some]
           have h:=ihb l9 (by omega) nm2 vis (pre ++ [d]) lo (by omega) (by simp; omega) (by omega) ((R.ext hp1).ext hp2)
           revert h
           cases uB p f2 f3 lo nm2 vis l9 with
           | error c=>intro h; simp only [NB] at h; rw [h]; exact rfl
           | ok x =>
            obtain ⟨nm3,vis3,b9⟩:=x
            rintro ⟨h,hp3,hl3⟩
            rw [h]
            exact ⟨d,rfl,((R.ext hp1).ext hp2).ext hp3,(hp1.trans hp2).trans hp3,by simp only [szS]; omega⟩
        | false =>
        simp only [cond_false]
        have tail3 : ∀ q,q=(op == 20 || op == 22 || op == 23 || op == 26)→NN (f105_j4 k (fam105 k m) p f0 f1 f2 f3 f4 f5 nm (pre ++ [d]) lo op name s2 fr ix flag r6 l7 l8 l9 l10 q) p (.mk f0 f1 f2 f3 f4 f5) lo pre nm
          (cond (op == 20 || op == 22 || op == 23 || op == 26) (eb3 (uB p f2 f3 lo nm vis l7) fun nm1 _ b7=>eb3 (uB p f2 f3 lo nm1 vis l8) fun nm2 _ b8=>.ok (nm2,vis,.mk op name s2 fr ix flag r6 b7 b8 l9 l10))
           (eb3 (cond (seq name ⟨#[]⟩) (.ok (nm,vis,s2)) (uMk nm vis name)) fun nm1 vis1 v=>uD (op != 6 || flag == 0 || decide (lo > 0)) 22 (.ok (nm1,vis1,.mk op name v fr ix flag r6 l7 l8 l9 l10)))) (szS (.mk op name s2 fr s4 flag l6 l7 l8 l9 l10)):=by
         rintro _ rfl
         unfold f105_j4
         cases (op == 20 || op == 22 || op == 23 || op == 26) with
         | true =>
          simp only [cond_true]
          have h:=ihb l7 (by omega) nm vis (pre ++ [d]) lo (by omega) (by simp; omega) (by omega) R
          revert h
          cases uB p f2 f3 lo nm vis l7 with
          | error c=>intro h; simp only [NB] at h; rw [h]; exact rfl
          | ok x =>
           obtain ⟨nm1,vis1,b⟩:=x
           rintro ⟨h,hp1,hl1⟩
           rw [h]
           simp only [Option.bind_some,eb3,id]
           have h:=ihb l8 (by omega) nm1 vis (pre ++ [d]) lo (by omega) (by simp; omega) (by omega) (R.ext hp1)
           revert h
           cases uB p f2 f3 lo nm1 vis l8 with
           | error c=>intro h; simp only [NB] at h; rw [h]; exact rfl
           | ok x =>
            obtain ⟨nm2,vis2,b8⟩:=x
            rintro ⟨h,hp2,hl2⟩
            rw [h]
            exact ⟨d,rfl,(R.ext hp1).ext hp2,hp1.trans hp2,by simp only [szS]; omega⟩
         | false =>
          simp only [cond_false]
          have fin : ∀ (nm1:List ByteArray) (vis1:List Nat) (d1:List (ByteArray × Int)) (v:Int),Rel (pre ++ [d1]) vis1 nm1→nm <+: nm1→nm1.length≤nm.length + 1 →
            NN (f105_j5 k (fam105 k m) op name fr ix flag r6 l7 l8 l9 l10 p f0 f1 f2 f3 f4 f5 nm1 (pre ++ [d1]) lo v) p (.mk f0 f1 f2 f3 f4 f5) lo pre nm
             (uD (op != 6 || flag == 0 || decide (lo > 0)) 22 (.ok (nm1,vis1,.mk op name v fr ix flag r6 l7 l8 l9 l10))) (szS (.mk op name s2 fr s4 flag l6 l7 l8 l9 l10)):=by
           intro nm1 vis1 d1 v R1 hp1 hl1
           unfold f105_j5
           simp only [f58_eq,Option.bind_some,gt_nat,uD,cond_true]
           cases (op != 6) <;> cases (flag == 0) <;> cases decide (lo > 0) <;> first | exact rfl | exact ⟨d1,rfl,R1,hp1,by simp only [szS]; omega⟩
          cases seq name ⟨#[]⟩ with
          | true =>
           simp only [Bool.not_true,cond_false,cond_true,eb3]
           exact fin nm vis d s2 R (List.prefix_refl _) (by omega)
          | false =>
           simp only [Bool.not_false,cond_true,cond_false]
           have h:=opt_make k p (.mk f0 f1 f2 f3 f4 f5) lo R name (by omega) (by omega)
           revert h
           cases uMk nm vis name with
           | error c=>intro h; simp only [NN] at h; rw [h]; exact rfl
           | ok x =>
            obtain ⟨nm1,vis1,v⟩:=x
            rintro ⟨d1,h,R1,hp1,hl1⟩
            rw [h]
            exact fin nm1 vis1 d1 v R1 hp1 hl1
        cases h20:(op == 20) <;> cases h22:(op == 22) <;> cases h23:(op == 23) <;> (have h:=tail3 _ rfl; simp only [h20,h22,h23,Bool.true_or,Bool.or_true,Bool.false_or,cond_true,cond_false] at h ⊢; exact h)
       cases h18:(op == 18) with
       | true=>simp only [cond_true,Bool.true_or]; have h:=tail2 true (by simp [h18]); simpa only [h18,Bool.true_or,cond_true] using h
       | false=>simp only [cond_false,Bool.false_or]; have h:=tail2 (op == 19) (by simp [h18]); simpa only [h18,Bool.false_or] using h
     cases hfr:seq fr ⟨#[]⟩ with
     | true =>
      simp only [Bool.not_true,cond_false,cond_true]
      exact tail s4
     | false =>
      simp only [Bool.not_false,cond_true,cond_false]
      rw [f122_eq]
      cases uCall op fr r6.length p 0 with
      | error c=>exact rfl
      | ok ix=>exact tail ix
  ·intro l hl nm vis sc lo hnm hsc hlo R
   show NB (f1012166_b k (fam105 k m) (.mk (.mk p) (.mk f0 f1 f2 f3 f4 f5) nm sc lo) ⟨#[]⟩ l) _ _ _ _ _ _ _ _
   rw [uB_eq]
   unfold f1012166_b
   simp only
   rw [guard_le (by unfold maxB; omega)]
   have hs:seq ⟨#[]⟩ ⟨#[]⟩=true:=seq_refl _
   rw [hs]
   simp only [Bool.not_true,cond_false]
   have h:=loopB l 0 [] nm vis sc [] lo (by omega) (by simp; omega) (by omega) (by omega) (by omega) R.push
   revert h
   cases uSs p f2 f3 lo nm vis l with
   | error c=>intro h; exact h
   | ok x =>
    obtain ⟨nm1,vis1,l'⟩:=x
    rintro ⟨h,hp1,hl1⟩
    exact ⟨by rw [h]; simp,hp1,by omega⟩
  ·intro l hl name s0 s1 s2 s3 s4 s5 s6 s7 s8 s9 s10 nm vis sc lo hnm hsc hlo R
   show NB (f1012152_b k (fam105 k m) (.mk (.mk p) (.mk f0 f1 f2 f3 f4 f5) nm sc lo) name l (.mk s0 s1 s2 s3 s4 s5 s6 s7 s8 s9 s10)) _ _ _ _ _ _ _ _
   rw [uI_eq]
   unfold f1012152_b f1012152_j1
   simp only
   rw [guard_le (by unfold maxB; omega)]
   cases hn:seq name ⟨#[]⟩ with
   | true =>
    simp only [Bool.not_true,cond_false,cond_true,eb3]
    have h:=loopS s0 s1 s3 s4 s5 s6 s7 s8 s9 s10 s2 l 0 [] nm vis sc [] lo (by omega) (by simp; omega) (by omega) (by omega) (by omega) R.push
    revert h
    cases uSs p f2 f3 lo nm vis l with
    | error c=>intro h; exact h
    | ok x =>
     obtain ⟨nm1,vis1,l'⟩:=x
     rintro ⟨h,hp1,hl1⟩
     exact ⟨by rw [h]; simp,hp1,by omega⟩
   | false =>
    simp only [Bool.not_false,cond_true,cond_false]
    have h:=opt_make k p (.mk f0 f1 f2 f3 f4 f5) lo R.push name (by omega) (by omega)
    revert h
    cases hu:uMk nm vis name with
    | error c=>intro h; simp only [NN] at h; rw [h]; rfl
    | ok x =>
     obtain ⟨nm1,vis1,v⟩:=x
     rintro ⟨d1,h,R1,hp1,hl1⟩
     rw [h]
     simp only [Option.bind_some,eb3]
     have h2:=loopS s0 s1 s3 s4 s5 s6 s7 s8 s9 s10 v l 0 [] nm1 vis1 sc d1 lo (by omega) (by simp; omega) (by omega) (by omega) (by omega) R1
     revert h2
     cases uSs p f2 f3 lo nm1 vis1 l with
     | error c=>intro h2; exact h2
     | ok x =>
      obtain ⟨nm2,vis2,l'⟩:=x
      rintro ⟨h2,hp2,hl2⟩
      exact ⟨by rw [h2]; simp,hp1.trans hp2,by omega⟩
  ·intro l hl name s0 s1 s2 s3 s4 nm vis sc lo hnm hsc hlo R
   show NB (f1012148_b k (fam105 k m) (.mk (.mk p) (.mk f0 f1 f2 f3 f4 f5) nm sc lo) name l (.mk s0 s1 s2 s3 s4)) _ _ _ _ _ _ _ _
   rw [uI_eq]
   unfold f1012148_b f1012148_j1
   simp only
   rw [guard_le (by unfold maxB; omega)]
   cases hn:seq name ⟨#[]⟩ with
   | true =>
    simp only [Bool.not_true,cond_false,cond_true,eb3]
    have h:=loopC s0 s1 s3 s4 s2 l 0 [] nm vis sc [] lo (by omega) (by simp; omega) (by omega) (by omega) (by omega) R.push
    revert h
    cases uSs p f2 f3 lo nm vis l with
    | error c=>intro h; exact h
    | ok x =>
     obtain ⟨nm1,vis1,l'⟩:=x
     rintro ⟨h,hp1,hl1⟩
     exact ⟨by rw [h]; simp,hp1,by omega⟩
   | false =>
    simp only [Bool.not_false,cond_true,cond_false]
    have h:=opt_make k p (.mk f0 f1 f2 f3 f4 f5) lo R.push name (by omega) (by omega)
    revert h
    cases hu:uMk nm vis name with
    | error c=>intro h; simp only [NN] at h; rw [h]; rfl
    | ok x =>
     obtain ⟨nm1,vis1,v⟩:=x
     rintro ⟨d1,h,R1,hp1,hl1⟩
     rw [h]
     simp only [Option.bind_some,eb3]
     have h2:=loopC s0 s1 s3 s4 v l 0 [] nm1 vis1 sc d1 lo (by omega) (by simp; omega) (by omega) (by omega) (by omega) R1
     revert h2
     cases uSs p f2 f3 lo nm1 vis1 l with
     | error c=>intro h2; exact h2
     | ok x =>
      obtain ⟨nm2,vis2,l'⟩:=x
      rintro ⟨h2,hp2,hl2⟩
      exact ⟨by rw [h2]; simp,hp1.trans hp2,by omega⟩
  ·intro l hl nm vis sc lo hnm hsc hlo R
   show NB (f1012366_b k (fam105 k m) (.mk (.mk p) (.mk f0 f1 f2 f3 f4 f5) nm sc lo) ⟨#[]⟩ l) _ _ _ _ _ _ _ _
   unfold f1012366_b
   simp only
   rw [w64_nat (x:=(lo:Int) + 1) (n:=lo + 1) (by omega) (by omega)]
   have h:=ihb l (by omega) nm vis sc (lo + 1) (by omega) (by omega) (by omega) R
   revert h
   cases uB p f2 f3 (lo + 1) nm vis l with
   | error c=>intro h; simp only [NB] at h; rw [h]; rfl
   | ok x =>
    obtain ⟨nm1,vis1,l'⟩:=x
    rintro ⟨h,hp1,hl1⟩
    rw [h]
    simp only [Option.bind_some]
    rw [w64_nat (x:=((lo + 1:Nat):Int) - 1) (n:=lo) (by omega) (by omega)]
    exact ⟨rfl,hp1,hl1⟩
  ·intro l hl name s0 s1 s2 s3 s4 s5 s6 s7 s8 s9 s10 nm vis sc lo hnm hsc hlo R
   show NB (f1012352_b k (fam105 k m) (.mk (.mk p) (.mk f0 f1 f2 f3 f4 f5) nm sc lo) name l (.mk s0 s1 s2 s3 s4 s5 s6 s7 s8 s9 s10)) _ _ _ _ _ _ _ _
   unfold f1012352_b
   simp only
   rw [w64_nat (x:=(lo:Int) + 1) (n:=lo + 1) (by omega) (by omega)]
   have h:=ihi l (by omega) name s0 s1 s2 s3 s4 s5 s6 s7 s8 s9 s10 nm vis sc (lo + 1) (by omega) (by omega) (by omega) R
   revert h
   cases uI p f2 f3 (lo + 1) nm vis name s2 l with
   | error c=>intro h; simp only [NB] at h; rw [h]; rfl
   | ok x =>
    obtain ⟨nm1,vis1,l'⟩:=x
    rintro ⟨h,hp1,hl1⟩
    rw [h]
    simp only [Option.bind_some]
    rw [w64_nat (x:=((lo + 1:Nat):Int) - 1) (n:=lo) (by omega) (by omega)]
    exact ⟨rfl,hp1,hl1⟩
end Go.Proofs.YtoajecnoffhlbaaGreatDoor
namespace Go.Proofs.YtoajecnoffhlbaaGreatDoor
open Go
def uPs:List ByteArray→List Nat→List DParam→Ex (List ByteArray × List Nat × Unit)
 | nm,vis,[]=>.ok (nm,vis,())
 | nm,vis,.mk a _ :: l=>eb3 (uMk nm vis a) fun nm1 vis1 _=>uPs nm1 vis1 l
def uF (fs:List DFunc):DFunc→Ex (DFunc × List ByteArray)
 | .mk n ps res fl _ b=>eb3 (uPs [] [] ps) fun nm vis _=>eb3 (uSs fs res fl 0 nm vis b) fun nm1 _ b'=>uD (decide (nm1.length≤32)) 5 (.ok (.mk n ps res fl (nm1.length:Int) b',nm1))
def uFs (fs:List DFunc):List DFunc→Ex (List DFunc × List (List ByteArray))
 | []=>.ok ([],[])
 | f :: l=>eb (uF fs f) fun x=>eb (uFs fs l) fun y=>.ok (x.1 :: y.1,x.2 :: y.2)
def nameF:DFunc→ByteArray | .mk n _ _ _ _ _=>n
def hasF (a:ByteArray):List DFunc→Bool
 | []=>false
 | f :: l=>seq (nameF f) a || hasF a l
def dupF:List DFunc→List DFunc→Bool
 | _,[]=>false
 | pre,f :: l=>hasF (nameF f) pre || dupF (pre ++ [f]) l
def uP:DProgram→Ex (DProgram × List (List ByteArray))
 | .mk fs=>uD (wf false (.mk fs)) 2 (uD (!dupF [] fs) 21 (uD (decide (f44_l2 fs=0)) (f44_l2 fs) (eb (uFs fs fs) fun x=>.ok (.mk x.1,x.2))))
theorem szSs_bound {z:Bool} : ∀ {l:List DFunc} {f:DFunc},f ∈ l→cnFs l≤600→gFs z l=true→(match f with | .mk n ps res fl v b=>szSs b≤600∧ps.length≤4∧gSs z b 1=true)
 | .mk n ps res fl v b :: l,f,hf,hc,hg=>by
  simp only [cnFs,cnF] at hc
  simp only [gFs,headF,Bool.and_eq_true,decide_eq_true_eq] at hg
  rcases List.mem_cons.1 hf with rfl | h
  ·exact ⟨by omega,hg.1.1.1.1.1.2,hg.2.2.1⟩
  ·exact szSs_bound h (by omega) hg.2.2.2
theorem f82_l1_eq (k:Nat) (p:List DFunc) (n:ByteArray) (ps0:List DParam) (res:Int) (fl:Bool) (v:Int) (b0 b:List DStmt) (g1:List DParam) : ∀ (ps:List DParam) (i:Nat) (nm:List ByteArray) (vis:List Nat) (d:List (ByteArray × Int)),nm.length + ps.length≤1000→Rel ([] ++ [d]) vis nm →
  match uPs nm vis ps with
  | .error c=>f82_l1 k n g1 res fl b ps i p n ps0 res fl v b0 nm ([] ++ [d]) 0=some (.error c)
  | .ok (nm',vis',_)=>∃ d' j,f82_l1 k n g1 res fl b ps i p n ps0 res fl v b0 nm ([] ++ [d]) 0=f82_l1 k n g1 res fl b [] j p n ps0 res fl v b0 nm' ([] ++ [d']) 0∧Rel ([] ++ [d']) vis' nm'∧nm'.length≤nm.length + ps.length
 | [],i,nm,vis,d,hn,R=>⟨d,i,rfl,R,by simp⟩
 | .mk a kd :: ps,i,nm,vis,d,hn,R=>by
  simp only [List.length_cons] at hn
  have h:=opt_make k p (.mk n ps0 res fl v b0) 0 R a (by omega) (by simp)
  unfold uPs
  revert h
  cases uMk nm vis a with
  | error c =>
   intro h
   simp only [NN] at h
   unfold f82_l1
   simp only [eb3]
   rw [show f103 k (.mk (.mk p) (.mk n ps0 res fl v b0) nm ([] ++ [d]) 0) a=some (.error c) from h]
   rfl
  | ok x =>
   obtain ⟨nm1,vis1,w⟩:=x
   rintro ⟨d1,h,R1,hp,hl⟩
   simp only [eb3]
   have ih:=f82_l1_eq k p n ps0 res fl v b0 b g1 ps (i + 1) nm1 vis1 d1 (by omega) R1
   have e:f82_l1 k n g1 res fl b (.mk a kd :: ps) i p n ps0 res fl v b0 nm ([] ++ [d]) 0=f82_l1 k n g1 res fl b ps (i + 1) p n ps0 res fl v b0 nm1 ([] ++ [d1]) 0:=by
    conv=>lhs; unfold f82_l1
    rw [show f103 k (.mk (.mk p) (.mk n ps0 res fl v b0) nm ([] ++ [d]) 0) a=some (.ok (.mk (.mk p) (.mk n ps0 res fl v b0) nm1 ([] ++ [d1]) 0,w)) from h]
    rfl
   revert ih
   cases uPs nm1 vis1 ps with
   | error c=>intro ih; rw [e]; exact ih
   | ok x =>
    obtain ⟨nm2,vis2,u⟩:=x
    rintro ⟨d2,j,h2,R2,hl2⟩
    exact ⟨d2,j,by rw [e]; exact h2,R2,by simp only [List.length_cons]; omega⟩
theorem f82_l2_eq (k:Nat) (p:List DFunc) (n:ByteArray) (ps0:List DParam) (res:Int) (fl:Bool) (v:Int) (b0:List DStmt) (g1:List DParam) : ∀ (l:List DStmt) (i:Nat) (xs:List DStmt) (nm:List ByteArray) (vis:List Nat) (d:List (ByteArray × Int)),4 * szSs l≤k→xs.length + szSs l≤100000→nm.length + szSs l≤100000→Rel ([] ++ [d]) vis nm →
  f82_l2 k n res fl g1 l i p n ps0 res fl v b0 nm ([] ++ [d]) 0 xs=some (eb3 (uSs p res fl 0 nm vis l) fun nm1 _ b'=>uD (decide (nm1.length≤32)) 5 (.ok (.mk n g1 res fl (nm1.length:Int) (xs ++ b'),nm1)))
 | [],i,xs,nm,vis,d,hm,hx,hn,R=>by
  unfold f82_l2 f82_j1
  rw [uSs]
  have e:decide ((nm.length:Int)≤32)=decide (nm.length≤32):=by rw [decide_eq_decide]; omega
  simp only [f58_eq,Option.bind_some,eb3,e,uD,List.append_nil]
  cases decide (nm.length≤32) <;> rfl
 | s :: l,i,xs,nm,vis,d,hm,hx,hn,R=>by
  simp only [szSs] at hm hx hn
  have hp0:=szS_pos s
  obtain ⟨e0,e1,e2,e3,e4,e5,e6,e7,e8,e9,e10⟩:=s
  unfold f82_l2
  rw [uSs]
  have h:=(nR k p n ps0 res fl v b0 k (Nat.le_refl k)).1 (.mk e0 e1 e2 e3 e4 e5 e6 e7 e8 e9 e10) (by omega) nm vis [] d 0 (by omega) (by simp; omega) (by omega) R
  rw [show (fam105 k k).f105=f105 k from rfl,show (((0:Nat):Int))=0 from rfl] at h
  revert h
  cases uS p res fl 0 nm vis (.mk e0 e1 e2 e3 e4 e5 e6 e7 e8 e9 e10) with
  | error c=>intro h; simp only [NN] at h; rw [h]; rfl
  | ok x =>
   obtain ⟨nm1,vis1,s'⟩:=x
   rintro ⟨d1,h,R1,hp,hl⟩
   rw [h]
   obtain ⟨r0,r1,r2,r3,r4,r5,r6,r7,r8,r9,r10⟩:=s'
   simp only [Option.bind_some,eb3]
   rw [guard_le (by unfold maxB; omega)]
   refine (f82_l2_eq k p n ps0 res fl v b0 g1 l (i + 1) (xs ++ [.mk r0 r1 r2 r3 r4 r5 r6 r7 r8 r9 r10]) nm1 vis1 d1 (by omega) (by rw [app_len]; omega) (by omega) R1).trans ?_
   cases uSs p res fl 0 nm1 vis1 l with
   | error c=>rfl
   | ok x=>simp [eb3]
theorem f82_eq (k:Nat) (p:List DFunc) (f:DFunc) (h:match f with | .mk n ps res fl v b=>szSs b≤600∧ps.length≤4∧gSs false b 1=true) (hk:4 * 600≤k):f82 k (.mk p) f=some (uF p f):=by
 obtain ⟨n,ps,res,fl,v,b⟩:=f
 obtain ⟨h1,h2,h3⟩:=h
 unfold f82 f82_b uF
 simp only
 have R0:Rel ([] ++ [[]]) [] []:=⟨fun a=>rfl,fun v hv=>by cases hv⟩
 have h:=f82_l1_eq k p n ps res fl v b b ps ps 0 [] [] [] (by simp; omega) R0
 revert h
 cases uPs [] [] ps with
 | error c=>intro h; exact h
 | ok x =>
  obtain ⟨nm,vis,u⟩:=x
  rintro ⟨d,j,h,R,hl⟩
  refine (h:f82_l1 k n ps res fl b ps 0 p n ps res fl v b [] [[]] 0=_).trans ?_
  unfold f82_l1 f104
  rw [guard_le (by unfold maxB; omega)]
  simp only [Option.bind_some,eb3]
  exact f82_l2_eq k p n ps res fl v b ps b 0 [] nm vis d (by omega) (by simp; omega) (by simp at hl; omega) R
theorem f1008056_eq (k:Nat) (l:List DFunc) (f:DFunc):f1008056 k l f=some (hasF (nameF f) l):=by
 obtain ⟨n,ps,res,fl,v,b⟩:=f
 have h : ∀ (l:List DFunc) (i:Nat),(f1005656_l1 k n ps res fl v b l i).bind (fun r=>some (decide (r ≥ 0)))=some (hasF n l):=by
  intro l
  induction l with
  | nil=>intro i; rfl
  | cons e l ih =>
   intro i
   obtain ⟨e0,e1,e2,e3,e4,e5⟩:=e
   unfold f1005656_l1 f1008100 f1008100_b hasF
   simp only [Option.bind_some,nameF]
   rw [seq_comm n e0]
   cases seq e0 n with
   | true=>simp
   | false=>simpa using ih (i + 1)
 unfold f1008056 f1008056_b f1005656 f1005656_b
 exact h l 0
theorem f44_l1_eq (k:Nat) : ∀ (rest pre:List DFunc),f44_l1 k (pre ++ rest) rest pre.length=some (cond (dupF pre rest) (.error 21) (.ok ()))
 | [],pre=>rfl
 | f :: rest,pre=>by
  unfold f44_l1 dupF
  have e:(pre ++ f :: rest).take pre.length=pre:=by simp
  rw [e,f1008056_eq]
  simp only [Option.bind_some,f58_eq]
  cases hasF (nameF f) pre with
  | true=>rfl
  | false =>
   have ih:=f44_l1_eq k rest (pre ++ [f])
   rw [app_len,List.append_assoc,List.singleton_append] at ih
   simpa using ih
theorem f44_l3_eq (k:Nat) (p:List DFunc) (hk:4 * 600≤k) : ∀ (rest:List DFunc) (out:List DFunc) (names:List (List ByteArray)),(∀ f ∈ rest,match f with | .mk n ps res fl v b=>szSs b≤600∧ps.length≤4∧gSs false b 1=true) →
  f44_l3 k (.mk p) rest out names=some (eb (uFs p rest) fun x=>.ok (.mk (out ++ x.1),names ++ x.2))
 | [],out,names,h=>by simp [f44_l3,uFs,eb]
 | f :: rest,out,names,h=>by
  unfold f44_l3 uFs
  rw [f82_eq k p f (h f (by simp)) hk]
  cases uF p f with
  | error c=>rfl
  | ok x =>
   simp only [Option.bind_some,eb]
   rw [f44_l3_eq k p hk rest (out ++ [x.1]) (names ++ [x.2]) (fun g hg=>h g (by simp [hg]))]
   cases uFs p rest with
   | error c=>rfl
   | ok y=>simp [eb]
theorem f44_eq (k:Nat) (p:DProgram) (hk:2 * szP p + 1≤k) (hk2:4 * 600≤k):f44 k p=some (uP p):=by
 have h78:=f78_eq k p false hk
 obtain ⟨fs⟩:=p
 unfold f44 uP
 simp only [h78,Option.bind_some,f58_eq]
 cases hw:wf false (.mk fs) with
 | false=>rfl
 | true =>
  simp only [wf,Bool.and_eq_true,decide_eq_true_eq] at hw
  have h1:=f44_l1_eq k fs []
  simp only [List.nil_append,List.length_nil] at h1
  simp only [cond_true,h1,Option.bind_some,uD]
  cases dupF [] fs with
  | true=>rfl
  | false =>
   simp only [cond_false,cond_true,Bool.not_false,f58_eq,Option.bind_some]
   cases decide (f44_l2 fs=0) with
   | false=>rfl
   | true =>
    simp only [cond_true]
    rw [f44_l3_eq k fs hk2 fs [] [] (fun f hf=>szSs_bound hf hw.2 hw.1.2)]
    rfl
end Go.Proofs.YtoajecnoffhlbaaGreatDoor
namespace Go.Proofs.YtoajecnoffhlbaaGreatDoor
open Go
theorem eb_ok {α β:Type} {u:Ex α} {f:α→Ex β} {y:β} (h:eb u f=.ok y) : ∃ x,u=.ok x∧f x=.ok y:=by
 cases u with
 | error c=>cases h
 | ok x=>exact ⟨x,rfl,h⟩
theorem uD_ok {α:Type} {b:Bool} {c:Int} {x:Ex α} {y:α} (h:uD b c x=.ok y):b=true∧x=.ok y:=by
 cases b with
 | false=>cases h
 | true=>exact ⟨rfl,h⟩
section
variable (fs:List DFunc) (f2:Int) (f3:Bool)
end
theorem uP_ok {fs:List DFunc} {q:DProgram} {nl:List (List ByteArray)} (h:uP (.mk fs)=.ok (q,nl)):wf false (.mk fs)=true∧dupF [] fs=false∧f44_l2 fs=0∧∃ x,q=.mk x∧uFs fs fs=.ok (x,nl):=by
 unfold uP at h
 obtain ⟨h1,h⟩:=uD_ok h
 obtain ⟨h2,h⟩:=uD_ok h
 obtain ⟨h3,h⟩:=uD_ok h
 obtain ⟨x,h4,h⟩:=eb_ok h
 cases h
 exact ⟨h1,by simpa using h2,by simpa using h3,x.1,rfl,h4⟩
end Go.Proofs.YtoajecnoffhlbaaGreatDoor
namespace Go.Proofs.YtoajecnoffhlbaaGreatDoor
open Go
def Nz {α:Type} (u:Ex α):Prop:=∀ c,u=.error c→c ≠ 0
theorem Nz.ok {α:Type} (x:α):Nz (.ok x:Ex α):=fun c h=>by cases h
theorem Nz.er {α:Type} {c:Int} (h:c ≠ 0):Nz (.error c:Ex α):=fun c' h'=>by cases h'; exact h
theorem Nz.eb {α β:Type} {u:Ex α} {f:α→Ex β} (h:Nz u) (hf : ∀ x,Nz (f x)):Nz (eb u f):=by
 cases u with
 | error c=>intro c' h'; cases h'; exact h c rfl
 | ok x=>exact hf x
theorem Nz.eb3 {α β:Type} {u:Ex (List ByteArray × List Nat × α)} {f:List ByteArray→List Nat→α→Ex β} (h:Nz u) (hf : ∀ a b x,Nz (f a b x)):Nz (eb3 u f):=by
 cases u with
 | error c=>intro c' h'; cases h'; exact h c rfl
 | ok x=>exact hf x.1 x.2.1 x.2.2
theorem Nz.uD {α:Type} {b:Bool} {c:Int} {x:Ex α} (hc:c ≠ 0) (h:Nz x):Nz (uD b c x):=by
 cases b with
 | false=>exact .er hc
 | true=>exact h
theorem Nz.cond {α:Type} {b:Bool} {u v:Ex α} (h:Nz u) (h' : Nz v):Nz (cond b u v):=by
 cases b
 ·exact h'
 ·exact h
theorem Nz.uMk {nm:List ByteArray} {vis:List Nat} {a:ByteArray}:Nz (uMk nm vis a):=by
 unfold Go.Proofs.YtoajecnoffhlbaaGreatDoor.uMk
 cases slotOf nm vis a with
 | none=>exact .ok _
 | some v=>exact .er (by decide)
theorem Nz.uCall {op:Int} {fr:ByteArray} {na:Nat} : ∀ {l:List DFunc} {i:Nat},Nz (uCall op fr na l i)
 | [],i=>.er (by decide)
 | .mk nm ps r fl v b :: l,i=>by
  unfold Go.Proofs.YtoajecnoffhlbaaGreatDoor.uCall
  exact .cond (.cond (.cond (.ok _) (.er (by decide))) (.er (by decide))) .uCall
theorem Nz.uEs {nm:List ByteArray} {vis:List Nat} {l:List DExpr}:Nz (uEs nm vis l):=fun c h=>by rw [uEs_20 h]; decide
section
variable (fs:List DFunc) (f2:Int) (f3:Bool)
theorem uS_nz : ∀ n:Nat,
  (∀ s,szS s≤n→∀ lo nm vis,Nz (uS fs f2 f3 lo nm vis s)) ∧
  (∀ l,szSs l≤n→∀ lo nm vis,Nz (uSs fs f2 f3 lo nm vis l)) ∧
  (∀ c,szC c≤n→∀ lo nm vis,Nz (uC fs f2 f3 lo nm vis c)) ∧
  (∀ l,szCs l≤n→∀ lo nm vis,Nz (uCs fs f2 f3 lo nm vis l))
 | 0=>by
  refine ⟨fun s h=>?_,fun l h=>?_,fun c h=>?_,fun l h=>?_⟩
  ·have:=szS_pos s; omega
  ·cases l with
   | nil=>intro lo nm vis; simp only [uSs]; exact .ok _
   | cons s l=>have:=szS_pos s; simp only [szSs] at h; omega
  ·have:=szC_pos c; omega
  ·cases l with
   | nil=>intro lo nm vis; simp only [uCs]; exact .ok _
   | cons s l=>have:=szC_pos s; simp only [szCs] at h; omega
 | n + 1=>by
  obtain ⟨i1,i2,i3,i4⟩:=uS_nz n
  have a1 : ∀ s,szS s≤n + 1→∀ lo nm vis,Nz (uS fs f2 f3 lo nm vis s):=by
   rintro ⟨op,name,s2,fr,s4,flag,l6,l7,l8,l9,l10⟩ h lo nm vis
   simp only [szS] at h
   have h7:=i2 l7 (by omega)
   have h8:=i2 l8 (by omega)
   have h9:=i2 l9 (by omega)
   have h10:=i4 l10 (by omega)
   simp only [uS,uB_eq,uI_eq]
   have hmk : ∀ nm vis,Nz (cond (seq name ⟨#[]⟩) (.ok (nm,vis,s2)) (uMk nm vis name):Ex (List ByteArray × List Nat × Int)):=fun nm vis=>.cond (.ok _) .uMk
   refine .eb .uEs fun r6=>.cond (.eb3 (h10 _ _ _) fun _ _ _=>.ok _) (.eb (.cond (.ok _) .uCall) fun ix=>?_)
   refine .cond ?_ (.cond (.uD (by decide) (.ok _)) (.cond (.uD (by decide) (.ok _)) (.cond (.uD (by decide) (.ok _)) (.cond (.eb3 (.eb3 (h7 _ _ _) fun _ _ _=>.ok _) fun _ _ _=>.ok _) ?_))))
   ·cases slotOf nm vis name with
    | none=>exact .er (by decide)
    | some v=>exact .ok _
   refine .cond (.eb3 (.eb3 (hmk _ _) fun _ _ _=>.eb3 (h7 _ _ _) fun _ _ _=>.ok _) fun _ _ _=>.ok _) ?_
   refine .cond (.eb3 (.eb3 (hmk _ _) fun _ _ _=>.eb3 (h7 _ _ _) fun _ _ _=>.ok _) fun _ _ _=>.ok _) ?_
   refine .cond (.eb3 (.eb3 (h7 _ _ _) fun _ _ _=>.ok _) fun _ _ _=>.eb3 (.eb3 (hmk _ _) fun _ _ _=>.eb3 (h8 _ _ _) fun _ _ _=>.ok _) fun _ _ _=>.eb3 (.eb3 (h9 _ _ _) fun _ _ _=>.ok _) fun _ _ _=>.ok _) ?_
   exact .cond (.eb3 (.eb3 (h7 _ _ _) fun _ _ _=>.ok _) fun _ _ _=>.eb3 (.eb3 (h8 _ _ _) fun _ _ _=>.ok _) fun _ _ _=>.ok _) (.eb3 (hmk _ _) fun _ _ _=>.uD (by decide) (.ok _))
  have a3 : ∀ c,szC c≤n + 1→∀ lo nm vis,Nz (uC fs f2 f3 lo nm vis c):=by
   rintro ⟨kind,name,slot,es,b⟩ h lo nm vis
   simp only [szC] at h
   simp only [uC,uI_eq]
   exact .eb .uEs fun _=>.eb3 (.eb3 (.cond (.ok _) .uMk) fun _ _ _=>.eb3 (i2 b (by omega) _ _ _) fun _ _ _=>.ok _) fun _ _ _=>.ok _
  have a2 : ∀ l,szSs l≤n + 1→∀ lo nm vis,Nz (uSs fs f2 f3 lo nm vis l):=by
   intro l
   induction l with
   | nil=>intro h lo nm vis; simp only [uSs]; exact .ok _
   | cons s l ih =>
    intro h lo nm vis
    simp only [szSs] at h
    simp only [uSs]
    exact .eb3 (a1 s (by omega) _ _ _) fun _ _ _=>.eb3 (ih (by omega) _ _ _) fun _ _ _=>.ok _
  have a4 : ∀ l,szCs l≤n + 1→∀ lo nm vis,Nz (uCs fs f2 f3 lo nm vis l):=by
   intro l
   induction l with
   | nil=>intro h lo nm vis; simp only [uCs]; exact .ok _
   | cons s l ih =>
    intro h lo nm vis
    simp only [szCs] at h
    simp only [uCs]
    exact .eb3 (a3 s (by omega) _ _ _) fun _ _ _=>.eb3 (ih (by omega) _ _ _) fun _ _ _=>.ok _
  exact ⟨a1,a2,a3,a4⟩
end
theorem uPs_nz : ∀ (l:List DParam) (nm:List ByteArray) (vis:List Nat),Nz (uPs nm vis l)
 | [],nm,vis=>.ok _
 | .mk a kd :: l,nm,vis=>by
  unfold uPs
  exact .eb3 .uMk fun _ _ _=>uPs_nz l _ _
theorem uFs_nz (fs:List DFunc) : ∀ l,Nz (uFs fs l)
 | []=>.ok _
 | .mk n ps res fl v b :: l=>by
  unfold uFs uF
  exact .eb (.eb3 (uPs_nz _ _ _) fun _ _ _=>.eb3 ((uS_nz fs res fl (szSs b)).2.1 b (Nat.le_refl _) _ _ _) fun _ _ _=>.uD (by decide) (.ok _)) fun _=>.eb (uFs_nz fs l) fun _=>.ok _
theorem uP_err {p:DProgram} {c:Int} (h:uP p=.error c):c ≠ 0:=by
 obtain ⟨fs⟩:=p
 refine (show Nz (uD (wf false (.mk fs)) 2 (uD (!dupF [] fs) 21 (uD (decide (f44_l2 fs=0)) (f44_l2 fs) (eb (uFs fs fs) fun x=>.ok (DProgram.mk x.1,x.2))))) from .uD (by decide) (.uD (by decide) ?_)) c h
 cases hb:decide (f44_l2 fs=0) with
 | false=>exact .er (of_decide_eq_false hb)
 | true=>exact .eb (uFs_nz fs fs) fun _=>.ok _
end Go.Proofs.YtoajecnoffhlbaaGreatDoor
namespace Go.Proofs.YtoajecnoffhlbaaGreatDoor
open Go
def hdF:DFunc→ByteArray × Nat × Bool | .mk n ps _ fl _ _=>(n,ps.length,fl)
theorem uCall_hd (op:Int) (fr:ByteArray) (na:Nat) : ∀ (fs gs:List DFunc) (i:Nat),fs.map hdF=gs.map hdF→uCall op fr na fs i=uCall op fr na gs i
 | [],[],_,_=>rfl
 | [],_ :: _,_,h=>by simp at h
 | _ :: _,[],_,h=>by simp at h
 | .mk n ps r fl v b :: fs,.mk n' ps' r' fl' v' b' :: gs,i,h=>by
  simp only [List.map_cons,List.cons.injEq,hdF,Prod.mk.injEq] at h
  obtain ⟨⟨rfl,h2,rfl⟩,h4⟩:=h
  unfold uCall
  rw [h2,uCall_hd op fr na fs gs (i + 1) h4]
section
variable (fs gs:List DFunc) (f2:Int) (f3:Bool) (hc : ∀ op fr na,uCall op fr na fs 0=uCall op fr na gs 0)
include hc
theorem uS_hd : ∀ n:Nat,
  (∀ s,szS s≤n→∀ lo nm vis,uS fs f2 f3 lo nm vis s=uS gs f2 f3 lo nm vis s) ∧
  (∀ l,szSs l≤n→∀ lo nm vis,uSs fs f2 f3 lo nm vis l=uSs gs f2 f3 lo nm vis l) ∧
  (∀ c,szC c≤n→∀ lo nm vis,uC fs f2 f3 lo nm vis c=uC gs f2 f3 lo nm vis c) ∧
  (∀ l,szCs l≤n→∀ lo nm vis,uCs fs f2 f3 lo nm vis l=uCs gs f2 f3 lo nm vis l)
 | 0=>by
  refine ⟨fun s h=>?_,fun l h=>?_,fun c h=>?_,fun l h=>?_⟩
  ·have:=szS_pos s; omega
  ·cases l with
   | nil=>intro lo nm vis; simp only [uSs]
   | cons s l=>have:=szS_pos s; simp only [szSs] at h; omega
  ·have:=szC_pos c; omega
  ·cases l with
   | nil=>intro lo nm vis; simp only [uCs]
   | cons s l=>have:=szC_pos s; simp only [szCs] at h; omega
 | n + 1=>by
  obtain ⟨i1,i2,i3,i4⟩:=uS_hd n
  have a1 : ∀ s,szS s≤n + 1→∀ lo nm vis,uS fs f2 f3 lo nm vis s=uS gs f2 f3 lo nm vis s:=by
   rintro ⟨op,name,s2,fr,s4,flag,l6,l7,l8,l9,l10⟩ h lo nm vis
   simp only [szS] at h
   have h7:=i2 l7 (by omega)
   have h8:=i2 l8 (by omega)
   have h9:=i2 l9 (by omega)
   have h10:=i4 l10 (by omega)
   simp only [uS,uB_eq,uI_eq,hc,h7,h8,h9,h10]
  have a3 : ∀ c,szC c≤n + 1→∀ lo nm vis,uC fs f2 f3 lo nm vis c=uC gs f2 f3 lo nm vis c:=by
   rintro ⟨kind,name,slot,es,b⟩ h lo nm vis
   simp only [szC] at h
   have h7:=i2 b (by omega)
   simp only [uC,uI_eq,h7]
  have a2 : ∀ l,szSs l≤n + 1→∀ lo nm vis,uSs fs f2 f3 lo nm vis l=uSs gs f2 f3 lo nm vis l:=by
   intro l
   induction l with
   | nil=>intro h lo nm vis; simp only [uSs]
   | cons s l ih =>
    intro h lo nm vis
    simp only [szSs] at h
    simp only [uSs,a1 s (by omega),ih (by omega)]
  have a4 : ∀ l,szCs l≤n + 1→∀ lo nm vis,uCs fs f2 f3 lo nm vis l=uCs gs f2 f3 lo nm vis l:=by
   intro l
   induction l with
   | nil=>intro h lo nm vis; simp only [uCs]
   | cons s l ih =>
    intro h lo nm vis
    simp only [szCs] at h
    simp only [uCs,a3 s (by omega),ih (by omega)]
  exact ⟨a1,a2,a3,a4⟩
end
theorem uF_hd (fs gs:List DFunc) (h:fs.map hdF=gs.map hdF) (f:DFunc):uF fs f=uF gs f:=by
 obtain ⟨n,ps,res,fl,v,b⟩:=f
 have h1:=(uS_hd fs gs res fl (fun op fr na=>uCall_hd op fr na fs gs 0 h) (szSs b)).2.1 b (Nat.le_refl _)
 simp only [uF,h1]
theorem uFs_hd (fs gs:List DFunc) (h:fs.map hdF=gs.map hdF) : ∀ l,uFs fs l=uFs gs l
 | []=>rfl
 | f :: l=>by simp only [uFs,uF_hd fs gs h,uFs_hd fs gs h l]
def shF:DFunc→DFunc | .mk n ps res fl v b=>.mk n ps res fl v [.mk 23 ⟨#[]⟩ 0 ⟨#[]⟩ 0 0 [] b [] [] []]
theorem uS_sh (fs:List DFunc) (f2:Int) (f3:Bool) (lo:Nat) (nm:List ByteArray) (vis:List Nat) (b:List DStmt):uS fs f2 f3 lo nm vis (.mk 23 ⟨#[]⟩ 0 ⟨#[]⟩ 0 0 [] b [] [] []) =
  eb3 (uSs fs f2 f3 lo nm vis b) fun nm1 _ b'=>.ok (nm1,vis,.mk 23 ⟨#[]⟩ 0 ⟨#[]⟩ 0 0 [] b' [] [] []):=by
 have e:seq (⟨#[]⟩:ByteArray) ⟨#[]⟩=true:=seq_refl _
 simp only [uS,uEs,eb,uB_eq,e,show ((23:Int) == 27)=false from rfl,show ((23:Int) == 2)=false from rfl,show ((23:Int) == 18)=false from rfl,show ((23:Int) == 19)=false from rfl,show ((23:Int) == 29)=false from rfl,show ((23:Int) == 17)=false from rfl,show ((23:Int) == 21)=false from rfl,show ((23:Int) == 28)=false from rfl,show ((23:Int) == 25)=false from rfl,show ((23:Int) == 24)=false from rfl,show ((23:Int) == 20)=false from rfl,show ((23:Int) == 22)=false from rfl,show ((23:Int) == 26)=false from rfl,show ((23:Int) == 23)=true from rfl,Bool.or_true,Bool.or_false,Bool.true_or,cond_true,cond_false]
 cases uSs fs f2 f3 lo nm vis b with
 | error c=>rfl
 | ok x=>rfl
theorem uF_sh (fs:List DFunc) (f:DFunc):uF fs (shF f)=eb (uF fs f) fun x=>.ok (shF x.1,x.2):=by
 obtain ⟨n,ps,res,fl,v,b⟩:=f
 simp only [uF,shF]
 cases uPs [] [] ps with
 | error c=>rfl
 | ok x =>
  obtain ⟨nm,vis,_⟩:=x
  simp only [eb3,uSs,uS_sh]
  cases uSs fs res fl 0 nm vis b with
  | error c=>rfl
  | ok x =>
   obtain ⟨nm1,vis1,b'⟩:=x
   simp only [eb3,uD]
   cases decide (nm1.length≤32) <;> rfl
theorem hdF_sh (f:DFunc):hdF (shF f)=hdF f:=by obtain ⟨n,ps,res,fl,v,b⟩:=f; rfl
theorem nameF_sh (f:DFunc):nameF (shF f)=nameF f:=by obtain ⟨n,ps,res,fl,v,b⟩:=f; rfl
theorem map_set_same {α β:Type} (g:α→β) (h:α→α) (hg : ∀ x,g (h x)=g x) : ∀ (l:List α) (n:Nat) (x:α),l[n]?=some x→(l.set n (h x)).map g=l.map g
 | [],n,x,e=>by simp at e
 | y :: l,0,x,e=>by
  obtain rfl:y=x:=by simpa using e
  simp [hg]
 | y :: l,n + 1,x,e=>by
  simp only [List.set_cons_succ,List.map_cons,map_set_same g h hg l n x (by simpa using e)]
theorem hasF_map (a:ByteArray) : ∀ (l m:List DFunc),l.map nameF=m.map nameF→hasF a l=hasF a m
 | [],[],_=>rfl
 | [],_ :: _,h=>by simp at h
 | _ :: _,[],h=>by simp at h
 | x :: l,y :: m,h=>by
  simp only [List.map_cons,List.cons.injEq] at h
  simp only [hasF,h.1,hasF_map a l m h.2]
theorem dupF_map : ∀ (l m p q:List DFunc),l.map nameF=m.map nameF→p.map nameF=q.map nameF→dupF p l=dupF q m
 | [],[],_,_,_,_=>rfl
 | [],_ :: _,_,_,h,_=>by simp at h
 | _ :: _,[],_,_,h,_=>by simp at h
 | x :: l,y :: m,p,q,h,hp=>by
  simp only [List.map_cons,List.cons.injEq] at h
  simp only [dupF,h.1,hasF_map _ p q hp,dupF_map l m (p ++ [x]) (q ++ [y]) h.2 (by simp [hp,h.1])]
theorem f44_l2_hd : ∀ (l m:List DFunc),l.map hdF=m.map hdF→f44_l2 l=f44_l2 m
 | [],[],_=>rfl
 | [],_ :: _,h=>by simp at h
 | _ :: _,[],h=>by simp at h
 | .mk n ps r fl v b :: fs,.mk n' ps' r' fl' v' b' :: gs,h=>by
  simp only [List.map_cons,List.cons.injEq,hdF,Prod.mk.injEq] at h
  obtain ⟨⟨rfl,h2,rfl⟩,h4⟩:=h
  unfold f44_l2
  rw [f44_l2_hd fs gs h4,h2]
theorem uFs_sh (gs:List DFunc) : ∀ (l:List DFunc) (n:Nat) (f:DFunc),l[n]?=some f→∀ q nl,uFs gs l=.ok (q,nl) →
  ∃ g,q[n]?=some g∧q.length=l.length∧uFs gs (l.set n (shF f))=.ok (q.set n (shF g),nl)
 | [],n,f,h,q,nl,e=>by simp at h
 | x :: l,n,f,h,q,nl,e=>by
  unfold uFs at e
  revert e
  cases e1:uF gs x with
  | error c=>intro e; cases e
  | ok y =>
   simp only [eb]
   cases e2:uFs gs l with
   | error c=>intro e; cases e
   | ok z =>
    obtain ⟨z1,z2⟩:=z
    intro e
    cases e
    have hl : ∀ (l:List DFunc) (z:List DFunc × List (List ByteArray)),uFs gs l=.ok z→z.1.length=l.length:=by
     intro l
     induction l with
     | nil=>intro z h; cases h; rfl
     | cons a l ih =>
      intro z h
      unfold uFs at h
      revert h
      cases uF gs a with
      | error c=>intro h; cases h
      | ok y =>
       simp only [eb]
       cases e3:uFs gs l with
       | error c=>intro h; cases h
       | ok w=>intro h; cases h; simp [ih w e3]
    cases n with
    | zero =>
     obtain rfl:x=f:=by simpa using h
     refine ⟨y.1,rfl,by simpa using hl l _ e2,?_⟩
     simp only [List.set_cons_zero,uFs,uF_sh,e1,e2,eb]
    | succ n =>
     obtain ⟨g,h1,h2,h3⟩:=uFs_sh gs l n f (by simpa using h) z1 z2 e2
     refine ⟨g,by simpa using h1,by simpa using h2,?_⟩
     simp only [List.set_cons_succ,uFs,e1,h3,eb]
theorem uP_sh (fs:List DFunc) (n:Nat) (f:DFunc) (hf:fs[n]?=some f) (q:List DFunc) (nl:List (List ByteArray)) (h:uP (.mk fs)=.ok (.mk q,nl)) :
  ∃ g,q[n]?=some g∧q.length=fs.length∧uP (.mk (fs.set n (shF f)))=cond (wf false (.mk (fs.set n (shF f)))) (.ok (.mk (q.set n (shF g)),nl)) (.error 2):=by
 have hh:=map_set_same hdF shF hdF_sh fs n f hf
 have hn:=map_set_same nameF shF nameF_sh fs n f hf
 have hd:dupF [] (fs.set n (shF f))=dupF [] fs:=dupF_map _ _ _ _ hn rfl
 have hm:f44_l2 (fs.set n (shF f))=f44_l2 fs:=f44_l2_hd _ _ hh
 obtain ⟨hw,hd0,hm0,x,hx,hu⟩:=uP_ok h
 cases hx
 obtain ⟨g,h1,h2,h3⟩:=uFs_sh fs fs n f hf q nl hu
 refine ⟨g,h1,h2,?_⟩
 show uD _ 2 (uD _ 21 (uD _ _ _))=_
 rw [hd,hm,uFs_hd _ _ hh,h3,hd0,hm0]
 cases wf false (.mk (fs.set n (shF f))) <;> rfl
theorem f15_uP (k:Nat) (p:DProgram) (hk:2 * szP p + 1≤k) (hk2:4 * 600≤k):f15 k p=some (match uP p with | .error c=>(.mk [],c) | .ok x=>(x.1,0)):=by
 have h:=f44_eq k p hk hk2
 obtain ⟨fs⟩:=p
 unfold f15 f15_b f1004220 f1004304 f1004304_b
 simp only [h,Option.bind_some]
 cases uP (.mk fs) with
 | error c=>rfl
 | ok x=>obtain ⟨⟨q⟩,l⟩:=x; rfl
theorem f18_eq (k:Nat) (x:Int) (n:Nat) (h0:0 < n) (hn:n≤4611686018427387904) : ∃ m:Nat,f18 k x (n:Int)=some (m:Int)∧m < n:=by
 have e1:IntKind.u64.wrap (n:Int)=(n:Int):=by unfold IntKind.wrap; simp [IntKind.bits,IntKind.signed]; omega
 have e2:0≤IntKind.u64.wrap x:=by unfold IntKind.wrap; simp [IntKind.bits,IntKind.signed]; omega
 obtain ⟨y,hy⟩ : ∃ y:Nat,IntKind.u64.wrap x=(y:Int):=⟨(IntKind.u64.wrap x).toNat,by omega⟩
 have hlt:y % n < n:=Nat.mod_lt _ h0
 refine ⟨y % n,?_,hlt⟩
 unfold f18 f18_b guardB
 rw [e1,hy,show decide (¬ ((n:Int)=0))=true by simpa using (by omega : ¬ n=0)]
 have e3:((y:Int).tmod (n:Int))=((y % n:Nat):Int):=by rw [Int.tmod_eq_emod_of_nonneg (by omega)]; omega
 rw [e3,w64_nat (n:=y % n) rfl (by omega)]
 rfl
theorem szFs_set : ∀ (l:List DFunc) (n:Nat) (f g:DFunc),l[n]?=some f→szFs (l.set n g) + szF f=szFs l + szF g
 | [],n,f,g,h=>by simp at h
 | x :: l,0,f,g,h=>by
  obtain rfl:x=f:=by simpa using h
  simp only [List.set_cons_zero,szFs]; omega
 | x :: l,n + 1,f,g,h=>by
  have:=szFs_set l n f g (by simpa using h)
  simp only [List.set_cons_succ,szFs]; omega
theorem szF_sh (f:DFunc):szF (shF f)=szF f + 1:=by obtain ⟨n,ps,res,fl,v,b⟩:=f; simp only [shF,szF,szSs,szS,szEs,szCs]; omega
theorem idxO_nat {α:Type} {l:List α} {n:Nat} {x:α} (h:l[n]?=some x):idxO l (n:Int)=some x:=by
 unfold idxO
 have hl:n < l.length:=(List.getElem?_eq_some_iff.1 h).1
 simp [h]
theorem szS_mem_F : ∀ (l:List DFunc) (n:Nat) (f:DFunc),l[n]?=some f→szF f≤szFs l
 | [],n,f,h=>by simp at h
 | x :: l,0,f,h=>by
  obtain rfl:x=f:=by simpa using h
  simp only [szFs]; omega
 | x :: l,n + 1,f,h=>by
  have:=szS_mem_F l n f (by simpa using h)
  simp only [szFs]; omega
theorem f4_eq (k:Nat) (p:DProgram) (x:Int) (hk:2 * szP p + 2500≤k) (hfit:fitP p) (hs : ∀ q l,uP p=.ok (q,l)→2 * szP q + 1≤k):f4 (k + 100) p x=some true:=by
 obtain ⟨b,h13⟩:=f13_tot (k + 100) p (by omega)
 have h15:=f15_uP (k + 100) p (by omega) (by omega)
 have h19:=f19_eq (k + 100) p (by omega) hfit
 obtain ⟨fs⟩:=p
 unfold f4 f4_b
 simp only [h13,Option.bind_some]
 cases b with
 | false=>unfold f4_j1; simp only [f14_eq,Option.bind_some,Bool.not_false,cond_true]
 | true =>
  simp only [Bool.not_true,cond_false]
  unfold f4_j1
  simp only [f14_eq,Option.bind_some,h15]
  cases hz:((fs.length:Int) == 0) with
  | true=>rfl
  | false =>
   have hlen:0 < fs.length:=by
    rcases Nat.eq_zero_or_pos fs.length with h | h
    ·rw [h] at hz; cases hz
    ·exact h
   simp only [cond_false]
   cases hu:uP (.mk fs) with
   | error c =>
    have hc:(c != 0)=true:=by
     have:=uP_err hu
     simpa using this
    simp only [hc,cond_true]
   | ok y =>
    obtain ⟨⟨q⟩,nl⟩:=y
    obtain ⟨hw,_⟩:=uP_ok hu
    have h16:fs.length≤16:=by
     simp only [wf,Bool.and_eq_true,decide_eq_true_eq] at hw
     exact hw.1.1.2
    obtain ⟨m,hm,hmn⟩:=f18_eq (k + 100) x fs.length hlen (by omega)
    obtain ⟨f,hf⟩ : ∃ f,fs[m]?=some f:=⟨_,List.getElem?_eq_getElem hmn⟩
    obtain ⟨g,hg,hql,hsh⟩:=uP_sh fs m f hf q nl hu
    have hsz:=szFs_set fs m f (shF f) hf
    rw [szF_sh] at hsz
    have hsz2:szP (.mk (fs.set m (shF f)))=szP (.mk fs) + 1:=by simp only [szP]; omega
    have h15b:=f15_uP (k + 100) (.mk (fs.set m (shF f))) (by rw [hsz2]; omega) (by omega)
    have h20:=f20_eq (k + 100) (.mk (fs.set m (shF f))) (by rw [hsz2]; omega)
    rw [hsh] at h15b
    have hgs:=szS_mem_F q m g hg
    have hsq:=hs _ _ hu
    simp only [bne_self_eq_false,cond_false,hm,h19,Option.bind_some,idxO_nat hf]
    obtain ⟨f0,f1,f2,f3,f4,f5⟩:=f
    obtain ⟨g0,g1,g2,g3,g4,g5⟩:=g
    simp only [szP,szF] at hsq hgs
    have h21:=(sameS (k + 100) (k + 100) g5 (by omega) (by omega))
    simp only [Int.toNat_natCast]
    simp only [shF] at h15b h20
    rw [h15b,h20]
    simp only [Option.bind_some]
    cases wf false (.mk (fs.set m (.mk f0 f1 f2 f3 f4 [.mk 23 ⟨#[]⟩ 0 ⟨#[]⟩ 0 0 [] f5 [] [] []]))) with
    | false=>rfl
    | true =>
     have e1:idxO (q.set m (shF (.mk g0 g1 g2 g3 g4 g5))) (m:Int)=some (shF (.mk g0 g1 g2 g3 g4 g5)):=idxO_nat (by rw [List.getElem?_set_self (by have:=(List.getElem?_eq_some_iff.1 hg).1; exact this)])
     simp only [shF] at e1
     simp only [cond_true,cond_false,Bool.not_true,shF,List.length_set,beq_self_eq_true,e1,idxO_nat hg,Option.bind_some]
     show (f21 (k + 100) g5 g5).bind (fun r=>cond r (f4_j3 (k + 100) true) (f4_j3 (k + 100) false))=some true
     rw [show f21 (k + 100) g5 g5=some true from h21]
     rfl
end Go.Proofs.YtoajecnoffhlbaaGreatDoor
