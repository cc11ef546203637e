/- Words of the same proof, part 6: what the last text needs; nothing is claimed here. -/
import Derived.Test.YtoegpkmhifmamaaGreatDoorE5
set_option linter.unusedVariables false
set_option linter.unusedSimpArgs false
namespace Go.Proofs.YtoegpkmhifmamaaGreatDoor
open Go
abbrev Sc:=List (List (ByteArray × Int))
def NN {α:Type} (r:Option (Ex (Dresolver × α))) (p:List DFunc) (f:DFunc) (lo:Nat) (pre:Sc) (nm:List ByteArray) (u:Ex (List ByteArray × List Nat × α)) (n:Nat):Prop :=
 match u with
 | .error c=>r=some (.error c)
 | .ok (nm',vis',y)=>∃ d',r=some (.ok (.mk (.mk p) f nm' (pre ++ [d']) lo,y))∧Rel (pre ++ [d']) vis' nm'∧nm <+: nm'∧nm'.length≤nm.length + n
def NB {α β:Type} (r:Option (Ex (Dresolver × β))) (p:List DFunc) (f:DFunc) (lo:Nat) (sc:Sc) (nm:List ByteArray) (u:Ex (List ByteArray × List Nat × α)) (g:α→β) (n:Nat):Prop :=
 match u with
 | .error c=>r=some (.error c)
 | .ok (nm',_,y)=>r=some (.ok (.mk (.mk p) f nm' sc lo,g y))∧nm <+: nm'∧nm'.length≤nm.length + n
theorem opt_make (k:Nat) (p:List DFunc) (f:DFunc) {nm:List ByteArray} {pre:Sc} {d:List (ByteArray × Int)} (lo:Nat) {vis:List Nat} (R:Rel (pre ++ [d]) vis nm) (a:ByteArray) (hb:nm.length≤1000000) (hp:pre.length≤1000000) :
  NN (f104 k (.mk (.mk p) f nm (pre ++ [d]) lo) a) p f lo pre nm (uMk nm vis a) 1:=by
 rw [f104_eq k p f lo R a hb hp];unfold uMk NN;cases hs:slotOf nm vis a with
 | some v=>rfl
 | none=>exact ⟨_,rfl,R.make hs,⟨[a],rfl⟩,by simp⟩
theorem gt_nat (lo:Nat):decide ((lo:Int) > 0)=decide (lo > 0):=by rw [decide_eq_decide]; omega
theorem cut_guard {α:Type} (sc:Sc) (d:List (ByteArray × Int)) (h:sc.length≤1000000) (x:Option α):guardB (decide (0≤(w64 (((sc ++ [d]).length:Int) - 1))∧(w64 (((sc ++ [d]).length:Int) - 1))≤((sc ++ [d]).length:Int))) x=x:=by
 have e1:w64 (((sc ++ [d]).length:Int) - 1)=(sc.length:Int):=w64_nat (n:=sc.length) (by simp) (by omega);rw [e1];have:(0≤(sc.length:Int)∧(sc.length:Int)≤((sc ++ [d]).length:Int)):=⟨by omega,by simp; omega⟩;rw [decide_eq_true this]; rfl
theorem cut_take (sc:Sc) (d:List (ByteArray × Int)) (h:sc.length≤1000000):(sc ++ [d]).take (w64 (((sc ++ [d]).length:Int) - 1)).toNat=sc:=by
 have e1:w64 (((sc ++ [d]).length:Int) - 1)=(sc.length:Int):=w64_nat (n:=sc.length) (by simp) (by omega);rw [e1]; simp
section
variable (k:Nat) (p:List DFunc) (f0:ByteArray) (f1:List DParam) (f2:Int) (f3:Bool) (f4:Int) (f5:List DStmt)
end
theorem nR (k:Nat) (p:List DFunc) (f0:ByteArray) (f1:List DParam) (f2:Int) (f3:Bool) (f4:Int) (f5:List DStmt) : ∀ m,m≤k →
  (∀ s,4 * szS s≤m→∀ (nm:List ByteArray) (vis:List Nat) (pre:Sc) (d:List (ByteArray × Int)) (lo:Nat),nm.length + szS s≤100000→pre.length + szS s≤100000→lo + szS s≤100000→Rel (pre ++ [d]) vis nm →
   NN ((fam105 k m).f105 (.mk (.mk p) (.mk f0 f1 f2 f3 f4 f5) nm (pre ++ [d]) lo) s) p (.mk f0 f1 f2 f3 f4 f5) lo pre nm (uS p f2 f3 lo nm vis s) (szS s)) ∧
  (∀ l,4 * szSs l + 1≤m→∀ (nm:List ByteArray) (vis:List Nat) (sc:Sc) (lo:Nat),nm.length + szSs l≤100000→sc.length + szSs l≤100000→lo + szSs l≤100000→Rel sc vis nm →
   NB ((fam105 k m).f1012566 (.mk (.mk p) (.mk f0 f1 f2 f3 f4 f5) nm sc lo) ⟨#[]⟩ l) p (.mk f0 f1 f2 f3 f4 f5) lo sc nm (uB p f2 f3 lo nm vis l) id (szSs l)) ∧
  (∀ l,4 * szSs l + 1≤m→∀ (name:ByteArray) (s0:Int) (s1:ByteArray) (s2:Int) (s3:ByteArray) (s4 s5:Int) (s6:List DExpr) (s7 s8 s9:List DStmt) (s10:List DCase) (nm:List ByteArray) (vis:List Nat) (sc:Sc) (lo:Nat),nm.length + szSs l + 1≤100000→sc.length + szSs l≤100000→lo + szSs l≤100000→Rel sc vis nm →
   NB ((fam105 k m).f1012531 (.mk (.mk p) (.mk f0 f1 f2 f3 f4 f5) nm sc lo) name l (.mk s0 s1 s2 s3 s4 s5 s6 s7 s8 s9 s10)) p (.mk f0 f1 f2 f3 f4 f5) lo sc nm (uI p f2 f3 lo nm vis name s2 l) (fun vb=>(DStmt.mk s0 s1 vb.1 s3 s4 s5 s6 s7 s8 s9 s10,vb.2)) (szSs l + 1)) ∧
  (∀ l,4 * szSs l + 1≤m→∀ (name:ByteArray) (s0:Int) (s1:ByteArray) (s2:Int) (s3:List DExpr) (s4:List DStmt) (nm:List ByteArray) (vis:List Nat) (sc:Sc) (lo:Nat),nm.length + szSs l + 1≤100000→sc.length + szSs l≤100000→lo + szSs l≤100000→Rel sc vis nm →
   NB ((fam105 k m).f1012528 (.mk (.mk p) (.mk f0 f1 f2 f3 f4 f5) nm sc lo) name l (.mk s0 s1 s2 s3 s4)) p (.mk f0 f1 f2 f3 f4 f5) lo sc nm (uI p f2 f3 lo nm vis name s2 l) (fun vb=>(DCase.mk s0 s1 vb.1 s3 s4,vb.2)) (szSs l + 1)) ∧
  (∀ l,4 * szSs l + 2≤m→∀ (nm:List ByteArray) (vis:List Nat) (sc:Sc) (lo:Nat),nm.length + szSs l≤100000→sc.length + szSs l≤100000→lo + szSs l + 1≤100000→Rel sc vis nm →
   NB ((fam105 k m).f1012766 (.mk (.mk p) (.mk f0 f1 f2 f3 f4 f5) nm sc lo) ⟨#[]⟩ l) p (.mk f0 f1 f2 f3 f4 f5) lo sc nm (uB p f2 f3 (lo + 1) nm vis l) id (szSs l)) ∧
  (∀ l,4 * szSs l + 2≤m→∀ (name:ByteArray) (s0:Int) (s1:ByteArray) (s2:Int) (s3:ByteArray) (s4 s5:Int) (s6:List DExpr) (s7 s8 s9:List DStmt) (s10:List DCase) (nm:List ByteArray) (vis:List Nat) (sc:Sc) (lo:Nat),nm.length + szSs l + 1≤100000→sc.length + szSs l≤100000→lo + szSs l + 1≤100000→Rel sc vis nm →
   NB ((fam105 k m).f1012731 (.mk (.mk p) (.mk f0 f1 f2 f3 f4 f5) nm sc lo) name l (.mk s0 s1 s2 s3 s4 s5 s6 s7 s8 s9 s10)) p (.mk f0 f1 f2 f3 f4 f5) lo sc nm (uI p f2 f3 (lo + 1) nm vis name s2 l) (fun vb=>(DStmt.mk s0 s1 vb.1 s3 s4 s5 s6 s7 s8 s9 s10,vb.2)) (szSs l + 1))
 | 0,_=>⟨fun e he=>by have:=szS_pos e; omega,fun l hl=>by omega,fun l hl=>by omega,fun l hl=>by omega,fun l hl=>by omega,fun l hl=>by omega⟩
 | m + 1,hmk=>by
  obtain ⟨ihs,ihb,ihi,ihc,ihlb,ihli⟩:=nR k p f0 f1 f2 f3 f4 f5 m (by omega);have loopB : ∀ (l:List DStmt) (i:Nat) (xs:List DStmt) (nm:List ByteArray) (vis:List Nat) (sc:Sc) (d:List (ByteArray × Int)) (lo:Nat),4 * szSs l≤m→xs.length + szSs l≤100000→nm.length + szSs l≤100000→sc.length + szSs l≤100000→lo + szSs l≤100000→Rel (sc ++ [d]) vis nm →
    NB (f1012566_l1 k (fam105 k m) l i p f0 f1 f2 f3 f4 f5 nm (sc ++ [d]) lo xs) p (.mk f0 f1 f2 f3 f4 f5) lo sc nm (uSs p f2 f3 lo nm vis l) (fun l'=>xs ++ l') (szSs l):=by
   intro l;induction l with
   | nil =>
    intro i xs nm vis sc d lo _ _ _ hsc _ R;unfold f1012566_l1;rw [cut_guard sc d (by omega),cut_take sc d (by omega),uSs];exact ⟨by simp,List.prefix_refl _,by simp⟩
   | cons s l ih =>
    intro i xs nm vis sc d lo hm hxs hnm hsc hlo R;obtain ⟨e0,e1,e2,e3,e4,e5,e6,e7,e8,e9,e10⟩:=s;simp only [szSs] at hm hxs hnm hsc hlo;have hp:=szS_pos (.mk e0 e1 e2 e3 e4 e5 e6 e7 e8 e9 e10);unfold f1012566_l1;rw [uSs];have h:=ihs (.mk e0 e1 e2 e3 e4 e5 e6 e7 e8 e9 e10) (by omega) nm vis sc d lo (by omega) (by omega) (by omega) R;revert h;cases uS p f2 f3 lo nm vis (.mk e0 e1 e2 e3 e4 e5 e6 e7 e8 e9 e10) with
    | error c=>intro h; simp only [NN] at h; rw [h]; rfl
    | ok x =>
     obtain ⟨nm1,vis1,s'⟩:=x;rintro ⟨d1,h,R1,hp1,hl1⟩;rw [h];obtain ⟨r0,r1,r2,r3,r4,r5,r6,r7,r8,r9,r10⟩:=s';simp only [Option.bind_some,eb3];rw [guard_le (by unfold maxB; omega)];have h2:=ih (i + 1) (xs ++ [.mk r0 r1 r2 r3 r4 r5 r6 r7 r8 r9 r10]) nm1 vis1 sc d1 lo (by omega) (by rw [app_len]; omega) (by omega) (by omega) (by omega) R1;revert h2;cases uSs p f2 f3 lo nm1 vis1 l with
     | error c=>intro h2; exact h2
     | ok x =>
      obtain ⟨nm2,vis2,l'⟩:=x;rintro ⟨h3,hp2,hl2⟩;refine ⟨by rw [h3]; simp,hp1.trans hp2,by simp only [szSs]; omega⟩
  have loopS : ∀ (s0:Int) (s1:ByteArray) (s3:ByteArray) (s4 s5:Int) (s6:List DExpr) (s7 s8 s9:List DStmt) (s10:List DCase) (v:Int) (l:List DStmt) (i:Nat) (xs:List DStmt) (nm:List ByteArray) (vis:List Nat) (sc:Sc) (d:List (ByteArray × Int)) (lo:Nat),4 * szSs l≤m→xs.length + szSs l≤100000→nm.length + szSs l≤100000→sc.length + szSs l≤100000→lo + szSs l≤100000→Rel (sc ++ [d]) vis nm →
    NB (f1012531_l1 k (fam105 k m) s0 s1 s3 s4 s5 s6 s7 s8 s9 s10 v l i p f0 f1 f2 f3 f4 f5 nm (sc ++ [d]) lo xs) p (.mk f0 f1 f2 f3 f4 f5) lo sc nm (uSs p f2 f3 lo nm vis l) (fun l'=>(DStmt.mk s0 s1 v s3 s4 s5 s6 s7 s8 s9 s10,xs ++ l')) (szSs l):=by
   intro s0 s1 s3 s4 s5 s6 s7 s8 s9 s10 v l;induction l with
   | nil =>
    intro i xs nm vis sc d lo _ _ _ hsc _ R;unfold f1012531_l1;rw [cut_guard sc d (by omega),cut_take sc d (by omega),uSs];exact ⟨by simp,List.prefix_refl _,by simp⟩
   | cons s l ih =>
    intro i xs nm vis sc d lo hm hxs hnm hsc hlo R;obtain ⟨e0,e1,e2,e3,e4,e5,e6,e7,e8,e9,e10⟩:=s;simp only [szSs] at hm hxs hnm hsc hlo;have hp:=szS_pos (.mk e0 e1 e2 e3 e4 e5 e6 e7 e8 e9 e10);unfold f1012531_l1;rw [uSs];have h:=ihs (.mk e0 e1 e2 e3 e4 e5 e6 e7 e8 e9 e10) (by omega) nm vis sc d lo (by omega) (by omega) (by omega) R;revert h;cases uS p f2 f3 lo nm vis (.mk e0 e1 e2 e3 e4 e5 e6 e7 e8 e9 e10) with
    | error c=>intro h; simp only [NN] at h; rw [h]; rfl
    | ok x =>
     obtain ⟨nm1,vis1,s'⟩:=x;rintro ⟨d1,h,R1,hp1,hl1⟩;rw [h];obtain ⟨r0,r1,r2,r3,r4,r5,r6,r7,r8,r9,r10⟩:=s';simp only [Option.bind_some,eb3];rw [guard_le (by unfold maxB; omega)];have h2:=ih (i + 1) (xs ++ [.mk r0 r1 r2 r3 r4 r5 r6 r7 r8 r9 r10]) nm1 vis1 sc d1 lo (by omega) (by rw [app_len]; omega) (by omega) (by omega) (by omega) R1;revert h2;cases uSs p f2 f3 lo nm1 vis1 l with
     | error c=>intro h2; exact h2
     | ok x =>
      obtain ⟨nm2,vis2,l'⟩:=x;rintro ⟨h3,hp2,hl2⟩;refine ⟨by rw [h3]; simp,hp1.trans hp2,by simp only [szSs]; omega⟩
  have loopC : ∀ (s0:Int) (s1:ByteArray) (s3:List DExpr) (s4:List DStmt) (v:Int) (l:List DStmt) (i:Nat) (xs:List DStmt) (nm:List ByteArray) (vis:List Nat) (sc:Sc) (d:List (ByteArray × Int)) (lo:Nat),4 * szSs l≤m→xs.length + szSs l≤100000→nm.length + szSs l≤100000→sc.length + szSs l≤100000→lo + szSs l≤100000→Rel (sc ++ [d]) vis nm →
    NB (f1012528_l1 k (fam105 k m) s0 s1 s3 s4 v l i p f0 f1 f2 f3 f4 f5 nm (sc ++ [d]) lo xs) p (.mk f0 f1 f2 f3 f4 f5) lo sc nm (uSs p f2 f3 lo nm vis l) (fun l'=>(DCase.mk s0 s1 v s3 s4,xs ++ l')) (szSs l):=by
   intro s0 s1 s3 s4 v l;induction l with
   | nil =>
    intro i xs nm vis sc d lo _ _ _ hsc _ R;unfold f1012528_l1;rw [cut_guard sc d (by omega),cut_take sc d (by omega),uSs];exact ⟨by simp,List.prefix_refl _,by simp⟩
   | cons s l ih =>
    intro i xs nm vis sc d lo hm hxs hnm hsc hlo R;obtain ⟨e0,e1,e2,e3,e4,e5,e6,e7,e8,e9,e10⟩:=s;simp only [szSs] at hm hxs hnm hsc hlo;have hp:=szS_pos (.mk e0 e1 e2 e3 e4 e5 e6 e7 e8 e9 e10);unfold f1012528_l1;rw [uSs];have h:=ihs (.mk e0 e1 e2 e3 e4 e5 e6 e7 e8 e9 e10) (by omega) nm vis sc d lo (by omega) (by omega) (by omega) R;revert h;cases uS p f2 f3 lo nm vis (.mk e0 e1 e2 e3 e4 e5 e6 e7 e8 e9 e10) with
    | error c=>intro h; simp only [NN] at h; rw [h]; rfl
    | ok x =>
     obtain ⟨nm1,vis1,s'⟩:=x;rintro ⟨d1,h,R1,hp1,hl1⟩;rw [h];obtain ⟨r0,r1,r2,r3,r4,r5,r6,r7,r8,r9,r10⟩:=s';simp only [Option.bind_some,eb3];rw [guard_le (by unfold maxB; omega)];have h2:=ih (i + 1) (xs ++ [.mk r0 r1 r2 r3 r4 r5 r6 r7 r8 r9 r10]) nm1 vis1 sc d1 lo (by omega) (by rw [app_len]; omega) (by omega) (by omega) (by omega) R1;revert h2;cases uSs p f2 f3 lo nm1 vis1 l with
     | error c=>intro h2; exact h2
     | ok x =>
      obtain ⟨nm2,vis2,l'⟩:=x;rintro ⟨h3,hp2,hl2⟩;refine ⟨by rw [h3]; simp,hp1.trans hp2,by simp only [szSs]; omega⟩
  have loopK : ∀ (s0:Int) (s1:ByteArray) (s2:Int) (s3:ByteArray) (s4 s5:Int) (s7 s8 s9:List DStmt) (r:List DExpr) (l:List DCase) (i:Nat) (xs:List DCase) (nm:List ByteArray) (vis:List Nat) (pre:Sc) (d:List (ByteArray × Int)) (lo:Nat),4 * szCs l≤m + 1→xs.length + szCs l≤100000→nm.length + szCs l≤100000→pre.length + szCs l≤100000→lo + szCs l≤100000→Rel (pre ++ [d]) vis nm →
    NB (f105_l1 k (fam105 k m) s0 s1 s2 s3 s4 s5 s7 s8 s9 r l i p f0 f1 f2 f3 f4 f5 nm (pre ++ [d]) lo xs) p (.mk f0 f1 f2 f3 f4 f5) lo (pre ++ [d]) nm (uCs p f2 f3 lo nm vis l) (fun l'=>DStmt.mk s0 s1 s2 s3 s4 s5 r s7 s8 s9 (xs ++ l')) (szCs l):=by
   intro s0 s1 s2 s3 s4 s5 s7 s8 s9 r l;induction l with
   | nil =>
    intro i xs nm vis pre d lo _ _ _ hsc _ R;unfold f105_l1;rw [uCs];exact ⟨by simp,List.prefix_refl _,by simp⟩
   | cons c l ih =>
    intro i xs nm vis pre d lo hm hxs hnm hsc hlo R;obtain ⟨e0,e1,e2,e3,e4⟩:=c;simp only [szCs,szC] at hm hxs hnm hsc hlo;unfold f105_l1;rw [uCs,uC];rw [f124_eq k p (.mk f0 f1 f2 f3 f4 f5) lo R e3 (by omega) (by omega)];cases uEs nm vis e3 with
    | error c=>exact rfl
    | ok r3 =>
     simp only [Option.bind_some,eb];have h:=ihc e4 (by omega) e1 e0 e1 e2 r3 e4 nm vis (pre ++ [d]) lo (by omega) (by simp; omega) (by omega) R;revert h;cases uI p f2 f3 lo nm vis e1 e2 e4 with
     | error c=>intro h; simp only [NB] at h; rw [h]; exact rfl
     | ok x =>
      obtain ⟨nm1,vis1,v,b⟩:=x;rintro ⟨h,hp1,hl1⟩;rw [h];simp only [Option.bind_some,eb3];rw [guard_le (by unfold maxB; omega)];have h2:=ih (i + 1) (xs ++ [.mk e0 e1 v r3 b]) nm1 vis pre d lo (by omega) (by rw [app_len]; omega) (by omega) (by omega) (by omega) (R.ext hp1);revert h2;cases uCs p f2 f3 lo nm1 vis l with
      | error c=>intro h2; exact h2
      | ok x =>
       obtain ⟨nm2,vis2,l'⟩:=x;rintro ⟨h3,hp2,hl2⟩;refine ⟨by rw [h3]; simp,hp1.trans hp2,by simp only [szCs,szC]; omega⟩
  refine ⟨?_,?_,?_,?_,?_,?_⟩
  ·intro s hs nm vis pre d lo hnm hpre hlo R;obtain ⟨op,name,s2,fr,s4,flag,l6,l7,l8,l9,l10⟩:=s;simp only [szS] at hs hnm hpre hlo;show NN (f105_b k (fam105 k m) (.mk (.mk p) (.mk f0 f1 f2 f3 f4 f5) nm (pre ++ [d]) lo) (.mk op name s2 fr s4 flag l6 l7 l8 l9 l10)) p _ lo pre nm _ _;rw [uS];unfold f105_b;simp only;rw [f124_eq k p (.mk f0 f1 f2 f3 f4 f5) lo R l6 (by omega) (by omega)];cases uEs nm vis l6 with
   | error c=>exact rfl
   | ok r6 =>
    simp only [Option.bind_some,eb];have stay : ∀ y:DStmt,NN (some (.ok (Dresolver.mk (DProgram.mk p) (.mk f0 f1 f2 f3 f4 f5) nm (pre ++ [d]) lo,y))) p (.mk f0 f1 f2 f3 f4 f5) lo pre nm (.ok (nm,vis,y)) (szS (.mk op name s2 fr s4 flag l6 l7 l8 l9 l10)) :=
     fun y=>⟨d,rfl,R,List.prefix_refl _,by omega⟩
    cases h27:(op == 27) with
    | true =>
     simp only [cond_true];have h:=loopK op name s2 fr s4 flag l7 l8 l9 r6 l10 0 [] nm vis pre d lo (by omega) (by simp; omega) (by omega) (by omega) (by omega) R;revert h;cases uCs p f2 f3 lo nm vis l10 with
     | error c=>intro h; exact h
     | ok x =>
      obtain ⟨nm1,vis1,cs⟩:=x;rintro ⟨h,hp1,hl1⟩;exact ⟨d,by rw [h]; simp,R.ext hp1,hp1,by simp only [szS]; omega⟩
    | false =>
     simp only [cond_false];have tail : ∀ ix:Int,NN (f105_j1 k (fam105 k m) p f0 f1 f2 f3 f4 f5 nm (pre ++ [d]) lo op name s2 fr ix flag r6 l7 l8 l9 l10) p (.mk f0 f1 f2 f3 f4 f5) lo pre nm
       (cond (op == 2) (match slotOf nm vis name with | none=>.error 20 | some v=>.ok (nm,vis,.mk op name (v:Int) fr ix flag r6 l7 l8 l9 l10))
       (cond (op == 18 || op == 19) (uD (decide (lo > 0)) 22 (.ok (nm,vis,.mk op name s2 fr ix flag r6 l7 l8 l9 l10)))
       (cond (op == 29) (uD f3 22 (.ok (nm,vis,.mk op name s2 fr ix flag r6 l7 l8 l9 l10)))
       (cond (op == 17) (uD ((decide (r6.length > 0)) == (f2 != 0)) 22 (.ok (nm,vis,.mk op name s2 fr ix flag r6 l7 l8 l9 l10)))
       (cond (op == 21) (eb3 (uB p f2 f3 (lo + 1) nm vis l7) fun nm1 _ b=>.ok (nm1,vis,.mk op name s2 fr ix flag r6 b l8 l9 l10))
       (cond (op == 28) (eb3 (uI p f2 f3 (lo + 1) nm vis name s2 l7) fun nm1 _ vb=>.ok (nm1,vis,.mk op name vb.1 fr ix flag r6 vb.2 l8 l9 l10))
       (cond (op == 25) (eb3 (uI p f2 f3 lo nm vis name s2 l7) fun nm1 _ vb=>.ok (nm1,vis,.mk op name vb.1 fr ix flag r6 vb.2 l8 l9 l10))
       (cond (op == 24) (eb3 (uB p f2 f3 lo nm vis l7) fun nm1 _ b7=>eb3 (uI p f2 f3 lo nm1 vis name s2 l8) fun nm2 _ vb=>eb3 (uB p f2 f3 lo nm2 vis l9) fun nm3 _ b9=>.ok (nm3,vis,.mk op name vb.1 fr ix flag r6 b7 vb.2 b9 l10))
       (cond (op == 20 || op == 22 || op == 23 || op == 26) (eb3 (uB p f2 f3 lo nm vis l7) fun nm1 _ b7=>eb3 (uB p f2 f3 lo nm1 vis l8) fun nm2 _ b8=>.ok (nm2,vis,.mk op name s2 fr ix flag r6 b7 b8 l9 l10))
        (eb3 (cond (seq name ⟨#[]⟩) (.ok (nm,vis,s2)) (uMk nm vis name)) fun nm1 vis1 v=>uD (op != 6 || flag == 0 || decide (lo > 0)) 22 (.ok (nm1,vis1,.mk op name v fr ix flag r6 l7 l8 l9 l10)))))))))))) (szS (.mk op name s2 fr s4 flag l6 l7 l8 l9 l10)):=by
      intro ix;unfold f105_j1;cases h2:(op == 2) with
      | true =>
       simp only [cond_true];rw [R.f123];cases slotOf nm vis name with
       | none=>simp only [Option.bind_some,f77_eq]; exact rfl
       | some v=>simp only [Option.bind_some,f77_eq,cond_true]; exact stay _
      | false =>
       simp only [cond_false];have tail2 : ∀ q,q=(op == 18 || op == 19)→NN (f105_j3 k (fam105 k m) p f0 f1 f2 f3 f4 f5 nm (pre ++ [d]) lo op name s2 fr ix flag r6 l7 l8 l9 l10 q) p (.mk f0 f1 f2 f3 f4 f5) lo pre nm
         (cond (op == 18 || op == 19) (uD (decide (lo > 0)) 22 (.ok (nm,vis,.mk op name s2 fr ix flag r6 l7 l8 l9 l10)))
         (cond (op == 29) (uD f3 22 (.ok (nm,vis,.mk op name s2 fr ix flag r6 l7 l8 l9 l10)))
         (cond (op == 17) (uD ((decide (r6.length > 0)) == (f2 != 0)) 22 (.ok (nm,vis,.mk op name s2 fr ix flag r6 l7 l8 l9 l10)))
         (cond (op == 21) (eb3 (uB p f2 f3 (lo + 1) nm vis l7) fun nm1 _ b=>.ok (nm1,vis,.mk op name s2 fr ix flag r6 b l8 l9 l10))
         (cond (op == 28) (eb3 (uI p f2 f3 (lo + 1) nm vis name s2 l7) fun nm1 _ vb=>.ok (nm1,vis,.mk op name vb.1 fr ix flag r6 vb.2 l8 l9 l10))
         (cond (op == 25) (eb3 (uI p f2 f3 lo nm vis name s2 l7) fun nm1 _ vb=>.ok (nm1,vis,.mk op name vb.1 fr ix flag r6 vb.2 l8 l9 l10))
         (cond (op == 24) (eb3 (uB p f2 f3 lo nm vis l7) fun nm1 _ b7=>eb3 (uI p f2 f3 lo nm1 vis name s2 l8) fun nm2 _ vb=>eb3 (uB p f2 f3 lo nm2 vis l9) fun nm3 _ b9=>.ok (nm3,vis,.mk op name vb.1 fr ix flag r6 b7 vb.2 b9 l10))
         (cond (op == 20 || op == 22 || op == 23 || op == 26) (eb3 (uB p f2 f3 lo nm vis l7) fun nm1 _ b7=>eb3 (uB p f2 f3 lo nm1 vis l8) fun nm2 _ b8=>.ok (nm2,vis,.mk op name s2 fr ix flag r6 b7 b8 l9 l10))
          (eb3 (cond (seq name ⟨#[]⟩) (.ok (nm,vis,s2)) (uMk nm vis name)) fun nm1 vis1 v=>uD (op != 6 || flag == 0 || decide (lo > 0)) 22 (.ok (nm1,vis1,.mk op name v fr ix flag r6 l7 l8 l9 l10))))))))))) (szS (.mk op name s2 fr s4 flag l6 l7 l8 l9 l10)):=by
        rintro _ rfl;unfold f105_j3;cases (op == 18 || op == 19) with
        | true =>
         simp only [cond_true,f77_eq,Option.bind_some,gt_nat,uD];cases decide (lo > 0)
         ·exact rfl
         ·exact stay _
        | false =>
        simp only [cond_false];cases (op == 29) with
        | true =>
         simp only [cond_true,f77_eq,Option.bind_some,uD];cases f3
         ·exact rfl
         ·exact stay _
        | false =>
        simp only [cond_false];cases (op == 17) with
        | true =>
         simp only [cond_true,f77_eq,Option.bind_some,uD,gt_nat];cases (decide (r6.length > 0) == (f2 != 0))
         ·exact rfl
         ·exact stay _
        | false =>
        simp only [cond_false];cases (op == 21) with
        | true =>
         simp only [cond_true];have h:=ihlb l7 (by omega) nm vis (pre ++ [d]) lo (by omega) (by simp; omega) (by omega) R;revert h;cases uB p f2 f3 (lo + 1) nm vis l7 with
         | error c=>intro h; simp only [NB] at h; rw [h]; exact rfl
         | ok x =>
          obtain ⟨nm1,vis1,b⟩:=x;rintro ⟨h,hp1,hl1⟩;rw [h];exact ⟨d,rfl,R.ext hp1,hp1,by simp only [szS]; omega⟩
        | false =>
        simp only [cond_false];cases (op == 28) with
        | true =>
         simp only [cond_true];have h:=ihli l7 (by omega) name op name s2 fr ix flag r6 l7 l8 l9 l10 nm vis (pre ++ [d]) lo (by omega) (by simp; omega) (by omega) R;revert h;cases uI p f2 f3 (lo + 1) nm vis name s2 l7 with
         | error c=>intro h; simp only [NB] at h; rw [h]; exact rfl
         | ok x =>
          obtain ⟨nm1,vis1,v,b⟩:=x;rintro ⟨h,hp1,hl1⟩;rw [h];exact ⟨d,rfl,R.ext hp1,hp1,by simp only [szS]; omega⟩
        | false =>
        simp only [cond_false];cases (op == 25) with
        | true =>
         simp only [cond_true];have h:=ihi l7 (by omega) name op name s2 fr ix flag r6 l7 l8 l9 l10 nm vis (pre ++ [d]) lo (by omega) (by simp; omega) (by omega) R;revert h;cases uI p f2 f3 lo nm vis name s2 l7 with
         | error c=>intro h; simp only [NB] at h; rw [h]; exact rfl
         | ok x =>
          obtain ⟨nm1,vis1,v,b⟩:=x;rintro ⟨h,hp1,hl1⟩;rw [h];exact ⟨d,rfl,R.ext hp1,hp1,by simp only [szS]; omega⟩
        | false =>
        simp only [cond_false];cases (op == 24) with
        | true =>
         simp only [cond_true];have h:=ihb l7 (by omega) nm vis (pre ++ [d]) lo (by omega) (by simp; omega) (by omega) R;revert h;cases uB p f2 f3 lo nm vis l7 with
         | error c=>intro h; simp only [NB] at h; rw [h]; exact rfl
         | ok x =>
          obtain ⟨nm1,vis1,b⟩:=x;rintro ⟨h,hp1,hl1⟩;rw [h];simp only [Option.bind_some,eb3,id];have h:=ihi l8 (by omega) name op name s2 fr ix flag r6 b l8 l9 l10 nm1 vis (pre ++ [d]) lo (by omega) (by simp; omega) (by omega) (R.ext hp1);revert h;cases uI p f2 f3 lo nm1 vis name s2 l8 with
          | error c=>intro h; simp only [NB] at h; rw [h]; exact rfl
          | ok x =>
           obtain ⟨nm2,vis2,v,b8⟩:=x;rintro ⟨h,hp2,hl2⟩;rw [h];simp only [Option.bind_some];have h:=ihb l9 (by omega) nm2 vis (pre ++ [d]) lo (by omega) (by simp; omega) (by omega) ((R.ext hp1).ext hp2);revert h;cases uB p f2 f3 lo nm2 vis l9 with
           | error c=>intro h; simp only [NB] at h; rw [h]; exact rfl
           | ok x =>
            obtain ⟨nm3,vis3,b9⟩:=x;rintro ⟨h,hp3,hl3⟩;rw [h];exact ⟨d,rfl,((R.ext hp1).ext hp2).ext hp3,(hp1.trans hp2).trans hp3,by simp only [szS]; omega⟩
        | false =>
        simp only [cond_false];have tail3 : ∀ q,q=(op == 20 || op == 22 || op == 23 || op == 26)→NN (f105_j4 k (fam105 k m) p f0 f1 f2 f3 f4 f5 nm (pre ++ [d]) lo op name s2 fr ix flag r6 l7 l8 l9 l10 q) p (.mk f0 f1 f2 f3 f4 f5) lo pre nm
          (cond (op == 20 || op == 22 || op == 23 || op == 26) (eb3 (uB p f2 f3 lo nm vis l7) fun nm1 _ b7=>eb3 (uB p f2 f3 lo nm1 vis l8) fun nm2 _ b8=>.ok (nm2,vis,.mk op name s2 fr ix flag r6 b7 b8 l9 l10))
           (eb3 (cond (seq name ⟨#[]⟩) (.ok (nm,vis,s2)) (uMk nm vis name)) fun nm1 vis1 v=>uD (op != 6 || flag == 0 || decide (lo > 0)) 22 (.ok (nm1,vis1,.mk op name v fr ix flag r6 l7 l8 l9 l10)))) (szS (.mk op name s2 fr s4 flag l6 l7 l8 l9 l10)):=by
         rintro _ rfl;unfold f105_j4;cases (op == 20 || op == 22 || op == 23 || op == 26) with
         | true =>
          simp only [cond_true];have h:=ihb l7 (by omega) nm vis (pre ++ [d]) lo (by omega) (by simp; omega) (by omega) R;revert h;cases uB p f2 f3 lo nm vis l7 with
          | error c=>intro h; simp only [NB] at h; rw [h]; exact rfl
          | ok x =>
           obtain ⟨nm1,vis1,b⟩:=x;rintro ⟨h,hp1,hl1⟩;rw [h];simp only [Option.bind_some,eb3,id];have h:=ihb l8 (by omega) nm1 vis (pre ++ [d]) lo (by omega) (by simp; omega) (by omega) (R.ext hp1);revert h;cases uB p f2 f3 lo nm1 vis l8 with
           | error c=>intro h; simp only [NB] at h; rw [h]; exact rfl
           | ok x =>
            obtain ⟨nm2,vis2,b8⟩:=x;rintro ⟨h,hp2,hl2⟩;rw [h];exact ⟨d,rfl,(R.ext hp1).ext hp2,hp1.trans hp2,by simp only [szS]; omega⟩
         | false =>
          simp only [cond_false];have fin : ∀ (nm1:List ByteArray) (vis1:List Nat) (d1:List (ByteArray × Int)) (v:Int),Rel (pre ++ [d1]) vis1 nm1→nm <+: nm1→nm1.length≤nm.length + 1 →
            NN (f105_j5 k (fam105 k m) op name fr ix flag r6 l7 l8 l9 l10 p f0 f1 f2 f3 f4 f5 nm1 (pre ++ [d1]) lo v) p (.mk f0 f1 f2 f3 f4 f5) lo pre nm
             (uD (op != 6 || flag == 0 || decide (lo > 0)) 22 (.ok (nm1,vis1,.mk op name v fr ix flag r6 l7 l8 l9 l10))) (szS (.mk op name s2 fr s4 flag l6 l7 l8 l9 l10)):=by
           intro nm1 vis1 d1 v R1 hp1 hl1;unfold f105_j5;simp only [f77_eq,Option.bind_some,gt_nat,uD,cond_true];cases (op != 6) <;> cases (flag == 0) <;> cases decide (lo > 0) <;> first | exact rfl | exact ⟨d1,rfl,R1,hp1,by simp only [szS]; omega⟩
          cases seq name ⟨#[]⟩ with
          | true =>
           simp only [Bool.not_true,cond_false,cond_true,eb3];exact fin nm vis d s2 R (List.prefix_refl _) (by omega)
          | false =>
           simp only [Bool.not_false,cond_true,cond_false];have h:=opt_make k p (.mk f0 f1 f2 f3 f4 f5) lo R name (by omega) (by omega);revert h;cases uMk nm vis name with
           | error c=>intro h; simp only [NN] at h; rw [h]; exact rfl
           | ok x =>
            obtain ⟨nm1,vis1,v⟩:=x;rintro ⟨d1,h,R1,hp1,hl1⟩;rw [h];exact fin nm1 vis1 d1 v R1 hp1 hl1
        cases h20:(op == 20) <;> cases h22:(op == 22) <;> cases h23:(op == 23) <;> (have h:=tail3 _ rfl; simp only [h20,h22,h23,Bool.true_or,Bool.or_true,Bool.false_or,cond_true,cond_false] at h ⊢; exact h)
       cases h18:(op == 18) with
       | true=>simp only [cond_true,Bool.true_or]; have h:=tail2 true (by simp [h18]); simpa only [h18,Bool.true_or,cond_true] using h
       | false=>simp only [cond_false,Bool.false_or]; have h:=tail2 (op == 19) (by simp [h18]); simpa only [h18,Bool.false_or] using h
     cases hfr:seq fr ⟨#[]⟩ with
     | true =>
      simp only [Bool.not_true,cond_false,cond_true];exact tail s4
     | false =>
      simp only [Bool.not_false,cond_true,cond_false];rw [f126_eq];cases uCall op fr r6.length p 0 with
      | error c=>exact rfl
      | ok ix=>exact tail ix
  ·intro l hl nm vis sc lo hnm hsc hlo R;show NB (f1012566_b k (fam105 k m) (.mk (.mk p) (.mk f0 f1 f2 f3 f4 f5) nm sc lo) ⟨#[]⟩ l) _ _ _ _ _ _ _ _;rw [uB_eq];unfold f1012566_b;simp only;rw [guard_le (by unfold maxB; omega)];have hs:seq ⟨#[]⟩ ⟨#[]⟩=true:=seq_refl _;rw [hs];simp only [Bool.not_true,cond_false];have h:=loopB l 0 [] nm vis sc [] lo (by omega) (by simp; omega) (by omega) (by omega) (by omega) R.push;revert h;cases uSs p f2 f3 lo nm vis l with
   | error c=>intro h; exact h
   | ok x =>
    obtain ⟨nm1,vis1,l'⟩:=x;rintro ⟨h,hp1,hl1⟩;exact ⟨by rw [h]; simp,hp1,by omega⟩
  ·intro l hl name s0 s1 s2 s3 s4 s5 s6 s7 s8 s9 s10 nm vis sc lo hnm hsc hlo R;show NB (f1012531_b k (fam105 k m) (.mk (.mk p) (.mk f0 f1 f2 f3 f4 f5) nm sc lo) name l (.mk s0 s1 s2 s3 s4 s5 s6 s7 s8 s9 s10)) _ _ _ _ _ _ _ _;rw [uI_eq];unfold f1012531_b f1012531_j1;simp only;rw [guard_le (by unfold maxB; omega)];cases hn:seq name ⟨#[]⟩ with
   | true =>
    simp only [Bool.not_true,cond_false,cond_true,eb3];have h:=loopS s0 s1 s3 s4 s5 s6 s7 s8 s9 s10 s2 l 0 [] nm vis sc [] lo (by omega) (by simp; omega) (by omega) (by omega) (by omega) R.push;revert h;cases uSs p f2 f3 lo nm vis l with
    | error c=>intro h; exact h
    | ok x =>
     obtain ⟨nm1,vis1,l'⟩:=x;rintro ⟨h,hp1,hl1⟩;exact ⟨by rw [h]; simp,hp1,by omega⟩
   | false =>
    simp only [Bool.not_false,cond_true,cond_false];have h:=opt_make k p (.mk f0 f1 f2 f3 f4 f5) lo R.push name (by omega) (by omega);revert h;cases hu:uMk nm vis name with
    | error c=>intro h; simp only [NN] at h; rw [h]; rfl
    | ok x =>
     obtain ⟨nm1,vis1,v⟩:=x;rintro ⟨d1,h,R1,hp1,hl1⟩;rw [h];simp only [Option.bind_some,eb3];have h2:=loopS s0 s1 s3 s4 s5 s6 s7 s8 s9 s10 v l 0 [] nm1 vis1 sc d1 lo (by omega) (by simp; omega) (by omega) (by omega) (by omega) R1;revert h2;cases uSs p f2 f3 lo nm1 vis1 l with
     | error c=>intro h2; exact h2
     | ok x =>
      obtain ⟨nm2,vis2,l'⟩:=x;rintro ⟨h2,hp2,hl2⟩;exact ⟨by rw [h2]; simp,hp1.trans hp2,by omega⟩
  ·intro l hl name s0 s1 s2 s3 s4 nm vis sc lo hnm hsc hlo R;show NB (f1012528_b k (fam105 k m) (.mk (.mk p) (.mk f0 f1 f2 f3 f4 f5) nm sc lo) name l (.mk s0 s1 s2 s3 s4)) _ _ _ _ _ _ _ _;rw [uI_eq];unfold f1012528_b f1012528_j1;simp only;rw [guard_le (by unfold maxB; omega)];cases hn:seq name ⟨#[]⟩ with
   | true =>
    simp only [Bool.not_true,cond_false,cond_true,eb3];have h:=loopC s0 s1 s3 s4 s2 l 0 [] nm vis sc [] lo (by omega) (by simp; omega) (by omega) (by omega) (by omega) R.push;revert h;cases uSs p f2 f3 lo nm vis l with
    | error c=>intro h; exact h
    | ok x =>
     obtain ⟨nm1,vis1,l'⟩:=x;rintro ⟨h,hp1,hl1⟩;exact ⟨by rw [h]; simp,hp1,by omega⟩
   | false =>
    simp only [Bool.not_false,cond_true,cond_false];have h:=opt_make k p (.mk f0 f1 f2 f3 f4 f5) lo R.push name (by omega) (by omega);revert h;cases hu:uMk nm vis name with
    | error c=>intro h; simp only [NN] at h; rw [h]; rfl
    | ok x =>
     obtain ⟨nm1,vis1,v⟩:=x;rintro ⟨d1,h,R1,hp1,hl1⟩;rw [h];simp only [Option.bind_some,eb3];have h2:=loopC s0 s1 s3 s4 v l 0 [] nm1 vis1 sc d1 lo (by omega) (by simp; omega) (by omega) (by omega) (by omega) R1;revert h2;cases uSs p f2 f3 lo nm1 vis1 l with
     | error c=>intro h2; exact h2
     | ok x =>
      obtain ⟨nm2,vis2,l'⟩:=x;rintro ⟨h2,hp2,hl2⟩;exact ⟨by rw [h2]; simp,hp1.trans hp2,by omega⟩
  ·intro l hl nm vis sc lo hnm hsc hlo R;show NB (f1012766_b k (fam105 k m) (.mk (.mk p) (.mk f0 f1 f2 f3 f4 f5) nm sc lo) ⟨#[]⟩ l) _ _ _ _ _ _ _ _;unfold f1012766_b;simp only;rw [w64_nat (x:=(lo:Int) + 1) (n:=lo + 1) (by omega) (by omega)];have h:=ihb l (by omega) nm vis sc (lo + 1) (by omega) (by omega) (by omega) R;revert h;cases uB p f2 f3 (lo + 1) nm vis l with
   | error c=>intro h; simp only [NB] at h; rw [h]; rfl
   | ok x =>
    obtain ⟨nm1,vis1,l'⟩:=x;rintro ⟨h,hp1,hl1⟩;rw [h];simp only [Option.bind_some];rw [w64_nat (x:=((lo + 1:Nat):Int) - 1) (n:=lo) (by omega) (by omega)];exact ⟨rfl,hp1,hl1⟩
  ·intro l hl name s0 s1 s2 s3 s4 s5 s6 s7 s8 s9 s10 nm vis sc lo hnm hsc hlo R;show NB (f1012731_b k (fam105 k m) (.mk (.mk p) (.mk f0 f1 f2 f3 f4 f5) nm sc lo) name l (.mk s0 s1 s2 s3 s4 s5 s6 s7 s8 s9 s10)) _ _ _ _ _ _ _ _;unfold f1012731_b;simp only;rw [w64_nat (x:=(lo:Int) + 1) (n:=lo + 1) (by omega) (by omega)];have h:=ihi l (by omega) name s0 s1 s2 s3 s4 s5 s6 s7 s8 s9 s10 nm vis sc (lo + 1) (by omega) (by omega) (by omega) R;revert h;cases uI p f2 f3 (lo + 1) nm vis name s2 l with
   | error c=>intro h; simp only [NB] at h; rw [h]; rfl
   | ok x =>
    obtain ⟨nm1,vis1,l'⟩:=x;rintro ⟨h,hp1,hl1⟩;rw [h];simp only [Option.bind_some];rw [w64_nat (x:=((lo + 1:Nat):Int) - 1) (n:=lo) (by omega) (by omega)];exact ⟨rfl,hp1,hl1⟩
section
variable {β γ:Type} {p:List DFunc} {f:DFunc} {lo:Nat} {er:Int} {nm:List ByteArray} {vis:List Nat}
end
section
variable {α β γ:Type} {p:List DFunc} {f:DFunc} {lo:Nat} {er:Int} {nm:List ByteArray} {vis:List Nat}
end
def uPs:List ByteArray→List Nat→List DParam→Ex (List ByteArray × List Nat × Unit)
 | nm,vis,[]=>.ok (nm,vis,())
 | nm,vis,.mk a _ :: l=>eb3 (uMk nm vis a) fun nm1 vis1 _=>uPs nm1 vis1 l
def uF (fs:List DFunc):DFunc→Ex (DFunc × List ByteArray)
 | .mk n ps res fl _ b=>eb3 (uPs [] [] ps) fun nm vis _=>eb3 (uSs fs res fl 0 nm vis b) fun nm1 _ b'=>uD (decide (nm1.length≤32)) 5 (.ok (.mk n ps res fl (nm1.length:Int) b',nm1))
def uFs (fs:List DFunc):List DFunc→Ex (List DFunc × List (List ByteArray))
 | []=>.ok ([],[])
 | f :: l=>eb (uF fs f) fun x=>eb (uFs fs l) fun y=>.ok (x.1 :: y.1,x.2 :: y.2)
def nameF:DFunc→ByteArray | .mk n _ _ _ _ _=>n
def hasF (a:ByteArray):List DFunc→Bool
 | []=>false
 | f :: l=>seq (nameF f) a || hasF a l
def dupF:List DFunc→List DFunc→Bool
 | _,[]=>false
 | pre,f :: l=>hasF (nameF f) pre || dupF (pre ++ [f]) l
def uP:DProgram→Ex (DProgram × List (List ByteArray))
 | .mk fs=>uD (wf false (.mk fs)) 2 (uD (!dupF [] fs) 21 (uD (decide (f56_l2 fs=0)) (f56_l2 fs) (eb (uFs fs fs) fun x=>.ok (.mk x.1,x.2))))
theorem szSs_bound {z:Bool} : ∀ {l:List DFunc} {f:DFunc},f ∈ l→cnFs l≤600→gFs z l=true→(match f with | .mk n ps res fl v b=>szSs b≤600∧ps.length≤4∧gSs z b 1=true)
 | .mk n ps res fl v b :: l,f,hf,hc,hg=>by
  simp only [cnFs,cnF] at hc;simp only [gFs,headF,Bool.and_eq_true,decide_eq_true_eq] at hg;rcases List.mem_cons.1 hf with rfl | h
  ·exact ⟨by omega,hg.1.1.1.1.1.2,hg.2.2.1⟩
  ·exact szSs_bound h (by omega) hg.2.2.2
theorem f83_l1_eq (k:Nat) (p:List DFunc) (n:ByteArray) (ps0:List DParam) (res:Int) (fl:Bool) (v:Int) (b0 b:List DStmt) (g1:List DParam) : ∀ (ps:List DParam) (i:Nat) (nm:List ByteArray) (vis:List Nat) (d:List (ByteArray × Int)),nm.length + ps.length≤1000→Rel ([] ++ [d]) vis nm →
  match uPs nm vis ps with
  | .error c=>f83_l1 k n g1 res fl b ps i p n ps0 res fl v b0 nm ([] ++ [d]) 0=some (.error c)
  | .ok (nm',vis',_)=>∃ d' j,f83_l1 k n g1 res fl b ps i p n ps0 res fl v b0 nm ([] ++ [d]) 0=f83_l1 k n g1 res fl b [] j p n ps0 res fl v b0 nm' ([] ++ [d']) 0∧Rel ([] ++ [d']) vis' nm'∧nm'.length≤nm.length + ps.length
 | [],i,nm,vis,d,hn,R=>⟨d,i,rfl,R,by simp⟩
 | .mk a kd :: ps,i,nm,vis,d,hn,R=>by
  simp only [List.length_cons] at hn;have h:=opt_make k p (.mk n ps0 res fl v b0) 0 R a (by omega) (by simp);unfold uPs;revert h;cases uMk nm vis a with
  | error c =>
   intro h;simp only [NN] at h;unfold f83_l1;simp only [eb3];rw [show f104 k (.mk (.mk p) (.mk n ps0 res fl v b0) nm ([] ++ [d]) 0) a=some (.error c) from h];rfl
  | ok x =>
   obtain ⟨nm1,vis1,w⟩:=x;rintro ⟨d1,h,R1,hp,hl⟩;simp only [eb3];have ih:=f83_l1_eq k p n ps0 res fl v b0 b g1 ps (i + 1) nm1 vis1 d1 (by omega) R1;have e:f83_l1 k n g1 res fl b (.mk a kd :: ps) i p n ps0 res fl v b0 nm ([] ++ [d]) 0=f83_l1 k n g1 res fl b ps (i + 1) p n ps0 res fl v b0 nm1 ([] ++ [d1]) 0:=by
    conv=>lhs; unfold f83_l1
    rw [show f104 k (.mk (.mk p) (.mk n ps0 res fl v b0) nm ([] ++ [d]) 0) a=some (.ok (.mk (.mk p) (.mk n ps0 res fl v b0) nm1 ([] ++ [d1]) 0,w)) from h];rfl
   revert ih;cases uPs nm1 vis1 ps with
   | error c=>intro ih; rw [e]; exact ih
   | ok x =>
    obtain ⟨nm2,vis2,u⟩:=x;rintro ⟨d2,j,h2,R2,hl2⟩;exact ⟨d2,j,by rw [e]; exact h2,R2,by simp only [List.length_cons]; omega⟩
theorem f83_l2_eq (k:Nat) (p:List DFunc) (n:ByteArray) (ps0:List DParam) (res:Int) (fl:Bool) (v:Int) (b0:List DStmt) (g1:List DParam) : ∀ (l:List DStmt) (i:Nat) (xs:List DStmt) (nm:List ByteArray) (vis:List Nat) (d:List (ByteArray × Int)),4 * szSs l≤k→xs.length + szSs l≤100000→nm.length + szSs l≤100000→Rel ([] ++ [d]) vis nm →
  f83_l2 k n res fl g1 l i p n ps0 res fl v b0 nm ([] ++ [d]) 0 xs=some (eb3 (uSs p res fl 0 nm vis l) fun nm1 _ b'=>uD (decide (nm1.length≤32)) 5 (.ok (.mk n g1 res fl (nm1.length:Int) (xs ++ b'),nm1)))
 | [],i,xs,nm,vis,d,hm,hx,hn,R=>by
  unfold f83_l2 f83_j1;rw [uSs];have e:decide ((nm.length:Int)≤32)=decide (nm.length≤32):=by rw [decide_eq_decide]; omega
  simp only [f77_eq,Option.bind_some,eb3,e,uD,List.append_nil];cases decide (nm.length≤32) <;> rfl
 | s :: l,i,xs,nm,vis,d,hm,hx,hn,R=>by
  simp only [szSs] at hm hx hn;have hp0:=szS_pos s;obtain ⟨e0,e1,e2,e3,e4,e5,e6,e7,e8,e9,e10⟩:=s;unfold f83_l2;rw [uSs];have h:=(nR k p n ps0 res fl v b0 k (Nat.le_refl k)).1 (.mk e0 e1 e2 e3 e4 e5 e6 e7 e8 e9 e10) (by omega) nm vis [] d 0 (by omega) (by simp; omega) (by omega) R;rw [show (fam105 k k).f105=f105 k from rfl,show (((0:Nat):Int))=0 from rfl] at h;revert h;cases uS p res fl 0 nm vis (.mk e0 e1 e2 e3 e4 e5 e6 e7 e8 e9 e10) with
  | error c=>intro h; simp only [NN] at h; rw [h]; rfl
  | ok x =>
   obtain ⟨nm1,vis1,s'⟩:=x;rintro ⟨d1,h,R1,hp,hl⟩;rw [h];obtain ⟨r0,r1,r2,r3,r4,r5,r6,r7,r8,r9,r10⟩:=s';simp only [Option.bind_some,eb3];rw [guard_le (by unfold maxB; omega)];refine (f83_l2_eq k p n ps0 res fl v b0 g1 l (i + 1) (xs ++ [.mk r0 r1 r2 r3 r4 r5 r6 r7 r8 r9 r10]) nm1 vis1 d1 (by omega) (by rw [app_len]; omega) (by omega) R1).trans ?_;cases uSs p res fl 0 nm1 vis1 l with
   | error c=>rfl
   | ok x=>simp [eb3]
theorem f83_eq (k:Nat) (p:List DFunc) (f:DFunc) (h:match f with | .mk n ps res fl v b=>szSs b≤600∧ps.length≤4∧gSs false b 1=true) (hk:4 * 600≤k):f83 k (.mk p) f=some (uF p f):=by
 obtain ⟨n,ps,res,fl,v,b⟩:=f;obtain ⟨h1,h2,h3⟩:=h;unfold f83 f83_b uF;simp only;have R0:Rel ([] ++ [[]]) [] []:=⟨fun a=>rfl,fun v hv=>by cases hv⟩;have h:=f83_l1_eq k p n ps res fl v b b ps ps 0 [] [] [] (by simp; omega) R0;revert h;cases uPs [] [] ps with
 | error c=>intro h; exact h
 | ok x =>
  obtain ⟨nm,vis,u⟩:=x;rintro ⟨d,j,h,R,hl⟩;refine (h:f83_l1 k n ps res fl b ps 0 p n ps res fl v b [] [[]] 0=_).trans ?_;unfold f83_l1 f100;rw [guard_le (by unfold maxB; omega)];simp only [Option.bind_some,eb3];exact f83_l2_eq k p n ps res fl v b ps b 0 [] nm vis d (by omega) (by simp; omega) (by simp at hl; omega) R
theorem f1008189_eq (k:Nat) (l:List DFunc) (f:DFunc):f1008189 k l f=some (hasF (nameF f) l):=by
 obtain ⟨n,ps,res,fl,v,b⟩:=f;have h : ∀ (l:List DFunc) (i:Nat),(f1010389_l1 k n ps res fl v b l i).bind (fun r=>some (decide (r ≥ 0)))=some (hasF n l):=by
  intro l;induction l with
  | nil=>intro i; rfl
  | cons e l ih =>
   intro i;obtain ⟨e0,e1,e2,e3,e4,e5⟩:=e;unfold f1010389_l1 f1008209 f1008209_b hasF;simp only [Option.bind_some,nameF];rw [seq_comm n e0];cases seq e0 n with
   | true=>simp
   | false=>simpa using ih (i + 1)
 unfold f1008189 f1008189_b f1010389 f1010389_b;exact h l 0
theorem f56_l1_eq (k:Nat) : ∀ (rest pre:List DFunc),f56_l1 k (pre ++ rest) rest pre.length=some (cond (dupF pre rest) (.error 21) (.ok ()))
 | [],pre=>rfl
 | f :: rest,pre=>by
  unfold f56_l1 dupF;have e:(pre ++ f :: rest).take pre.length=pre:=by simp
  rw [e,f1008189_eq];simp only [Option.bind_some,f77_eq];cases hasF (nameF f) pre with
  | true=>rfl
  | false =>
   have ih:=f56_l1_eq k rest (pre ++ [f]);rw [app_len,List.append_assoc,List.singleton_append] at ih;simpa using ih
theorem f56_l3_eq (k:Nat) (p:List DFunc) (hk:4 * 600≤k) : ∀ (rest:List DFunc) (out:List DFunc) (names:List (List ByteArray)),(∀ f ∈ rest,match f with | .mk n ps res fl v b=>szSs b≤600∧ps.length≤4∧gSs false b 1=true) →
  f56_l3 k (.mk p) rest out names=some (eb (uFs p rest) fun x=>.ok (.mk (out ++ x.1),names ++ x.2))
 | [],out,names,h=>by simp [f56_l3,uFs,eb]
 | f :: rest,out,names,h=>by
  unfold f56_l3 uFs;rw [f83_eq k p f (h f (by simp)) hk];cases uF p f with
  | error c=>rfl
  | ok x =>
   simp only [Option.bind_some,eb];rw [f56_l3_eq k p hk rest (out ++ [x.1]) (names ++ [x.2]) (fun g hg=>h g (by simp [hg]))];cases uFs p rest with
   | error c=>rfl
   | ok y=>simp [eb]
theorem f56_eq (k:Nat) (p:DProgram) (hk:2 * szP p + 1≤k) (hk2:4 * 600≤k):f56 k p=some (uP p):=by
 have h78:=f78_eq k p false hk;obtain ⟨fs⟩:=p;unfold f56 uP;simp only [h78,Option.bind_some,f77_eq];cases hw:wf false (.mk fs) with
 | false=>rfl
 | true =>
  simp only [wf,Bool.and_eq_true,decide_eq_true_eq] at hw;have h1:=f56_l1_eq k fs [];simp only [List.nil_append,List.length_nil] at h1;simp only [cond_true,h1,Option.bind_some,uD];cases dupF [] fs with
  | true=>rfl
  | false =>
   simp only [cond_false,cond_true,Bool.not_false,f77_eq,Option.bind_some];cases decide (f56_l2 fs=0) with
   | false=>rfl
   | true =>
    simp only [cond_true];rw [f56_l3_eq k fs hk2 fs [] [] (fun f hf=>szSs_bound hf hw.2 hw.1.2)];rfl
theorem f35_eq (k:Nat) (p:DProgram) (hk:2 * szP p + 1≤k) (hk2:4 * 600 + 1≤k):f35 k p=some (match uP p with | .error c=>(.mk [],c) | .ok x=>(x.1,0)):=by
 have h:=f56_eq k p hk (by omega);obtain ⟨fs⟩:=p;unfold f35 f35_b f1005223 f1005504 f1005504_b;simp only [h,Option.bind_some];cases uP (.mk fs) with
 | error c=>rfl
 | ok x=>obtain ⟨⟨q⟩,l⟩:=x; rfl
theorem eb_ok {α β:Type} {u:Ex α} {f:α→Ex β} {y:β} (h:eb u f=.ok y) : ∃ x,u=.ok x∧f x=.ok y:=by
 cases u with
 | error c=>cases h
 | ok x=>exact ⟨x,rfl,h⟩
theorem eb3_ok {α β:Type} {u:Ex (List ByteArray × List Nat × α)} {f:List ByteArray→List Nat→α→Ex β} {y:β} (h:eb3 u f=.ok y) : ∃ a b x,u=.ok (a,b,x)∧f a b x=.ok y:=by
 cases u with
 | error c=>cases h
 | ok x=>exact ⟨x.1,x.2.1,x.2.2,rfl,h⟩
theorem uD_ok {α:Type} {b:Bool} {c:Int} {x:Ex α} {y:α} (h:uD b c x=.ok y):b=true∧x=.ok y:=by
 cases b with
 | false=>cases h
 | true=>exact ⟨rfl,h⟩
mutual
theorem stE_id : ∀ e a,gE false e a=true→stE e=e
 | .mk op num txt slot l,a,h=>by
  simp only [gE,Bool.and_eq_true,Bool.false_or,beq_iff_eq] at h;simp only [stE,stEs_id l _ h.2,h.1.1.2]
theorem stEs_id : ∀ l a,gEs false l a=true→stEs l=l
 | [],a,h=>rfl
 | e :: l,a,h=>by
  simp only [gEs,Bool.and_eq_true] at h;simp only [stEs,stE_id e a h.1,stEs_id l a h.2]
end
mutual
theorem stS_id : ∀ s a,gS false s a=true→stS s=s
 | .mk op name s2 fr s4 flag l6 l7 l8 l9 l10,a,h=>by
  simp only [gS,Bool.and_eq_true,Bool.false_or,beq_iff_eq] at h;obtain ⟨⟨⟨_,h2,h4⟩,_⟩,h6,h7,h8,h9,h10⟩:=h;simp only [stS,stEs_id l6 _ h6,stSs_id l7 _ h7,stSs_id l8 _ h8,stSs_id l9 _ h9,stCs_id l10 _ h10,h2,h4]
theorem stSs_id : ∀ l a,gSs false l a=true→stSs l=l
 | [],a,h=>rfl
 | e :: l,a,h=>by
  simp only [gSs,Bool.and_eq_true] at h;simp only [stSs,stS_id e a h.1,stSs_id l a h.2]
theorem stC_id : ∀ c a,gC false c a=true→stC c=c
 | .mk kind name slot es b,a,h=>by
  simp only [gC,Bool.and_eq_true,Bool.false_or,beq_iff_eq] at h;obtain ⟨⟨⟨_,h2⟩,_⟩,h6,h7⟩:=h;simp only [stC,stEs_id es _ h6,stSs_id b _ h7,h2]
theorem stCs_id : ∀ l a,gCs false l a=true→stCs l=l
 | [],a,h=>rfl
 | .mk k nm s es b :: l,a,h=>by
  simp only [gCs,Bool.and_eq_true] at h;simp only [stCs,stC_id _ a h.1.2,stCs_id l a h.2]
end
mutual
theorem stE_u {nm:List ByteArray} {vis:List Nat} : ∀ e a e',gE false e a=true→uE nm vis e=.ok e'→stE e'=e
 | .mk op num txt slot l,a,e',h,hu=>by
  simp only [gE,Bool.and_eq_true,Bool.false_or,beq_iff_eq] at h;obtain ⟨⟨⟨_,rfl⟩,_⟩,hl⟩:=h;unfold uE at hu;revert hu;cases h1:uEs nm vis l with
  | error c=>intro hu; cases hu
  | ok l' =>
   have h2:=stEs_u l _ l' hl h1;cases op == 4 with
   | false=>intro hu; cases hu; simp only [stE,h2]
   | true =>
    cases slotOf nm vis txt with
    | none=>intro hu; cases hu
    | some v=>intro hu; cases hu; simp only [stE,h2]
theorem stEs_u {nm:List ByteArray} {vis:List Nat} : ∀ l a l',gEs false l a=true→uEs nm vis l=.ok l'→stEs l'=l
 | [],a,l',h,hu=>by cases hu; rfl
 | e :: l,a,l',h,hu=>by
  simp only [gEs,Bool.and_eq_true] at h;unfold uEs at hu;revert hu;cases h1:uE nm vis e with
  | error c=>intro hu; cases hu
  | ok e1 =>
   cases h2:uEs nm vis l with
   | error c=>intro hu; cases hu
   | ok l1=>intro hu; cases hu; simp only [stEs,stE_u e a e1 h.1 h1,stEs_u l a l1 h.2 h2]
end
section
variable (fs:List DFunc) (f2:Int) (f3:Bool)
theorem stS_u : ∀ n:Nat,
  (∀ s,szS s≤n→∀ a lo nm vis r,gS false s a=true→uS fs f2 f3 lo nm vis s=.ok r→stS r.2.2=s) ∧
  (∀ l,szSs l≤n→∀ a lo nm vis r,gSs false l a=true→uSs fs f2 f3 lo nm vis l=.ok r→stSs r.2.2=l) ∧
  (∀ c,szC c≤n→∀ a lo nm vis r,gC false c a=true→uC fs f2 f3 lo nm vis c=.ok r→stC r.2.2=c) ∧
  (∀ l,szCs l≤n→∀ a lo nm vis r,gCs false l a=true→uCs fs f2 f3 lo nm vis l=.ok r→stCs r.2.2=l)
 | 0=>by
  refine ⟨fun s h=>?_,fun l h=>?_,fun c h=>?_,fun l h=>?_⟩
  ·have:=szS_pos s; omega
  ·cases l with
   | nil=>intro a lo nm vis r _ h; simp only [uSs] at h; cases h; rfl
   | cons s l=>have:=szS_pos s; simp only [szSs] at h; omega
  ·have:=szC_pos c; omega
  ·cases l with
   | nil=>intro a lo nm vis r _ h; simp only [uCs] at h; cases h; rfl
   | cons s l=>have:=szC_pos s; simp only [szCs] at h; omega
 | n + 1=>by
  obtain ⟨i1,i2,i3,i4⟩:=stS_u n;have a1 : ∀ s,szS s≤n + 1→∀ a lo nm vis r,gS false s a=true→uS fs f2 f3 lo nm vis s=.ok r→stS r.2.2=s:=by
   rintro ⟨op,name,s2,fr,s4,flag,l6,l7,l8,l9,l10⟩ h a lo nm vis r hg hu;simp only [szS] at h;simp only [gS,Bool.and_eq_true,Bool.false_or,beq_iff_eq] at hg;obtain ⟨⟨⟨_,rfl,rfl⟩,_⟩,g6,g7,g8,g9,g10⟩:=hg;have d6:=stEs_id l6 _ g6;have d7:=stSs_id l7 _ g7;have d8:=stSs_id l8 _ g8;have d9:=stSs_id l9 _ g9;have d10:=stCs_id l10 _ g10;have h7:=fun lo nm vis r=>i2 l7 (by omega) _ lo nm vis r g7
   have h8:=fun lo nm vis r=>i2 l8 (by omega) _ lo nm vis r g8
   have h9:=fun lo nm vis r=>i2 l9 (by omega) _ lo nm vis r g9
   have h10:=fun lo nm vis r=>i4 l10 (by omega) _ lo nm vis r g10
   simp only [uS,uB_eq,uI_eq] at hu;obtain ⟨r6,h6,hu⟩:=eb_ok hu;have e6:=stEs_u l6 _ r6 g6 h6;clear i1 i2 i3 i4;revert hu;cases op == 27 with
   | true =>
    intro hu;obtain ⟨nm1,v1,cs,h1,hu⟩:=eb3_ok hu;cases hu;simp only [stS,e6,d7,d8,d9,h10 _ _ _ _ h1]
   | false =>
   intro hu;obtain ⟨ix,_,hu⟩:=eb_ok hu;revert hu;cases op == 2 with
   | true =>
    cases slotOf nm vis name with
    | none=>intro hu; cases hu
    | some v=>intro hu; cases hu; simp only [stS,e6,d7,d8,d9,d10]
   | false =>
   cases op == 18 || op == 19 with
   | true=>intro hu; obtain ⟨_,hu⟩:=uD_ok hu; cases hu; simp only [stS,e6,d7,d8,d9,d10]
   | false =>
   cases op == 29 with
   | true=>intro hu; obtain ⟨_,hu⟩:=uD_ok hu; cases hu; simp only [stS,e6,d7,d8,d9,d10]
   | false =>
   cases op == 17 with
   | true=>intro hu; obtain ⟨_,hu⟩:=uD_ok hu; cases hu; simp only [stS,e6,d7,d8,d9,d10]
   | false =>
   cases op == 21 with
   | true =>
    intro hu;obtain ⟨nm1,v1,b,h1,hu⟩:=eb3_ok hu;cases hu;obtain ⟨nm2,v2,b2,h2,h1⟩:=eb3_ok h1;cases h1;simp only [stS,e6,h7 _ _ _ _ h2,d8,d9,d10]
   | false =>
   cases op == 28 with
   | true =>
    intro hu;obtain ⟨nm1,v1,b,h1,hu⟩:=eb3_ok hu;cases hu;obtain ⟨nm2,v2,b2,h2,h1⟩:=eb3_ok h1;obtain ⟨nm3,v3,b3,h3,h1⟩:=eb3_ok h1;cases h1;simp only [stS,e6,h7 _ _ _ _ h3,d8,d9,d10]
   | false =>
   cases op == 25 with
   | true =>
    intro hu;obtain ⟨nm1,v1,b,h1,hu⟩:=eb3_ok hu;cases hu;obtain ⟨nm2,v2,b2,h2,h1⟩:=eb3_ok h1;obtain ⟨nm3,v3,b3,h3,h1⟩:=eb3_ok h1;cases h1;simp only [stS,e6,h7 _ _ _ _ h3,d8,d9,d10]
   | false =>
   cases op == 24 with
   | true =>
    intro hu;obtain ⟨nm1,v1,b,h1,hu⟩:=eb3_ok hu;obtain ⟨nm2,v2,b2,h2,h1⟩:=eb3_ok h1;cases h1;obtain ⟨nm1,v1,b,h1,hu⟩:=eb3_ok hu;obtain ⟨nm2,v2,b3,h4,h1⟩:=eb3_ok h1;obtain ⟨nm3,v3,b4,h3,h1⟩:=eb3_ok h1;cases h1;obtain ⟨nm1,v1,b,h1,hu⟩:=eb3_ok hu;obtain ⟨nm2,v2,b5,h5,h1⟩:=eb3_ok h1;cases h1;cases hu;simp only [stS,e6,h7 _ _ _ _ h2,h8 _ _ _ _ h3,h9 _ _ _ _ h5,d10]
   | false =>
   cases op == 20 || op == 22 || op == 23 || op == 26 with
   | true =>
    intro hu;obtain ⟨nm1,v1,b,h1,hu⟩:=eb3_ok hu;obtain ⟨nm2,v2,b2,h2,h1⟩:=eb3_ok h1;cases h1;obtain ⟨nm1,v1,b,h1,hu⟩:=eb3_ok hu;obtain ⟨nm2,v2,b3,h4,h1⟩:=eb3_ok h1;cases h1;cases hu;simp only [stS,e6,h7 _ _ _ _ h2,h8 _ _ _ _ h4,d9,d10]
   | false =>
    intro hu;obtain ⟨nm1,v1,b,h1,hu⟩:=eb3_ok hu;obtain ⟨_,hu⟩:=uD_ok hu;cases hu;simp only [stS,e6,d7,d8,d9,d10]
  have a3 : ∀ c,szC c≤n + 1→∀ a lo nm vis r,gC false c a=true→uC fs f2 f3 lo nm vis c=.ok r→stC r.2.2=c:=by
   rintro ⟨kind,name,slot,es,b⟩ h a lo nm vis r hg hu;simp only [szC] at h;simp only [gC,Bool.and_eq_true,Bool.false_or,beq_iff_eq] at hg;obtain ⟨⟨⟨_,rfl⟩,_⟩,g6,g7⟩:=hg;simp only [uC,uI_eq] at hu;obtain ⟨r6,h6,hu⟩:=eb_ok hu;obtain ⟨nm1,v1,vb,h1,hu⟩:=eb3_ok hu;obtain ⟨nm2,v2,b2,h2,h1⟩:=eb3_ok h1;obtain ⟨nm3,v3,b3,h3,h1⟩:=eb3_ok h1;cases h1;cases hu;simp only [stC,stEs_u es _ r6 g6 h6,i2 b (by omega) _ _ _ _ _ g7 h3]
  have a2 : ∀ l,szSs l≤n + 1→∀ a lo nm vis r,gSs false l a=true→uSs fs f2 f3 lo nm vis l=.ok r→stSs r.2.2=l:=by
   intro l;induction l with
   | nil=>intro h a lo nm vis r _ hu; simp only [uSs] at hu; cases hu; rfl
   | cons s l ih =>
    intro h a lo nm vis r hg hu;simp only [szSs] at h;simp only [gSs,Bool.and_eq_true] at hg;simp only [uSs] at hu;obtain ⟨nm1,v1,x,h1,hu⟩:=eb3_ok hu;obtain ⟨nm2,v2,y,h2,hu⟩:=eb3_ok hu;cases hu;simp only [stSs,a1 s (by omega) _ _ _ _ _ hg.1 h1,ih (by omega) _ _ _ _ _ hg.2 h2]
  have a4 : ∀ l,szCs l≤n + 1→∀ a lo nm vis r,gCs false l a=true→uCs fs f2 f3 lo nm vis l=.ok r→stCs r.2.2=l:=by
   intro l;induction l with
   | nil=>intro h a lo nm vis r _ hu; simp only [uCs] at hu; cases hu; rfl
   | cons s l ih =>
    intro h a lo nm vis r hg hu;obtain ⟨kind,name,slot,es,b⟩:=s;simp only [szCs] at h;simp only [gCs,Bool.and_eq_true] at hg;simp only [uCs] at hu;obtain ⟨nm1,v1,x,h1,hu⟩:=eb3_ok hu;obtain ⟨nm2,v2,y,h2,hu⟩:=eb3_ok hu;cases hu;simp only [stCs,a3 _ (by omega) _ _ _ _ _ hg.1.2 h1,ih (by omega) _ _ _ _ _ hg.2 h2]
  exact ⟨a1,a2,a3,a4⟩
end
theorem okWf {fs:List DFunc} (h:wf false (.mk fs)=true):gFs false fs=true:=by
 simp only [wf,Bool.and_eq_true] at h;exact h.1.2
theorem uP_ok {fs:List DFunc} {q:DProgram} {nl:List (List ByteArray)} (h:uP (.mk fs)=.ok (q,nl)):wf false (.mk fs)=true∧dupF [] fs=false∧f56_l2 fs=0∧∃ x,q=.mk x∧uFs fs fs=.ok (x,nl):=by
 unfold uP at h;obtain ⟨h1,h⟩:=uD_ok h;obtain ⟨h2,h⟩:=uD_ok h;obtain ⟨h3,h⟩:=uD_ok h;obtain ⟨x,h4,h⟩:=eb_ok h;cases h;exact ⟨h1,by simpa using h2,by simpa using h3,x.1,rfl,h4⟩
theorem gFs_stF : ∀ l,gFs false l=true→stFs l=l
 | [],h=>rfl
 | .mk n ps res fl v b :: l,h=>by
  simp only [gFs,headF,Bool.and_eq_true,Bool.false_or,beq_iff_eq] at h;obtain ⟨⟨⟨⟨⟨_,hv⟩,_⟩,_⟩,_⟩,_,hb,hl⟩:=h;simp only [stFs,stF,hv,stSs_id b 1 hb,gFs_stF l hl]
theorem wf_both {p:DProgram} (h:wf false p=true):wf true p=true∧stP p=p:=by
 obtain ⟨fs⟩:=p;have e:stP (.mk fs)=.mk fs:=by simp only [stP,gFs_stF fs (okWf h)]
 exact ⟨by rw [← wf_st,e,h],e⟩
end Go.Proofs.YtoegpkmhifmamaaGreatDoor
namespace Go.Proofs.YtoegpkmhifmamaaGreatDoor
open Go
def Nz {α:Type} (u:Ex α):Prop:=∀ c,u=.error c→c ≠ 0
theorem Nz.ok {α:Type} (x:α):Nz (.ok x:Ex α):=fun c h=>by cases h
theorem Nz.er {α:Type} {c:Int} (h:c ≠ 0):Nz (.error c:Ex α):=fun c' h'=>by cases h'; exact h
theorem Nz.eb {α β:Type} {u:Ex α} {f:α→Ex β} (h:Nz u) (hf : ∀ x,Nz (f x)):Nz (eb u f):=by
 cases u with
 | error c=>intro c' h'; cases h'; exact h c rfl
 | ok x=>exact hf x
theorem Nz.eb3 {α β:Type} {u:Ex (List ByteArray × List Nat × α)} {f:List ByteArray→List Nat→α→Ex β} (h:Nz u) (hf : ∀ a b x,Nz (f a b x)):Nz (eb3 u f):=by
 cases u with
 | error c=>intro c' h'; cases h'; exact h c rfl
 | ok x=>exact hf x.1 x.2.1 x.2.2
theorem Nz.uD {α:Type} {b:Bool} {c:Int} {x:Ex α} (hc:c ≠ 0) (h:Nz x):Nz (uD b c x):=by
 cases b with
 | false=>exact .er hc
 | true=>exact h
theorem Nz.cond {α:Type} {b:Bool} {u v:Ex α} (h:Nz u) (h' : Nz v):Nz (cond b u v):=by
 cases b
 ·exact h'
 ·exact h
theorem Nz.uMk {nm:List ByteArray} {vis:List Nat} {a:ByteArray}:Nz (uMk nm vis a):=by
 unfold Go.Proofs.YtoegpkmhifmamaaGreatDoor.uMk;cases slotOf nm vis a with
 | none=>exact .ok _
 | some v=>exact .er (by decide)
theorem Nz.uCall {op:Int} {fr:ByteArray} {na:Nat} : ∀ {l:List DFunc} {i:Nat},Nz (uCall op fr na l i)
 | [],i=>.er (by decide)
 | .mk nm ps r fl v b :: l,i=>by
  unfold Go.Proofs.YtoegpkmhifmamaaGreatDoor.uCall;exact .cond (.cond (.cond (.ok _) (.er (by decide))) (.er (by decide))) .uCall
theorem Nz.uEs {nm:List ByteArray} {vis:List Nat} {l:List DExpr}:Nz (uEs nm vis l):=fun c h=>by rw [uEs_20 h]; decide
section
variable (fs:List DFunc) (f2:Int) (f3:Bool)
theorem uS_nz : ∀ n:Nat,
  (∀ s,szS s≤n→∀ lo nm vis,Nz (uS fs f2 f3 lo nm vis s)) ∧
  (∀ l,szSs l≤n→∀ lo nm vis,Nz (uSs fs f2 f3 lo nm vis l)) ∧
  (∀ c,szC c≤n→∀ lo nm vis,Nz (uC fs f2 f3 lo nm vis c)) ∧
  (∀ l,szCs l≤n→∀ lo nm vis,Nz (uCs fs f2 f3 lo nm vis l))
 | 0=>by
  refine ⟨fun s h=>?_,fun l h=>?_,fun c h=>?_,fun l h=>?_⟩
  ·have:=szS_pos s; omega
  ·cases l with
   | nil=>intro lo nm vis; simp only [uSs]; exact .ok _
   | cons s l=>have:=szS_pos s; simp only [szSs] at h; omega
  ·have:=szC_pos c; omega
  ·cases l with
   | nil=>intro lo nm vis; simp only [uCs]; exact .ok _
   | cons s l=>have:=szC_pos s; simp only [szCs] at h; omega
 | n + 1=>by
  obtain ⟨i1,i2,i3,i4⟩:=uS_nz n;have a1 : ∀ s,szS s≤n + 1→∀ lo nm vis,Nz (uS fs f2 f3 lo nm vis s):=by
   rintro ⟨op,name,s2,fr,s4,flag,l6,l7,l8,l9,l10⟩ h lo nm vis;simp only [szS] at h;have h7:=i2 l7 (by omega);have h8:=i2 l8 (by omega);have h9:=i2 l9 (by omega);have h10:=i4 l10 (by omega);simp only [uS,uB_eq,uI_eq];have hmk : ∀ nm vis,Nz (cond (seq name ⟨#[]⟩) (.ok (nm,vis,s2)) (uMk nm vis name):Ex (List ByteArray × List Nat × Int)):=fun nm vis=>.cond (.ok _) .uMk
   refine .eb .uEs fun r6=>.cond (.eb3 (h10 _ _ _) fun _ _ _=>.ok _) (.eb (.cond (.ok _) .uCall) fun ix=>?_)
   refine .cond ?_ (.cond (.uD (by decide) (.ok _)) (.cond (.uD (by decide) (.ok _)) (.cond (.uD (by decide) (.ok _)) (.cond (.eb3 (.eb3 (h7 _ _ _) fun _ _ _=>.ok _) fun _ _ _=>.ok _) ?_))))
   ·cases slotOf nm vis name with
    | none=>exact .er (by decide)
    | some v=>exact .ok _
   refine .cond (.eb3 (.eb3 (hmk _ _) fun _ _ _=>.eb3 (h7 _ _ _) fun _ _ _=>.ok _) fun _ _ _=>.ok _) ?_;refine .cond (.eb3 (.eb3 (hmk _ _) fun _ _ _=>.eb3 (h7 _ _ _) fun _ _ _=>.ok _) fun _ _ _=>.ok _) ?_;refine .cond (.eb3 (.eb3 (h7 _ _ _) fun _ _ _=>.ok _) fun _ _ _=>.eb3 (.eb3 (hmk _ _) fun _ _ _=>.eb3 (h8 _ _ _) fun _ _ _=>.ok _) fun _ _ _=>.eb3 (.eb3 (h9 _ _ _) fun _ _ _=>.ok _) fun _ _ _=>.ok _) ?_;exact .cond (.eb3 (.eb3 (h7 _ _ _) fun _ _ _=>.ok _) fun _ _ _=>.eb3 (.eb3 (h8 _ _ _) fun _ _ _=>.ok _) fun _ _ _=>.ok _) (.eb3 (hmk _ _) fun _ _ _=>.uD (by decide) (.ok _))
  have a3 : ∀ c,szC c≤n + 1→∀ lo nm vis,Nz (uC fs f2 f3 lo nm vis c):=by
   rintro ⟨kind,name,slot,es,b⟩ h lo nm vis;simp only [szC] at h;simp only [uC,uI_eq];exact .eb .uEs fun _=>.eb3 (.eb3 (.cond (.ok _) .uMk) fun _ _ _=>.eb3 (i2 b (by omega) _ _ _) fun _ _ _=>.ok _) fun _ _ _=>.ok _
  have a2 : ∀ l,szSs l≤n + 1→∀ lo nm vis,Nz (uSs fs f2 f3 lo nm vis l):=by
   intro l;induction l with
   | nil=>intro h lo nm vis; simp only [uSs]; exact .ok _
   | cons s l ih =>
    intro h lo nm vis;simp only [szSs] at h;simp only [uSs];exact .eb3 (a1 s (by omega) _ _ _) fun _ _ _=>.eb3 (ih (by omega) _ _ _) fun _ _ _=>.ok _
  have a4 : ∀ l,szCs l≤n + 1→∀ lo nm vis,Nz (uCs fs f2 f3 lo nm vis l):=by
   intro l;induction l with
   | nil=>intro h lo nm vis; simp only [uCs]; exact .ok _
   | cons s l ih =>
    intro h lo nm vis;simp only [szCs] at h;simp only [uCs];exact .eb3 (a3 s (by omega) _ _ _) fun _ _ _=>.eb3 (ih (by omega) _ _ _) fun _ _ _=>.ok _
  exact ⟨a1,a2,a3,a4⟩
end
theorem uPs_nz : ∀ (l:List DParam) (nm:List ByteArray) (vis:List Nat),Nz (uPs nm vis l)
 | [],nm,vis=>.ok _
 | .mk a kd :: l,nm,vis=>by
  unfold uPs;exact .eb3 .uMk fun _ _ _=>uPs_nz l _ _
theorem uFs_nz (fs:List DFunc) : ∀ l,Nz (uFs fs l)
 | []=>.ok _
 | .mk n ps res fl v b :: l=>by
  unfold uFs uF;exact .eb (.eb3 (uPs_nz _ _ _) fun _ _ _=>.eb3 ((uS_nz fs res fl (szSs b)).2.1 b (Nat.le_refl _) _ _ _) fun _ _ _=>.uD (by decide) (.ok _)) fun _=>.eb (uFs_nz fs l) fun _=>.ok _
theorem uP_err {p:DProgram} {c:Int} (h:uP p=.error c):c ≠ 0:=by
 obtain ⟨fs⟩:=p;refine (show Nz (uD (wf false (.mk fs)) 2 (uD (!dupF [] fs) 21 (uD (decide (f56_l2 fs=0)) (f56_l2 fs) (eb (uFs fs fs) fun x=>.ok (DProgram.mk x.1,x.2))))) from .uD (by decide) (.uD (by decide) ?_)) c h;cases hb:decide (f56_l2 fs=0) with
 | false=>exact .er (of_decide_eq_false hb)
 | true=>exact .eb (uFs_nz fs fs) fun _=>.ok _
def opsL:List (Int × Doperator):=(f50 0).getD []
theorem f50_eq (k:Nat):f50 k=some opsL:=rfl
theorem f75_l1_eq (k:Nat) (a:Int) : ∀ (l:List Int) (i:Nat),∃ r,f75_l1 k a l i=some r∧decide (r ≥ 0)=l.any (a == ·)
 | [],i=>⟨-1,rfl,rfl⟩
 | e :: l,i=>by
  unfold f75_l1;cases h:a == e
  ·obtain ⟨r,h1,h2⟩:=f75_l1_eq k a l (i + 1);exact ⟨r,h1,by simp [h,h2]⟩
  ·exact ⟨(i:Int),rfl,by simp [h]⟩
theorem f51_eq (k:Nat) (l:List Int) (a:Int):f51 k l a=some (l.any (a == ·)):=by
 unfold f51 f51_b f75 f75_b;obtain ⟨r,h1,h2⟩:=f75_l1_eq k a l 0;simp [h1,h2]
def kV (op a:Int):Int:=cond (op == 9 || op == 10) 2 (cond (op == 15) (cond (a != 1 && a != 3) (-1) a) (mcase (mget qI op opsL) (-1) (fun x=>match x with | .mk ks v=>cond (ks.any (a == ·)) v (-1))))
def kO (op:Int):List Int→Int
 | []=>-1
 | [a]=>cond (a == -1) (-1) (kV op a)
 | a :: b :: _=>cond (a == -1) (-1) (cond (b != a) (-1) (kV op a))
mutual
def kT (vs:List Int):DExpr→Int
 | .mk op _ _ slot l=>cond (op == 1) 1 (cond (op == 2) 2 (cond (op == 3) 3 (cond (op == 4) (vs[slot.toNat]?.getD 0) (kO op (kTs vs l)))))
def kTs (vs:List Int):List DExpr→List Int
 | []=>[]
 | e :: l=>kT vs e :: kTs vs l
end
mutual
def wvE (m:Nat):DExpr→Bool
 | .mk op _ _ slot l=>cond (op == 1 || op == 2 || op == 3) true (cond (op == 4) (decide (0≤slot) && decide (slot < (m:Int))) (l.length == 1 || l.length == 2)) && wvEs m l
def wvEs (m:Nat):List DExpr→Bool
 | []=>true
 | e :: l=>wvE m e && wvEs m l
end
theorem idxO_ok {vs:List Int} {s:Int} (h0:0≤s) (h1:s < (vs.length:Int)):idxO vs s=some (vs[s.toNat]?.getD 0):=by
 unfold idxO;rw [if_pos h0];have h:s.toNat < vs.length:=by omega
 rw [List.getElem?_eq_getElem h];rfl
theorem f33_j1_eq (k:Nat) (F:Fam33) (op a:Int) (q:Bool):f33_j1 k F op a q=some (cond q (-1) (kV op a)):=by
 unfold f33_j1 f33_j2 f33_j3 f33_j4 kV;simp only [f50_eq,f51_eq,Option.bind_some,List.any_nil];cases q with
 | true=>rfl
 | false =>
  cases h9:op == 9 <;> cases h10:op == 10 <;> simp only [cond_true,cond_false,Bool.or_false,Bool.false_or,Bool.or_true]
  cases h15:op == 15
  ·simp only [cond_false];cases mget qI op opsL with
   | none=>rfl
   | some x =>
    obtain ⟨ks,v⟩:=x;simp only [mcase];cases ks.any (a == ·) <;> rfl
  ·simp only [cond_true];cases a != 1 <;> cases a != 3 <;> rfl
theorem f33_fam (k:Nat) : ∀ (n:Nat) (e:DExpr) (vs:List Int),szE e≤n→wvE vs.length e=true→(fam33 k n).f33 e vs=some (kT vs e)
 | 0,.mk op num txt slot l,vs,hn,_=>by simp only [szE] at hn; omega
 | n + 1,.mk op num txt slot l,vs,hn,hv=>by
  have ih:=f33_fam k n;simp only [szE] at hn;unfold wvE at hv;rw [Bool.and_eq_true] at hv;obtain ⟨hv,hl⟩:=hv;show f33_b k (fam33 k n) (.mk op num txt slot l) vs=_;unfold f33_b kT;simp only;cases h1:op == 1 with
  | true=>rfl
  | false =>
   cases h2:op == 2 with
   | true=>rfl
   | false =>
    cases h3:op == 3 with
    | true=>rfl
    | false =>
     simp only [h1,h2,h3,Bool.or_false,cond_false] at hv;cases h4:op == 4 with
     | true =>
      rw [h4,cond_true,Bool.and_eq_true,decide_eq_true_eq,decide_eq_true_eq] at hv;simp only [cond_false,cond_true,idxO_ok hv.1 hv.2,Option.bind_some]
     | false =>
      rw [h4,cond_false] at hv;simp only [cond_false];rcases l with _ | ⟨e0,l⟩
      ·simp at hv
      ·simp only [wvEs,Bool.and_eq_true] at hl;simp only [szEs] at hn;have i0:idxO (e0 :: l) 0=some e0:=rfl;have g0:=ih e0 vs (by omega) hl.1;obtain ⟨b0,b1,b2,b3,b4⟩:=e0;simp only [i0,Option.bind_some,g0,f33_j1_eq,kTs];rcases l with _ | ⟨e1,l⟩
       ·simp only [kTs,kO];cases kT vs (.mk b0 b1 b2 b3 b4) == -1 <;> rfl
       ·obtain rfl:l=[]:=by
         cases l with
         | nil=>rfl
         | cons a l=>simp at hv
        simp only [wvEs,Bool.and_eq_true,Bool.and_true] at hl;simp only [szEs] at hn;have i1:idxO [DExpr.mk b0 b1 b2 b3 b4,e1] 1=some e1:=rfl;have g1:=ih e1 vs (by omega) hl.2;obtain ⟨c0,c1,c2,c3,c4⟩:=e1;simp only [i1,Option.bind_some,g1,kTs,kO];cases kT vs (.mk b0 b1 b2 b3 b4) == -1 <;> rfl
theorem f33_eq (k:Nat) (e:DExpr) (vs:List Int) (hk:szE e≤k) (hv:wvE vs.length e=true):f33 k e vs=some (kT vs e):=f33_fam k k e vs hk hv
def areK (vs:List Int):List DExpr→List Int→Bool
 | [],_=>true
 | e :: l,ks=>(kT vs e == ks.headD 0) && areK vs l ks.tail
theorem f84_l1_eq (k:Nat) (vs ks:List Int) : ∀ (l:List DExpr) (i:Nat),i + l.length≤ks.length→szEs l≤k→wvEs vs.length l=true→f84_l1 k vs ks l i=some (areK vs l (ks.drop i))
 | [],i,_,_,_=>rfl
 | .mk b0 b1 b2 b3 b4 :: l,i,hi,hk,hv=>by
  simp only [wvEs,Bool.and_eq_true] at hv;simp only [szEs] at hk;simp only [List.length_cons] at hi;have hlt:i < ks.length:=by omega
  obtain ⟨x,hx⟩ : ∃ x,ks[i]?=some x:=⟨_,List.getElem?_eq_getElem hlt⟩;have hd:ks.drop i=x :: ks.drop (i + 1):=by
   rw [List.drop_eq_getElem_cons hlt];rw [List.getElem?_eq_getElem hlt] at hx;rw [Option.some.inj hx]
  unfold f84_l1;have hi0:idxO ks (i:Int)=some x:=by unfold idxO; rw [if_pos (by omega)]; exact hx
  simp only [hi0,Option.bind_some,f33_eq k _ vs (by omega) hv.1,f84_l1_eq k vs ks l (i + 1) (by omega) (by omega) hv.2,hd,areK,List.headD_cons,List.tail_cons];rw [bne];cases kT vs (.mk b0 b1 b2 b3 b4) == x <;> rfl
theorem f84_eq (k:Nat) (fs:List DFunc) (a0:ByteArray) (a1:List DParam) (a2:Int) (a3:Bool) (a4:Int) (a5:List DStmt) (vs:List Int) (l:List DExpr) (ks:List Int) (hl:l.length≤ks.length) (hk:szEs l≤k) (hv:wvEs vs.length l=true) :
  f84 k (.mk (.mk fs) (.mk a0 a1 a2 a3 a4 a5) vs) l ks=some (areK vs l ks):=by
 unfold f84 f84_b;have:=f84_l1_eq k vs ks l 0 (by omega) hk hv;simpa using this
def wantsL:List (Int × List Int):=(f85 0).getD []
theorem f85_eq (k:Nat):f85 k=some wantsL:=rfl
def casesL:List (Int × List Int):=mput qI 3 [1] (mput qI 2 [4,1] (mput qI 1 [4] ([]:List (Int × (List Int)))))
def slotIn (m:Nat) (s:Int):Bool:=decide (0≤s) && decide (s < (m:Int))
def kindsP:List DParam→List Int
 | []=>[]
 | .mk _ k :: l=>k :: kindsP l
theorem kindsP_len : ∀ l,(kindsP l).length=l.length
 | []=>rfl
 | .mk _ k :: l=>by simp [kindsP,kindsP_len l]
theorem f26_l1_eq (k:Nat) : ∀ (l:List DParam) (i:Nat) (xs:List Int),(xs.length + l.length) * 8≤140737488355328→f26_l1 k l i xs=some (xs ++ kindsP l)
 | [],i,xs,_=>by simp [f26_l1,kindsP]
 | .mk a b :: l,i,xs,h=>by
  simp only [List.length_cons] at h;unfold f26_l1;rw [show ∀ (z:Option (List Int)),guardB (decide ((xs.length + 1) * 8≤140737488355328)) z=z from fun z=>by unfold guardB; rw [decide_eq_true (by omega)]; rfl];rw [f26_l1_eq k l (i + 1) (xs ++ [b]) (by simp only [List.length_append,List.length_cons,List.length_nil]; omega)];simp [kindsP]
theorem f26_eq (k:Nat) (a0:ByteArray) (ps:List DParam) (a2:Int) (a3:Bool) (a4:Int) (a5:List DStmt) (h:ps.length≤1000):f26 k (.mk a0 ps a2 a3 a4 a5)=some (kindsP ps):=by
 unfold f26 f26_b;have:=f26_l1_eq k ps 0 [] (by simp; omega);simpa using this
def parF:DFunc→List DParam | .mk _ ps _ _ _ _=>ps
def resF' : DFunc→Int | .mk _ _ r _ _ _=>r
def kMade (fs:List DFunc) (vs:List Int) (op:Int) (name:ByteArray) (ix:Int) (l6:List DExpr):Option Int :=
 cond (op == 1) (cond ((kTs vs l6).headD 0 == -1) none (some ((kTs vs l6).headD 0)))
 (cond (op == 14) (cond ((kTs vs l6).headD 0 == -1) none (some 1))
 (cond (op == 3 || op == 4 || op == 28)
  (match fs[ix.toNat]? with
   | none=>none
   | some f=>cond (!areK vs l6 (kindsP (parF f)) || (op == 3 && (!seq name ⟨#[]⟩ && resF' f == 0))) none (cond (op == 4) (cond (resF' f != 1 && resF' f != 0) none (some 5)) (cond (op == 28) (some 1) (some (resF' f)))))
 (cond (op == 7) (some 4) (cond (op == 8) (some 6) (cond (op == 24) (some 3) (some 1))))))
def kWant (vs:List Int) (op:Int) (l6:List DExpr):Bool:=match mget qI op wantsL with | none=>true | some ws=>areK vs l6 ws
mutual
def yS (fs:List DFunc) (res:Int):List Int→DStmt→Option (List Int)
 | vs,.mk op name slot fr ix flag l6 l7 l8 l9 l10 =>
  cond (op == 2) (cond ((kTs vs l6).headD 0 == (vs[slot.toNat]?.getD 0)) (some vs) none)
  (cond (op == 17) (cond (areK vs l6 [res]) (some vs) none)
  (match kMade fs vs op name ix l6 with
   | none=>none
   | some made=>cond (kWant vs op l6) ((yCs fs res (cond (seq name ⟨#[]⟩) vs (vs.set slot.toNat made)) l10).bind fun v=>(ySs fs res v l7).bind fun v=>(ySs fs res v l8).bind fun v=>ySs fs res v l9) none))
def ySs (fs:List DFunc) (res:Int):List Int→List DStmt→Option (List Int)
 | vs,[]=>some vs
 | vs,s :: l=>(yS fs res vs s).bind fun v=>ySs fs res v l
def yCs (fs:List DFunc) (res:Int):List Int→List DCase→Option (List Int)
 | vs,[]=>some vs
 | vs,.mk kind name slot es b :: l=>cond (areK vs es ((mget qI kind casesL).getD [])) ((ySs fs res (cond (seq name ⟨#[]⟩) vs (vs.set slot.toNat 1)) b).bind fun v=>yCs fs res v l) none
end
mutual
def wvS (fs:List DFunc) (m:Nat):DStmt→Bool
 | .mk op name slot fr ix flag l6 l7 l8 l9 l10=>wvEs m l6 && ((op != 1 && op != 14 && op != 2 || decide (1≤l6.length)) && ((op != 17 || decide (l6.length≤1)) && ((op != 2 && seq name ⟨#[]⟩ || slotIn m slot) &&
  (cond (op == 3 || op == 4 || op == 28) (decide (0≤ix) && (match fs[ix.toNat]? with | none=>false | some f=>decide (l6.length≤(parF f).length) && decide ((parF f).length≤1000))) true &&
  ((match mget qI op wantsL with | none=>true | some ws=>decide (l6.length≤ws.length)) && (vSs fs m l7 && (vSs fs m l8 && (vSs fs m l9 && vCs fs m l10))))))))
def vSs (fs:List DFunc) (m:Nat):List DStmt→Bool
 | []=>true
 | s :: l=>wvS fs m s && vSs fs m l
def vCs (fs:List DFunc) (m:Nat):List DCase→Bool
 | []=>true
 | .mk kind name slot es b :: l=>wvEs m es && (decide (es.length≤((mget qI kind casesL).getD []).length) && ((seq name ⟨#[]⟩ || slotIn m slot) && (vSs fs m b && vCs fs m l)))
end
section
variable (fs:List DFunc) (a0:ByteArray) (a1:List DParam) (a2:Int) (a3:Bool) (a4:Int) (a5:List DStmt)
abbrev Stt (vs:List Int):Dchecker:=.mk (.mk fs) (.mk a0 a1 a2 a3 a4 a5) vs
def Rs (r:Option (Dchecker × Bool)) (u:Option (List Int)) (m:Nat):Prop:=match u with
 | none=>∃ vs',vs'.length=m∧r=some (Stt fs a0 a1 a2 a3 a4 a5 vs',false)
 | some w=>w.length=m∧r=some (Stt fs a0 a1 a2 a3 a4 a5 w,true)
variable {fs a0 a1 a2 a3 a4 a5}
theorem slot_idx {vs:List Int} {s:Int} (h:slotIn vs.length s=true):idxO vs s=some (vs[s.toNat]?.getD 0):=by
 unfold slotIn at h;rw [Bool.and_eq_true,decide_eq_true_eq,decide_eq_true_eq] at h;exact idxO_ok h.1 h.2
variable {k:Nat} {F:Fam36} {N:Nat} (HB : ∀ (l:List DStmt) (vs:List Int),szSs l≤N→vSs fs vs.length l=true→Rs fs a0 a1 a2 a3 a4 a5 (F.f36 (Stt fs a0 a1 a2 a3 a4 a5 vs) l) (ySs fs a2 vs l) vs.length)
include HB
theorem rest_eq {l7 l8 l9:List DStmt} {vs:List Int} (h7:szSs l7≤N) (h8:szSs l8≤N) (h9:szSs l9≤N) (v7:vSs fs vs.length l7=true) (v8:vSs fs vs.length l8=true) (v9:vSs fs vs.length l9=true) (i:Nat) :
  Rs fs a0 a1 a2 a3 a4 a5 (f57_l1 k F l7 l8 l9 [] i fs a0 a1 a2 a3 a4 a5 vs) ((ySs fs a2 vs l7).bind fun v=>(ySs fs a2 v l8).bind fun v=>ySs fs a2 v l9) vs.length:=by
 unfold f57_l1 f57_j5;have g7:=HB l7 vs h7 v7;cases e7:ySs fs a2 vs l7 with
 | none =>
  rw [e7] at g7;obtain ⟨w,hw,hr⟩:=g7;simp only [hr,Option.bind_some,cond_false];exact ⟨w,hw,rfl⟩
 | some w7 =>
  rw [e7] at g7;obtain ⟨hw7,hr⟩:=g7;simp only [hr,Option.bind_some,cond_true];have g8:=HB l8 w7 h8 (by rw [hw7]; exact v8);cases e8:ySs fs a2 w7 l8 with
  | none =>
   rw [e8] at g8;obtain ⟨w,hw,hr⟩:=g8;simp only [hr,Option.bind_some,cond_false];exact ⟨w,by omega,rfl⟩
  | some w8 =>
   rw [e8] at g8;obtain ⟨hw8,hr⟩:=g8;simp only [hr,Option.bind_some,cond_true];have g9:=HB l9 w8 h9 (by rw [hw8,hw7]; exact v9);cases e9:ySs fs a2 w8 l9 with
   | none =>
    rw [e9] at g9;obtain ⟨w,hw,hr⟩:=g9;simp only [hr,Option.bind_some];exact ⟨w,by omega,rfl⟩
   | some w9 =>
    rw [e9] at g9;obtain ⟨hw9,hr⟩:=g9;simp only [hr,Option.bind_some];exact ⟨by omega,rfl⟩
theorem cases_eq {l7 l8 l9:List DStmt} (h7:szSs l7≤N) (h8:szSs l8≤N) (h9:szSs l9≤N) : ∀ (l10:List DCase) (i:Nat) (vs:List Int),szCs l10≤N→szCs l10≤k→vSs fs vs.length l7=true→vSs fs vs.length l8=true→vSs fs vs.length l9=true→vCs fs vs.length l10=true →
  Rs fs a0 a1 a2 a3 a4 a5 (f57_l1 k F l7 l8 l9 l10 i fs a0 a1 a2 a3 a4 a5 vs) ((yCs fs a2 vs l10).bind fun v=>(ySs fs a2 v l7).bind fun v=>(ySs fs a2 v l8).bind fun v=>ySs fs a2 v l9) vs.length
 | [],i,vs,_,_,v7,v8,v9,_=>by simpa only [yCs,Option.bind_some] using rest_eq HB h7 h8 h9 v7 v8 v9 i
 | .mk kind name slot es b :: l,i,vs,hn,hk,v7,v8,v9,hv=>by
  have ih:=cases_eq h7 h8 h9 l (i + 1);simp only [szCs,szC] at hn hk;simp only [vCs,Bool.and_eq_true,decide_eq_true_eq] at hv;obtain ⟨q1,q2,q3,q4,q5⟩:=hv;have hA:=f84_eq k fs a0 a1 a2 a3 a4 a5 vs es ((mget qI kind casesL).getD []) q2 (by omega) q1;have key : ∀ vs1:List Int,vs1.length=vs.length→Rs fs a0 a1 a2 a3 a4 a5 (f57_j7 k F fs a0 a1 a2 a3 a4 a5 i b vs1 (f57_l1 k F l7 l8 l9 l)) (((ySs fs a2 vs1 b).bind fun v=>yCs fs a2 v l).bind fun v=>(ySs fs a2 v l7).bind fun v=>(ySs fs a2 v l8).bind fun v=>ySs fs a2 v l9) vs.length:=by
   intro vs1 hl;unfold f57_j7;have gb:=HB b vs1 (by omega) (by rw [hl]; exact q4);cases eb:ySs fs a2 vs1 b with
   | none =>
    rw [eb] at gb;obtain ⟨w,hw,hr⟩:=gb;simp only [hr,Option.bind_some,Bool.not_false,cond_true];exact ⟨w,by omega,rfl⟩
   | some w =>
    rw [eb] at gb;obtain ⟨hw,hr⟩:=gb;simp only [hr,Option.bind_some,Bool.not_true,cond_false];have hwl:w.length=vs.length:=by omega
    have:=ih w (by omega) (by omega) (by rw [hwl]; exact v7) (by rw [hwl]; exact v8) (by rw [hwl]; exact v9) (by rw [hwl]; exact q5);rw [hwl] at this;exact this
  have key6:Rs fs a0 a1 a2 a3 a4 a5 (f57_j6 k F fs a0 a1 a2 a3 a4 a5 vs i name slot b (f57_l1 k F l7 l8 l9 l)) (((ySs fs a2 (cond (seq name ⟨#[]⟩) vs (vs.set slot.toNat 1)) b).bind fun v=>yCs fs a2 v l).bind fun v=>(ySs fs a2 v l7).bind fun v=>(ySs fs a2 v l8).bind fun v=>ySs fs a2 v l9) vs.length:=by
   unfold f57_j6;cases hs:seq name ⟨#[]⟩ with
   | true =>
    simp only [Bool.not_true,cond_false,cond_true];exact key vs rfl
   | false =>
    rw [hs,Bool.false_or] at q3;simp only [Bool.not_false,cond_false,cond_true,slot_idx q3,Option.bind_some];exact key _ (List.length_set ..)
  have goal : ∀ ks:List Int,ks=(mget qI kind casesL).getD []→Rs fs a0 a1 a2 a3 a4 a5 ((f84 k (Stt fs a0 a1 a2 a3 a4 a5 vs) es ks).bind fun r=>cond (!r) (some (Stt fs a0 a1 a2 a3 a4 a5 vs,false)) (f57_j6 k F fs a0 a1 a2 a3 a4 a5 vs i name slot b (f57_l1 k F l7 l8 l9 l))) ((yCs fs a2 vs (.mk kind name slot es b :: l)).bind fun v=>(ySs fs a2 v l7).bind fun v=>(ySs fs a2 v l8).bind fun v=>ySs fs a2 v l9) vs.length:=by
   intro ks hks;subst hks;rw [hA];simp only [yCs,Option.bind_some];cases areK vs es ((mget qI kind casesL).getD []) with
   | true=>simpa only [Bool.not_true,cond_false,cond_true] using key6
   | false=>exact ⟨vs,rfl,rfl⟩
  unfold f57_l1;cases hg:mget qI kind casesL with
  | none =>
   have:=goal [] (by rw [hg]; rfl);have hg' : mget qI kind (mput qI 3 [1] (mput qI 2 [4,1] (mput qI 1 [4] ([]:List (Int × (List Int))))))=none:=hg;rw [hg'];exact this
  | some ws =>
   have:=goal ws (by rw [hg]; rfl);have hg' : mget qI kind (mput qI 3 [1] (mput qI 2 [4,1] (mput qI 1 [4] ([]:List (Int × (List Int))))))=some ws:=hg;rw [hg'];exact this
end
end Go.Proofs.YtoegpkmhifmamaaGreatDoor
namespace Go.Proofs.YtoegpkmhifmamaaGreatDoor
open Go
section
variable {fs:List DFunc} {a0:ByteArray} {a1:List DParam} {a2:Int} {a3:Bool} {a4:Int} {a5:List DStmt} {k:Nat} {F:Fam36}
variable {op:Int} {name:ByteArray} {slot:Int} {fr:ByteArray} {ix flag:Int} {l6:List DExpr} {l7 l8 l9:List DStmt} {l10:List DCase} {vs:List Int}
def yTail (fs:List DFunc) (res:Int) (vs:List Int) (name:ByteArray) (slot made:Int) (l7 l8 l9:List DStmt) (l10:List DCase):Option (List Int) :=
 (yCs fs res (cond (seq name ⟨#[]⟩) vs (vs.set slot.toNat made)) l10).bind fun v=>(ySs fs res v l7).bind fun v=>(ySs fs res v l8).bind fun v=>ySs fs res v l9
theorem rs_false (m:Nat) (h:vs.length=m):Rs fs a0 a1 a2 a3 a4 a5 (some (Stt fs a0 a1 a2 a3 a4 a5 vs,false)) none m:=⟨vs,h,rfl⟩
variable (HJ : ∀ (i:Nat) (v:List Int),v.length=vs.length→Rs fs a0 a1 a2 a3 a4 a5 (f57_l1 k F l7 l8 l9 l10 i fs a0 a1 a2 a3 a4 a5 v) ((yCs fs a2 v l10).bind fun v=>(ySs fs a2 v l7).bind fun v=>(ySs fs a2 v l8).bind fun v=>ySs fs a2 v l9) vs.length)
variable (hs:(op != 2 && seq name ⟨#[]⟩ || slotIn vs.length slot)=true) (h2:(op == 2)=false) (hv:wvEs vs.length l6=true) (hk:szEs l6≤k) (hw:(match mget qI op wantsL with | none=>true | some ws=>decide (l6.length≤ws.length))=true)
include HJ hs h2
theorem j3_eq (made:Int):Rs fs a0 a1 a2 a3 a4 a5 (f57_j3 k F fs a0 a1 a2 a3 a4 a5 vs name slot l7 l8 l9 l10 made false) (yTail fs a2 vs name slot made l7 l8 l9 l10) vs.length:=by
 unfold f57_j3 f57_j4 yTail;simp only [cond_false];have hb:(op != 2)=true:=by rw [bne,h2]; rfl
 rw [hb,Bool.true_and] at hs;cases hn:seq name ⟨#[]⟩ with
 | true =>
  simp only [Bool.not_true,cond_false,cond_true];exact HJ 0 vs rfl
 | false =>
  rw [hn,Bool.false_or] at hs;simp only [Bool.not_false,cond_true,cond_false,slot_idx hs,Option.bind_some];exact HJ 0 _ (List.length_set ..)
include hv hk hw
theorem j1_eq (made:Int):Rs fs a0 a1 a2 a3 a4 a5 (f57_j1 k F fs a0 a1 a2 a3 a4 a5 vs op name slot l6 l7 l8 l9 l10 made) (cond (kWant vs op l6) (yTail fs a2 vs name slot made l7 l8 l9 l10) none) vs.length:=by
 have h3:=j3_eq HJ hs h2 made;unfold f57_j1 f57_j2 kWant;simp only [f85_eq,Option.bind_some];cases hg:mget qI op wantsL with
 | none =>
  simp only [mcase,cond_false,cond_true];exact h3
 | some ws =>
  rw [hg] at hw;simp only [mcase,cond_true,f84_eq k fs a0 a1 a2 a3 a4 a5 vs l6 ws (of_decide_eq_true hw) hk hv,Option.bind_some];cases areK vs l6 ws with
  | true=>simpa only [Bool.not_true,cond_true] using h3
  | false =>
   unfold f57_j3;simp only [Bool.not_false,cond_true,cond_false];exact rs_false _ rfl
theorem j10_eq (made:Int):Rs fs a0 a1 a2 a3 a4 a5 (f57_j10 k F fs a0 a1 a2 a3 a4 a5 vs op name slot l6 l7 l8 l9 l10 made) (cond (kWant vs op l6) (yTail fs a2 vs name slot (cond (op == 28) 1 made) l7 l8 l9 l10) none) vs.length:=by
 have h1:=fun made=>j1_eq HJ hs h2 hv hk hw made
 unfold f57_j10;cases op == 28 with
 | true=>exact h1 1
 | false=>exact h1 made
theorem j9_eq (res:Int) (q:Bool):Rs fs a0 a1 a2 a3 a4 a5 (f57_j9 k F fs a0 a1 a2 a3 a4 a5 vs op name slot l6 l7 l8 l9 l10 res q)
  (match (cond q none (cond (op == 4) (cond (res != 1 && res != 0) none (some 5)) (cond (op == 28) (some 1) (some res))):Option Int) with | none=>none | some made=>cond (kWant vs op l6) (yTail fs a2 vs name slot made l7 l8 l9 l10) none) vs.length:=by
 have h10:=fun made=>j10_eq HJ hs h2 hv hk hw made
 unfold f57_j9;cases q with
 | true=>exact rs_false _ rfl
 | false =>
  simp only [cond_false];cases h4:op == 4 with
  | true =>
   have h28:(op == 28)=false:=by
    obtain rfl:op=4:=by simpa using h4
    rfl
   have h5:=h10 5;rw [h28] at h5;unfold f57_j11;cases e1:res != 1 with
   | true =>
    simp only [cond_true,Bool.true_and];cases e0:res != 0 with
    | true=>exact rs_false _ rfl
    | false=>simpa only [cond_false] using h5
   | false=>simpa only [cond_true,cond_false,Bool.false_and] using h5
  | false =>
   have h5:=h10 res;simp only [cond_false];cases h28:op == 28 with
   | true=>rw [h28] at h5; simpa only [cond_true] using h5
   | false=>rw [h28] at h5; simpa only [cond_false] using h5
theorem j8_eq (hc:(cond (op == 3 || op == 4 || op == 28) (decide (0≤ix) && (match fs[ix.toNat]? with | none=>false | some f=>decide (l6.length≤(parF f).length) && decide ((parF f).length≤1000))) true)=true) (h1:(op == 1)=false) (h14:(op == 14)=false) :
  Rs fs a0 a1 a2 a3 a4 a5 (f57_j8 k F fs a0 a1 a2 a3 a4 a5 vs op name slot ix l6 l7 l8 l9 l10 (op == 3 || op == 4 || op == 28))
   (match kMade fs vs op name ix l6 with | none=>none | some made=>cond (kWant vs op l6) (yTail fs a2 vs name slot made l7 l8 l9 l10) none) vs.length:=by
 have g1:=fun made=>j1_eq HJ hs h2 hv hk hw made
 have g9:=fun res q=>j9_eq HJ hs h2 hv hk hw res q
 unfold f57_j8 kMade;simp only [h1,h14,cond_false];cases hq:(op == 3 || op == 4 || op == 28) with
 | true =>
  rw [hq,cond_true,Bool.and_eq_true,decide_eq_true_eq] at hc;obtain ⟨hx,hc⟩:=hc;cases hf:fs[ix.toNat]? with
  | none=>rw [hf] at hc; simp at hc
  | some f =>
   rw [hf] at hc;simp only [Bool.and_eq_true,decide_eq_true_eq] at hc;have hi:idxO fs ix=some f:=by unfold idxO; rw [if_pos hx]; exact hf
   obtain ⟨b0,b1,b2,b3,b4,b5⟩:=f;have hlen:l6.length≤(kindsP b1).length:=by rw [kindsP_len]; exact hc.1
   simp only [cond_true,hi,Option.bind_some,f26_eq k b0 b1 b2 b3 b4 b5 hc.2,f84_eq k fs a0 a1 a2 a3 a4 a5 vs l6 (kindsP b1) hlen hk hv,parF,resF'];cases areK vs l6 (kindsP b1) with
   | false =>
    simp only [Bool.not_false,cond_true,Bool.true_or];exact g9 b2 true
   | true =>
    simp only [Bool.not_true,cond_false,Bool.false_or];cases h3:op == 3 with
    | true =>
     cases hn:seq name ⟨#[]⟩ with
     | true =>
      simp only [Bool.not_true,cond_true,cond_false,Bool.false_and,Bool.true_and];exact g9 b2 false
     | false =>
      simp only [Bool.not_false,cond_true,Bool.true_and];exact g9 b2 (b2 == 0)
    | false =>
     simp only [cond_false,Bool.false_and];exact g9 b2 false
 | false =>
  simp only [cond_false];cases op == 7 with
  | true=>exact g1 4
  | false =>
   cases op == 8 with
   | true=>exact g1 6
   | false =>
    cases op == 24 with
    | true=>exact g1 3
    | false=>exact g1 1
end
section
variable {fs:List DFunc} {a0:ByteArray} {a1:List DParam} {a2:Int} {a3:Bool} {a4:Int} {a5:List DStmt} {k:Nat} {F:Fam36} {N:Nat}
variable (HB : ∀ (l:List DStmt) (vs:List Int),szSs l≤N→vSs fs vs.length l=true→Rs fs a0 a1 a2 a3 a4 a5 (F.f36 (Stt fs a0 a1 a2 a3 a4 a5 vs) l) (ySs fs a2 vs l) vs.length)
include HB
theorem stmt_eq (s:DStmt) (vs:List Int) (hn:szS s≤N + 1) (hk:szS s≤k) (h:wvS fs vs.length s=true):Rs fs a0 a1 a2 a3 a4 a5 (f57_b k F (Stt fs a0 a1 a2 a3 a4 a5 vs) s) (yS fs a2 vs s) vs.length:=by
 obtain ⟨op,name,slot,fr,ix,flag,l6,l7,l8,l9,l10⟩:=s;simp only [szS] at hn hk;simp only [wvS,Bool.and_eq_true] at h;obtain ⟨hv,ha,hr,hs,hc,hw,v7,v8,v9,v10⟩:=h;have HJ : ∀ (i:Nat) (v:List Int),v.length=vs.length→Rs fs a0 a1 a2 a3 a4 a5 (f57_l1 k F l7 l8 l9 l10 i fs a0 a1 a2 a3 a4 a5 v) ((yCs fs a2 v l10).bind fun v=>(ySs fs a2 v l7).bind fun v=>(ySs fs a2 v l8).bind fun v=>ySs fs a2 v l9) vs.length:=by
  intro i v hl;have:=cases_eq HB (l7:=l7) (l8:=l8) (l9:=l9) (k:=k) (by omega) (by omega) (by omega) l10 i v (by omega) (by omega) (by rw [hl]; exact v7) (by rw [hl]; exact v8) (by rw [hl]; exact v9) (by rw [hl]; exact v10);rw [hl] at this;exact this
 have hk6:szEs l6≤k:=by omega
 unfold f57_b yS;simp only;have first:1≤l6.length→∃ e,idxO l6 0=some e∧f33 k e vs=some ((kTs vs l6).headD 0):=by
  intro hl;cases l6 with
  | nil=>simp at hl
  | cons e l =>
   simp only [wvEs,Bool.and_eq_true] at hv;simp only [szEs] at hk6;exact ⟨e,rfl,f33_eq k e vs (by omega) hv.1⟩
 cases h1:op == 1 with
 | true =>
  obtain rfl:op=1:=by simpa using h1
  obtain ⟨⟨b0,b1,b2,b3,b4⟩,e1,e2⟩:=first (by simpa using ha);have g1:=fun made=>j1_eq (a2:=a2) HJ hs rfl hv hk6 hw made
  simp only [cond_true,e1,Option.bind_some,e2];unfold kMade;show Rs fs a0 a1 a2 a3 a4 a5 _ (match (cond ((kTs vs l6).headD 0 == -1) none (some ((kTs vs l6).headD 0)):Option Int) with | none=>none | some made=>cond (kWant vs 1 l6) (yTail fs a2 vs name slot made l7 l8 l9 l10) none) vs.length;cases (kTs vs l6).headD 0 == -1 with
  | true=>exact rs_false _ rfl
  | false=>exact g1 _
 | false =>
  simp only [cond_false];cases h14:op == 14 with
  | true =>
   obtain rfl:op=14:=by simpa using h14
   obtain ⟨⟨b0,b1,b2,b3,b4⟩,e1,e2⟩:=first (by simpa using ha);have g1:=fun made=>j1_eq (a2:=a2) HJ hs rfl hv hk6 hw made
   simp only [cond_true,e1,Option.bind_some,e2];unfold kMade;show Rs fs a0 a1 a2 a3 a4 a5 _ (match (cond ((kTs vs l6).headD 0 == -1) none (some 1):Option Int) with | none=>none | some made=>cond (kWant vs 14 l6) (yTail fs a2 vs name slot made l7 l8 l9 l10) none) vs.length;cases (kTs vs l6).headD 0 == -1 with
   | true=>exact rs_false _ rfl
   | false=>exact g1 _
  | false =>
   simp only [cond_false];cases h2:op == 2 with
   | true =>
    obtain rfl:op=2:=by simpa using h2
    obtain ⟨⟨b0,b1,b2,b3,b4⟩,e1,e2⟩:=first (by simpa using ha);have hs' : slotIn vs.length slot=true:=by simpa using hs
    simp only [cond_true,e1,Option.bind_some,slot_idx hs',e2];cases (kTs vs l6).headD 0 == vs[slot.toNat]?.getD 0 with
    | true=>exact ⟨rfl,rfl⟩
    | false=>exact rs_false _ rfl
   | false =>
    simp only [cond_false];cases h17:op == 17 with
    | true =>
     obtain rfl:op=17:=by simpa using h17
     have hr' : l6.length≤[a2].length:=by simpa using hr
     simp only [cond_true,f84_eq k fs a0 a1 a2 a3 a4 a5 vs l6 [a2] hr' hk6 hv,Option.bind_some];cases areK vs l6 [a2] with
     | true=>exact ⟨rfl,rfl⟩
     | false=>exact rs_false _ rfl
    | false =>
     have g8:=j8_eq (a2:=a2) (ix:=ix) HJ hs h2 hv hk6 hw hc h1 h14;simp only [cond_false];have e : ∀ (x y z:Option (Dchecker × Bool)),(cond (op == 3) (f57_j8 k F fs a0 a1 a2 a3 a4 a5 vs op name slot ix l6 l7 l8 l9 l10 (op == 3)) (cond (op == 4) (f57_j8 k F fs a0 a1 a2 a3 a4 a5 vs op name slot ix l6 l7 l8 l9 l10 (op == 4)) (f57_j8 k F fs a0 a1 a2 a3 a4 a5 vs op name slot ix l6 l7 l8 l9 l10 (op == 28))))=f57_j8 k F fs a0 a1 a2 a3 a4 a5 vs op name slot ix l6 l7 l8 l9 l10 (op == 3 || op == 4 || op == 28):=by
      intro _ _ _;cases op == 3 <;> cases op == 4 <;> cases op == 28 <;> rfl
     have e':=e none none none;cases h3:op == 3 <;> cases h4:op == 4 <;> rw [h3,h4] at e' g8 <;> simp only [cond_true,cond_false,Bool.true_or,Bool.or_true,Bool.false_or,Bool.or_false] at e' g8 ⊢ <;> exact g8
omit HB in
theorem block_eq (hf57 : ∀ (s:DStmt) (vs:List Int),szS s≤N→wvS fs vs.length s=true→Rs fs a0 a1 a2 a3 a4 a5 (F.f57 (Stt fs a0 a1 a2 a3 a4 a5 vs) s) (yS fs a2 vs s) vs.length) : ∀ (l:List DStmt) (i:Nat) (vs:List Int),szSs l≤N→vSs fs vs.length l=true→Rs fs a0 a1 a2 a3 a4 a5 (f36_l1 k F l i fs a0 a1 a2 a3 a4 a5 vs) (ySs fs a2 vs l) vs.length
 | [],i,vs,_,_=>⟨rfl,rfl⟩
 | .mk op name slot fr ix flag l6 l7 l8 l9 l10 :: l,i,vs,hn,hv=>by
  simp only [szSs] at hn;simp only [vSs,Bool.and_eq_true] at hv;have ih:=block_eq hf57 l (i + 1);have g:=hf57 (.mk op name slot fr ix flag l6 l7 l8 l9 l10) vs (by omega) hv.1;unfold f36_l1 ySs;cases e:yS fs a2 vs (.mk op name slot fr ix flag l6 l7 l8 l9 l10) with
  | none =>
   rw [e] at g;obtain ⟨w,hw,hr⟩:=g;simp only [hr,Option.bind_some,Option.bind_none,Bool.not_false,cond_true];exact ⟨w,hw,rfl⟩
  | some w =>
   rw [e] at g;obtain ⟨hw,hr⟩:=g;simp only [hr,Option.bind_some,Bool.not_true,cond_false];have:=ih w (by omega) (by rw [hw]; exact hv.2);rw [hw] at this;exact this
end
def bodyC:DCase→List DStmt | .mk _ _ _ _ b=>b
theorem f92_l1_eq (k:Nat) : ∀ (l:List DCase) (i:Nat) (xs:List (List DStmt)),xs.length + l.length≤1000000→f92_l1 k l i xs=some (xs ++ l.map bodyC)
 | [],i,xs,_=>by simp [f92_l1]
 | .mk a b c d e :: l,i,xs,h=>by
  simp only [List.length_cons] at h;unfold f92_l1;rw [show ∀ (z:Option (List (List DStmt))),guardB (decide ((xs.length + 1) * 24≤140737488355328)) z=z from fun z=>by unfold guardB; rw [decide_eq_true (by omega)]; rfl];rw [f92_l1_eq k l (i + 1) (xs ++ [e]) (by simp only [List.length_append,List.length_cons,List.length_nil]; omega)];simp [bodyC]
theorem f92_eq (k:Nat) (op:Int) (name:ByteArray) (slot:Int) (fr:ByteArray) (ix flag:Int) (l6:List DExpr) (l7 l8 l9:List DStmt) (l10:List DCase) (h:l10.length≤100000) :
  f92 k (.mk op name slot fr ix flag l6 l7 l8 l9 l10)=some (l7 :: l8 :: l9 :: l10.map bodyC):=by
 unfold f92 f92_b;simp only;rw [f92_l1_eq k l10 0 [l7,l8,l9] (by simp; omega)];rfl
mutual
def bkS:DStmt→Bool
 | .mk op _ _ _ _ flag _ l7 l8 l9 l10=>cond (op == 21 || op == 28) false (op == 18 || (op == 6 && flag == 1) || (bkL l7 || (bkL l8 || (bkL l9 || bkC l10))))
def bkL:List DStmt→Bool
 | []=>false
 | s :: l=>bkS s || bkL l
def bkC:List DCase→Bool
 | []=>false
 | .mk _ _ _ _ b :: l=>bkL b || bkC l
end
theorem bkC_any : ∀ l,bkC l=(l.map bodyC).any bkL
 | []=>rfl
 | .mk a b c d e :: l=>by simp [bkC,bkC_any l,bodyC]
theorem bodies_le : ∀ (l:List DCase) (b:List DStmt),b ∈ l.map bodyC→szSs b≤szCs l
 | [],b,h=>by simp at h
 | .mk a1 a2 a3 es e :: l,b,h=>by
  simp only [List.map_cons,bodyC,List.mem_cons] at h;simp only [szCs,szC];rcases h with rfl | h
  ·omega
  ·have:=bodies_le l b h; omega
theorem ix_any {α:Type} {g:List α→Nat→Option Int} {h:α→Bool} (g0 : ∀ i,g [] i=some (-1)) (P:α→Prop) (g1 : ∀ e l i,P e→g (e :: l) i=cond (h e) (some (i:Int)) (g l (i + 1))) :
  ∀ (l:List α) (i:Nat),(∀ e ∈ l,P e)→∃ r,g l i=some r∧decide (r ≥ 0)=l.any h
 | [],i,_=>⟨-1,g0 i,rfl⟩
 | e :: l,i,hp=>by
  rw [g1 e l i (hp e (by simp))];cases he:h e with
  | true=>exact ⟨(i:Int),rfl,by simp [he]⟩
  | false =>
   obtain ⟨r,h1,h2⟩:=ix_any g0 P g1 l (i + 1) (fun x hx=>hp x (by simp [hx]));exact ⟨r,h1,by simp [he,h2]⟩
theorem bkL_any : ∀ l,bkL l=l.any bkS
 | []=>rfl
 | s :: l=>by simp [bkL,bkL_any l]
theorem mem_le : ∀ (l:List DStmt) (s:DStmt),s ∈ l→szS s≤szSs l
 | [],s,h=>by simp at h
 | x :: l,s,h=>by
  simp only [szSs];rcases List.mem_cons.1 h with rfl | h
  ·omega
  ·have:=mem_le l s h; omega
theorem f63_fam (k:Nat) : ∀ N:Nat,(∀ (l:List DStmt) (n:Nat),szSs l≤N→N≤100000→6 * szSs l + 3≤n→(fam63 k n).f63 l=some (bkL l))∧(∀ (s:DStmt) (n:Nat),szS s≤N→N≤100000→6 * szS s≤n→(fam63 k n).f90 s=some (bkS s)):=by
 intro N;induction N with
 | zero =>
  refine ⟨fun l n h _ hn=>?_,fun s n h _ _=>?_⟩
  ·obtain rfl:l=[]:=by
    cases l with
    | nil=>rfl
    | cons s l=>obtain ⟨a0,a1,a2,a3,a4,a5,a6,a7,a8,a9,a10⟩:=s; simp only [szSs,szS] at h; omega
   obtain ⟨m,rfl⟩ : ∃ m,n=m + 3:=⟨n - 3,by omega⟩;rfl
  ·obtain ⟨a0,a1,a2,a3,a4,a5,a6,a7,a8,a9,a10⟩:=s;simp only [szS] at h;omega
 | succ N ih =>
  have hS : ∀ (s:DStmt) (n:Nat),szS s≤N + 1→N + 1≤100000→6 * szS s≤n→(fam63 k n).f90 s=some (bkS s):=by
   intro s n h hN hn;obtain ⟨op,name,slot,fr,ix,flag,l6,l7,l8,l9,l10⟩:=s;simp only [szS] at h hn;obtain ⟨m,rfl⟩ : ∃ m,n=m + 3:=⟨n - 3,by omega⟩;have h10:l10.length≤100000:=Nat.le_trans (len_szCs l10) (by omega);have hB:(fam63 k (m + 2)).f1009184 (l7 :: l8 :: l9 :: l10.map bodyC)=some (bkL l7 || (bkL l8 || (bkL l9 || bkC l10))):=by
    show ((f1010784_l1 k (fam63 k m) (l7 :: l8 :: l9 :: l10.map bodyC) 0).bind fun r0=>some (decide (r0 ≥ 0)))=_;obtain ⟨r,h1,h2⟩:=ix_any (g:=f1010784_l1 k (fam63 k m)) (h:=bkL) (fun _=>rfl) (fun b=>szSs b≤N∧6 * szSs b + 3≤m) (fun e l i he=>by
     show ((fam63 k m).f63 e).bind _=_;rw [ih.1 e m he.1 (by omega) he.2];rfl) (l7 :: l8 :: l9 :: l10.map bodyC) 0 (fun e he=>by
      simp only [List.mem_cons] at he;rcases he with rfl | rfl | rfl | he
      ·exact ⟨by omega,by omega⟩
      ·exact ⟨by omega,by omega⟩
      ·exact ⟨by omega,by omega⟩
      ·have:=bodies_le l10 e he;exact ⟨by omega,by omega⟩)
    rw [h1,Option.bind_some,h2];simp [bkC_any]
   show f90_b k (fam63 k (m + 2)) (.mk op name slot fr ix flag l6 l7 l8 l9 l10)=_;unfold f90_b f90_j1 f90_j2 bkS;simp only [f92_eq k op name slot fr ix flag l6 l7 l8 l9 l10 h10,Option.bind_some,hB];generalize (bkL l7 || (bkL l8 || (bkL l9 || bkC l10)))=q;cases op == 21 <;> cases op == 28 <;> cases op == 18 <;> cases op == 6 <;> cases flag == 1 <;> rfl
  refine ⟨fun l n h hN hn=>?_,hS⟩;obtain ⟨m,rfl⟩ : ∃ m,n=m + 3:=⟨n - 3,by omega⟩;show (((((f1006261_l1 k (fam63 k m) l 0).bind fun r0=>some (decide (r0 ≥ 0)))).bind fun r0=>some r0):Option Bool)=_;obtain ⟨r,h1,h2⟩:=ix_any (g:=f1006261_l1 k (fam63 k m)) (h:=bkS) (fun _=>rfl) (fun s=>szS s≤N + 1∧6 * szS s≤m) (fun e l i he=>by
   have:=hS e m he.1 hN he.2;obtain ⟨a0,a1,a2,a3,a4,a5,a6,a7,a8,a9,a10⟩:=e;rw [f1006261_l1,this];rfl) l 0 (fun e he=>by
    have:=mem_le l e he;exact ⟨by omega,by omega⟩)
  rw [h1,Option.bind_some,Option.bind_some,h2,bkL_any]
theorem f63_eq (k:Nat) (l:List DStmt) (h:szSs l≤100000) (hk:6 * szSs l + 3≤k):f63 k l=some (bkL l):=(f63_fam k (szSs l)).1 l k (Nat.le_refl _) h hk
mutual
def oS:DStmt→Bool
 | .mk op _ _ _ _ _ l6 l7 l8 l9 l10=>(op != 21 || decide (1≤l6.length)) && (oL l7 && (oL l8 && (oL l9 && oC l10)))
def oL:List DStmt→Bool
 | []=>true
 | s :: l=>oS s && oL l
def oC:List DCase→Bool
 | []=>true
 | .mk _ _ _ _ b :: l=>oL b && oC l
end
def trueE:List DExpr→Bool
 | .mk op n _ _ _ :: _=>op == 2 && n == 1
 | []=>false
mutual
def edS:DStmt→Bool
 | .mk op _ _ _ _ flag l6 l7 l8 l9 l10 =>
  cond (op == 17 || op == 15 || op == 18 || op == 19) true
  (cond (op == 20) (flag == 1 && (edL l7 && edL l8))
  (cond (op == 21) (trueE l6 && !bkL l7)
  (cond (op == 23 || op == 25 || op == 26) (edL l7)
  (cond (op == 24) (edL l9 || (edL l7 && ((IntKind.i64.wrap (BitVec.ofInt IntKind.i64.bits flag &&& BitVec.ofInt IntKind.i64.bits 1).toNat) == 0 || edL l8)))
  (cond (op == 27) (edC l10) false)))))
def edL:List DStmt→Bool
 | []=>false
 | s :: l=>edS s || edL l
def edC:List DCase→Bool
 | []=>true
 | .mk _ _ _ _ b :: l=>edL b && edC l
end
theorem edL_any : ∀ l,edL l=l.any edS
 | []=>rfl
 | s :: l=>by simp [edL,edL_any l]
theorem edC_any : ∀ l,edC l=!l.any (fun c=>!edL (bodyC c))
 | []=>rfl
 | .mk a b c d e :: l=>by simp [edC,edC_any l,bodyC]
theorem oL_mem : ∀ (l:List DStmt) (s:DStmt),oL l=true→s ∈ l→oS s=true
 | [],s,_,h=>by simp at h
 | x :: l,s,ho,h=>by
  simp only [oL,Bool.and_eq_true] at ho;rcases List.mem_cons.1 h with rfl | h
  ·exact ho.1
  ·exact oL_mem l s ho.2 h
theorem oC_mem : ∀ (l:List DCase) (c:DCase),oC l=true→c ∈ l→oL (bodyC c)=true∧szSs (bodyC c)≤szCs l
 | [],c,_,h=>by simp at h
 | .mk a1 a2 a3 es e :: l,c,ho,h=>by
  simp only [oC,Bool.and_eq_true] at ho;simp only [szCs,szC];rcases List.mem_cons.1 h with rfl | h
  ·exact ⟨ho.1,by simp only [bodyC]; omega⟩
  ·have:=oC_mem l c ho.2 h;exact ⟨this.1,by omega⟩
theorem f24_fam (k:Nat) : ∀ N:Nat,(∀ (l:List DStmt) (n:Nat),szSs l≤N→N≤100000→6 * N + 3≤k→oL l=true→9 * szSs l + 3≤n→(fam24 k n).f24 l=some (edL l))∧(∀ (s:DStmt) (n:Nat),szS s≤N→N≤100000→6 * N + 3≤k→oS s=true→9 * szS s≤n→(fam24 k n).f43 s=some (edS s)):=by
 intro N;induction N with
 | zero =>
  refine ⟨fun l n h _ _ _ hn=>?_,fun s n h _ _ _ _=>?_⟩
  ·obtain rfl:l=[]:=by
    cases l with
    | nil=>rfl
    | cons s l=>obtain ⟨a0,a1,a2,a3,a4,a5,a6,a7,a8,a9,a10⟩:=s; simp only [szSs,szS] at h; omega
   obtain ⟨m,rfl⟩ : ∃ m,n=m + 3:=⟨n - 3,by omega⟩;rfl
  ·obtain ⟨a0,a1,a2,a3,a4,a5,a6,a7,a8,a9,a10⟩:=s;simp only [szS] at h;omega
 | succ N ih =>
  have hS : ∀ (s:DStmt) (n:Nat),szS s≤N + 1→N + 1≤100000→6 * (N + 1) + 3≤k→oS s=true→9 * szS s≤n→(fam24 k n).f43 s=some (edS s):=by
   intro s n h hN hk ho hn;obtain ⟨op,name,slot,fr,ix,flag,l6,l7,l8,l9,l10⟩:=s;simp only [szS] at h hn;simp only [oS,Bool.and_eq_true] at ho;obtain ⟨o6,o7,o8,o9,o10⟩:=ho;obtain ⟨m,rfl⟩ : ∃ m,n=m + 9:=⟨n - 9,by omega⟩;have g7:=ih.1 l7 (m + 8) (by omega) (by omega) (by omega) o7 (by omega);have g8:=ih.1 l8 (m + 8) (by omega) (by omega) (by omega) o8 (by omega);have g9:=ih.1 l9 (m + 8) (by omega) (by omega) (by omega) o9 (by omega);have gb:=f63_eq k l7 (by omega) (by omega);have hC:(fam24 k (m + 8)).f1006449 l10=some (edC l10):=by
    show ((((f1010882_l1 k (fam24 k (m + 5)) l10 0).bind fun r0=>some (decide (r0 ≥ 0))).bind fun r2=>some (!r2)):Option Bool)=_;obtain ⟨r,h1,h2⟩:=ix_any (g:=f1010882_l1 k (fam24 k (m + 5))) (h:=fun c=>!edL (bodyC c)) (fun _=>rfl) (fun c=>oL (bodyC c)=true∧szSs (bodyC c)≤N∧9 * szSs (bodyC c) + 3≤m + 3) (fun e l i he=>by
     obtain ⟨b0,b1,b2,b3,b4⟩:=e;simp only [bodyC] at he ⊢;have:=ih.1 b4 (m + 3) he.2.1 (by omega) (by omega) he.1 he.2.2;rw [f1010882_l1];show ((((((fam24 k (m + 3)).f24 b4).bind fun r9=>some r9).bind fun r9=>some (!r9)):Option Bool)).bind _=_;rw [this];rfl) l10 0 (fun c hc=>by
      have:=oC_mem l10 c o10 hc;exact ⟨this.1,by omega,by omega⟩)
    rw [h1,Option.bind_some,Option.bind_some,h2,edC_any]
   show f43_b k (fam24 k (m + 8)) (.mk op name slot fr ix flag l6 l7 l8 l9 l10)=_;unfold f43_b f43_j1 f43_j2 f43_j3 f43_j4 f43_j5 edS;simp only [g7,g8,g9,gb,hC,Option.bind_some];generalize edL l7=e7;generalize edL l8=e8;generalize edL l9=e9;generalize edC l10=e10;generalize (IntKind.i64.wrap (BitVec.ofInt IntKind.i64.bits flag &&& BitVec.ofInt IntKind.i64.bits 1).toNat == 0)=fb;cases op == 17 <;> cases op == 15 <;> cases op == 18 <;> cases op == 19 <;> try rfl
   simp only [cond_false,Bool.or_false];cases op == 20
   ·simp only [cond_false];cases h21:op == 21
    ·simp only [cond_false];cases op == 23 <;> cases op == 25 <;> cases op == 26 <;> cases op == 24 <;> cases op == 27 <;> cases e7 <;> cases e8 <;> cases e9 <;> cases fb <;> rfl
    ·have:(op != 21)=false:=by rw [bne,h21]; rfl
     rw [this,Bool.false_or,decide_eq_true_eq] at o6;cases l6 with
     | nil=>simp at o6
     | cons e l =>
      obtain ⟨b0,b1,b2,b3,b4⟩:=e;have hi:idxO (DExpr.mk b0 b1 b2 b3 b4 :: l) 0=some (.mk b0 b1 b2 b3 b4):=rfl;simp only [cond_true,hi,Option.bind_some,trueE];cases b0 == 2 <;> cases b1 == 1 <;> rfl
   ·cases flag == 1 <;> cases e7 <;> cases e8 <;> rfl
  refine ⟨fun l n h hN hk ho hn=>?_,hS⟩;obtain ⟨m,rfl⟩ : ∃ m,n=m + 3:=⟨n - 3,by omega⟩;show (((((f1006205_l1 k (fam24 k m) l 0).bind fun r0=>some (decide (r0 ≥ 0)))).bind fun r0=>some r0):Option Bool)=_;obtain ⟨r,h1,h2⟩:=ix_any (g:=f1006205_l1 k (fam24 k m)) (h:=edS) (fun _=>rfl) (fun s=>oS s=true∧szS s≤N + 1∧9 * szS s≤m) (fun e l i he=>by
   have:=hS e m he.2.1 hN hk he.1 he.2.2;obtain ⟨a0,a1,a2,a3,a4,a5,a6,a7,a8,a9,a10⟩:=e;rw [f1006205_l1,this];rfl) l 0 (fun e he=>by
    have:=mem_le l e he;exact ⟨oL_mem l e ho he,by omega,by omega⟩)
  rw [h1,Option.bind_some,Option.bind_some,h2,edL_any]
theorem f24_eq (k:Nat) (l:List DStmt) (h:szSs l≤100000) (ho:oL l=true) (hk:9 * szSs l + 3≤k):f24 k l=some (edL l):=(f24_fam k (szSs l)).1 l k (Nat.le_refl _) h (by omega) ho hk
theorem f36_fam {fs:List DFunc} {a0:ByteArray} {a1:List DParam} {a2:Int} {a3:Bool} {a4:Int} {a5:List DStmt} (k:Nat) : ∀ n:Nat,
  (∀ (l:List DStmt) (vs:List Int),2 * szSs l + 1≤n→szSs l≤k→vSs fs vs.length l=true→Rs fs a0 a1 a2 a3 a4 a5 ((fam36 k n).f36 (Stt fs a0 a1 a2 a3 a4 a5 vs) l) (ySs fs a2 vs l) vs.length) ∧
  (∀ (s:DStmt) (vs:List Int),2 * szS s≤n→szS s≤k→wvS fs vs.length s=true→Rs fs a0 a1 a2 a3 a4 a5 ((fam36 k n).f57 (Stt fs a0 a1 a2 a3 a4 a5 vs) s) (yS fs a2 vs s) vs.length):=by
 intro n;induction n with
 | zero =>
  refine ⟨fun l vs h=>by omega,fun s vs h=>?_⟩;obtain ⟨b0,b1,b2,b3,b4,b5,b6,b7,b8,b9,b10⟩:=s;simp only [szS] at h;omega
 | succ n ih =>
  refine ⟨fun l vs h hk hv=>?_,fun s vs h hk hv=>?_⟩
  ·show Rs fs a0 a1 a2 a3 a4 a5 (f36_l1 k (fam36 k n) l 0 fs a0 a1 a2 a3 a4 a5 vs) _ _;exact block_eq (N:=szSs l) (fun s v hs hv=>ih.2 s v (by omega) (by omega) hv) l 0 vs (Nat.le_refl _) hv
  ·show Rs fs a0 a1 a2 a3 a4 a5 (f57_b k (fam36 k n) (Stt fs a0 a1 a2 a3 a4 a5 vs) s) _ _;have hp:1≤szS s:=by obtain ⟨b0,b1,b2,b3,b4,b5,b6,b7,b8,b9,b10⟩:=s; simp only [szS]; omega
   exact stmt_eq (N:=szS s - 1) (fun l v hl hv=>ih.1 l v (by omega) (by omega) hv) s vs (by omega) hk hv
theorem f36_eq {fs:List DFunc} {a0:ByteArray} {a1:List DParam} {a2:Int} {a3:Bool} {a4:Int} {a5:List DStmt} (k:Nat) (l:List DStmt) (vs:List Int) (h:2 * szSs l + 1≤k) (hv:vSs fs vs.length l=true) :
 Rs fs a0 a1 a2 a3 a4 a5 (f36 k (Stt fs a0 a1 a2 a3 a4 a5 vs) l) (ySs fs a2 vs l) vs.length:=(f36_fam k k).1 l vs h (by omega) hv
def vars0 (ps:List DParam) (v:Int):List Int:=kindsP ps ++ List.replicate (v - (ps.length:Int)).toNat (0:Int)
def kkF (fs:List DFunc):DFunc→Ex (List Int)
 | .mk _ ps res _ v b=>match ySs fs res (vars0 ps v) b with
  | none=>.error 23
  | some w=>cond (res != 0 && !edL b) (.error 26) (.ok w)
def kFs (fs:List DFunc):List DFunc→Ex (List (List Int))
 | []=>.ok []
 | f :: l=>eb (kkF fs f) fun x=>eb (kFs fs l) fun y=>.ok (x :: y)
def funs:DProgram→List DFunc | .mk fs=>fs
def uK (p:DProgram):Ex (DProgram × List (List Int)):=cond (wf true p) (eb (uP (stP p)) fun x=>eb (kFs (funs x.1) (funs x.1)) fun y=>.ok (x.1,y)) (.error 2)
def wvF (fs:List DFunc) (k:Nat):DFunc→Prop
 | .mk _ ps _ _ v b=>(ps.length:Int)≤v∧v≤1000∧vSs fs v.toNat b=true∧oL b=true∧szSs b≤100000∧9 * szSs b + 3≤k
theorem f21_l1_eq (k:Nat) (q:List DFunc) : ∀ (l:List DFunc) (i:Nat) (xs:List (List Int)),(∀ f ∈ l,wvF q k f)→xs.length + l.length≤100000 →
  f21_l1 k q l i 0 xs=some (match kFs q l with | .error c=>(.mk [],[],c) | .ok y=>(.mk q,xs ++ y,0))
 | [],i,xs,_,_=>by simp [f21_l1,f21_j1,kFs]
 | .mk n ps res fl v b :: l,i,xs,hv,hl=>by
  obtain ⟨h1,h2,h3,h4,h5,h6⟩:=hv (.mk n ps res fl v b) (by simp);simp only [List.length_cons] at hl;have ih:=fun ys hy=>f21_l1_eq k q l (i + 1) ys (fun f hf=>hv f (by simp [hf])) hy
  have hw:w64 (v - (ps.length:Int))=v - (ps.length:Int):=by
   have:=w64_nat (x:=v - (ps.length:Int)) (n:=(v - (ps.length:Int)).toNat) (by omega) (by omega);omega
  have hlen:(vars0 ps v).length=v.toNat:=by
   unfold vars0;rw [List.length_append,kindsP_len,List.length_replicate];omega
  have h36:=f36_eq (fs:=q) (a0:=n) (a1:=ps) (a2:=res) (a3:=fl) (a4:=v) (a5:=b) k b (vars0 ps v) (by omega) (by rw [hlen]; exact h3);have h24:=f24_eq k b h5 h4 h6;unfold f21_l1 kFs kkF f21_j2 f21_j4 f21_j3 f21_j1;have hps:ps.length≤1000:=by omega
  simp only [f26_eq k n ps res fl v b hps,Option.bind_some,hw];rw [show ∀ (z:Option (DProgram × (List (List Int)) × Int)),guardB (decide (0≤v - (ps.length:Int)∧(((kindsP ps).length:Int) + (v - (ps.length:Int))) * ((8:Nat):Int)≤140737488355328)) z=z from fun z=>by
   unfold guardB; rw [decide_eq_true (by rw [kindsP_len]; omega)]; rfl]
  show (f36 k (Stt q n ps res fl v b (vars0 ps v)) b).bind _=_;cases e:ySs q res (vars0 ps v) b with
  | none =>
   rw [e] at h36;obtain ⟨w,hw,hr⟩:=h36;simp only [hr,Option.bind_some];rfl
  | some w =>
   rw [e] at h36;obtain ⟨hwl,hr⟩:=h36;have hg : ∀ (z:Option (DProgram × (List (List Int)) × Int)),guardB (decide ((xs.length + 1) * 24≤140737488355328)) z=z:=fun z=>by unfold guardB; rw [decide_eq_true (by omega)]; rfl
   have i2:=ih (xs ++ [w]) (by simp only [List.length_append,List.length_cons,List.length_nil]; omega);simp only [hr,Option.bind_some,h24,Bool.not_true,cond_false,hg,i2];have fin:(some (match kFs q l with | .error c=>(DProgram.mk [],[],c) | .ok y=>(DProgram.mk q,(xs ++ [w]) ++ y,0)):Option (DProgram × (List (List Int)) × Int))=some (match (eb (.ok w) fun x=>eb (kFs q l) fun y=>.ok (x :: y):Ex (List (List Int))) with | .error c=>(DProgram.mk [],[],c) | .ok y=>(DProgram.mk q,xs ++ y,0)):=by
    cases kFs q l with
    | error c=>rfl
    | ok y=>simp [eb]
   cases hres:res != 0 with
   | true =>
    cases edL b with
    | true=>exact fin
    | false=>rfl
   | false=>exact fin
theorem f21_eq (k:Nat) (p:DProgram) (hk:2 * szP p + 1≤k) (hk2:4 * 600 + 1≤k) (hf:fitP p) (hv : ∀ x,wf true p=true→uP (stP p)=.ok x→(∀ f ∈ funs x.1,wvF (funs x.1) k f)∧(funs x.1).length≤16) :
  f21 k p=some (match uK p with | .error c=>(.mk [],[],c) | .ok x=>(x.1,x.2,0)):=by
 have h34:=f34_eq k p hk hf;have h35:=f35_eq k (stP p) (by rw [szP_st]; exact hk) hk2;obtain ⟨fs⟩:=p;unfold f21 f21_b uK;simp only [h34,Option.bind_some];cases hw:wf true (.mk fs) with
 | false=>rfl
 | true =>
  simp only [stP] at h35 hv ⊢;simp only [cond_true,h35,Option.bind_some];cases hu:uP (.mk (stFs fs)) with
  | error c =>
   have hc:(c != 0)=true:=by simpa using uP_err hu
   simp only [bne_self_eq_false,cond_false,hc,cond_true];rfl
  | ok x =>
   obtain ⟨⟨q⟩,nl⟩:=x;obtain ⟨g1,g2⟩:=hv _ hw hu;simp only [funs] at g1 g2;simp only [bne_self_eq_false,cond_false,eb,funs,f21_l1_eq k q q 0 [] g1 (by simp; omega)];cases kFs q q with
   | error c=>rfl
   | ok y=>rfl
theorem op_list {op:Int} {x:Int × Bool × Int × Int × Bool × Int} (h:shp op=some x) : ∃ n:Nat,n < 29∧op=((n + 1:Nat):Int):=by
 by_cases h1:op < 1∨op > 29
 ·rw [shp_none h1] at h; cases h
 ·exact ⟨(op - 1).toNat,by omega,by omega⟩
def wantLen (op:Int):Option Nat:=(mget qI op wantsL).map List.length
def cntOk (op:Int) (n6:Nat):Bool:=(op != 1 && op != 14 && op != 2 || decide (1≤n6)) && ((op != 17 || decide (n6≤1)) && ((match wantLen op with | none=>true | some n=>decide (n6≤n)) && (op != 21 || decide (1≤n6))))
theorem cnt_all:(List.range 29).all (fun n=>match shp ((n + 1:Nat):Int) with
 | none=>true
 | some (nm,fr,lo,hi,bd,fl)=>(fr == (((n + 1:Nat):Int) == 3 || ((n + 1:Nat):Int) == 4 || ((n + 1:Nat):Int) == 28)) && (decide (hi > 2) || (List.range 3).all (fun n6=>!(decide ((n6:Int) ≥ lo) && decide ((n6:Int)≤hi)) || cntOk ((n + 1:Nat):Int) n6))
  && (decide (hi≤2) || (wantLen ((n + 1:Nat):Int)).isNone && (((n + 1:Nat):Int) != 1 && ((n + 1:Nat):Int) != 14 && ((n + 1:Nat):Int) != 2 && ((n + 1:Nat):Int) != 17 && ((n + 1:Nat):Int) != 21)))=true:=by kernel_rfl
theorem node_cnt {op flag:Int} {name fr:ByteArray} {n6 n7 n8 n9 n10:Nat} (h:nodeS op name fr flag n6 n7 n8 n9 n10=true):cntOk op n6=true∧seq fr ⟨#[]⟩=!(op == 3 || op == 4 || op == 28):=by
 unfold nodeS at h;cases hs:shp op with
 | none=>rw [hs] at h; cases h
 | some x =>
  rw [hs] at h;obtain ⟨n,hn,rfl⟩:=op_list hs;have ha:=List.all_eq_true.1 cnt_all n (List.mem_range.2 hn);rw [hs] at ha;obtain ⟨nm,fr0,lo,hi,bd,fl⟩:=x;simp only [Bool.and_eq_true,decide_eq_true_eq,beq_iff_eq] at h ha;obtain ⟨⟨⟨⟨h1,h2⟩,_⟩,_⟩,⟨⟨⟨_,h3⟩,_⟩,_⟩,_⟩:=h;obtain ⟨⟨hfr,h4⟩,h5⟩:=ha;refine ⟨?_,?_⟩
  ·by_cases hh:hi > 2
   ·simp only [Bool.or_eq_true,decide_eq_true_eq,Bool.and_eq_true] at h5;rcases h5 with h5 | ⟨h5,h6⟩
    ·omega
    ·unfold cntOk;obtain ⟨⟨⟨⟨g1,g2⟩,g3⟩,g4⟩,g5⟩:=h6;rw [g1,g2,g3,g4,g5];cases hw:wantLen ((n + 1:Nat):Int) with
     | none=>rfl
     | some _=>rw [hw] at h5; cases h5
   ·simp only [Bool.or_eq_true,decide_eq_true_eq] at h4;rcases h4 with h4 | h4
    ·omega
    ·have:=List.all_eq_true.1 h4 n6 (List.mem_range.2 (by omega));rw [decide_eq_true h1,decide_eq_true h2] at this;simpa using this
  ·rw [← hfr];unfold fromR at h3;cases fr0 with
   | true=>simp only [cond_true] at h3; exact isN_ne h3
   | false=>simpa using h3
theorem node_want {op:Int} {n6:Nat} (h:cntOk op n6=true):(match mget qI op wantsL with | none=>true | some ws=>decide (n6≤ws.length))=true:=by
 unfold cntOk wantLen at h;simp only [Bool.and_eq_true] at h;obtain ⟨_,_,h,_⟩:=h;cases hm:mget qI op wantsL with
 | none=>rfl
 | some ws=>rw [hm] at h; exact h
theorem uE_v {nm:List ByteArray} {vis:List Nat} (hv:okV nm vis) {m:Nat} (hm:nm.length≤m) : ∀ N:Nat,(∀ e a e',szE e≤N→gE false e a=true→uE nm vis e=.ok e'→wvE m e'=true)∧(∀ l a l',szEs l≤N→gEs false l a=true→uEs nm vis l=.ok l'→wvEs m l'=true∧l'.length=l.length):=by
 intro N;induction N with
 | zero =>
  refine ⟨fun e a e' h=>?_,fun l a l' h _ hu=>?_⟩
  ·obtain ⟨b0,b1,b2,b3,b4⟩:=e; simp only [szE] at h; omega
  ·cases l with
   | nil=>simp only [uEs] at hu; cases hu; exact ⟨rfl,rfl⟩
   | cons e l=>obtain ⟨b0,b1,b2,b3,b4⟩:=e; simp only [szEs,szE] at h; omega
 | succ N ih =>
  have hE : ∀ e a e',szE e≤N + 1→gE false e a=true→uE nm vis e=.ok e'→wvE m e'=true:=by
   rintro ⟨op,num,txt,slot,l⟩ a e' h hg hu;simp only [szE] at h;simp only [gE,Bool.and_eq_true] at hg;obtain ⟨⟨_,hn⟩,hl⟩:=hg;unfold uE at hu;cases hx:uEs nm vis l with
   | error c=>rw [hx] at hu; cases hu
   | ok l' =>
    obtain ⟨g1,g2⟩:=ih.2 l (a + 1) l' (by omega) hl hx;rw [hx] at hu;have ar:(op == 1 || op == 2 || op == 3)=false→(op == 4)=false→(l'.length == 1 || l'.length == 2)=true:=by
     intro h1 h4;simp only [Bool.or_eq_false_iff] at h1;obtain ⟨⟨h1,h2⟩,h3⟩:=h1;unfold nodeE at hn;rw [h1,h2,h3,h4] at hn;simp only [cond_false] at hn;rw [g2];cases h56:(op == 5 || op == 6) with
     | true=>rw [h56] at hn; simp at hn; simp; omega
     | false=>rw [h56] at hn; simp at hn; simp; omega
    revert hu;cases h4:op == 4 with
    | true =>
     simp only [cond_true];cases hs:slotOf nm vis txt with
     | none=>intro hu; cases hu
     | some v =>
      intro hu;cases hu;have:=hv v (List.mem_of_find?_eq_some hs);unfold wvE;rw [h4,g1,cond_true];cases (op == 1 || op == 2 || op == 3) with
      | true=>rfl
      | false=>simp; omega
    | false =>
     intro hu;cases hu;unfold wvE;rw [h4,g1];cases h1:(op == 1 || op == 2 || op == 3) with
     | true=>rfl
     | false=>simpa using ar h1 h4
  refine ⟨hE,?_⟩;intro l;induction l with
  | nil=>intro a l' _ _ hu; simp only [uEs] at hu; cases hu; exact ⟨rfl,rfl⟩
  | cons e l il =>
   intro a l' h hg hu;simp only [szEs] at h;simp only [gEs,Bool.and_eq_true] at hg;unfold uEs at hu;cases h1:uE nm vis e with
   | error c=>rw [h1] at hu; cases hu
   | ok e1 =>
    rw [h1] at hu;cases h2:uEs nm vis l with
    | error c=>rw [h2] at hu; cases hu
    | ok l1 =>
     rw [h2] at hu;cases hu;have g1:=hE e a e1 (by omega) hg.1 h1;obtain ⟨g2,g3⟩:=il a l1 (by omega) hg.2 h2;exact ⟨by simp only [wvEs,g1,g2,Bool.and_self],by simp [g3]⟩
theorem okV_le {nm nm' : List ByteArray} {vis:List Nat} (h:okV nm vis) (hl:nm.length≤nm'.length):okV nm' vis:=fun v hv=>Nat.lt_of_lt_of_le (h v hv) hl
theorem node_sh {op flag:Int} {name fr:ByteArray} {n6 n7 n8 n9 n10:Nat} (h:nodeS op name fr flag n6 n7 n8 n9 n10=true) :
  (op ≠ 27→n10=0)∧((op=27∨op=17∨op=18∨op=19∨op=20∨op=21∨op=22∨op=23∨op=26∨op=29)→seq name ⟨#[]⟩=true) ∧
   (op ≠ 20→op ≠ 21→op ≠ 22→op ≠ 23→op ≠ 24→op ≠ 25→op ≠ 26→op ≠ 28→n7=0)∧(op ≠ 20→op ≠ 24→n8=0):=by
 unfold nodeS flagR nameR casesR fromR at h;by_cases hop:op < 1∨op > 29
 ·rw [shp_none hop] at h; cases h
 generalize isN name=x1 at h;generalize isN fr=x2 at h;generalize seq name ⟨#[]⟩=x3 at h ⊢;generalize seq fr ⟨#[]⟩=x4 at h;generalize flag.tmod 2=t2 at h;generalize flag.tmod 4=t4 at h;rcases (by omega:op=1∨op=2∨op=3∨op=4∨op=5∨op=6∨op=7∨op=8∨op=9∨op=10∨op=11∨op=12∨op=13∨op=14∨op=15∨op=16∨op=17∨op=18∨op=19∨op=20∨op=21∨op=22∨op=23∨op=24∨op=25∨op=26∨op=27∨op=28∨op=29) with rfl | rfl | rfl | rfl | rfl | rfl | rfl | rfl | rfl | rfl | rfl | rfl | rfl | rfl | rfl | rfl | rfl | rfl | rfl | rfl | rfl | rfl | rfl | rfl | rfl | rfl | rfl | rfl | rfl <;>
  simp [shp] at h ⊢ <;> grind
theorem node_n9 {op flag:Int} {name fr:ByteArray} {n6 n7 n8 n9 n10:Nat} (h:nodeS op name fr flag n6 n7 n8 n9 n10=true) (h24:op ≠ 24):n9=0:=by
 unfold nodeS at h;cases hs:shp op with
 | none=>rw [hs] at h; cases h
 | some x =>
  rw [hs] at h;obtain ⟨nm,fr0,lo,hi,bd,fl⟩:=x;simp only [Bool.and_eq_true] at h;obtain ⟨_,⟨_,hf⟩,_⟩:=h;unfold flagR at hf;simp only [Bool.and_eq_true,Bool.or_eq_true,beq_iff_eq] at hf;obtain ⟨⟨_,h9⟩,_⟩:=hf;rcases h9 with h9 | ⟨h9,_⟩
  ·omega
  ·exact absurd h9 h24
theorem len0' {α:Type} {l:List α} (h:l.length=0):l=[]:=List.eq_nil_of_length_eq_zero h
structure VG (nm nm1:List ByteArray) (vis1:List Nat) (b:Nat→Bool) (o:Bool):Prop where
 le:nm.length≤nm1.length
 ok:okV nm1 vis1
 v : ∀ m:Nat,nm1.length≤m→b m=true
 o:o=true
theorem name_v {nm:List ByteArray} {vis:List Nat} {name:ByteArray} {r:List ByteArray × List Nat × Int} (h:(cond (seq name ⟨#[]⟩) (.ok (nm,vis,0)) (uMk nm vis name):Ex (List ByteArray × List Nat × Int))=.ok r) (hv:okV nm vis) :
  nm.length≤r.1.length∧okV r.1 r.2.1∧∀ m,r.1.length≤m→(seq name ⟨#[]⟩ || slotIn m r.2.2)=true:=by
 revert h;cases seq name ⟨#[]⟩ with
 | true=>intro h; cases h; exact ⟨Nat.le_refl _,hv,fun m _=>rfl⟩
 | false =>
  unfold uMk;simp only [cond_false];cases slotOf nm vis name with
  | some v=>intro h; cases h
  | none =>
   intro h;cases h;refine ⟨by simp,fun v hv'=>?_,fun m hm=>?_⟩
   ·rw [List.mem_append,List.mem_singleton] at hv';rw [List.length_append,List.length_singleton];rcases hv' with h | rfl
    ·have:=hv v h; omega
    ·omega
   ·rw [List.length_append,List.length_singleton] at hm;unfold slotIn;simp;omega
theorem vCs_cons (q:List DFunc) (m:Nat) (c:DCase) (l:List DCase):vCs q m (c :: l)=(vCs q m [c] && vCs q m l):=by
 obtain ⟨a,b,c,d,e⟩:=c;simp [vCs,Bool.and_assoc]
theorem oC_cons (c:DCase) (l:List DCase):oC (c :: l)=(oC [c] && oC l):=by
 obtain ⟨a,b,c,d,e⟩:=c;simp [oC]
section
variable (fs:List DFunc) (f2:Int) (f3:Bool) (q:List DFunc)
def HQ:Prop:=∀ (op:Int) (fr:ByteArray) (n:Nat) (ix:Int),uCall op fr n fs 0=.ok ix→0≤ix∧∃ f,q[ix.toNat]?=some f∧(parF f).length=n∧(parF f).length≤1000
variable {fs f2 f3 q}
theorem vS_mk {op:Int} {name:ByteArray} {slot:Int} {fr:ByteArray} {ix flag:Int} {r6:List DExpr} {b7 b8 b9:List DStmt} {b10:List DCase} {m:Nat} (h6:wvEs m r6=true) (hc:cntOk op r6.length=true) (hs:(op != 2 && seq name ⟨#[]⟩ || slotIn m slot)=true)
  (hq:(cond (op == 3 || op == 4 || op == 28) (decide (0≤ix) && (match q[ix.toNat]? with | none=>false | some f=>decide (r6.length≤(parF f).length) && decide ((parF f).length≤1000))) true)=true)
  (h7:vSs q m b7=true) (h8:vSs q m b8=true) (h9:vSs q m b9=true) (h10:vCs q m b10=true):wvS q m (.mk op name slot fr ix flag r6 b7 b8 b9 b10)=true:=by
 have hw:=node_want hc;unfold cntOk at hc;simp only [Bool.and_eq_true] at hc;obtain ⟨c1,c2,_,_⟩:=hc;simp only [wvS,Bool.and_eq_true];exact ⟨h6,c1,c2,hs,hq,hw,h7,h8,h9,h10⟩
theorem oS_mk {op:Int} {name:ByteArray} {slot:Int} {fr:ByteArray} {ix flag:Int} {r6:List DExpr} {b7 b8 b9:List DStmt} {b10:List DCase} (hc:cntOk op r6.length=true) (h7:oL b7=true) (h8:oL b8=true) (h9:oL b9=true) (h10:oC b10=true):oS (.mk op name slot fr ix flag r6 b7 b8 b9 b10)=true:=by
 unfold cntOk at hc;simp only [Bool.and_eq_true] at hc;obtain ⟨_,_,_,c⟩:=hc;unfold oS;rw [c,h7,h8,h9,h10];rfl
variable (H:HQ fs q)
include H
theorem uS_v : ∀ n:Nat,
  (∀ s,szS s≤n→∀ a lo nm vis r,gS false s a=true→okV nm vis→uS fs f2 f3 lo nm vis s=.ok r→VG nm r.1 r.2.1 (fun m=>wvS q m r.2.2) (oS r.2.2)) ∧
  (∀ l,szSs l≤n→∀ a lo nm vis r,gSs false l a=true→okV nm vis→uSs fs f2 f3 lo nm vis l=.ok r→VG nm r.1 r.2.1 (fun m=>vSs q m r.2.2) (oL r.2.2)) ∧
  (∀ c,szC c≤n→∀ a lo nm vis r,gC false c a=true→okV nm vis→uC fs f2 f3 lo nm vis c=.ok r→VG nm r.1 vis (fun m=>vCs q m [r.2.2]) (oC [r.2.2])) ∧
  (∀ l,szCs l≤n→∀ a lo nm vis r,gCs false l a=true→okV nm vis→uCs fs f2 f3 lo nm vis l=.ok r→VG nm r.1 vis (fun m=>vCs q m r.2.2) (oC r.2.2))
 | 0=>by
  refine ⟨fun s h=>?_,fun l h=>?_,fun c h=>?_,fun l h=>?_⟩
  ·have:=szS_pos s; omega
  ·cases l with
   | nil=>intro a lo nm vis r _ hv h; simp only [uSs] at h; cases h; exact ⟨Nat.le_refl _,hv,fun _ _=>rfl,rfl⟩
   | cons s l=>have:=szS_pos s; simp only [szSs] at h; omega
  ·have:=szC_pos c; omega
  ·cases l with
   | nil=>intro a lo nm vis r _ hv h; simp only [uCs] at h; cases h; exact ⟨Nat.le_refl _,hv,fun _ _=>rfl,rfl⟩
   | cons s l=>have:=szC_pos s; simp only [szCs] at h; omega
 | n + 1=>by
  obtain ⟨i1,i2,i3,i4⟩:=uS_v n;have a1 : ∀ s,szS s≤n + 1→∀ a lo nm vis r,gS false s a=true→okV nm vis→uS fs f2 f3 lo nm vis s=.ok r→VG nm r.1 r.2.1 (fun m=>wvS q m r.2.2) (oS r.2.2):=by
   rintro ⟨op,name,s2,fr,s4,flag,l6,l7,l8,l9,l10⟩ h a lo nm vis r hg hv hu;simp only [szS] at h;simp only [gS,Bool.and_eq_true,Bool.false_or,beq_iff_eq] at hg;obtain ⟨⟨⟨_,rfl,rfl⟩,hnode⟩,g6,g7,g8,g9,g10⟩:=hg;obtain ⟨n1,n2,n3,n4⟩:=node_sh hnode;have n9:=node_n9 hnode;obtain ⟨hcnt,hfr⟩:=node_cnt hnode;have h7:=fun lo nm vis r=>i2 l7 (by omega) _ lo nm vis r g7
   have h8:=fun lo nm vis r=>i2 l8 (by omega) _ lo nm vis r g8
   have h9:=fun lo nm vis r=>i2 l9 (by omega) _ lo nm vis r g9
   have h10:=fun lo nm vis r=>i4 l10 (by omega) _ lo nm vis r g10
   simp only [uS,uB_eq,uI_eq] at hu;obtain ⟨r6,h6,hu⟩:=eb_ok hu;have e6 : ∀ m:Nat,nm.length≤m→wvEs m r6=true:=fun m hm=>((uE_v hv hm (szEs l6)).2 l6 _ r6 (Nat.le_refl _) g6 h6).1
   have l6e:r6.length=l6.length:=((uE_v hv (Nat.le_refl _) (szEs l6)).2 l6 _ r6 (Nat.le_refl _) g6 h6).2;rw [← l6e] at hcnt;clear i1 i2 i3 i4;revert hu;cases ho:op == 27 with
   | true =>
    intro hu;obtain rfl:op=27:=by simpa using ho
    obtain ⟨nm1,v1,cs,q1,hu⟩:=eb3_ok hu;cases hu;have z7:=len0' (n3 (by omega) (by omega) (by omega) (by omega) (by omega) (by omega) (by omega) (by omega));have z8:=len0' (n4 (by omega) (by omega));have z9:=len0' (n9 (by omega));subst z7 z8 z9;have G:=h10 _ _ _ _ hv q1;exact ⟨G.le,G.ok,fun m hm=>vS_mk (e6 m (Nat.le_trans G.le hm)) hcnt (by rw [n2 (by omega)]; rfl) rfl rfl rfl rfl (G.v m hm),oS_mk hcnt rfl rfl rfl G.o⟩
   | false =>
   have c27:op ≠ 27:=by simpa using ho
   have z10:=len0' (n1 c27);subst z10;intro hu;obtain ⟨ix,hix,hu⟩:=eb_ok hu;have hq:(cond (op == 3 || op == 4 || op == 28) (decide (0≤ix) && (match q[ix.toNat]? with | none=>false | some f=>decide (r6.length≤(parF f).length) && decide ((parF f).length≤1000))) true)=true:=by
    cases hcl:(op == 3 || op == 4 || op == 28) with
    | false=>rfl
    | true =>
     rw [hcl] at hfr;rw [hfr] at hix;obtain ⟨k1,f,k2,k3,k4⟩:=H op fr r6.length ix hix;rw [k2];simp only [cond_true,Bool.and_eq_true,decide_eq_true_eq];exact ⟨k1,by omega,k4⟩
   have none_ : ∀ {v:Int},(op=2∧(∃ w:Nat,v=(w:Int)∧w < nm.length)∨(op=18∨op=19∨op=29∨op=17))→VG nm nm vis (fun m=>wvS q m (.mk op name v fr ix flag r6 l7 l8 l9 [])) (oS (.mk op name v fr ix flag r6 l7 l8 l9 [])):=by
    intro v ho;have z7:=len0' (n3 (by omega) (by omega) (by omega) (by omega) (by omega) (by omega) (by omega) (by omega));have z8:=len0' (n4 (by omega) (by omega));have z9:=len0' (n9 (by omega));subst z7 z8 z9;refine ⟨Nat.le_refl _,hv,fun m hm=>vS_mk (e6 m hm) hcnt ?_ hq rfl rfl rfl rfl,oS_mk hcnt rfl rfl rfl rfl⟩;rcases ho with ⟨_,w,rfl,hw⟩ | ho
    ·have:slotIn m (w:Int)=true:=by unfold slotIn; simp; omega
     rw [this,Bool.or_true]
    ·rw [n2 (by omega)];have:(op != 2)=true:=by simp; omega
     rw [this];rfl
   revert hu;cases ho:op == 2 with
   | true =>
    have c:op=2:=by simpa using ho
    cases hs:slotOf nm vis name with
    | none=>intro hu; cases hu
    | some v=>intro hu; cases hu; exact none_ (.inl ⟨c,v,rfl,hv v (List.mem_of_find?_eq_some hs)⟩)
   | false =>
   have c2:op ≠ 2:=by simpa using ho
   have c2' : (op != 2)=true:=by simpa using c2
   cases ho:op == 18 || op == 19 with
   | true=>intro hu; obtain ⟨_,hu⟩:=uD_ok hu; cases hu; simp at ho; exact none_ (.inr (by omega))
   | false =>
   cases ho29:op == 29 with
   | true=>intro hu; obtain ⟨_,hu⟩:=uD_ok hu; cases hu; simp at ho29; exact none_ (.inr (by omega))
   | false =>
   cases ho17:op == 17 with
   | true=>intro hu; obtain ⟨_,hu⟩:=uD_ok hu; cases hu; simp at ho17; exact none_ (.inr (by omega))
   | false =>
   simp at ho ho29 ho17;cases ho:op == 21 with
   | true =>
    intro hu;obtain rfl:op=21:=by simpa using ho
    obtain ⟨nm1,v1,b,q1,hu⟩:=eb3_ok hu;cases hu;obtain ⟨nm2,v2,b2,q2,q1⟩:=eb3_ok q1;cases q1;have z8:=len0' (n4 (by omega) (by omega));have z9:=len0' (n9 (by omega));subst z8 z9;have G:=h7 _ _ _ _ hv q2;exact ⟨G.le,okV_le hv G.le,fun m hm=>vS_mk (e6 m (Nat.le_trans G.le hm)) hcnt (by rw [n2 (by omega)]; rfl) hq (G.v m hm) rfl rfl rfl,oS_mk hcnt G.o rfl rfl rfl⟩
   | false =>
   have in_ : ∀ {lo' : Nat} {nm1:List ByteArray} {v1:List Nat} {vb:Int × List DStmt},op ≠ 24→op ≠ 20 →
     (eb3 (cond (seq name ⟨#[]⟩) (.ok (nm,vis,0)) (uMk nm vis name)) fun nm1 vis1 v=>eb3 (uSs fs f2 f3 lo' nm1 vis1 l7) fun nm2 _ l'=>.ok (nm2,vis,(v,l')):Ex (List ByteArray × List Nat × (Int × List DStmt)))=.ok (nm1,v1,vb) →
     VG nm nm1 vis (fun m=>wvS q m (.mk op name vb.1 fr ix flag r6 vb.2 l8 l9 [])) (oS (.mk op name vb.1 fr ix flag r6 vb.2 l8 l9 [])):=by
    intro lo' nm1 v1 vb c24 c20 q1;obtain ⟨na,va,x,q2,q1⟩:=eb3_ok q1;obtain ⟨nb,vb',y,q3,q1⟩:=eb3_ok q1;cases q1;have z8:=len0' (n4 c20 c24);have z9:=len0' (n9 c24);subst z8 z9;obtain ⟨k1,k2,k3⟩:=name_v q2 hv;have G2:=h7 _ _ _ _ k2 q3;exact ⟨Nat.le_trans k1 G2.le,okV_le hv (Nat.le_trans k1 G2.le),fun m hm=>vS_mk (e6 m (Nat.le_trans (Nat.le_trans k1 G2.le) hm)) hcnt (by rw [c2']; exact k3 m (Nat.le_trans G2.le hm)) hq (G2.v m hm) rfl rfl rfl,oS_mk hcnt G2.o rfl rfl rfl⟩
   cases ho28:op == 28 with
   | true =>
    intro hu;have c:op=28:=by simpa using ho28
    obtain ⟨nm1,v1,vb,q1,hu⟩:=eb3_ok hu;cases hu;exact in_ (by omega) (by omega) q1
   | false =>
   cases ho25:op == 25 with
   | true =>
    intro hu;have c:op=25:=by simpa using ho25
    obtain ⟨nm1,v1,vb,q1,hu⟩:=eb3_ok hu;cases hu;exact in_ (by omega) (by omega) q1
   | false =>
   cases ho24:op == 24 with
   | true =>
    intro hu;obtain ⟨nm1,v1,b,q1,hu⟩:=eb3_ok hu;obtain ⟨nm2,v2,b7,q7,q1⟩:=eb3_ok q1;cases q1;obtain ⟨nm3,v3,b,q1,hu⟩:=eb3_ok hu;obtain ⟨nm4,v4,x,qn,q1⟩:=eb3_ok q1;obtain ⟨nm5,v5,b8,q8,q1⟩:=eb3_ok q1;cases q1;obtain ⟨nm6,v6,b,q1,hu⟩:=eb3_ok hu;obtain ⟨nm7,v7,b9,q9,q1⟩:=eb3_ok q1;cases q1;cases hu;have G7:=h7 _ _ _ _ hv q7;obtain ⟨k1,k2,k3⟩:=name_v qn (okV_le hv G7.le);have G8:=h8 _ _ _ _ k2 q8;have le8:=Nat.le_trans G7.le (Nat.le_trans k1 G8.le);have G9:=h9 _ _ _ _ (okV_le hv le8) q9;refine ⟨Nat.le_trans le8 G9.le,okV_le hv (Nat.le_trans le8 G9.le),fun m hm=>?_,oS_mk hcnt G7.o G8.o G9.o rfl⟩;have m8:=Nat.le_trans G9.le hm;have mn:=Nat.le_trans G8.le m8;have m7:=Nat.le_trans k1 mn;exact vS_mk (e6 m (Nat.le_trans G7.le m7)) hcnt (by rw [c2']; exact k3 m mn) hq (G7.v m m7) (G8.v m m8) (G9.v m hm) rfl
   | false =>
   cases ho26:op == 20 || op == 22 || op == 23 || op == 26 with
   | true =>
    intro hu;have c:op=20∨op=22∨op=23∨op=26:=by simp at ho26; omega
    obtain ⟨nm1,v1,b,q1,hu⟩:=eb3_ok hu;obtain ⟨nm2,v2,b7,q7,q1⟩:=eb3_ok q1;cases q1;obtain ⟨nm3,v3,b,q1,hu⟩:=eb3_ok hu;obtain ⟨nm4,v4,b8,q8,q1⟩:=eb3_ok q1;cases q1;cases hu;have z9:=len0' (n9 (by omega));subst z9;have G7:=h7 _ _ _ _ hv q7;have G8:=h8 _ _ _ _ (okV_le hv G7.le) q8;refine ⟨Nat.le_trans G7.le G8.le,okV_le hv (Nat.le_trans G7.le G8.le),fun m hm=>?_,oS_mk hcnt G7.o G8.o rfl rfl⟩;have m7:=Nat.le_trans G8.le hm;exact vS_mk (e6 m (Nat.le_trans G7.le m7)) hcnt (by rw [c2',n2 (by omega)]; rfl) hq (G7.v m m7) (G8.v m hm) rfl rfl
   | false =>
    intro hu;simp at ho28 ho25 ho24 ho26;have ho21:op ≠ 21:=by simpa using ho
    obtain ⟨nm1,v1,x,q1,hu⟩:=eb3_ok hu;obtain ⟨_,hu⟩:=uD_ok hu;cases hu;have z7:=len0' (n3 (by omega) (by omega) (by omega) (by omega) (by omega) (by omega) (by omega) (by omega));have z8:=len0' (n4 (by omega) (by omega));have z9:=len0' (n9 (by omega));subst z7 z8 z9;obtain ⟨k1,k2,k3⟩:=name_v q1 hv;exact ⟨k1,k2,fun m hm=>vS_mk (e6 m (Nat.le_trans k1 hm)) hcnt (by rw [c2']; exact k3 m hm) hq rfl rfl rfl rfl,oS_mk hcnt rfl rfl rfl rfl⟩
  have a3 : ∀ c,szC c≤n + 1→∀ a lo nm vis r,gC false c a=true→okV nm vis→uC fs f2 f3 lo nm vis c=.ok r→VG nm r.1 vis (fun m=>vCs q m [r.2.2]) (oC [r.2.2]):=by
   rintro ⟨kind,name,slot,es,b⟩ h a lo nm vis r hg hv hu;simp only [szC] at h;simp only [gC,Bool.and_eq_true,Bool.false_or,beq_iff_eq] at hg;obtain ⟨⟨⟨_,rfl⟩,hnode⟩,g6,g7⟩:=hg;simp only [uC,uI_eq] at hu;obtain ⟨r6,h6,hu⟩:=eb_ok hu;obtain ⟨nm1,v1,vb,q1,hu⟩:=eb3_ok hu;obtain ⟨nm2,v2,x,qn,q1⟩:=eb3_ok q1;obtain ⟨nm3,v3,b3,q3,q1⟩:=eb3_ok q1;cases q1;cases hu;obtain ⟨k1,k2,k3⟩:=name_v qn hv;have G2:=i2 b (by omega) _ _ _ _ _ g7 k2 q3;have hE:=fun (m:Nat) (hm:nm.length≤m)=>(uE_v hv hm (szEs es)).2 es _ r6 (Nat.le_refl _) g6 h6
   refine ⟨Nat.le_trans k1 G2.le,okV_le hv (Nat.le_trans k1 G2.le),fun m hm=>?_,by simp only [oC,G2.o,Bool.and_self]⟩;have m2:=Nat.le_trans G2.le hm;have he:=hE m (Nat.le_trans k1 m2);have hc:(decide (r6.length≤((mget qI kind casesL).getD []).length))=true:=by
    rw [he.2];unfold nodeC at hnode;simp only [Bool.and_eq_true,decide_eq_true_eq,beq_iff_eq] at hnode;obtain ⟨⟨⟨c1,c4⟩,hl⟩,_⟩:=hnode;rcases (by omega:kind=1∨kind=2∨kind=3∨kind=4) with rfl | rfl | rfl | rfl
    ·have hl:(es.length:Int)=1:=hl;have:((mget qI 1 casesL).getD []).length=1:=by kernel_rfl
     rw [this]; simp; omega
    ·have hl:(es.length:Int)=2:=hl;have:((mget qI 2 casesL).getD []).length=2:=by kernel_rfl
     rw [this]; simp; omega
    ·have hl:(es.length:Int)=1:=hl;have:((mget qI 3 casesL).getD []).length=1:=by kernel_rfl
     rw [this]; simp; omega
    ·have hl:(es.length:Int)=0:=hl;simp; omega
   simp only [vCs,he.1,hc,k3 m m2,G2.v m hm,Bool.and_self]
  have a2 : ∀ l,szSs l≤n + 1→∀ a lo nm vis r,gSs false l a=true→okV nm vis→uSs fs f2 f3 lo nm vis l=.ok r→VG nm r.1 r.2.1 (fun m=>vSs q m r.2.2) (oL r.2.2):=by
   intro l;induction l with
   | nil=>intro h a lo nm vis r _ hv hu; simp only [uSs] at hu; cases hu; exact ⟨Nat.le_refl _,hv,fun _ _=>rfl,rfl⟩
   | cons s l ih =>
    intro h a lo nm vis r hg hv hu;simp only [szSs] at h;simp only [gSs,Bool.and_eq_true] at hg;simp only [uSs] at hu;obtain ⟨nm1,v1,x,q1,hu⟩:=eb3_ok hu;obtain ⟨nm2,v2,y,q2,hu⟩:=eb3_ok hu;cases hu;have G1:=a1 s (by omega) _ _ _ _ _ hg.1 hv q1;have G2:=ih (by omega) _ _ _ _ _ hg.2 G1.ok q2;exact ⟨Nat.le_trans G1.le G2.le,G2.ok,fun m hm=>by simp only [vSs,G1.v m (Nat.le_trans G2.le hm),G2.v m hm,Bool.and_self],by simp only [oL,G1.o,G2.o,Bool.and_self]⟩
  have a4 : ∀ l,szCs l≤n + 1→∀ a lo nm vis r,gCs false l a=true→okV nm vis→uCs fs f2 f3 lo nm vis l=.ok r→VG nm r.1 vis (fun m=>vCs q m r.2.2) (oC r.2.2):=by
   intro l;induction l with
   | nil=>intro h a lo nm vis r _ hv hu; simp only [uCs] at hu; cases hu; exact ⟨Nat.le_refl _,hv,fun _ _=>rfl,rfl⟩
   | cons s l ih =>
    intro h a lo nm vis r hg hv hu;obtain ⟨kind,name,slot,es,b⟩:=s;simp only [szCs] at h;simp only [gCs,Bool.and_eq_true] at hg;simp only [uCs] at hu;obtain ⟨nm1,v1,x,q1,hu⟩:=eb3_ok hu;obtain ⟨nm2,v2,y,q2,hu⟩:=eb3_ok hu;cases hu;have G1:=a3 _ (by omega) _ _ _ _ _ hg.1.2 hv q1;have G2:=ih (by omega) _ _ _ _ _ hg.2 (okV_le hv G1.le) q2;exact ⟨Nat.le_trans G1.le G2.le,okV_le hv (Nat.le_trans G1.le G2.le),fun m hm=>by rw [vCs_cons,G1.v m (Nat.le_trans G2.le hm),G2.v m hm]; rfl,by rw [oC_cons,G1.o,G2.o]; rfl⟩
  exact ⟨a1,a2,a3,a4⟩
end
end Go.Proofs.YtoegpkmhifmamaaGreatDoor
namespace Go.Proofs.YtoegpkmhifmamaaGreatDoor
open Go
theorem uPs_v : ∀ (ps:List DParam) (nm:List ByteArray) (vis:List Nat) (r:List ByteArray × List Nat × Unit),uPs nm vis ps=.ok r→okV nm vis→r.1.length=nm.length + ps.length∧okV r.1 r.2.1
 | [],nm,vis,r,h,hv=>by cases h; exact ⟨by simp,hv⟩
 | .mk a kd :: ps,nm,vis,r,h,hv=>by
  simp only [uPs] at h;obtain ⟨nm1,v1,x,h1,h2⟩:=eb3_ok h;unfold uMk at h1;cases hs:slotOf nm vis a with
  | some v=>rw [hs] at h1; cases h1
  | none =>
   rw [hs] at h1;cases h1;obtain ⟨g1,g2⟩:=uPs_v ps _ _ r h2 (by
    intro v hv';rw [List.mem_append,List.mem_singleton] at hv';rw [List.length_append,List.length_singleton];rcases hv' with h | rfl
    ·have:=hv v h; omega
    ·omega)
   rw [List.length_append,List.length_singleton] at g1;exact ⟨by rw [g1,List.length_cons]; omega,g2⟩
theorem uF_head {gs:List DFunc} {f:DFunc} {x:DFunc × List ByteArray} (h:uF gs f=.ok x):parF x.1=parF f∧resF' x.1=resF' f∧nameF x.1=nameF f:=by
 obtain ⟨n,ps,res,fl,v,b⟩:=f;unfold uF at h;obtain ⟨nm,vis,_,h3,h⟩:=eb3_ok h;obtain ⟨nm1,vis1,b',h4,h⟩:=eb3_ok h;obtain ⟨_,h⟩:=uD_ok h;cases h;exact ⟨rfl,rfl,rfl⟩
theorem uFs_get (gs:List DFunc) : ∀ (l q:List DFunc) (nl:List (List ByteArray)),uFs gs l=.ok (q,nl)→q.length=l.length∧∀ (n:Nat) (f:DFunc),l[n]?=some f→∃ g m,uF gs f=.ok (g,m)∧q[n]?=some g
 | [],q,nl,h=>by cases h; exact ⟨rfl,fun n f h=>by simp at h⟩
 | x :: l,q,nl,h=>by
  unfold uFs at h;obtain ⟨y,h1,h⟩:=eb_ok h;obtain ⟨z,h2,h⟩:=eb_ok h;cases h;obtain ⟨h3,h4⟩:=uFs_get gs l z.1 z.2 h2;refine ⟨by simp [h3],fun n f hf=>?_⟩;cases n with
  | zero =>
   obtain rfl:x=f:=by simpa using hf
   exact ⟨y.1,y.2,h1,rfl⟩
  | succ n=>simpa using h4 n f (by simpa using hf)
theorem uFs_mem (gs:List DFunc) {l q:List DFunc} {nl:List (List ByteArray)} (h:uFs gs l=.ok (q,nl)) {g:DFunc} (hg:g ∈ q) : ∃ f ∈ l,∃ m,uF gs f=.ok (g,m):=by
 obtain ⟨h1,h2⟩:=uFs_get gs l q nl h;obtain ⟨n,hn,rfl⟩:=List.getElem_of_mem hg;obtain ⟨g',m,h3,h4⟩:=h2 n l[n] (List.getElem?_eq_getElem (by omega));rw [List.getElem?_eq_getElem hn] at h4;cases h4;exact ⟨_,List.getElem_mem _,m,h3⟩
theorem uCall_at {op:Int} {fr:ByteArray} {n:Nat} {ix:Int} : ∀ (l:List DFunc) (i:Nat),uCall op fr n l i=.ok ix→∃ (j:Nat) (f:DFunc),l[j]?=some f∧(parF f).length=n∧ix=((i + j:Nat):Int)
 | [],i,h=>by cases h
 | .mk nm ps r fl v b :: l,i,h=>by
  simp only [uCall] at h;cases h1:seq nm fr with
  | false =>
   rw [h1] at h;obtain ⟨j,f,g1,g2,g3⟩:=uCall_at l (i + 1) h;exact ⟨j + 1,f,by simpa using g1,g2,by rw [g3]; congr 1; omega⟩
  | true =>
   rw [h1] at h;simp only [cond_true] at h;cases h2:fl == (op == 28) with
   | false=>rw [h2] at h; cases h
   | true =>
    rw [h2] at h;simp only [cond_true] at h;cases h3:(ps.length:Int) == (n:Int) with
    | false=>rw [h3] at h; cases h
    | true =>
     rw [h3] at h;cases h;exact ⟨0,_,rfl,by simp only [beq_iff_eq] at h3; simp only [parF]; omega,by simp⟩
theorem gFs_mem {z:Bool} : ∀ {l:List DFunc} {f:DFunc},f ∈ l→gFs z l=true→(parF f).length≤4
 | .mk n ps res fl v b :: l,f,hf,hg=>by
  simp only [gFs,headF,Bool.and_eq_true,decide_eq_true_eq] at hg;rcases List.mem_cons.1 hf with rfl | h
  ·exact hg.1.1.1.1.1.2
  ·exact gFs_mem h hg.2.2.2
theorem HQ_u {fs q:List DFunc} {nl:List (List ByteArray)} (h:uFs fs fs=.ok (q,nl)) (hg:gFs false fs=true):HQ fs q:=by
 intro op fr n ix hu;obtain ⟨j,f,h1,h2,h3⟩:=uCall_at fs 0 hu;obtain ⟨g,m,h4,h5⟩:=(uFs_get fs fs q nl h).2 j f h1;subst h3;have hp:=(uF_head h4).1;simp only at hp;refine ⟨by omega,g,by rw [show ((0 + j:Nat):Int).toNat=j by omega]; exact h5,by rw [hp]; exact h2,?_⟩;rw [hp];have:=gFs_mem (List.mem_of_getElem? h1) hg;omega
theorem vF_u {k:Nat} {fs q:List DFunc} {nl:List (List ByteArray)} (h:uP (.mk fs)=.ok (.mk q,nl)) (hk:6000≤k):(∀ f ∈ q,wvF q k f)∧q.length≤16:=by
 obtain ⟨hw,_,_,x,hx,hu⟩:=uP_ok h;cases hx;have hw':=hw;simp only [wf,Bool.and_eq_true,decide_eq_true_eq] at hw';obtain ⟨⟨⟨_,h16⟩,hg⟩,hc⟩:=hw';have H:=HQ_u hu hg;refine ⟨fun f hf=>?_,by rw [(uFs_get _ _ _ _ hu).1]; exact h16⟩;obtain ⟨f0,h0,m,hF⟩:=uFs_mem fs hu hf;have hb:=szSs_bound h0 hc hg;obtain ⟨n,ps,res,fl,v,b⟩:=f0;simp only at hb;obtain ⟨b1,b2,b3⟩:=hb;unfold uF at hF;obtain ⟨nm,vis,_,h3,hF⟩:=eb3_ok hF;obtain ⟨nm1,vis1,b',h4,hF⟩:=eb3_ok hF;obtain ⟨h5,hF⟩:=uD_ok hF;cases hF;have hp:=uPs_v ps [] [] _ h3 (fun v hv=>by simp at hv);simp only [List.length_nil,Nat.zero_add] at hp;have G:=(uS_v H (f2:=res) (f3:=fl) (szSs b)).2.1 b (Nat.le_refl _) 1 0 nm vis _ b3 hp.2 h4;have e1:=(stS_u fs res fl (szSs b)).2.1 b (Nat.le_refl _) 1 0 nm vis _ b3 h4;have hsz:szSs b'=szSs b:=by
  have:=szSs_st b';simp only at e1;rw [e1] at this;exact this.symm
 have hle:nm.length≤m.length:=G.le;have h32:=of_decide_eq_true h5;refine ⟨by omega,by omega,?_,G.o,by omega,by omega⟩;exact G.v _ (by rw [Int.toNat_natCast]; exact Nat.le_refl _)
theorem f21_uK (k:Nat) (p:DProgram) (hk:2 * szP p + 1≤k) (hk2:6000≤k) (hf:fitP p) :
  f21 k p=some (match uK p with | .error c=>(.mk [],[],c) | .ok x=>(x.1,x.2,0)):=by
 refine f21_eq k p hk (by omega) hf fun x _ hu=>?_
 obtain ⟨fs⟩:=p;obtain ⟨⟨q⟩,nl⟩:=x;exact vF_u hu hk2
theorem kFs_nz (q:List DFunc) : ∀ l,Nz (kFs q l)
 | []=>.ok _
 | f :: l=>by
  simp only [kFs];refine .eb ?_ fun _=>.eb (kFs_nz q l) fun _=>.ok _
  obtain ⟨n,ps,res,fl,v,b⟩:=f;simp only [kkF];cases ySs q res (vars0 ps v) b with
  | none=>exact .er (by decide)
  | some w=>exact .cond (.er (by decide)) (.ok _)
theorem uK_err {p:DProgram} {c:Int} (h:uK p=.error c):c ≠ 0:=by
 unfold uK at h;cases hw:wf true p with
 | false=>rw [hw] at h; cases h; decide
 | true =>
  rw [hw] at h;simp only [cond_true] at h;cases hu:uP (stP p) with
  | error e=>rw [hu] at h; simp only [eb] at h; cases h; exact uP_err hu
  | ok x =>
   rw [hu] at h;simp only [eb] at h;cases hx:kFs (funs x.1) (funs x.1) with
   | error e=>rw [hx] at h; simp only at h; cases h; exact kFs_nz _ _ _ hx
   | ok y=>rw [hx] at h; cases h
theorem uK_ok {fs:List DFunc} {x:DProgram × List (List Int)} (h:uK (.mk fs)=.ok x) : ∃ q nl,wf true (.mk fs)=true∧uP (.mk (stFs fs))=.ok (.mk q,nl)∧x.1=.mk q∧kFs q q=.ok x.2:=by
 unfold uK at h;cases hw:wf true (.mk fs) with
 | false=>rw [hw] at h; cases h
 | true =>
  rw [hw] at h;simp only [cond_true,stP] at h;obtain ⟨⟨⟨q⟩,nl⟩,h1,h⟩:=eb_ok h;obtain ⟨y,h2,h⟩:=eb_ok h;cases h;exact ⟨q,nl,rfl,h1,rfl,h2⟩
theorem f10_eq (k:Nat) (p:DProgram) (hk:2 * szP p + 1≤k) (hk2:6000≤k) (hf:fitP p):f10 k p=some (match uK p with | .error c=>(.mk [],c) | .ok x=>(x.1,0)):=by
 have h:=f21_uK k p hk hk2 hf;obtain ⟨fs⟩:=p;unfold f10 f10_b;simp only [h,Option.bind_some];cases hu:uK (.mk fs) with
 | error c=>rfl
 | ok x=>obtain ⟨⟨q⟩,y⟩:=x; rfl
def Lr {α:Type} (R:α→α→Prop) (u v:Ex α):Prop:=∀ r,u=.ok r→∃ r',v=.ok r'∧R r r'
def R3 {α:Type} (R:α→α→Prop) (r r' : List ByteArray × List Nat × α):Prop:=r.1=r'.1∧r.2.1=r'.2.1∧R r.2.2 r'.2.2
theorem Lr.ok {α:Type} {R:α→α→Prop} {x y:α} (h:R x y):Lr R (.ok x) (.ok y):=fun r hr=>by cases hr; exact ⟨y,rfl,h⟩
theorem Lr.er {α:Type} {R:α→α→Prop} {c:Int} {v:Ex α}:Lr R (.error c) v:=fun r hr=>by cases hr
theorem Lr.refl {α:Type} (u:Ex α):Lr (·=·) u u:=fun r hr=>⟨r,hr,rfl⟩
theorem Lr.eb {α β:Type} {R:α→α→Prop} {S:β→β→Prop} {u v:Ex α} {f g:α→Ex β} (h:Lr R u v) (hf : ∀ x x',R x x'→Lr S (f x) (g x')):Lr S (eb u f) (eb v g):=by
 intro r hr;obtain ⟨x,h1,h2⟩:=eb_ok hr;obtain ⟨x',h3,h4⟩:=h x h1;rw [h3];exact hf x x' h4 r h2
theorem Lr.eb3 {α β:Type} {R:α→α→Prop} {S:β→β→Prop} {u v:Ex (List ByteArray × List Nat × α)} {f g:List ByteArray→List Nat→α→Ex β} (h:Lr (R3 R) u v) (hf : ∀ a b x x',R x x'→Lr S (f a b x) (g a b x')):Lr S (eb3 u f) (eb3 v g):=by
 intro r hr;obtain ⟨a,b,x,h1,h2⟩:=eb3_ok hr;obtain ⟨⟨a',b',x'⟩,h3,h4,h5,h6⟩:=h _ h1;simp only at h4 h5 h6;subst h4 h5;rw [h3];exact hf a b x x' h6 r h2
theorem Lr.refl3 {α:Type} (u:Ex (List ByteArray × List Nat × α)):Lr (R3 (·=·)) u u:=fun r hr=>⟨r,hr,rfl,rfl,rfl⟩
theorem Lr.cond {α:Type} {R:α→α→Prop} (b:Bool) {u v u' v' : Ex α} (h:Lr R u u') (h' : Lr R v v'):Lr R (cond b u v) (cond b u' v'):=by
 cases b
 ·exact h'
 ·exact h
theorem Lr.uD {α:Type} {R:α→α→Prop} (b:Bool) (c:Int) {u v:Ex α} (h:Lr R u v):Lr R (uD b c u) (uD b c v):=.cond b h .er
def hd2 (f:DFunc):List DParam × Int:=(parF f,resF' f)
section
variable (ps qs:List DFunc)
def HI (i i' : Int):Prop:=(ps.map hd2)[i.toNat]?=(qs.map hd2)[i'.toNat]?
structure RS1 (s s' : DStmt):Prop where
 y : ∀ q q' : List DFunc,q.map hd2=ps.map hd2→q'.map hd2=qs.map hd2→∀ res vs,yS q res vs s=yS q' res vs s'
 ed:edS s=edS s'
 bk:bkS s=bkS s'
structure RB (l l' : List DStmt):Prop where
 y : ∀ q q' : List DFunc,q.map hd2=ps.map hd2→q'.map hd2=qs.map hd2→∀ res vs,ySs q res vs l=ySs q' res vs l'
 ed:edL l=edL l'
 bk:bkL l=bkL l'
structure RC (l l' : List DCase):Prop where
 y : ∀ q q' : List DFunc,q.map hd2=ps.map hd2→q'.map hd2=qs.map hd2→∀ res vs,yCs q res vs l=yCs q' res vs l'
 ed:edC l=edC l'
 bk:bkC l=bkC l'
variable {ps qs}
theorem kMade_hd {q q' : List DFunc} {ix ix' : Int} (h:(q.map hd2)[ix.toNat]?=(q'.map hd2)[ix'.toNat]?) (vs:List Int) (op:Int) (name:ByteArray) (l6:List DExpr):kMade q vs op name ix l6=kMade q' vs op name ix' l6:=by
 rw [List.getElem?_map,List.getElem?_map] at h;unfold kMade;cases h1:q[ix.toNat]? with
 | none =>
  cases h2:q'[ix'.toNat]? with
  | none=>rfl
  | some f=>rw [h1,h2] at h; cases h
 | some f =>
  cases h2:q'[ix'.toNat]? with
  | none=>rw [h1,h2] at h; cases h
  | some g =>
   rw [h1,h2] at h;simp only [Option.map_some,hd2,Option.some.injEq,Prod.mk.injEq] at h;simp only [h.1,h.2]
theorem RS_mk {op:Int} {name:ByteArray} {slot:Int} {fr:ByteArray} {ix ix' flag:Int} {r6:List DExpr} {l7 l7' l8 l8' l9 l9' : List DStmt} {l10 l10' : List DCase} (hi:HI ps qs ix ix') (h7:RB ps qs l7 l7') (h8:RB ps qs l8 l8') (h9:RB ps qs l9 l9') (h10:RC ps qs l10 l10') :
  RS1 ps qs (.mk op name slot fr ix flag r6 l7 l8 l9 l10) (.mk op name slot fr ix' flag r6 l7' l8' l9' l10') where
 y:=fun q q' hq hq' res vs=>by
  simp only [yS,kMade_hd (q:=q) (q':=q') (ix:=ix) (ix':=ix') (by rw [hq,hq']; exact hi),h10.y q q' hq hq',h7.y q q' hq hq',h8.y q q' hq hq',h9.y q q' hq hq']
 ed:=by simp only [edS,h7.ed,h8.ed,h9.ed,h10.ed,h7.bk]
 bk:=by simp only [bkS,h7.bk,h8.bk,h9.bk,h10.bk]
theorem RB_nil:RB ps qs [] []:=⟨fun _ _ _ _ _ _=>rfl,rfl,rfl⟩
theorem RB_cons {s s' : DStmt} {l l' : List DStmt} (h:RS1 ps qs s s') (h' : RB ps qs l l'):RB ps qs (s :: l) (s' :: l') :=
 ⟨fun q q' hq hq' res vs=>by simp only [ySs,h.y q q' hq hq',h'.y q q' hq hq'],by simp only [edL,h.ed,h'.ed],by simp only [bkL,h.bk,h'.bk]⟩
theorem RC_nil:RC ps qs [] []:=⟨fun _ _ _ _ _ _=>rfl,rfl,rfl⟩
theorem RC_one {kind:Int} {name:ByteArray} {slot:Int} {es:List DExpr} {b b' : List DStmt} {l l' : List DCase} (h:RB ps qs b b') (h' : RC ps qs l l'):RC ps qs (.mk kind name slot es b :: l) (.mk kind name slot es b' :: l') :=
 ⟨fun q q' hq hq' res vs=>by simp only [yCs,h.y q q' hq hq',h'.y q q' hq hq'],by simp only [edC,h.ed,h'.ed],by simp only [bkC,h.bk,h'.bk]⟩
variable (h0:HI ps qs 0 0)
include h0
theorem RB_refl : ∀ n:Nat,
  (∀ s,szS s≤n→∀ a,gS false s a=true→RS1 ps qs s s)∧(∀ l,szSs l≤n→∀ a,gSs false l a=true→RB ps qs l l)∧(∀ l,szCs l≤n→∀ a,gCs false l a=true→RC ps qs l l)
 | 0=>by
  refine ⟨fun s h=>?_,fun l h=>?_,fun l h=>?_⟩
  ·have:=szS_pos s; omega
  ·cases l with
   | nil=>intro _ _; exact RB_nil
   | cons s l=>have:=szS_pos s; simp only [szSs] at h; omega
  ·cases l with
   | nil=>intro _ _; exact RC_nil
   | cons s l=>have:=szC_pos s; simp only [szCs] at h; omega
 | n + 1=>by
  obtain ⟨i1,i2,i3⟩:=RB_refl n;have a1 : ∀ s,szS s≤n + 1→∀ a,gS false s a=true→RS1 ps qs s s:=by
   rintro ⟨op,name,s2,fr,s4,flag,l6,l7,l8,l9,l10⟩ h a hg;simp only [szS] at h;simp only [gS,Bool.and_eq_true,Bool.false_or,beq_iff_eq] at hg;obtain ⟨⟨⟨_,rfl,rfl⟩,hnode⟩,g6,g7,g8,g9,g10⟩:=hg;exact RS_mk h0 (i2 _ (by omega) _ g7) (i2 _ (by omega) _ g8) (i2 _ (by omega) _ g9) (i3 _ (by omega) _ g10)
  refine ⟨a1,fun l=>?_,fun l=>?_⟩
  ·induction l with
   | nil=>intro _ _ _; exact RB_nil
   | cons s l ih =>
    intro h a hg;simp only [szSs] at h;simp only [gSs,Bool.and_eq_true] at hg;exact RB_cons (a1 s (by omega) a hg.1) (ih (by omega) a hg.2)
  ·induction l with
   | nil=>intro _ _ _; exact RC_nil
   | cons s l ih =>
    intro h a hg;obtain ⟨kind,name,slot,es,b⟩:=s;simp only [szCs,szC] at h;simp only [gCs,gC,Bool.and_eq_true] at hg;exact RC_one (i2 b (by omega) _ hg.1.2.2.2) (ih (by omega) a hg.2)
variable (hc : ∀ op fr na,Lr (HI ps qs) (uCall op fr na ps 0) (uCall op fr na qs 0)) (f2:Int) (f3:Bool)
include hc
theorem uS_ex : ∀ n:Nat,
  (∀ s,szS s≤n→∀ a lo nm vis,gS false s a=true→Lr (R3 (RS1 ps qs)) (uS ps f2 f3 lo nm vis s) (uS qs f2 f3 lo nm vis s)) ∧
  (∀ l,szSs l≤n→∀ a lo nm vis,gSs false l a=true→Lr (R3 (RB ps qs)) (uSs ps f2 f3 lo nm vis l) (uSs qs f2 f3 lo nm vis l)) ∧
  (∀ l,szCs l≤n→∀ a lo nm vis,gCs false l a=true→Lr (R3 (RC ps qs)) (uCs ps f2 f3 lo nm vis l) (uCs qs f2 f3 lo nm vis l))
 | 0=>by
  refine ⟨fun s h=>?_,fun l h=>?_,fun l h=>?_⟩
  ·have:=szS_pos s; omega
  ·cases l with
   | nil=>intro a lo nm vis _; simp only [uSs]; exact .ok ⟨rfl,rfl,RB_nil⟩
   | cons s l=>have:=szS_pos s; simp only [szSs] at h; omega
  ·cases l with
   | nil=>intro a lo nm vis _; simp only [uCs]; exact .ok ⟨rfl,rfl,RC_nil⟩
   | cons s l=>have:=szC_pos s; simp only [szCs] at h; omega
 | n + 1=>by
  obtain ⟨i1,i2,i4⟩:=uS_ex n;have a1 : ∀ s,szS s≤n + 1→∀ a lo nm vis,gS false s a=true→Lr (R3 (RS1 ps qs)) (uS ps f2 f3 lo nm vis s) (uS qs f2 f3 lo nm vis s):=by
   rintro ⟨op,name,s2,fr,s4,flag,l6,l7,l8,l9,l10⟩ h a lo nm vis hg;simp only [szS] at h;simp only [gS,Bool.and_eq_true,Bool.false_or,beq_iff_eq] at hg;obtain ⟨⟨⟨_,rfl,rfl⟩,hnode⟩,g6,g7,g8,g9,g10⟩:=hg;have h7:=fun lo nm vis=>i2 l7 (by omega) _ lo nm vis g7
   have h8:=fun lo nm vis=>i2 l8 (by omega) _ lo nm vis g8
   have h9:=fun lo nm vis=>i2 l9 (by omega) _ lo nm vis g9
   have h10:=fun lo nm vis=>i4 l10 (by omega) _ lo nm vis g10
   have r7:=(RB_refl h0 n).2.1 l7 (by omega) _ g7;have r8:=(RB_refl h0 n).2.1 l8 (by omega) _ g8;have r9:=(RB_refl h0 n).2.1 l9 (by omega) _ g9;have r10:=(RB_refl h0 n).2.2 l10 (by omega) _ g10;clear i1 i2 i4;have nm_ : ∀ nm vis,Lr (R3 (·=·)) (cond (seq name ⟨#[]⟩) (.ok (nm,vis,0)) (uMk nm vis name):Ex (List ByteArray × List Nat × Int)) (cond (seq name ⟨#[]⟩) (.ok (nm,vis,0)) (uMk nm vis name)):=fun nm vis=>.refl3 _
   simp only [uS,uB_eq,uI_eq];refine .eb (.refl _) fun r6 r6' e=>?_
   subst e;refine .cond _ (.eb3 (h10 _ _ _) fun _ _ _ _ hcs=>.ok ⟨rfl,rfl,RS_mk h0 r7 r8 r9 hcs⟩) (.eb (R:=HI ps qs) (.cond _ (.ok h0) (hc _ _ _)) fun ix ix' hix=>?_);refine .cond _ ?_ (.cond _ (.uD _ _ (.ok ⟨rfl,rfl,RS_mk hix r7 r8 r9 r10⟩)) (.cond _ (.uD _ _ (.ok ⟨rfl,rfl,RS_mk hix r7 r8 r9 r10⟩)) (.cond _ (.uD _ _ (.ok ⟨rfl,rfl,RS_mk hix r7 r8 r9 r10⟩)) (.cond _ (.eb3 (R:=RB ps qs) (.eb3 (h7 _ _ _) fun _ _ _ _ hb=>.ok ⟨rfl,rfl,hb⟩) fun _ _ _ _ hb=>.ok ⟨rfl,rfl,RS_mk hix hb r8 r9 r10⟩) ?_))))
   ·cases slotOf nm vis name with
    | none=>exact .er
    | some v=>exact .ok ⟨rfl,rfl,RS_mk hix r7 r8 r9 r10⟩
   have in_ : ∀ lo nm vis,Lr (R3 fun (x x' : Int × List DStmt)=>x.1=x'.1∧RB ps qs x.2 x'.2)
     (eb3 (cond (seq name ⟨#[]⟩) (.ok (nm,vis,0)) (uMk nm vis name)) fun nm1 vis1 v=>eb3 (uSs ps f2 f3 lo nm1 vis1 l7) fun nm2 _ l'=>.ok (nm2,vis,(v,l')):Ex (List ByteArray × List Nat × (Int × List DStmt)))
     (eb3 (cond (seq name ⟨#[]⟩) (.ok (nm,vis,0)) (uMk nm vis name)) fun nm1 vis1 v=>eb3 (uSs qs f2 f3 lo nm1 vis1 l7) fun nm2 _ l'=>.ok (nm2,vis,(v,l'))) :=
    fun lo nm vis=>.eb3 (nm_ _ _) fun _ _ v v' e=>.eb3 (h7 _ _ _) fun _ _ _ _ hb=>.ok ⟨rfl,rfl,e,hb⟩
   refine .cond _ (.eb3 (in_ _ _ _) ?_) (.cond _ (.eb3 (in_ _ _ _) ?_) (.cond _ ?_ (.cond _ ?_ ?_)))
   ·rintro _ _ ⟨v,b⟩ ⟨v',b'⟩ ⟨rfl,hb⟩; exact .ok ⟨rfl,rfl,RS_mk hix hb r8 r9 r10⟩
   ·rintro _ _ ⟨v,b⟩ ⟨v',b'⟩ ⟨rfl,hb⟩; exact .ok ⟨rfl,rfl,RS_mk hix hb r8 r9 r10⟩
   ·refine .eb3 (R:=RB ps qs) (.eb3 (h7 _ _ _) fun _ _ _ _ hb=>.ok ⟨rfl,rfl,hb⟩) fun _ _ b7 b7' hb7=>?_
    refine .eb3 (R:=fun (x x' : Int × List DStmt)=>x.1=x'.1∧RB ps qs x.2 x'.2) (.eb3 (nm_ _ _) fun _ _ v v' e=>.eb3 (h8 _ _ _) fun _ _ _ _ hb=>.ok ⟨rfl,rfl,e,hb⟩) ?_;rintro _ _ ⟨v,b⟩ ⟨v',b'⟩ ⟨rfl,hb⟩;exact .eb3 (R:=RB ps qs) (.eb3 (h9 _ _ _) fun _ _ _ _ hb=>.ok ⟨rfl,rfl,hb⟩) fun _ _ b9 b9' hb9=>.ok ⟨rfl,rfl,RS_mk hix hb7 hb hb9 r10⟩
   ·refine .eb3 (R:=RB ps qs) (.eb3 (h7 _ _ _) fun _ _ _ _ hb=>.ok ⟨rfl,rfl,hb⟩) fun _ _ b7 b7' hb7=>?_
    exact .eb3 (R:=RB ps qs) (.eb3 (h8 _ _ _) fun _ _ _ _ hb=>.ok ⟨rfl,rfl,hb⟩) fun _ _ b8 b8' hb8=>.ok ⟨rfl,rfl,RS_mk hix hb7 hb8 r9 r10⟩
   ·refine .eb3 (nm_ _ _) fun _ _ v v' e=>?_
    subst e;exact .uD _ _ (.ok ⟨rfl,rfl,RS_mk hix r7 r8 r9 r10⟩)
  refine ⟨a1,fun l=>?_,fun l=>?_⟩
  ·induction l with
   | nil=>intro h a lo nm vis _; simp only [uSs]; exact .ok ⟨rfl,rfl,RB_nil⟩
   | cons s l ih =>
    intro h a lo nm vis hg;simp only [szSs] at h;simp only [gSs,Bool.and_eq_true] at hg;simp only [uSs];exact .eb3 (a1 s (by omega) _ _ _ _ hg.1) fun _ _ _ _ h1=>.eb3 (ih (by omega) _ _ _ _ hg.2) fun _ _ _ _ h2=>.ok ⟨rfl,rfl,RB_cons h1 h2⟩
  ·induction l with
   | nil=>intro h a lo nm vis _; simp only [uCs]; exact .ok ⟨rfl,rfl,RC_nil⟩
   | cons s l ih =>
    intro h a lo nm vis hg;obtain ⟨kind,name,slot,es,b⟩:=s;simp only [szCs,szC] at h;simp only [gCs,gC,Bool.and_eq_true,Bool.false_or,beq_iff_eq] at hg;obtain ⟨⟨_,⟨⟨_,rfl⟩,_⟩,g6,g7⟩,g8⟩:=hg;simp only [uCs,uC,uI_eq];refine .eb3 (R:=fun (c c' : DCase)=>∃ v r b b',c=.mk kind name v r b∧c'=.mk kind name v r b'∧RB ps qs b b') (.eb (.refl _) fun r6 r6' e=>?_) ?_
    ·subst e;refine .eb3 (R:=fun (x x' : Int × List DStmt)=>x.1=x'.1∧RB ps qs x.2 x'.2) (.eb3 (.refl3 _) fun _ _ v v' e=>.eb3 (i2 b (by omega) _ _ _ _ g7) fun _ _ _ _ hb=>.ok ⟨rfl,rfl,e,hb⟩) ?_;rintro _ _ ⟨v,b⟩ ⟨v',b'⟩ ⟨rfl,hb⟩;exact .ok ⟨rfl,rfl,_,_,_,_,rfl,rfl,hb⟩
    ·rintro _ _ _ _ ⟨v,r,b,b',rfl,rfl,hb⟩;exact .eb3 (ih (by omega) _ _ _ _ g8) fun _ _ _ _ h2=>.ok ⟨rfl,rfl,RC_one hb h2⟩
end
theorem gFs_perm {z:Bool} {l m:List DFunc} (h:l.Perm m):gFs z l=gFs z m:=by
 induction h with
 | nil=>rfl
 | cons x _ ih=>obtain ⟨n,ps,res,fl,v,b⟩:=x; simp only [gFs,ih]
 | swap x y l =>
  obtain ⟨n,ps,res,fl,v,b⟩:=x;obtain ⟨n',ps',res',fl',v',b'⟩:=y;simp only [gFs];generalize headF z n ps.length res fl v=p1;generalize headF z n' ps'.length res' fl' v'=p2;generalize okP ps=p3;generalize okP ps'=p4;generalize gSs z b 1=p5;generalize gSs z b' 1=p6;generalize gFs z l=p7;revert p1 p2 p3 p4 p5 p6 p7; decide
 | trans _ _ h1 h2=>exact h1.trans h2
theorem cnFs_perm {l m:List DFunc} (h:l.Perm m):cnFs l=cnFs m:=by
 induction h with
 | nil=>rfl
 | cons x _ ih=>simp only [cnFs,ih]
 | swap x y l=>simp only [cnFs]; omega
 | trans _ _ h1 h2=>exact h1.trans h2
theorem szFs_perm {l m:List DFunc} (h:l.Perm m):szFs l=szFs m:=by
 induction h with
 | nil=>rfl
 | cons x _ ih=>simp only [szFs,ih]
 | swap x y l=>simp only [szFs]; omega
 | trans _ _ h1 h2=>exact h1.trans h2
theorem fitFs_all : ∀ l,fitFs l↔∀ f ∈ l,fitF f
 | []=>by simp [fitFs]
 | f :: l=>by simp [fitFs,fitFs_all l]
theorem fitFs_perm {l m:List DFunc} (h:l.Perm m) (hf:fitFs l):fitFs m:=(fitFs_all m).2 fun f hm=>(fitFs_all l).1 hf f (h.mem_iff.2 hm)
theorem wf_perm {z:Bool} {l m:List DFunc} (h:l.Perm m):wf z (.mk l)=wf z (.mk m):=by simp only [wf,h.length_eq,gFs_perm h,cnFs_perm h]
theorem hasF_iff (a:ByteArray) : ∀ l:List DFunc,hasF a l=true↔a ∈ l.map nameF
 | []=>by simp [hasF]
 | f :: l=>by
  simp only [hasF,Bool.or_eq_true,hasF_iff a l,List.map_cons,List.mem_cons,seq_iff];exact or_congr ⟨fun h=>h.symm,fun h=>h.symm⟩ Iff.rfl
theorem dupF_iff : ∀ (l pre:List DFunc),dupF pre l=false↔(l.map nameF).Nodup∧∀ f ∈ l,nameF f ∉ pre.map nameF
 | [],pre=>by simp [dupF]
 | f :: l,pre=>by
  have h1:hasF (nameF f) pre=false↔nameF f ∉ pre.map nameF:=by rw [← hasF_iff]; simp
  simp only [dupF,Bool.or_eq_false_iff,h1,dupF_iff l,List.map_cons,List.nodup_cons,List.map_append,List.map_nil,List.mem_append,List.mem_singleton,List.mem_cons,forall_eq_or_imp,not_or];constructor
  ·rintro ⟨g1,g2,g3⟩;refine ⟨⟨fun hm=>?_,g2⟩,g1,fun g hg=>(g3 g hg).1⟩;obtain ⟨g,hg,e⟩:=List.mem_map.1 hm;exact (g3 g hg).2.1 e
  ·rintro ⟨⟨g1,g2⟩,g3,g4⟩;exact ⟨g3,g2,fun g hg=>⟨g4 g hg,fun e=>g1 (List.mem_map.2 ⟨g,hg,e⟩),by simp⟩⟩
theorem dupF_perm {l m:List DFunc} (h:l.Perm m):dupF [] l=false↔dupF [] m=false:=by
 rw [dupF_iff,dupF_iff,(h.map nameF).nodup_iff];simp
def mainE:DFunc→Int | .mk nm ps _ fl _ _=>cond fl 25 (cond (decide ((ps.length:Int) > 0)) 24 0)
theorem main_first : ∀ (l:List DFunc) (j:Nat) (f:DFunc),(l.map nameF).Nodup→l[j]?=some f→seq (nameF f) ⟨#[109,97,105,110]⟩=true→f56_l2 l=mainE f
 | [],j,f,_,h,_=>by simp at h
 | .mk nm ps r fl v b :: l,0,f,hn,h,hs=>by
  obtain rfl:DFunc.mk nm ps r fl v b=f:=by simpa using h
  have hs:seq nm ⟨#[109,97,105,110]⟩=true:=hs;simp only [f56_l2,hs,Bool.not_true,cond_false,mainE]
 | .mk nm ps r fl v b :: l,j + 1,f,hn,h,hs=>by
  simp only [List.map_cons,List.nodup_cons] at hn;have hl:l[j]?=some f:=by simpa using h
  have hne:seq nm ⟨#[109,97,105,110]⟩=false:=by
   cases e:seq nm ⟨#[109,97,105,110]⟩ with
   | false=>rfl
   | true=>exact absurd (List.mem_map.2 ⟨f,List.mem_of_getElem? hl,(seq_eq hs).trans (seq_eq e).symm⟩) hn.1
  simp only [f56_l2,hne,Bool.not_false,cond_true];exact main_first l j f hn.2 hl hs
theorem main_some : ∀ (l:List DFunc),f56_l2 l=0→∃ f ∈ l,seq (nameF f) ⟨#[109,97,105,110]⟩=true
 | [],h=>by exact absurd h (by decide)
 | .mk nm ps r fl v b :: l,h=>by
  cases e:seq nm ⟨#[109,97,105,110]⟩ with
  | true=>exact ⟨_,List.mem_cons_self,e⟩
  | false =>
   simp only [f56_l2,e,Bool.not_false,cond_true] at h;obtain ⟨f,h1,h2⟩:=main_some l h;exact ⟨f,List.mem_cons_of_mem _ h1,h2⟩
theorem main_perm {l m:List DFunc} (h:l.Perm m) (hn:(l.map nameF).Nodup) (h0:f56_l2 l=0):f56_l2 m=0:=by
 obtain ⟨f,h1,h2⟩:=main_some l h0;obtain ⟨j,hj⟩:=List.getElem?_of_mem h1;obtain ⟨i,hi⟩:=List.getElem?_of_mem (h.mem_iff.1 h1);rw [main_first m i f ((h.map nameF).nodup_iff.1 hn) hi h2,← main_first l j f hn hj h2];exact h0
def callE (op:Int) (na:Nat) (f:DFunc) (i:Int):Ex Int:=match f with | .mk _ ps _ fl _ _=>cond (fl == (op == 28)) (cond ((ps.length:Int) == (na:Int)) (.ok i) (.error 24)) (.error 25)
theorem uCall_first (op:Int) (fr:ByteArray) (na:Nat) : ∀ (l:List DFunc) (i j:Nat) (f:DFunc),(l.map nameF).Nodup→l[j]?=some f→seq (nameF f) fr=true→uCall op fr na l i=callE op na f ((i + j:Nat):Int)
 | [],i,j,f,_,h,_=>by simp at h
 | .mk nm ps r fl v b :: l,i,0,f,hn,h,hs=>by
  obtain rfl:DFunc.mk nm ps r fl v b=f:=by simpa using h
  have hs:seq nm fr=true:=hs;simp only [uCall,hs,cond_true,callE,Nat.add_zero]
 | .mk nm ps r fl v b :: l,i,j + 1,f,hn,h,hs=>by
  simp only [List.map_cons,List.nodup_cons] at hn;have hl:l[j]?=some f:=by simpa using h
  have hne:seq nm fr=false:=by
   cases e:seq nm fr with
   | false=>rfl
   | true=>exact absurd (List.mem_map.2 ⟨f,List.mem_of_getElem? hl,(seq_eq hs).trans (seq_eq e).symm⟩) hn.1
  simp only [uCall,hne,cond_false];rw [uCall_first op fr na l (i + 1) j f hn.2 hl hs,show i + 1 + j=i + (j + 1) by omega]
theorem uCall_some {op:Int} {fr:ByteArray} {n:Nat} {ix:Int} : ∀ (l:List DFunc) (i:Nat),uCall op fr n l i=.ok ix→∃ f ∈ l,seq (nameF f) fr=true
 | [],i,h=>by cases h
 | .mk nm ps r fl v b :: l,i,h=>by
  cases e:seq nm fr with
  | true=>exact ⟨_,List.mem_cons_self,e⟩
  | false =>
   simp only [uCall,e,cond_false] at h;obtain ⟨f,h1,h2⟩:=uCall_some l (i + 1) h;exact ⟨f,List.mem_cons_of_mem _ h1,h2⟩
theorem callE_ok {op:Int} {na:Nat} {f:DFunc} {i ix:Int} (h:callE op na f i=.ok ix) (i' : Int):ix=i∧callE op na f i'=.ok i':=by
 obtain ⟨nm,ps,r,fl,v,b⟩:=f;simp only [callE] at h ⊢;cases h1:fl == (op == 28) with
 | false=>rw [h1] at h; cases h
 | true =>
  rw [h1] at h;simp only [cond_true] at h ⊢;cases h2:(ps.length:Int) == (na:Int) with
  | false=>rw [h2] at h; cases h
  | true=>rw [h2] at h; cases h; exact ⟨rfl,rfl⟩
theorem uCall_perm {l m:List DFunc} (h:l.Perm m) (hn:(l.map nameF).Nodup) (op:Int) (fr:ByteArray) (na:Nat):Lr (HI l m) (uCall op fr na l 0) (uCall op fr na m 0):=by
 intro ix hu;obtain ⟨f,h1,h2⟩:=uCall_some l 0 hu;obtain ⟨j,hj⟩:=List.getElem?_of_mem h1;obtain ⟨i,hi⟩:=List.getElem?_of_mem (h.mem_iff.1 h1);rw [uCall_first op fr na l 0 j f hn hj h2] at hu;obtain ⟨rfl,hk⟩:=callE_ok hu ((0 + i:Nat):Int);refine ⟨_,(uCall_first op fr na m 0 i f ((h.map nameF).nodup_iff.1 hn) hi h2).trans hk,?_⟩;unfold HI;rw [List.getElem?_map,List.getElem?_map,show ((0 + j:Nat):Int).toNat=j by omega,show ((0 + i:Nat):Int).toNat=i by omega,hj,hi]
def bodyF:DFunc→List DStmt | .mk _ _ _ _ _ b=>b
def RF (ps qs:List DFunc) (g g' : DFunc):Prop:=∃ n pr res fl v b b',g=.mk n pr res fl v b∧g'=.mk n pr res fl v b'∧RB ps qs b b'
theorem uF_ex {ps qs:List DFunc} (h0:HI ps qs 0 0) (hc : ∀ op fr na,Lr (HI ps qs) (uCall op fr na ps 0) (uCall op fr na qs 0)) {f:DFunc} (hg:gSs false (bodyF f) 1=true) :
  Lr (fun (x x' : DFunc × List ByteArray)=>RF ps qs x.1 x'.1) (uF ps f) (uF qs f):=by
 obtain ⟨n,pr,res,fl,v,b⟩:=f;simp only [uF];exact .eb3 (.refl3 _) fun nm vis _ _ _=>.eb3 (((uS_ex h0 hc res fl) (szSs b)).2.1 b (Nat.le_refl _) 1 0 nm vis hg) fun nm1 _ b1 b1' hb=>.uD _ _ (.ok ⟨_,_,_,_,_,_,_,rfl,rfl,hb⟩)
theorem uFs_of (gs:List DFunc) : ∀ l:List DFunc,(∀ f ∈ l,∃ x,uF gs f=.ok x)→∃ q nl,uFs gs l=.ok (q,nl)
 | [],_=>⟨[],[],rfl⟩
 | f :: l,h=>by
  obtain ⟨x,hx⟩:=h f List.mem_cons_self;obtain ⟨q,nl,hq⟩:=uFs_of gs l fun g hg=>h g (List.mem_cons_of_mem _ hg)
  exact ⟨x.1 :: q,x.2 :: nl,by simp only [uFs,hx,hq,eb]⟩
theorem uFs_hd2 (gs:List DFunc) : ∀ (l q:List DFunc) (nl:List (List ByteArray)),uFs gs l=.ok (q,nl)→q.map hd2=l.map hd2
 | [],q,nl,h=>by cases h; rfl
 | f :: l,q,nl,h=>by
  simp only [uFs] at h;obtain ⟨y,h1,h⟩:=eb_ok h;obtain ⟨z,h2,h⟩:=eb_ok h;cases h;obtain ⟨g1,g2,_⟩:=uF_head h1;simp only [List.map_cons,uFs_hd2 gs l z.1 z.2 h2,hd2,g1,g2]
theorem kFs_get (q:List DFunc) : ∀ (l:List DFunc) (y:List (List Int)),kFs q l=.ok y→y.length=l.length∧∀ (n:Nat) (g:DFunc),l[n]?=some g→∃ w,kkF q g=.ok w∧y[n]?=some w
 | [],y,h=>by cases h; exact ⟨rfl,fun n f h=>by simp at h⟩
 | x :: l,y,h=>by
  unfold kFs at h;obtain ⟨w,h1,h⟩:=eb_ok h;obtain ⟨z,h2,h⟩:=eb_ok h;cases h;obtain ⟨h3,h4⟩:=kFs_get q l z h2;refine ⟨by simp [h3],fun n f hf=>?_⟩;cases n with
  | zero =>
   obtain rfl:x=f:=by simpa using hf
   exact ⟨w,h1,rfl⟩
  | succ n=>simpa using h4 n f (by simpa using hf)
theorem kFs_of (q:List DFunc) : ∀ l:List DFunc,(∀ f ∈ l,∃ w,kkF q f=.ok w)→∃ y,kFs q l=.ok y
 | [],_=>⟨[],rfl⟩
 | f :: l,h=>by
  obtain ⟨x,hx⟩:=h f List.mem_cons_self;obtain ⟨y,hy⟩:=kFs_of q l fun g hg=>h g (List.mem_cons_of_mem _ hg)
  exact ⟨x :: y,by simp only [kFs,hx,hy,eb]⟩
theorem kF_ex {ps qs q q' : List DFunc} (hq:q.map hd2=ps.map hd2) (hq' : q'.map hd2=qs.map hd2) {g g' : DFunc} (h:RF ps qs g g'):kkF q g=kkF q' g'∧edL (bodyF g)=edL (bodyF g'):=by
 obtain ⟨n,pr,res,fl,v,b,b',rfl,rfl,hb⟩:=h;exact ⟨by simp only [kkF,hb.y q q' hq hq',hb.ed],hb.ed⟩
theorem uP_perm {ps qs q0:List DFunc} {nl:List (List ByteArray)} {y0:List (List Int)} (hp:ps.Perm qs) (h0:HI ps qs 0 0) (hu:uP (.mk ps)=.ok (.mk q0,nl)) (hk:kFs q0 q0=.ok y0) :
  ∃ q1 nl1 y1,uP (.mk qs)=.ok (.mk q1,nl1)∧kFs q1 q1=.ok y1∧∀ (i j:Nat) (f:DFunc),ps[i]?=some f→qs[j]?=some f →
   ∃ w g g',y0[i]?=some w∧y1[j]?=some w∧q0[i]?=some g∧q1[j]?=some g'∧edL (bodyF g)=edL (bodyF g'):=by
 obtain ⟨hw,hd,hm,x,hx,hF⟩:=uP_ok hu;cases hx;have hg:=okWf hw;have hnd:=((dupF_iff ps []).1 hd).1;have hc:=fun op fr na=>uCall_perm hp hnd op fr na
 have hgS : ∀ f ∈ ps,gSs false (bodyF f) 1=true:=fun f hf=>by
  have:=szSs_bound hf (by simp only [wf,Bool.and_eq_true,decide_eq_true_eq] at hw; exact hw.2) hg;obtain ⟨n,pr,res,fl,v,b⟩:=f;exact this.2.2
 have hall : ∀ f ∈ ps,∃ x x',uF ps f=.ok x∧uF qs f=.ok x'∧RF ps qs x.1 x'.1:=fun f hf=>by
  obtain ⟨i,hi⟩:=List.getElem?_of_mem hf;obtain ⟨g,m,h1,_⟩:=(uFs_get ps ps q0 nl hF).2 i f hi;obtain ⟨x',h2,h3⟩:=uF_ex h0 hc (hgS f hf) _ h1;exact ⟨_,x',h1,h2,h3⟩
 obtain ⟨q1,nl1,hF1⟩:=uFs_of qs qs fun f hf=>by
  obtain ⟨x,x',_,h2,_⟩:=hall f (hp.mem_iff.2 hf);exact ⟨x',h2⟩
 have hh0:=uFs_hd2 ps ps q0 nl hF;have hh1:=uFs_hd2 qs qs q1 nl1 hF1;have hat : ∀ (i j:Nat) (f:DFunc),ps[i]?=some f→qs[j]?=some f→∃ w g g',y0[i]?=some w∧q0[i]?=some g∧q1[j]?=some g'∧kkF q1 g'=.ok w∧edL (bodyF g)=edL (bodyF g'):=by
  intro i j f hi hj;obtain ⟨g,m,h1,h2⟩:=(uFs_get ps ps q0 nl hF).2 i f hi;obtain ⟨g',m',h3,h4⟩:=(uFs_get qs qs q1 nl1 hF1).2 j f hj;obtain ⟨x,x',h5,h6,h7⟩:=hall f (List.mem_of_getElem? hi);rw [h1] at h5;rw [h3] at h6;cases h5;cases h6;obtain ⟨w,h8,h9⟩:=(kFs_get q0 q0 y0 hk).2 i g h2;obtain ⟨e1,e2⟩:=kF_ex hh0 hh1 h7;exact ⟨w,g,g',h9,h2,h4,e1.symm.trans h8,e2⟩
 obtain ⟨y1,hk1⟩:=kFs_of q1 q1 fun g hg=>by
  obtain ⟨f,hf,m,h1⟩:=uFs_mem qs hF1 hg;obtain ⟨j,hj⟩:=List.getElem?_of_mem hg;have hl:=(uFs_get qs qs q1 nl1 hF1).1;have hj' : j < q1.length:=(List.getElem?_eq_some_iff.1 hj).1;obtain ⟨f',hf'⟩ : ∃ f',qs[j]?=some f':=⟨_,List.getElem?_eq_getElem (by omega)⟩;obtain ⟨i,hi⟩:=List.getElem?_of_mem (hp.mem_iff.2 (List.mem_of_getElem? hf'));obtain ⟨w,_,g',_,_,h4,h5,_⟩:=hat i j f' hi hf';rw [hj] at h4;cases h4;exact ⟨w,h5⟩
 refine ⟨q1,nl1,y1,?_,hk1,fun i j f hi hj=>?_⟩
 ·show uD _ 2 (uD _ 21 (uD _ _ _))=_;rw [← wf_perm hp,hw,(dupF_perm hp).1 hd,main_perm hp hnd hm,hF1];rfl
 ·obtain ⟨w,g,g',h1,h2,h3,h4,h5⟩:=hat i j f hi hj;obtain ⟨w',h6,h7⟩:=(kFs_get q1 q1 y1 hk1).2 j g' h3;rw [h4] at h6;cases h6;exact ⟨w,g,g',h1,h7,h2,h3,h5⟩
def exF (fs:List DFunc) (a b:Nat) (fa fb:DFunc):List DFunc:=(fs.set a fb).set b fa
theorem exF_perm {fs:List DFunc} {a b:Nat} {fa fb:DFunc} (ha:fs[a]?=some fa) (hb:fs[b]?=some fb):(exF fs a b fa fb).Perm fs:=by
 obtain ⟨h1,rfl⟩:=List.getElem?_eq_some_iff.1 ha;obtain ⟨h2,rfl⟩:=List.getElem?_eq_some_iff.1 hb;exact List.set_set_perm h1 h2
theorem exF_b {fs:List DFunc} {a b:Nat} {fa fb:DFunc} (hb:fs[b]?=some fb):(exF fs a b fa fb)[b]?=some fa:=by
 have:=(List.getElem?_eq_some_iff.1 hb).1;unfold exF;rw [List.getElem?_set_self (by simpa using this)]
theorem exF_0 {fs:List DFunc} {a b:Nat} {fa fb:DFunc} (ha:1≤a) (hb:1≤b):(exF fs a b fa fb)[0]?=fs[0]?:=by
 unfold exF;rw [List.getElem?_set_ne (by omega),List.getElem?_set_ne (by omega)]
theorem uK_ex {fs:List DFunc} {x:DProgram × List (List Int)} (h:uK (.mk fs)=.ok x) {a b:Nat} {fa fb:DFunc} (ha:(stFs fs)[a]?=some fa) (hb:(stFs fs)[b]?=some fb) (h1:1≤a) (h2:1≤b) :
  ∃ y,uK (.mk (exF (stFs fs) a b fa fb))=.ok y∧∃ w g g',x.2[a]?=some w∧y.2[b]?=some w∧(funs x.1)[a]?=some g∧(funs y.1)[b]?=some g'∧edL (bodyF g)=edL (bodyF g'):=by
 obtain ⟨q,nl,hw,hu,hx,hk⟩:=uK_ok h;have hp:=(exF_perm ha hb).symm;have h0:HI (stFs fs) (exF (stFs fs) a b fa fb) 0 0:=by
  unfold HI;rw [List.getElem?_map,List.getElem?_map,show (0:Int).toNat=0 from rfl,exF_0 h1 h2]
 obtain ⟨q1,nl1,y1,g1,g2,g3⟩:=uP_perm hp h0 hu hk;obtain ⟨hw1,e1⟩:=wf_both (uP_ok g1).1;refine ⟨(.mk q1,y1),?_,?_⟩
 ·unfold uK;rw [hw1,e1,g1];simp only [cond_true,eb,funs,g2]
 ·obtain ⟨w,g,g',k1,k2,k3,k4,k5⟩:=g3 a b fa ha (exF_b hb);exact ⟨w,g,g',k1,k2,by rw [hx]; exact k3,k4,k5⟩
theorem f7_tot (k:Nat) (p:DProgram) (hk:2 * szP p + 1≤k) : ∃ b,f7 k p=some b:=by
 obtain ⟨fs⟩:=p;simp only [szP] at hk;have loop : ∀ (l:List DFunc) (i:Nat) (n:Int),szFs l + 1≤k→∃ r,f7_l1 k l i n=some r:=by
  intro l;induction l with
  | nil=>intro i n _; exact ⟨_,rfl⟩
  | cons e l ih =>
   intro i n hk;obtain ⟨e0,e1,e2,e3,e4,e5⟩:=e;simp only [szFs,szF] at hk;unfold f7_l1 f18;cases decide (n≤2000)
   ·exact ⟨_,rfl⟩
   ·obtain ⟨r,hr⟩:=f18_tot k k e5 0 (by omega) (by omega);rw [hr];exact ih _ _ (by omega)
 obtain ⟨r,hr⟩:=loop fs 0 0 (by omega);exact ⟨r,by unfold f7 f7_b; simp [hr]⟩
theorem f8_eq (k:Nat):f8 (k + 100)=some true:=by kernel_rfl
theorem f9_eq (k:Nat) (x:Int) (n:Nat) (h0:0 < n) (hn:n≤4611686018427387904) : ∃ m:Nat,f9 k x (n:Int)=some (m:Int)∧m < n:=by
 have e1:IntKind.u64.wrap (n:Int)=(n:Int):=by unfold IntKind.wrap; simp [IntKind.bits,IntKind.signed]; omega
 have e2:0≤IntKind.u64.wrap x:=by unfold IntKind.wrap; simp [IntKind.bits,IntKind.signed]; omega
 obtain ⟨y,hy⟩ : ∃ y:Nat,IntKind.u64.wrap x=(y:Int):=⟨(IntKind.u64.wrap x).toNat,by omega⟩;have hlt:y % n < n:=Nat.mod_lt _ h0;refine ⟨y % n,?_,hlt⟩;unfold f9 f9_b guardB;rw [e1,hy,show decide (¬ ((n:Int)=0))=true by simpa using (by omega : ¬ n=0)];have e3:((y:Int).tmod (n:Int))=((y % n:Nat):Int):=by rw [Int.tmod_eq_emod_of_nonneg (by omega)]; omega
 rw [e3,w64_nat (n:=y % n) rfl (by omega)];rfl
theorem idxN_ {α:Type} {l:List α} {n:Nat} {x:α} (h:l[n]?=some x):idxO l (n:Int)=some x:=by
 unfold idxO;rw [if_pos (by omega)];simpa using h
mutual
theorem fitE_st' : ∀ e,fitE e→fitE (stE e)
 | .mk _ _ _ _ l=>by
  simp only [stE,fitE,stEs_len];exact fun h=>⟨h.1,fitEs_st' l h.2⟩
theorem fitEs_st' : ∀ l,fitEs l→fitEs (stEs l)
 | []=>fun h=>h
 | e :: l=>by
  simp only [stEs,fitEs];exact fun h=>⟨fitE_st' e h.1,fitEs_st' l h.2⟩
end
mutual
theorem fitS_st' : ∀ s,fitS s→fitS (stS s)
 | .mk _ _ _ _ _ _ l6 l7 l8 l9 l10=>by
  simp only [stS,fitS,stEs_len,stSs_len,stCs_len];exact fun h=>⟨⟨h.1.1,fitEs_st' l6 h.1.2⟩,⟨h.2.1.1,fitSs_st' l7 h.2.1.2⟩,⟨h.2.2.1.1,fitSs_st' l8 h.2.2.1.2⟩,⟨h.2.2.2.1.1,fitSs_st' l9 h.2.2.2.1.2⟩,⟨h.2.2.2.2.1,fitCs_st' l10 h.2.2.2.2.2⟩⟩
theorem fitSs_st' : ∀ l,fitSs l→fitSs (stSs l)
 | []=>fun h=>h
 | e :: l=>by
  simp only [stSs,fitSs];exact fun h=>⟨fitS_st' e h.1,fitSs_st' l h.2⟩
theorem fitC_st' : ∀ c,fitC c→fitC (stC c)
 | .mk _ _ _ l b=>by
  simp only [stC,fitC,stEs_len,stSs_len];exact fun h=>⟨⟨h.1.1,fitEs_st' l h.1.2⟩,⟨h.2.1,fitSs_st' b h.2.2⟩⟩
theorem fitCs_st' : ∀ l,fitCs l→fitCs (stCs l)
 | []=>fun h=>h
 | e :: l=>by
  simp only [stCs,fitCs];exact fun h=>⟨fitC_st' e h.1,fitCs_st' l h.2⟩
end
theorem fitFs_st' : ∀ l,fitFs l→fitFs (stFs l)
 | []=>fun h=>h
 | .mk _ ps _ _ _ b :: l=>by
  simp only [stFs,stF,fitFs,fitF,stSs_len];exact fun h=>⟨⟨h.1.1,h.1.2.1,fitSs_st' b h.1.2.2⟩,fitFs_st' l h.2⟩
theorem f16_l (k:Nat) : ∀ (l pre:List Int),f16_l1 k (pre ++ l) l pre.length=some true
 | [],pre=>rfl
 | e :: l,pre=>by
  have ih:=f16_l k l (pre ++ [e]);rw [List.length_append,List.length_singleton,List.append_assoc,List.singleton_append] at ih;unfold f16_l1;rw [idxN_ (n:=pre.length) (x:=e) (by simp)];simp only [Option.bind_some,bne_self_eq_false,cond_false,ih]
theorem f16_eq (k:Nat) (l:List Int):f16 k l l=some true:=by
 unfold f16 f16_b;simp only [bne_self_eq_false,cond_false];exact f16_l k l []
section
variable {k:Nat} {fs:List DFunc} {x:DProgram × List (List Int)} (hk:2 * szP (.mk fs) + 1≤k) (hk2:6000≤k) (hf:fitP (.mk fs)) (hu:uK (.mk fs)=.ok x) {a:Nat}
include hk hk2 hf hu
theorem f15_yes {w:List Int} (h:x.2[a]?=some w):f15 k (.mk fs) (a:Int)=some (w,0):=by
 have h21:=f21_uK k (.mk fs) hk hk2 hf;rw [hu] at h21;have hl:=(List.getElem?_eq_some_iff.1 h).1;obtain ⟨⟨q⟩,y⟩:=x;simp only at h h21 hl;unfold f15 f15_b;simp only [h21,Option.bind_some];unfold f15_j2 f15_j1;rw [decide_eq_false (by omega : ¬ (a:Int) < 0),decide_eq_false (by omega : ¬ (a:Int) ≥ (y.length:Int))];simp only [beq_self_eq_true,cond_true,cond_false,bne_self_eq_false,idxN_ h,Option.bind_some]
theorem f13_yes {g:DFunc} (h:(funs x.1)[a]?=some g):f13 k (.mk fs) (a:Int)=some (edL (bodyF g),0):=by
 have h21:=f21_uK k (.mk fs) hk hk2 hf;obtain ⟨q,nl,_,hP,hx,_⟩:=uK_ok hu;rw [hu] at h21;obtain ⟨x1,y⟩:=x;simp only at hx;subst hx;simp only [funs] at h h21;have hl:=(List.getElem?_eq_some_iff.1 h).1;have hv:=(vF_u hP hk2).1 g (List.mem_of_getElem? h);obtain ⟨n,ps,res,fl,v,b⟩:=g;obtain ⟨_,_,_,v4,v5,v6⟩:=hv;unfold f13 f13_b;simp only [h21,Option.bind_some];unfold f13_j2 f13_j1;rw [decide_eq_false (by omega : ¬ (a:Int) < 0),decide_eq_false (by omega : ¬ (a:Int) ≥ (q.length:Int))];simp only [beq_self_eq_true,cond_true,cond_false,bne_self_eq_false,idxN_ h,Option.bind_some,f24_eq k b v5 v4 v6,bodyF]
end
theorem f5_eq (k:Nat) (p:DProgram) (x y:Int) (hk:2 * szP p + 6500≤k) (hf:fitP p):f5 (k + 100) p x y=some true:=by
 obtain ⟨b7,h7⟩:=f7_tot (k + 100) p (by omega);have h8:=f8_eq k;have h10:=f10_eq (k + 100) p (by omega) (by omega) hf;have h11:=f11_eq (k + 100) p (by omega) hf;obtain ⟨fs⟩:=p;have hT:f5_j1 (k + 100) fs x y true=some true:=by unfold f5_j1; simp only [cond_true,h8,Option.bind_some]
 unfold f5 f5_b;simp only [h7,Option.bind_some];cases b7 with
 | false=>exact hT
 | true =>
 simp only [Bool.not_true,cond_false];by_cases h2:(fs.length:Int) < 2
 ·rw [decide_eq_true h2]; exact hT
 rw [decide_eq_false h2];unfold f5_j1;have hlen:fs.length * 88≤maxB:=hf.1;unfold maxB at hlen;have e1:w64 ((fs.length:Int) - 1)=((fs.length - 1:Nat):Int):=w64_nat (n:=fs.length - 1) (by omega) (by omega);obtain ⟨m1,h9,hm1⟩:=f9_eq (k + 100) x (fs.length - 1) (by omega) (by omega);obtain ⟨m2,h9',hm2⟩:=f9_eq (k + 100) y (fs.length - 1) (by omega) (by omega);have ea:w64 (1 + (m1:Int))=((m1 + 1:Nat):Int):=w64_nat (n:=m1 + 1) (by omega) (by omega);have eb:w64 (1 + (m2:Int))=((m2 + 1:Nat):Int):=w64_nat (n:=m2 + 1) (by omega) (by omega);simp only [cond_false,e1,h9,h9',Option.bind_some,h10,ea,eb];cases hu:uK (.mk fs) with
 | error c =>
  have hc:(c != 0)=true:=by simpa using uK_err hu
  simp only [hc,cond_true,h8,Option.bind_some]
 | ok z =>
  obtain ⟨⟨q⟩,l⟩:=z;have hsz:szP (.mk (stFs fs))=szP (.mk fs):=szP_st (.mk fs);have hfs:fitP (.mk (stFs fs)):=⟨by rw [stFs_len]; exact hf.1,fitFs_st' fs hf.2⟩;have h14:=f14_eq (k + 100) (.mk (stFs fs)) (by rw [hsz]; omega) hfs;obtain ⟨fa,ha⟩ : ∃ f,(stFs fs)[m1 + 1]?=some f:=⟨_,List.getElem?_eq_getElem (by rw [stFs_len]; omega)⟩;obtain ⟨fb,hb⟩ : ∃ f,(stFs fs)[m2 + 1]?=some f:=⟨_,List.getElem?_eq_getElem (by rw [stFs_len]; omega)⟩;obtain ⟨z',hu',w,g,g',w1,w2,g1,g2,hed⟩:=uK_ex hu ha hb (by omega) (by omega);have hp:=exF_perm ha hb;have hszq:szP (.mk (exF (stFs fs) (m1 + 1) (m2 + 1) fa fb))=szP (.mk fs):=by rw [← hsz]; simp only [szP,szFs_perm hp]
  have hfq:fitP (.mk (exF (stFs fs) (m1 + 1) (m2 + 1) fa fb)):=⟨by rw [hp.length_eq,stFs_len]; exact hf.1,fitFs_perm hp.symm hfs.2⟩;have hb' : ((stFs fs).set (m1 + 1) fb)[m2 + 1]?=some fb:=by
   rw [List.getElem?_set];split
   ·rw [if_pos (by rw [stFs_len]; omega)]
   ·exact hb
  have q10:=f10_eq (k + 100) _ (by rw [hszq]; omega) (by omega) hfq;have q15:=f15_yes (k:=k + 100) (by rw [hszq]; omega) (by omega) hfq hu' w2;have q13:=f13_yes (k:=k + 100) (by rw [hszq]; omega) (by omega) hfq hu' g2;have p15:=f15_yes (k:=k + 100) (fs:=fs) (by omega) (by omega) hf hu w1;have p13:=f13_yes (k:=k + 100) (fs:=fs) (by omega) (by omega) hf hu g1;rw [hu'] at q10;obtain ⟨⟨q'⟩,l'⟩:=z';obtain ⟨a0,a1,a2,a3,a4,a5⟩:=fa;obtain ⟨b0,b1,b2,b3,b4,b5⟩:=fb;unfold exF at q10 q15 q13;simp only [stP] at h11;simp only [bne_self_eq_false,cond_false,h11,h14,Option.bind_some,idxN_ ha,idxN_ hb,Int.toNat_natCast,idxN_ hb',q10,p15,q15,p13,q13,hed,f16_eq,h8,beq_self_eq_true,cond_true];rfl
end Go.Proofs.YtoegpkmhifmamaaGreatDoor
