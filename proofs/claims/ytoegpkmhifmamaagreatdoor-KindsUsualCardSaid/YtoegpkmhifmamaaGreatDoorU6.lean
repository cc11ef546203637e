/- Words of the same proof, part 6: what the last text needs; nothing is claimed here. -/
import Derived.Test.YtoegpkmhifmamaaGreatDoorU5
set_option linter.unusedVariables false
set_option linter.unusedSimpArgs false
namespace Go.Proofs.YtoegpkmhifmamaaGreatDoor
open Go
theorem ae5 {α β:Type} {u:Ex α} {f:α→Ex β} {y:β} (h:eb u f=.ok y) : ∃ x,u=.ok x∧f x=.ok y:=by
 cases u with
 | error c=>cases h
 | ok x=>exact ⟨x,rfl,h⟩
theorem aay {α β:Type} {u:Ex (List ByteArray × List Nat × α)} {f:List ByteArray→List Nat→α→Ex β} {y:β} (h:eb3 u f=.ok y) : ∃ a b x,u=.ok (a,b,x)∧f a b x=.ok y:=by
 cases u with
 | error c=>cases h
 | ok x=>exact ⟨x.1,x.2.1,x.2.2,rfl,h⟩
theorem aeo {α:Type} {b:Bool} {c:Int} {x:Ex α} {y:α} (h:uD b c x=.ok y):b=true∧x=.ok y:=by
 cases b with
 | false=>cases h
 | true=>exact ⟨rfl,h⟩
mutual
theorem atC : ∀ e a,gE false e a=true→stE e=e
 | .mk op num txt slot l,a,h=>by
  simp only [gE,Bool.and_eq_true,Bool.false_or,beq_iff_eq] at h;simp only [stE,ahk l _ h.2,h.1.1.2]
theorem ahk : ∀ l a,gEs false l a=true→stEs l=l
 | [],a,h=>rfl
 | e :: l,a,h=>by
  simp only [gEs,Bool.and_eq_true] at h;simp only [stEs,atC e a h.1,ahk l a h.2]
end
mutual
theorem auf : ∀ s a,gS false s a=true→stS s=s
 | .mk op name s2 fr s4 flag l6 l7 l8 l9 l10,a,h=>by
  simp only [gS,Bool.and_eq_true,Bool.false_or,beq_iff_eq] at h;obtain ⟨⟨⟨_,h2,h4⟩,_⟩,h6,h7,h8,h9,h10⟩:=h;simp only [stS,ahk l6 _ h6,aey l7 _ h7,aey l8 _ h8,aey l9 _ h9,alG l10 _ h10,h2,h4]
theorem aey : ∀ l a,gSs false l a=true→stSs l=l
 | [],a,h=>rfl
 | e :: l,a,h=>by
  simp only [gSs,Bool.and_eq_true] at h;simp only [stSs,auf e a h.1,aey l a h.2]
theorem atO : ∀ c a,gC false c a=true→stC c=c
 | .mk kind name slot es b,a,h=>by
  simp only [gC,Bool.and_eq_true,Bool.false_or,beq_iff_eq] at h;obtain ⟨⟨⟨_,h2⟩,_⟩,h6,h7⟩:=h;simp only [stC,ahk es _ h6,aey b _ h7,h2]
theorem alG : ∀ l a,gCs false l a=true→stCs l=l
 | [],a,h=>rfl
 | .mk k nm s es b :: l,a,h=>by
  simp only [gCs,Bool.and_eq_true] at h;simp only [stCs,atO _ a h.1.2,alG l a h.2]
end
mutual
theorem avI {nm:List ByteArray} {vis:List Nat} : ∀ e a e',gE false e a=true→uE nm vis e=.ok e'→stE e'=e
 | .mk op num txt slot l,a,e',h,hu=>by
  simp only [gE,Bool.and_eq_true,Bool.false_or,beq_iff_eq] at h;obtain ⟨⟨⟨_,rfl⟩,_⟩,hl⟩:=h;unfold uE at hu;revert hu;cases h1:uEs nm vis l with
  | error c=>intro hu; cases hu
  | ok l' =>
   have h2:=amH l _ l' hl h1;cases op == 4 with
   | false=>intro hu; cases hu; simp only [stE,h2]
   | true =>
    cases abq nm vis txt with
    | none=>intro hu; cases hu
    | some v=>intro hu; cases hu; simp only [stE,h2]
theorem amH {nm:List ByteArray} {vis:List Nat} : ∀ l a l',gEs false l a=true→uEs nm vis l=.ok l'→stEs l'=l
 | [],a,l',h,hu=>by cases hu; rfl
 | e :: l,a,l',h,hu=>by
  simp only [gEs,Bool.and_eq_true] at h;unfold uEs at hu;revert hu;cases h1:uE nm vis e with
  | error c=>intro hu; cases hu
  | ok e1 =>
   cases h2:uEs nm vis l with
   | error c=>intro hu; cases hu
   | ok l1=>intro hu; cases hu; simp only [stEs,avI e a e1 h.1 h1,amH l a l1 h.2 h2]
end
section
variable (fs:List aaf) (f2:Int) (f3:Bool)
theorem at7 : ∀ n:Nat,
  (∀ s,szS s≤n→∀ a lo nm vis r,gS false s a=true→uS fs f2 f3 lo nm vis s=.ok r→stS r.2.2=s) ∧
  (∀ l,szSs l≤n→∀ a lo nm vis r,gSs false l a=true→uSs fs f2 f3 lo nm vis l=.ok r→stSs r.2.2=l) ∧
  (∀ c,szC c≤n→∀ a lo nm vis r,gC false c a=true→uC fs f2 f3 lo nm vis c=.ok r→stC r.2.2=c) ∧
  (∀ l,szCs l≤n→∀ a lo nm vis r,gCs false l a=true→uCs fs f2 f3 lo nm vis l=.ok r→stCs r.2.2=l)
 | 0=>by
  refine ⟨fun s h=>?_,fun l h=>?_,fun c h=>?_,fun l h=>?_⟩
  ·have:=abI s; omega
  ·cases l with
   | nil=>intro a lo nm vis r _ h; simp only [uSs] at h; cases h; rfl
   | cons s l=>have:=abI s; simp only [szSs] at h; omega
  ·have:=acZ c; omega
  ·cases l with
   | nil=>intro a lo nm vis r _ h; simp only [uCs] at h; cases h; rfl
   | cons s l=>have:=acZ s; simp only [szCs] at h; omega
 | n + 1=>by
  obtain ⟨i1,i2,i3,i4⟩:=at7 n;have a1 : ∀ s,szS s≤n + 1→∀ a lo nm vis r,gS false s a=true→uS fs f2 f3 lo nm vis s=.ok r→stS r.2.2=s:=by
   rintro ⟨op,name,s2,fr,s4,flag,l6,l7,l8,l9,l10⟩ h a lo nm vis r hg hu;simp only [szS] at h;simp only [gS,Bool.and_eq_true,Bool.false_or,beq_iff_eq] at hg;obtain ⟨⟨⟨_,rfl,rfl⟩,_⟩,g6,g7,g8,g9,g10⟩:=hg;have d6:=ahk l6 _ g6;have d7:=aey l7 _ g7;have d8:=aey l8 _ g8;have d9:=aey l9 _ g9;have d10:=alG l10 _ g10;have h7:=fun lo nm vis r=>i2 l7 (by omega) _ lo nm vis r g7
   have h8:=fun lo nm vis r=>i2 l8 (by omega) _ lo nm vis r g8
   have h9:=fun lo nm vis r=>i2 l9 (by omega) _ lo nm vis r g9
   have h10:=fun lo nm vis r=>i4 l10 (by omega) _ lo nm vis r g10
   simp only [uS,aoj,ah8] at hu;obtain ⟨r6,h6,hu⟩:=ae5 hu;have e6:=amH l6 _ r6 g6 h6;clear i1 i2 i3 i4;revert hu;cases op == 27 with
   | true =>
    intro hu;obtain ⟨nm1,v1,cs,h1,hu⟩:=aay hu;cases hu;simp only [stS,e6,d7,d8,d9,h10 _ _ _ _ h1]
   | false =>
   intro hu;obtain ⟨ix,_,hu⟩:=ae5 hu;revert hu;cases op == 2 with
   | true =>
    cases abq nm vis name with
    | none=>intro hu; cases hu
    | some v=>intro hu; cases hu; simp only [stS,e6,d7,d8,d9,d10]
   | false =>
   cases op == 18 || op == 19 with
   | true=>intro hu; obtain ⟨_,hu⟩:=aeo hu; cases hu; simp only [stS,e6,d7,d8,d9,d10]
   | false =>
   cases op == 29 with
   | true=>intro hu; obtain ⟨_,hu⟩:=aeo hu; cases hu; simp only [stS,e6,d7,d8,d9,d10]
   | false =>
   cases op == 17 with
   | true=>intro hu; obtain ⟨_,hu⟩:=aeo hu; cases hu; simp only [stS,e6,d7,d8,d9,d10]
   | false =>
   cases op == 21 with
   | true =>
    intro hu;obtain ⟨nm1,v1,b,h1,hu⟩:=aay hu;cases hu;obtain ⟨nm2,v2,b2,h2,h1⟩:=aay h1;cases h1;simp only [stS,e6,h7 _ _ _ _ h2,d8,d9,d10]
   | false =>
   cases op == 28 with
   | true =>
    intro hu;obtain ⟨nm1,v1,b,h1,hu⟩:=aay hu;cases hu;obtain ⟨nm2,v2,b2,h2,h1⟩:=aay h1;obtain ⟨nm3,v3,b3,h3,h1⟩:=aay h1;cases h1;simp only [stS,e6,h7 _ _ _ _ h3,d8,d9,d10]
   | false =>
   cases op == 25 with
   | true =>
    intro hu;obtain ⟨nm1,v1,b,h1,hu⟩:=aay hu;cases hu;obtain ⟨nm2,v2,b2,h2,h1⟩:=aay h1;obtain ⟨nm3,v3,b3,h3,h1⟩:=aay h1;cases h1;simp only [stS,e6,h7 _ _ _ _ h3,d8,d9,d10]
   | false =>
   cases op == 24 with
   | true =>
    intro hu;obtain ⟨nm1,v1,b,h1,hu⟩:=aay hu;obtain ⟨nm2,v2,b2,h2,h1⟩:=aay h1;cases h1;obtain ⟨nm1,v1,b,h1,hu⟩:=aay hu;obtain ⟨nm2,v2,b3,h4,h1⟩:=aay h1;obtain ⟨nm3,v3,b4,h3,h1⟩:=aay h1;cases h1;obtain ⟨nm1,v1,b,h1,hu⟩:=aay hu;obtain ⟨nm2,v2,b5,h5,h1⟩:=aay h1;cases h1;cases hu;simp only [stS,e6,h7 _ _ _ _ h2,h8 _ _ _ _ h3,h9 _ _ _ _ h5,d10]
   | false =>
   cases op == 20 || op == 22 || op == 23 || op == 26 with
   | true =>
    intro hu;obtain ⟨nm1,v1,b,h1,hu⟩:=aay hu;obtain ⟨nm2,v2,b2,h2,h1⟩:=aay h1;cases h1;obtain ⟨nm1,v1,b,h1,hu⟩:=aay hu;obtain ⟨nm2,v2,b3,h4,h1⟩:=aay h1;cases h1;cases hu;simp only [stS,e6,h7 _ _ _ _ h2,h8 _ _ _ _ h4,d9,d10]
   | false =>
    intro hu;obtain ⟨nm1,v1,b,h1,hu⟩:=aay hu;obtain ⟨_,hu⟩:=aeo hu;cases hu;simp only [stS,e6,d7,d8,d9,d10]
  have a3 : ∀ c,szC c≤n + 1→∀ a lo nm vis r,gC false c a=true→uC fs f2 f3 lo nm vis c=.ok r→stC r.2.2=c:=by
   rintro ⟨kind,name,slot,es,b⟩ h a lo nm vis r hg hu;simp only [szC] at h;simp only [gC,Bool.and_eq_true,Bool.false_or,beq_iff_eq] at hg;obtain ⟨⟨⟨_,rfl⟩,_⟩,g6,g7⟩:=hg;simp only [uC,ah8] at hu;obtain ⟨r6,h6,hu⟩:=ae5 hu;obtain ⟨nm1,v1,vb,h1,hu⟩:=aay hu;obtain ⟨nm2,v2,b2,h2,h1⟩:=aay h1;obtain ⟨nm3,v3,b3,h3,h1⟩:=aay h1;cases h1;cases hu;simp only [stC,amH es _ r6 g6 h6,i2 b (by omega) _ _ _ _ _ g7 h3]
  have a2 : ∀ l,szSs l≤n + 1→∀ a lo nm vis r,gSs false l a=true→uSs fs f2 f3 lo nm vis l=.ok r→stSs r.2.2=l:=by
   intro l;induction l with
   | nil=>intro h a lo nm vis r _ hu; simp only [uSs] at hu; cases hu; rfl
   | cons s l ih =>
    intro h a lo nm vis r hg hu;simp only [szSs] at h;simp only [gSs,Bool.and_eq_true] at hg;simp only [uSs] at hu;obtain ⟨nm1,v1,x,h1,hu⟩:=aay hu;obtain ⟨nm2,v2,y,h2,hu⟩:=aay hu;cases hu;simp only [stSs,a1 s (by omega) _ _ _ _ _ hg.1 h1,ih (by omega) _ _ _ _ _ hg.2 h2]
  have a4 : ∀ l,szCs l≤n + 1→∀ a lo nm vis r,gCs false l a=true→uCs fs f2 f3 lo nm vis l=.ok r→stCs r.2.2=l:=by
   intro l;induction l with
   | nil=>intro h a lo nm vis r _ hu; simp only [uCs] at hu; cases hu; rfl
   | cons s l ih =>
    intro h a lo nm vis r hg hu;obtain ⟨kind,name,slot,es,b⟩:=s;simp only [szCs] at h;simp only [gCs,Bool.and_eq_true] at hg;simp only [uCs] at hu;obtain ⟨nm1,v1,x,h1,hu⟩:=aay hu;obtain ⟨nm2,v2,y,h2,hu⟩:=aay hu;cases hu;simp only [stCs,a3 _ (by omega) _ _ _ _ _ hg.1.2 h1,ih (by omega) _ _ _ _ _ hg.2 h2]
  exact ⟨a1,a2,a3,a4⟩
end
theorem okWf {fs:List aaf} (h:wf false (.mk fs)=true):gFs false fs=true:=by
 simp only [wf,Bool.and_eq_true] at h;exact h.1.2
theorem arN {fs:List aaf} {q:aaa} {nl:List (List ByteArray)} (h:uP (.mk fs)=.ok (q,nl)):wf false (.mk fs)=true∧dupF [] fs=false∧acA fs=0∧∃ x,q=.mk x∧uFs fs fs=.ok (x,nl):=by
 unfold uP at h;obtain ⟨h1,h⟩:=aeo h;obtain ⟨h2,h⟩:=aeo h;obtain ⟨h3,h⟩:=aeo h;obtain ⟨x,h4,h⟩:=ae5 h;cases h;exact ⟨h1,by simpa using h2,by simpa using h3,x.1,rfl,h4⟩
end Go.Proofs.YtoegpkmhifmamaaGreatDoor
namespace Go.Proofs.YtoegpkmhifmamaaGreatDoor
open Go
def Nz {α:Type} (u:Ex α):Prop:=∀ c,u=.error c→c ≠ 0
theorem Nz.ok {α:Type} (x:α):Nz (.ok x:Ex α):=fun c h=>by cases h
theorem Nz.er {α:Type} {c:Int} (h:c ≠ 0):Nz (.error c:Ex α):=fun c' h'=>by cases h'; exact h
theorem Nz.eb {α β:Type} {u:Ex α} {f:α→Ex β} (h:Nz u) (hf : ∀ x,Nz (f x)):Nz (eb u f):=by
 cases u with
 | error c=>intro c' h'; cases h'; exact h c rfl
 | ok x=>exact hf x
theorem Nz.eb3 {α β:Type} {u:Ex (List ByteArray × List Nat × α)} {f:List ByteArray→List Nat→α→Ex β} (h:Nz u) (hf : ∀ a b x,Nz (f a b x)):Nz (eb3 u f):=by
 cases u with
 | error c=>intro c' h'; cases h'; exact h c rfl
 | ok x=>exact hf x.1 x.2.1 x.2.2
theorem Nz.uD {α:Type} {b:Bool} {c:Int} {x:Ex α} (hc:c ≠ 0) (h:Nz x):Nz (uD b c x):=by
 cases b with
 | false=>exact .er hc
 | true=>exact h
theorem Nz.cond {α:Type} {b:Bool} {u v:Ex α} (h:Nz u) (h' : Nz v):Nz (cond b u v):=by
 cases b
 ·exact h'
 ·exact h
theorem Nz.uMk {nm:List ByteArray} {vis:List Nat} {a:ByteArray}:Nz (uMk nm vis a):=by
 unfold Go.Proofs.YtoegpkmhifmamaaGreatDoor.uMk;cases abq nm vis a with
 | none=>exact .ok _
 | some v=>exact .er (by decide)
theorem Nz.uCall {op:Int} {fr:ByteArray} {na:Nat} : ∀ {l:List aaf} {i:Nat},Nz (uCall op fr na l i)
 | [],i=>.er (by decide)
 | .mk nm ps r fl v b :: l,i=>by
  unfold Go.Proofs.YtoegpkmhifmamaaGreatDoor.uCall;exact .cond (.cond (.cond (.ok _) (.er (by decide))) (.er (by decide))) .uCall
theorem Nz.uEs {nm:List ByteArray} {vis:List Nat} {l:List aal}:Nz (uEs nm vis l):=fun c h=>by rw [auH h]; decide
section
variable (fs:List aaf) (f2:Int) (f3:Bool)
theorem atx : ∀ n:Nat,
  (∀ s,szS s≤n→∀ lo nm vis,Nz (uS fs f2 f3 lo nm vis s)) ∧
  (∀ l,szSs l≤n→∀ lo nm vis,Nz (uSs fs f2 f3 lo nm vis l)) ∧
  (∀ c,szC c≤n→∀ lo nm vis,Nz (uC fs f2 f3 lo nm vis c)) ∧
  (∀ l,szCs l≤n→∀ lo nm vis,Nz (uCs fs f2 f3 lo nm vis l))
 | 0=>by
  refine ⟨fun s h=>?_,fun l h=>?_,fun c h=>?_,fun l h=>?_⟩
  ·have:=abI s; omega
  ·cases l with
   | nil=>intro lo nm vis; simp only [uSs]; exact .ok _
   | cons s l=>have:=abI s; simp only [szSs] at h; omega
  ·have:=acZ c; omega
  ·cases l with
   | nil=>intro lo nm vis; simp only [uCs]; exact .ok _
   | cons s l=>have:=acZ s; simp only [szCs] at h; omega
 | n + 1=>by
  obtain ⟨i1,i2,i3,i4⟩:=atx n;have a1 : ∀ s,szS s≤n + 1→∀ lo nm vis,Nz (uS fs f2 f3 lo nm vis s):=by
   rintro ⟨op,name,s2,fr,s4,flag,l6,l7,l8,l9,l10⟩ h lo nm vis;simp only [szS] at h;have h7:=i2 l7 (by omega);have h8:=i2 l8 (by omega);have h9:=i2 l9 (by omega);have h10:=i4 l10 (by omega);simp only [uS,aoj,ah8];have hmk : ∀ nm vis,Nz (cond (seq name ⟨#[]⟩) (.ok (nm,vis,s2)) (uMk nm vis name):Ex (List ByteArray × List Nat × Int)):=fun nm vis=>.cond (.ok _) .uMk
   refine .eb .uEs fun r6=>.cond (.eb3 (h10 _ _ _) fun _ _ _=>.ok _) (.eb (.cond (.ok _) .uCall) fun ix=>?_)
   refine .cond ?_ (.cond (.uD (by decide) (.ok _)) (.cond (.uD (by decide) (.ok _)) (.cond (.uD (by decide) (.ok _)) (.cond (.eb3 (.eb3 (h7 _ _ _) fun _ _ _=>.ok _) fun _ _ _=>.ok _) ?_))))
   ·cases abq nm vis name with
    | none=>exact .er (by decide)
    | some v=>exact .ok _
   refine .cond (.eb3 (.eb3 (hmk _ _) fun _ _ _=>.eb3 (h7 _ _ _) fun _ _ _=>.ok _) fun _ _ _=>.ok _) ?_;refine .cond (.eb3 (.eb3 (hmk _ _) fun _ _ _=>.eb3 (h7 _ _ _) fun _ _ _=>.ok _) fun _ _ _=>.ok _) ?_;refine .cond (.eb3 (.eb3 (h7 _ _ _) fun _ _ _=>.ok _) fun _ _ _=>.eb3 (.eb3 (hmk _ _) fun _ _ _=>.eb3 (h8 _ _ _) fun _ _ _=>.ok _) fun _ _ _=>.eb3 (.eb3 (h9 _ _ _) fun _ _ _=>.ok _) fun _ _ _=>.ok _) ?_;exact .cond (.eb3 (.eb3 (h7 _ _ _) fun _ _ _=>.ok _) fun _ _ _=>.eb3 (.eb3 (h8 _ _ _) fun _ _ _=>.ok _) fun _ _ _=>.ok _) (.eb3 (hmk _ _) fun _ _ _=>.uD (by decide) (.ok _))
  have a3 : ∀ c,szC c≤n + 1→∀ lo nm vis,Nz (uC fs f2 f3 lo nm vis c):=by
   rintro ⟨kind,name,slot,es,b⟩ h lo nm vis;simp only [szC] at h;simp only [uC,ah8];exact .eb .uEs fun _=>.eb3 (.eb3 (.cond (.ok _) .uMk) fun _ _ _=>.eb3 (i2 b (by omega) _ _ _) fun _ _ _=>.ok _) fun _ _ _=>.ok _
  have a2 : ∀ l,szSs l≤n + 1→∀ lo nm vis,Nz (uSs fs f2 f3 lo nm vis l):=by
   intro l;induction l with
   | nil=>intro h lo nm vis; simp only [uSs]; exact .ok _
   | cons s l ih =>
    intro h lo nm vis;simp only [szSs] at h;simp only [uSs];exact .eb3 (a1 s (by omega) _ _ _) fun _ _ _=>.eb3 (ih (by omega) _ _ _) fun _ _ _=>.ok _
  have a4 : ∀ l,szCs l≤n + 1→∀ lo nm vis,Nz (uCs fs f2 f3 lo nm vis l):=by
   intro l;induction l with
   | nil=>intro h lo nm vis; simp only [uCs]; exact .ok _
   | cons s l ih =>
    intro h lo nm vis;simp only [szCs] at h;simp only [uCs];exact .eb3 (a3 s (by omega) _ _ _) fun _ _ _=>.eb3 (ih (by omega) _ _ _) fun _ _ _=>.ok _
  exact ⟨a1,a2,a3,a4⟩
end
theorem aq6 : ∀ (l:List aaL) (nm:List ByteArray) (vis:List Nat),Nz (uPs nm vis l)
 | [],nm,vis=>.ok _
 | .mk a kd :: l,nm,vis=>by
  unfold uPs;exact .eb3 .uMk fun _ _ _=>aq6 l _ _
theorem arn (fs:List aaf) : ∀ l,Nz (uFs fs l)
 | []=>.ok _
 | .mk n ps res fl v b :: l=>by
  unfold uFs uF;exact .eb (.eb3 (aq6 _ _ _) fun _ _ _=>.eb3 ((atx fs res fl (szSs b)).2.1 b (Nat.le_refl _) _ _ _) fun _ _ _=>.uD (by decide) (.ok _)) fun _=>.eb (arn fs l) fun _=>.ok _
theorem ari {p:aaa} {c:Int} (h:uP p=.error c):c ≠ 0:=by
 obtain ⟨fs⟩:=p;refine (show Nz (uD (wf false (.mk fs)) 2 (uD (!dupF [] fs) 21 (uD (decide (acA fs=0)) (acA fs) (eb (uFs fs fs) fun x=>.ok (aaa.mk x.1,x.2))))) from .uD (by decide) (.uD (by decide) ?_)) c h;cases hb:decide (acA fs=0) with
 | false=>exact .er (of_decide_eq_false hb)
 | true=>exact .eb (arn fs fs) fun _=>.ok _
def opsL:List (Int × aaB):=(f50 0).getD []
theorem aui (k:Nat):f50 k=some opsL:=rfl
theorem ako (k:Nat) (a:Int) : ∀ (l:List Int) (i:Nat),∃ r,ag2 k a l i=some r∧decide (r ≥ 0)=l.any (a == ·)
 | [],i=>⟨-1,rfl,rfl⟩
 | e :: l,i=>by
  unfold ag2;cases h:a == e
  ·obtain ⟨r,h1,h2⟩:=ako k a l (i + 1);exact ⟨r,h1,by simp [h,h2]⟩
  ·exact ⟨(i:Int),rfl,by simp [h]⟩
theorem auC (k:Nat) (l:List Int) (a:Int):f51 k l a=some (l.any (a == ·)):=by
 unfold f51 aqp f75 apx;obtain ⟨r,h1,h2⟩:=ako k a l 0;simp [h1,h2]
def kV (op a:Int):Int:=cond (op == 9 || op == 10) 2 (cond (op == 15) (cond (a != 1 && a != 3) (-1) a) (ae4 (mget qI op opsL) (-1) (fun x=>match x with | .mk ks v=>cond (ks.any (a == ·)) v (-1))))
def kO (op:Int):List Int→Int
 | []=>-1
 | [a]=>cond (a == -1) (-1) (kV op a)
 | a :: b :: _=>cond (a == -1) (-1) (cond (b != a) (-1) (kV op a))
mutual
def kT (vs:List Int):aal→Int
 | .mk op _ _ slot l=>cond (op == 1) 1 (cond (op == 2) 2 (cond (op == 3) 3 (cond (op == 4) (vs[slot.toNat]?.getD 0) (kO op (kTs vs l)))))
def kTs (vs:List Int):List aal→List Int
 | []=>[]
 | e :: l=>kT vs e :: kTs vs l
end
mutual
def wvE (m:Nat):aal→Bool
 | .mk op _ _ slot l=>cond (op == 1 || op == 2 || op == 3) true (cond (op == 4) (decide (0≤slot) && decide (slot < (m:Int))) (l.length == 1 || l.length == 2)) && wvEs m l
def wvEs (m:Nat):List aal→Bool
 | []=>true
 | e :: l=>wvE m e && wvEs m l
end
theorem aow {vs:List Int} {s:Int} (h0:0≤s) (h1:s < (vs.length:Int)):idxO vs s=some (vs[s.toNat]?.getD 0):=by
 unfold idxO;rw [if_pos h0];have h:s.toNat < vs.length:=by omega
 rw [List.getElem?_eq_getElem h];rfl
theorem aoM (k:Nat) (F:aks) (op a:Int) (q:Bool):ahd k F op a q=some (cond q (-1) (kV op a)):=by
 unfold ahd akH akR ak6 kV;simp only [aui,auC,Option.bind_some,List.any_nil];cases q with
 | true=>rfl
 | false =>
  cases h9:op == 9 <;> cases h10:op == 10 <;> simp only [cond_true,cond_false,Bool.or_false,Bool.false_or,Bool.or_true]
  cases h15:op == 15
  ·simp only [cond_false];cases mget qI op opsL with
   | none=>rfl
   | some x =>
    obtain ⟨ks,v⟩:=x;simp only [ae4];cases ks.any (a == ·) <;> rfl
  ·simp only [cond_true];cases a != 1 <;> cases a != 3 <;> rfl
theorem ann (k:Nat) : ∀ (n:Nat) (e:aal) (vs:List Int),szE e≤n→wvE vs.length e=true→(ani k n).f33 e vs=some (kT vs e)
 | 0,.mk op num txt slot l,vs,hn,_=>by simp only [szE] at hn; omega
 | n + 1,.mk op num txt slot l,vs,hn,hv=>by
  have ih:=ann k n;simp only [szE] at hn;unfold wvE at hv;rw [Bool.and_eq_true] at hv;obtain ⟨hv,hl⟩:=hv;show aoX k (ani k n) (.mk op num txt slot l) vs=_;unfold aoX kT;simp only;cases h1:op == 1 with
  | true=>rfl
  | false =>
   cases h2:op == 2 with
   | true=>rfl
   | false =>
    cases h3:op == 3 with
    | true=>rfl
    | false =>
     simp only [h1,h2,h3,Bool.or_false,cond_false] at hv;cases h4:op == 4 with
     | true =>
      rw [h4,cond_true,Bool.and_eq_true,decide_eq_true_eq,decide_eq_true_eq] at hv;simp only [cond_false,cond_true,aow hv.1 hv.2,Option.bind_some]
     | false =>
      rw [h4,cond_false] at hv;simp only [cond_false];rcases l with _ | ⟨e0,l⟩
      ·simp at hv
      ·simp only [wvEs,Bool.and_eq_true] at hl;simp only [szEs] at hn;have i0:idxO (e0 :: l) 0=some e0:=rfl;have g0:=ih e0 vs (by omega) hl.1;obtain ⟨b0,b1,b2,b3,b4⟩:=e0;simp only [i0,Option.bind_some,g0,aoM,kTs];rcases l with _ | ⟨e1,l⟩
       ·simp only [kTs,kO];cases kT vs (.mk b0 b1 b2 b3 b4) == -1 <;> rfl
       ·obtain rfl:l=[]:=by
         cases l with
         | nil=>rfl
         | cons a l=>simp at hv
        simp only [wvEs,Bool.and_eq_true,Bool.and_true] at hl;simp only [szEs] at hn;have i1:idxO [aal.mk b0 b1 b2 b3 b4,e1] 1=some e1:=rfl;have g1:=ih e1 vs (by omega) hl.2;obtain ⟨c0,c1,c2,c3,c4⟩:=e1;simp only [i1,Option.bind_some,g1,kTs,kO];cases kT vs (.mk b0 b1 b2 b3 b4) == -1 <;> rfl
theorem aq4 (k:Nat) (e:aal) (vs:List Int) (hk:szE e≤k) (hv:wvE vs.length e=true):f33 k e vs=some (kT vs e):=ann k k e vs hk hv
def areK (vs:List Int):List aal→List Int→Bool
 | [],_=>true
 | e :: l,ks=>(kT vs e == ks.headD 0) && areK vs l ks.tail
theorem akj (k:Nat) (vs ks:List Int) : ∀ (l:List aal) (i:Nat),i + l.length≤ks.length→szEs l≤k→wvEs vs.length l=true→ag8 k vs ks l i=some (areK vs l (ks.drop i))
 | [],i,_,_,_=>rfl
 | .mk b0 b1 b2 b3 b4 :: l,i,hi,hk,hv=>by
  simp only [wvEs,Bool.and_eq_true] at hv;simp only [szEs] at hk;simp only [List.length_cons] at hi;have hlt:i < ks.length:=by omega
  obtain ⟨x,hx⟩ : ∃ x,ks[i]?=some x:=⟨_,List.getElem?_eq_getElem hlt⟩;have hd:ks.drop i=x :: ks.drop (i + 1):=by
   rw [List.drop_eq_getElem_cons hlt];rw [List.getElem?_eq_getElem hlt] at hx;rw [Option.some.inj hx]
  unfold ag8;have hi0:idxO ks (i:Int)=some x:=by unfold idxO; rw [if_pos (by omega)]; exact hx
  simp only [hi0,Option.bind_some,aq4 k _ vs (by omega) hv.1,akj k vs ks l (i + 1) (by omega) (by omega) hv.2,hd,areK,List.headD_cons,List.tail_cons];rw [bne];cases kT vs (.mk b0 b1 b2 b3 b4) == x <;> rfl
theorem amO (k:Nat) (fs:List aaf) (a0:ByteArray) (a1:List aaL) (a2:Int) (a3:Bool) (a4:Int) (a5:List aag) (vs:List Int) (l:List aal) (ks:List Int) (hl:l.length≤ks.length) (hk:szEs l≤k) (hv:wvEs vs.length l=true) :
  f84 k (.mk (.mk fs) (.mk a0 a1 a2 a3 a4 a5) vs) l ks=some (areK vs l ks):=by
 unfold f84 api;have:=akj k vs ks l 0 (by omega) hk hv;simpa using this
def agx:List (Int × List Int):=(f85 0).getD []
theorem atm (k:Nat):f85 k=some agx:=rfl
def aeu:List (Int × List Int):=mput qI 3 [1] (mput qI 2 [4,1] (mput qI 1 [4] ([]:List (Int × (List Int)))))
def aeD (m:Nat) (s:Int):Bool:=decide (0≤s) && decide (s < (m:Int))
def acI:List aaL→List Int
 | []=>[]
 | .mk _ k :: l=>k :: acI l
theorem ac8 : ∀ l,(acI l).length=l.length
 | []=>rfl
 | .mk _ k :: l=>by simp [acI,ac8 l]
theorem akM (k:Nat) : ∀ (l:List aaL) (i:Nat) (xs:List Int),(xs.length + l.length) * 8≤140737488355328→agu k l i xs=some (xs ++ acI l)
 | [],i,xs,_=>by simp [agu,acI]
 | .mk a b :: l,i,xs,h=>by
  simp only [List.length_cons] at h;unfold agu;rw [show ∀ (z:Option (List Int)),aaW (decide ((xs.length + 1) * 8≤140737488355328)) z=z from fun z=>by unfold aaW; rw [decide_eq_true (by omega)]; rfl];rw [akM k l (i + 1) (xs ++ [b]) (by simp only [List.length_append,List.length_cons,List.length_nil]; omega)];simp [acI]
theorem aoF (k:Nat) (a0:ByteArray) (ps:List aaL) (a2:Int) (a3:Bool) (a4:Int) (a5:List aag) (h:ps.length≤1000):f26 k (.mk a0 ps a2 a3 a4 a5)=some (acI ps):=by
 unfold f26 apm;have:=akM k ps 0 [] (by simp; omega);simpa using this
def parF:aaf→List aaL | .mk _ ps _ _ _ _=>ps
def akS : aaf→Int | .mk _ _ r _ _ _=>r
def amY (fs:List aaf) (vs:List Int) (op:Int) (name:ByteArray) (ix:Int) (l6:List aal):Option Int :=
 cond (op == 1) (cond ((kTs vs l6).headD 0 == -1) none (some ((kTs vs l6).headD 0)))
 (cond (op == 14) (cond ((kTs vs l6).headD 0 == -1) none (some 1))
 (cond (op == 3 || op == 4 || op == 28)
  (match fs[ix.toNat]? with
   | none=>none
   | some f=>cond (!areK vs l6 (acI (parF f)) || (op == 3 && (!seq name ⟨#[]⟩ && akS f == 0))) none (cond (op == 4) (cond (akS f != 1 && akS f != 0) none (some 5)) (cond (op == 28) (some 1) (some (akS f)))))
 (cond (op == 7) (some 4) (cond (op == 8) (some 6) (cond (op == 24) (some 3) (some 1))))))
def ajM (vs:List Int) (op:Int) (l6:List aal):Bool:=match mget qI op agx with | none=>true | some ws=>areK vs l6 ws
mutual
def yS (fs:List aaf) (res:Int):List Int→aag→Option (List Int)
 | vs,.mk op name slot fr ix flag l6 l7 l8 l9 l10 =>
  cond (op == 2) (cond ((kTs vs l6).headD 0 == (vs[slot.toNat]?.getD 0)) (some vs) none)
  (cond (op == 17) (cond (areK vs l6 [res]) (some vs) none)
  (match amY fs vs op name ix l6 with
   | none=>none
   | some made=>cond (ajM vs op l6) ((yCs fs res (cond (seq name ⟨#[]⟩) vs (vs.set slot.toNat made)) l10).bind fun v=>(ySs fs res v l7).bind fun v=>(ySs fs res v l8).bind fun v=>ySs fs res v l9) none))
def ySs (fs:List aaf) (res:Int):List Int→List aag→Option (List Int)
 | vs,[]=>some vs
 | vs,s :: l=>(yS fs res vs s).bind fun v=>ySs fs res v l
def yCs (fs:List aaf) (res:Int):List Int→List aaz→Option (List Int)
 | vs,[]=>some vs
 | vs,.mk kind name slot es b :: l=>cond (areK vs es ((mget qI kind aeu).getD [])) ((ySs fs res (cond (seq name ⟨#[]⟩) vs (vs.set slot.toNat 1)) b).bind fun v=>yCs fs res v l) none
end
mutual
def wvS (fs:List aaf) (m:Nat):aag→Bool
 | .mk op name slot fr ix flag l6 l7 l8 l9 l10=>wvEs m l6 && ((op != 1 && op != 14 && op != 2 || decide (1≤l6.length)) && ((op != 17 || decide (l6.length≤1)) && ((op != 2 && seq name ⟨#[]⟩ || aeD m slot) &&
  (cond (op == 3 || op == 4 || op == 28) (decide (0≤ix) && (match fs[ix.toNat]? with | none=>false | some f=>decide (l6.length≤(parF f).length) && decide ((parF f).length≤1000))) true &&
  ((match mget qI op agx with | none=>true | some ws=>decide (l6.length≤ws.length)) && (vSs fs m l7 && (vSs fs m l8 && (vSs fs m l9 && vCs fs m l10))))))))
def vSs (fs:List aaf) (m:Nat):List aag→Bool
 | []=>true
 | s :: l=>wvS fs m s && vSs fs m l
def vCs (fs:List aaf) (m:Nat):List aaz→Bool
 | []=>true
 | .mk kind name slot es b :: l=>wvEs m es && (decide (es.length≤((mget qI kind aeu).getD []).length) && ((seq name ⟨#[]⟩ || aeD m slot) && (vSs fs m b && vCs fs m l)))
end
section
variable (fs:List aaf) (a0:ByteArray) (a1:List aaL) (a2:Int) (a3:Bool) (a4:Int) (a5:List aag)
abbrev Stt (vs:List Int):aak:=.mk (.mk fs) (.mk a0 a1 a2 a3 a4 a5) vs
def Rs (r:Option (aak × Bool)) (u:Option (List Int)) (m:Nat):Prop:=match u with
 | none=>∃ vs',vs'.length=m∧r=some (Stt fs a0 a1 a2 a3 a4 a5 vs',false)
 | some w=>w.length=m∧r=some (Stt fs a0 a1 a2 a3 a4 a5 w,true)
variable {fs a0 a1 a2 a3 a4 a5}
theorem ajm {vs:List Int} {s:Int} (h:aeD vs.length s=true):idxO vs s=some (vs[s.toNat]?.getD 0):=by
 unfold aeD at h;rw [Bool.and_eq_true,decide_eq_true_eq,decide_eq_true_eq] at h;exact aow h.1 h.2
variable {k:Nat} {F:adK} {N:Nat} (HB : ∀ (l:List aag) (vs:List Int),szSs l≤N→vSs fs vs.length l=true→Rs fs a0 a1 a2 a3 a4 a5 (F.f36 (Stt fs a0 a1 a2 a3 a4 a5 vs) l) (ySs fs a2 vs l) vs.length)
include HB
theorem arB {l7 l8 l9:List aag} {vs:List Int} (h7:szSs l7≤N) (h8:szSs l8≤N) (h9:szSs l9≤N) (v7:vSs fs vs.length l7=true) (v8:vSs fs vs.length l8=true) (v9:vSs fs vs.length l9=true) (i:Nat) :
  Rs fs a0 a1 a2 a3 a4 a5 (acV k F l7 l8 l9 [] i fs a0 a1 a2 a3 a4 a5 vs) ((ySs fs a2 vs l7).bind fun v=>(ySs fs a2 v l8).bind fun v=>ySs fs a2 v l9) vs.length:=by
 unfold acV aic;have g7:=HB l7 vs h7 v7;cases e7:ySs fs a2 vs l7 with
 | none =>
  rw [e7] at g7;obtain ⟨w,hw,hr⟩:=g7;simp only [hr,Option.bind_some,cond_false];exact ⟨w,hw,rfl⟩
 | some w7 =>
  rw [e7] at g7;obtain ⟨hw7,hr⟩:=g7;simp only [hr,Option.bind_some,cond_true];have g8:=HB l8 w7 h8 (by rw [hw7]; exact v8);cases e8:ySs fs a2 w7 l8 with
  | none =>
   rw [e8] at g8;obtain ⟨w,hw,hr⟩:=g8;simp only [hr,Option.bind_some,cond_false];exact ⟨w,by omega,rfl⟩
  | some w8 =>
   rw [e8] at g8;obtain ⟨hw8,hr⟩:=g8;simp only [hr,Option.bind_some,cond_true];have g9:=HB l9 w8 h9 (by rw [hw8,hw7]; exact v9);cases e9:ySs fs a2 w8 l9 with
   | none =>
    rw [e9] at g9;obtain ⟨w,hw,hr⟩:=g9;simp only [hr,Option.bind_some];exact ⟨w,by omega,rfl⟩
   | some w9 =>
    rw [e9] at g9;obtain ⟨hw9,hr⟩:=g9;simp only [hr,Option.bind_some];exact ⟨by omega,rfl⟩
theorem al6 {l7 l8 l9:List aag} (h7:szSs l7≤N) (h8:szSs l8≤N) (h9:szSs l9≤N) : ∀ (l10:List aaz) (i:Nat) (vs:List Int),szCs l10≤N→szCs l10≤k→vSs fs vs.length l7=true→vSs fs vs.length l8=true→vSs fs vs.length l9=true→vCs fs vs.length l10=true →
  Rs fs a0 a1 a2 a3 a4 a5 (acV k F l7 l8 l9 l10 i fs a0 a1 a2 a3 a4 a5 vs) ((yCs fs a2 vs l10).bind fun v=>(ySs fs a2 v l7).bind fun v=>(ySs fs a2 v l8).bind fun v=>ySs fs a2 v l9) vs.length
 | [],i,vs,_,_,v7,v8,v9,_=>by simpa only [yCs,Option.bind_some] using arB HB h7 h8 h9 v7 v8 v9 i
 | .mk kind name slot es b :: l,i,vs,hn,hk,v7,v8,v9,hv=>by
  have ih:=al6 h7 h8 h9 l (i + 1);simp only [szCs,szC] at hn hk;simp only [vCs,Bool.and_eq_true,decide_eq_true_eq] at hv;obtain ⟨q1,q2,q3,q4,q5⟩:=hv;have hA:=amO k fs a0 a1 a2 a3 a4 a5 vs es ((mget qI kind aeu).getD []) q2 (by omega) q1;have key : ∀ vs1:List Int,vs1.length=vs.length→Rs fs a0 a1 a2 a3 a4 a5 (aiv k F fs a0 a1 a2 a3 a4 a5 i b vs1 (acV k F l7 l8 l9 l)) (((ySs fs a2 vs1 b).bind fun v=>yCs fs a2 v l).bind fun v=>(ySs fs a2 v l7).bind fun v=>(ySs fs a2 v l8).bind fun v=>ySs fs a2 v l9) vs.length:=by
   intro vs1 hl;unfold aiv;have gb:=HB b vs1 (by omega) (by rw [hl]; exact q4);cases eb:ySs fs a2 vs1 b with
   | none =>
    rw [eb] at gb;obtain ⟨w,hw,hr⟩:=gb;simp only [hr,Option.bind_some,Bool.not_false,cond_true];exact ⟨w,by omega,rfl⟩
   | some w =>
    rw [eb] at gb;obtain ⟨hw,hr⟩:=gb;simp only [hr,Option.bind_some,Bool.not_true,cond_false];have hwl:w.length=vs.length:=by omega
    have:=ih w (by omega) (by omega) (by rw [hwl]; exact v7) (by rw [hwl]; exact v8) (by rw [hwl]; exact v9) (by rw [hwl]; exact q5);rw [hwl] at this;exact this
  have key6:Rs fs a0 a1 a2 a3 a4 a5 (ahp k F fs a0 a1 a2 a3 a4 a5 vs i name slot b (acV k F l7 l8 l9 l)) (((ySs fs a2 (cond (seq name ⟨#[]⟩) vs (vs.set slot.toNat 1)) b).bind fun v=>yCs fs a2 v l).bind fun v=>(ySs fs a2 v l7).bind fun v=>(ySs fs a2 v l8).bind fun v=>ySs fs a2 v l9) vs.length:=by
   unfold ahp;cases hs:seq name ⟨#[]⟩ with
   | true =>
    simp only [Bool.not_true,cond_false,cond_true];exact key vs rfl
   | false =>
    rw [hs,Bool.false_or] at q3;simp only [Bool.not_false,cond_false,cond_true,ajm q3,Option.bind_some];exact key _ (List.length_set ..)
  have goal : ∀ ks:List Int,ks=(mget qI kind aeu).getD []→Rs fs a0 a1 a2 a3 a4 a5 ((f84 k (Stt fs a0 a1 a2 a3 a4 a5 vs) es ks).bind fun r=>cond (!r) (some (Stt fs a0 a1 a2 a3 a4 a5 vs,false)) (ahp k F fs a0 a1 a2 a3 a4 a5 vs i name slot b (acV k F l7 l8 l9 l))) ((yCs fs a2 vs (.mk kind name slot es b :: l)).bind fun v=>(ySs fs a2 v l7).bind fun v=>(ySs fs a2 v l8).bind fun v=>ySs fs a2 v l9) vs.length:=by
   intro ks hks;subst hks;rw [hA];simp only [yCs,Option.bind_some];cases areK vs es ((mget qI kind aeu).getD []) with
   | true=>simpa only [Bool.not_true,cond_false,cond_true] using key6
   | false=>exact ⟨vs,rfl,rfl⟩
  unfold acV;cases hg:mget qI kind aeu with
  | none =>
   have:=goal [] (by rw [hg]; rfl);have hg' : mget qI kind (mput qI 3 [1] (mput qI 2 [4,1] (mput qI 1 [4] ([]:List (Int × (List Int))))))=none:=hg;rw [hg'];exact this
  | some ws =>
   have:=goal ws (by rw [hg]; rfl);have hg' : mget qI kind (mput qI 3 [1] (mput qI 2 [4,1] (mput qI 1 [4] ([]:List (Int × (List Int))))))=some ws:=hg;rw [hg'];exact this
end
end Go.Proofs.YtoegpkmhifmamaaGreatDoor
namespace Go.Proofs.YtoegpkmhifmamaaGreatDoor
open Go
section
variable {fs:List aaf} {a0:ByteArray} {a1:List aaL} {a2:Int} {a3:Bool} {a4:Int} {a5:List aag} {k:Nat} {F:adK}
variable {op:Int} {name:ByteArray} {slot:Int} {fr:ByteArray} {ix flag:Int} {l6:List aal} {l7 l8 l9:List aag} {l10:List aaz} {vs:List Int}
def akD (fs:List aaf) (res:Int) (vs:List Int) (name:ByteArray) (slot made:Int) (l7 l8 l9:List aag) (l10:List aaz):Option (List Int) :=
 (yCs fs res (cond (seq name ⟨#[]⟩) vs (vs.set slot.toNat made)) l10).bind fun v=>(ySs fs res v l7).bind fun v=>(ySs fs res v l8).bind fun v=>ySs fs res v l9
theorem ad2 (m:Nat) (h:vs.length=m):Rs fs a0 a1 a2 a3 a4 a5 (some (Stt fs a0 a1 a2 a3 a4 a5 vs,false)) none m:=⟨vs,h,rfl⟩
variable (HJ : ∀ (i:Nat) (v:List Int),v.length=vs.length→Rs fs a0 a1 a2 a3 a4 a5 (acV k F l7 l8 l9 l10 i fs a0 a1 a2 a3 a4 a5 v) ((yCs fs a2 v l10).bind fun v=>(ySs fs a2 v l7).bind fun v=>(ySs fs a2 v l8).bind fun v=>ySs fs a2 v l9) vs.length)
variable (hs:(op != 2 && seq name ⟨#[]⟩ || aeD vs.length slot)=true) (h2:(op == 2)=false) (hv:wvEs vs.length l6=true) (hk:szEs l6≤k) (hw:(match mget qI op agx with | none=>true | some ws=>decide (l6.length≤ws.length))=true)
include HJ hs h2
theorem avW (made:Int):Rs fs a0 a1 a2 a3 a4 a5 (agU k F fs a0 a1 a2 a3 a4 a5 vs name slot l7 l8 l9 l10 made false) (akD fs a2 vs name slot made l7 l8 l9 l10) vs.length:=by
 unfold agU ald akD;simp only [cond_false];have hb:(op != 2)=true:=by rw [bne,h2]; rfl
 rw [hb,Bool.true_and] at hs;cases hn:seq name ⟨#[]⟩ with
 | true =>
  simp only [Bool.not_true,cond_false,cond_true];exact HJ 0 vs rfl
 | false =>
  rw [hn,Bool.false_or] at hs;simp only [Bool.not_false,cond_true,cond_false,ajm hs,Option.bind_some];exact HJ 0 _ (List.length_set ..)
include hv hk hw
theorem aqC (made:Int):Rs fs a0 a1 a2 a3 a4 a5 (aek k F fs a0 a1 a2 a3 a4 a5 vs op name slot l6 l7 l8 l9 l10 made) (cond (ajM vs op l6) (akD fs a2 vs name slot made l7 l8 l9 l10) none) vs.length:=by
 have h3:=avW HJ hs h2 made;unfold aek ale ajM;simp only [atm,Option.bind_some];cases hg:mget qI op agx with
 | none =>
  simp only [ae4,cond_false,cond_true];exact h3
 | some ws =>
  rw [hg] at hw;simp only [ae4,cond_true,amO k fs a0 a1 a2 a3 a4 a5 vs l6 ws (of_decide_eq_true hw) hk hv,Option.bind_some];cases areK vs l6 ws with
  | true=>simpa only [Bool.not_true,cond_true] using h3
  | false =>
   unfold agU;simp only [Bool.not_false,cond_true,cond_false];exact ad2 _ rfl
theorem at9 (made:Int):Rs fs a0 a1 a2 a3 a4 a5 (afX k F fs a0 a1 a2 a3 a4 a5 vs op name slot l6 l7 l8 l9 l10 made) (cond (ajM vs op l6) (akD fs a2 vs name slot (cond (op == 28) 1 made) l7 l8 l9 l10) none) vs.length:=by
 have h1:=fun made=>aqC HJ hs h2 hv hk hw made
 unfold afX;cases op == 28 with
 | true=>exact h1 1
 | false=>exact h1 made
theorem avn (res:Int) (q:Bool):Rs fs a0 a1 a2 a3 a4 a5 (agq k F fs a0 a1 a2 a3 a4 a5 vs op name slot l6 l7 l8 l9 l10 res q)
  (match (cond q none (cond (op == 4) (cond (res != 1 && res != 0) none (some 5)) (cond (op == 28) (some 1) (some res))):Option Int) with | none=>none | some made=>cond (ajM vs op l6) (akD fs a2 vs name slot made l7 l8 l9 l10) none) vs.length:=by
 have h10:=fun made=>at9 HJ hs h2 hv hk hw made
 unfold agq;cases q with
 | true=>exact ad2 _ rfl
 | false =>
  simp only [cond_false];cases h4:op == 4 with
  | true =>
   have h28:(op == 28)=false:=by
    obtain rfl:op=4:=by simpa using h4
    rfl
   have h5:=h10 5;rw [h28] at h5;unfold ahA;cases e1:res != 1 with
   | true =>
    simp only [cond_true,Bool.true_and];cases e0:res != 0 with
    | true=>exact ad2 _ rfl
    | false=>simpa only [cond_false] using h5
   | false=>simpa only [cond_true,cond_false,Bool.false_and] using h5
  | false =>
   have h5:=h10 res;simp only [cond_false];cases h28:op == 28 with
   | true=>rw [h28] at h5; simpa only [cond_true] using h5
   | false=>rw [h28] at h5; simpa only [cond_false] using h5
theorem avG (hc:(cond (op == 3 || op == 4 || op == 28) (decide (0≤ix) && (match fs[ix.toNat]? with | none=>false | some f=>decide (l6.length≤(parF f).length) && decide ((parF f).length≤1000))) true)=true) (h1:(op == 1)=false) (h14:(op == 14)=false) :
  Rs fs a0 a1 a2 a3 a4 a5 (aez k F fs a0 a1 a2 a3 a4 a5 vs op name slot ix l6 l7 l8 l9 l10 (op == 3 || op == 4 || op == 28))
   (match amY fs vs op name ix l6 with | none=>none | some made=>cond (ajM vs op l6) (akD fs a2 vs name slot made l7 l8 l9 l10) none) vs.length:=by
 have g1:=fun made=>aqC HJ hs h2 hv hk hw made
 have g9:=fun res q=>avn HJ hs h2 hv hk hw res q
 unfold aez amY;simp only [h1,h14,cond_false];cases hq:(op == 3 || op == 4 || op == 28) with
 | true =>
  rw [hq,cond_true,Bool.and_eq_true,decide_eq_true_eq] at hc;obtain ⟨hx,hc⟩:=hc;cases hf:fs[ix.toNat]? with
  | none=>rw [hf] at hc; simp at hc
  | some f =>
   rw [hf] at hc;simp only [Bool.and_eq_true,decide_eq_true_eq] at hc;have hi:idxO fs ix=some f:=by unfold idxO; rw [if_pos hx]; exact hf
   obtain ⟨b0,b1,b2,b3,b4,b5⟩:=f;have hlen:l6.length≤(acI b1).length:=by rw [ac8]; exact hc.1
   simp only [cond_true,hi,Option.bind_some,aoF k b0 b1 b2 b3 b4 b5 hc.2,amO k fs a0 a1 a2 a3 a4 a5 vs l6 (acI b1) hlen hk hv,parF,akS];cases areK vs l6 (acI b1) with
   | false =>
    simp only [Bool.not_false,cond_true,Bool.true_or];exact g9 b2 true
   | true =>
    simp only [Bool.not_true,cond_false,Bool.false_or];cases h3:op == 3 with
    | true =>
     cases hn:seq name ⟨#[]⟩ with
     | true =>
      simp only [Bool.not_true,cond_true,cond_false,Bool.false_and,Bool.true_and];exact g9 b2 false
     | false =>
      simp only [Bool.not_false,cond_true,Bool.true_and];exact g9 b2 (b2 == 0)
    | false =>
     simp only [cond_false,Bool.false_and];exact g9 b2 false
 | false =>
  simp only [cond_false];cases op == 7 with
  | true=>exact g1 4
  | false =>
   cases op == 8 with
   | true=>exact g1 6
   | false =>
    cases op == 24 with
    | true=>exact g1 3
    | false=>exact g1 1
end
section
variable {fs:List aaf} {a0:ByteArray} {a1:List aaL} {a2:Int} {a3:Bool} {a4:Int} {a5:List aag} {k:Nat} {F:adK} {N:Nat}
variable (HB : ∀ (l:List aag) (vs:List Int),szSs l≤N→vSs fs vs.length l=true→Rs fs a0 a1 a2 a3 a4 a5 (F.f36 (Stt fs a0 a1 a2 a3 a4 a5 vs) l) (ySs fs a2 vs l) vs.length)
include HB
theorem arU (s:aag) (vs:List Int) (hn:szS s≤N + 1) (hk:szS s≤k) (h:wvS fs vs.length s=true):Rs fs a0 a1 a2 a3 a4 a5 (am8 k F (Stt fs a0 a1 a2 a3 a4 a5 vs) s) (yS fs a2 vs s) vs.length:=by
 obtain ⟨op,name,slot,fr,ix,flag,l6,l7,l8,l9,l10⟩:=s;simp only [szS] at hn hk;simp only [wvS,Bool.and_eq_true] at h;obtain ⟨hv,ha,hr,hs,hc,hw,v7,v8,v9,v10⟩:=h;have HJ : ∀ (i:Nat) (v:List Int),v.length=vs.length→Rs fs a0 a1 a2 a3 a4 a5 (acV k F l7 l8 l9 l10 i fs a0 a1 a2 a3 a4 a5 v) ((yCs fs a2 v l10).bind fun v=>(ySs fs a2 v l7).bind fun v=>(ySs fs a2 v l8).bind fun v=>ySs fs a2 v l9) vs.length:=by
  intro i v hl;have:=al6 HB (l7:=l7) (l8:=l8) (l9:=l9) (k:=k) (by omega) (by omega) (by omega) l10 i v (by omega) (by omega) (by rw [hl]; exact v7) (by rw [hl]; exact v8) (by rw [hl]; exact v9) (by rw [hl]; exact v10);rw [hl] at this;exact this
 have hk6:szEs l6≤k:=by omega
 unfold am8 yS;simp only;have first:1≤l6.length→∃ e,idxO l6 0=some e∧f33 k e vs=some ((kTs vs l6).headD 0):=by
  intro hl;cases l6 with
  | nil=>simp at hl
  | cons e l =>
   simp only [wvEs,Bool.and_eq_true] at hv;simp only [szEs] at hk6;exact ⟨e,rfl,aq4 k e vs (by omega) hv.1⟩
 cases h1:op == 1 with
 | true =>
  obtain rfl:op=1:=by simpa using h1
  obtain ⟨⟨b0,b1,b2,b3,b4⟩,e1,e2⟩:=first (by simpa using ha);have g1:=fun made=>aqC (a2:=a2) HJ hs rfl hv hk6 hw made
  simp only [cond_true,e1,Option.bind_some,e2];unfold amY;show Rs fs a0 a1 a2 a3 a4 a5 _ (match (cond ((kTs vs l6).headD 0 == -1) none (some ((kTs vs l6).headD 0)):Option Int) with | none=>none | some made=>cond (ajM vs 1 l6) (akD fs a2 vs name slot made l7 l8 l9 l10) none) vs.length;cases (kTs vs l6).headD 0 == -1 with
  | true=>exact ad2 _ rfl
  | false=>exact g1 _
 | false =>
  simp only [cond_false];cases h14:op == 14 with
  | true =>
   obtain rfl:op=14:=by simpa using h14
   obtain ⟨⟨b0,b1,b2,b3,b4⟩,e1,e2⟩:=first (by simpa using ha);have g1:=fun made=>aqC (a2:=a2) HJ hs rfl hv hk6 hw made
   simp only [cond_true,e1,Option.bind_some,e2];unfold amY;show Rs fs a0 a1 a2 a3 a4 a5 _ (match (cond ((kTs vs l6).headD 0 == -1) none (some 1):Option Int) with | none=>none | some made=>cond (ajM vs 14 l6) (akD fs a2 vs name slot made l7 l8 l9 l10) none) vs.length;cases (kTs vs l6).headD 0 == -1 with
   | true=>exact ad2 _ rfl
   | false=>exact g1 _
  | false =>
   simp only [cond_false];cases h2:op == 2 with
   | true =>
    obtain rfl:op=2:=by simpa using h2
    obtain ⟨⟨b0,b1,b2,b3,b4⟩,e1,e2⟩:=first (by simpa using ha);have hs' : aeD vs.length slot=true:=by simpa using hs
    simp only [cond_true,e1,Option.bind_some,ajm hs',e2];cases (kTs vs l6).headD 0 == vs[slot.toNat]?.getD 0 with
    | true=>exact ⟨rfl,rfl⟩
    | false=>exact ad2 _ rfl
   | false =>
    simp only [cond_false];cases h17:op == 17 with
    | true =>
     obtain rfl:op=17:=by simpa using h17
     have hr' : l6.length≤[a2].length:=by simpa using hr
     simp only [cond_true,amO k fs a0 a1 a2 a3 a4 a5 vs l6 [a2] hr' hk6 hv,Option.bind_some];cases areK vs l6 [a2] with
     | true=>exact ⟨rfl,rfl⟩
     | false=>exact ad2 _ rfl
    | false =>
     have g8:=avG (a2:=a2) (ix:=ix) HJ hs h2 hv hk6 hw hc h1 h14;simp only [cond_false];have e : ∀ (x y z:Option (aak × Bool)),(cond (op == 3) (aez k F fs a0 a1 a2 a3 a4 a5 vs op name slot ix l6 l7 l8 l9 l10 (op == 3)) (cond (op == 4) (aez k F fs a0 a1 a2 a3 a4 a5 vs op name slot ix l6 l7 l8 l9 l10 (op == 4)) (aez k F fs a0 a1 a2 a3 a4 a5 vs op name slot ix l6 l7 l8 l9 l10 (op == 28))))=aez k F fs a0 a1 a2 a3 a4 a5 vs op name slot ix l6 l7 l8 l9 l10 (op == 3 || op == 4 || op == 28):=by
      intro _ _ _;cases op == 3 <;> cases op == 4 <;> cases op == 28 <;> rfl
     have e':=e none none none;cases h3:op == 3 <;> cases h4:op == 4 <;> rw [h3,h4] at e' g8 <;> simp only [cond_true,cond_false,Bool.true_or,Bool.or_true,Bool.false_or,Bool.or_false] at e' g8 ⊢ <;> exact g8
omit HB in
theorem amj (hf57 : ∀ (s:aag) (vs:List Int),szS s≤N→wvS fs vs.length s=true→Rs fs a0 a1 a2 a3 a4 a5 (F.f57 (Stt fs a0 a1 a2 a3 a4 a5 vs) s) (yS fs a2 vs s) vs.length) : ∀ (l:List aag) (i:Nat) (vs:List Int),szSs l≤N→vSs fs vs.length l=true→Rs fs a0 a1 a2 a3 a4 a5 (agv k F l i fs a0 a1 a2 a3 a4 a5 vs) (ySs fs a2 vs l) vs.length
 | [],i,vs,_,_=>⟨rfl,rfl⟩
 | .mk op name slot fr ix flag l6 l7 l8 l9 l10 :: l,i,vs,hn,hv=>by
  simp only [szSs] at hn;simp only [vSs,Bool.and_eq_true] at hv;have ih:=amj hf57 l (i + 1);have g:=hf57 (.mk op name slot fr ix flag l6 l7 l8 l9 l10) vs (by omega) hv.1;unfold agv ySs;cases e:yS fs a2 vs (.mk op name slot fr ix flag l6 l7 l8 l9 l10) with
  | none =>
   rw [e] at g;obtain ⟨w,hw,hr⟩:=g;simp only [hr,Option.bind_some,Option.bind_none,Bool.not_false,cond_true];exact ⟨w,hw,rfl⟩
  | some w =>
   rw [e] at g;obtain ⟨hw,hr⟩:=g;simp only [hr,Option.bind_some,Bool.not_true,cond_false];have:=ih w (by omega) (by rw [hw]; exact hv.2);rw [hw] at this;exact this
end
def adM:aaz→List aag | .mk _ _ _ _ b=>b
theorem akC (k:Nat) : ∀ (l:List aaz) (i:Nat) (xs:List (List aag)),xs.length + l.length≤1000000→agm k l i xs=some (xs ++ l.map adM)
 | [],i,xs,_=>by simp [agm]
 | .mk a b c d e :: l,i,xs,h=>by
  simp only [List.length_cons] at h;unfold agm;rw [show ∀ (z:Option (List (List aag))),aaW (decide ((xs.length + 1) * 24≤140737488355328)) z=z from fun z=>by unfold aaW; rw [decide_eq_true (by omega)]; rfl];rw [akC k l (i + 1) (xs ++ [e]) (by simp only [List.length_append,List.length_cons,List.length_nil]; omega)];simp [adM]
theorem auR (k:Nat) (op:Int) (name:ByteArray) (slot:Int) (fr:ByteArray) (ix flag:Int) (l6:List aal) (l7 l8 l9:List aag) (l10:List aaz) (h:l10.length≤100000) :
  f92 k (.mk op name slot fr ix flag l6 l7 l8 l9 l10)=some (l7 :: l8 :: l9 :: l10.map adM):=by
 unfold f92 aqI;simp only;rw [akC k l10 0 [l7,l8,l9] (by simp; omega)];rfl
mutual
def bkS:aag→Bool
 | .mk op _ _ _ _ flag _ l7 l8 l9 l10=>cond (op == 21 || op == 28) false (op == 18 || (op == 6 && flag == 1) || (bkL l7 || (bkL l8 || (bkL l9 || bkC l10))))
def bkL:List aag→Bool
 | []=>false
 | s :: l=>bkS s || bkL l
def bkC:List aaz→Bool
 | []=>false
 | .mk _ _ _ _ b :: l=>bkL b || bkC l
end
theorem aoi : ∀ l,bkC l=(l.map adM).any bkL
 | []=>rfl
 | .mk a b c d e :: l=>by simp [bkC,aoi l,adM]
theorem ak2 : ∀ (l:List aaz) (b:List aag),b ∈ l.map adM→szSs b≤szCs l
 | [],b,h=>by simp at h
 | .mk a1 a2 a3 es e :: l,b,h=>by
  simp only [List.map_cons,adM,List.mem_cons] at h;simp only [szCs,szC];rcases h with rfl | h
  ·omega
  ·have:=ak2 l b h; omega
theorem akz {α:Type} {g:List α→Nat→Option Int} {h:α→Bool} (g0 : ∀ i,g [] i=some (-1)) (P:α→Prop) (g1 : ∀ e l i,P e→g (e :: l) i=cond (h e) (some (i:Int)) (g l (i + 1))) :
  ∀ (l:List α) (i:Nat),(∀ e ∈ l,P e)→∃ r,g l i=some r∧decide (r ≥ 0)=l.any h
 | [],i,_=>⟨-1,g0 i,rfl⟩
 | e :: l,i,hp=>by
  rw [g1 e l i (hp e (by simp))];cases he:h e with
  | true=>exact ⟨(i:Int),rfl,by simp [he]⟩
  | false =>
   obtain ⟨r,h1,h2⟩:=akz g0 P g1 l (i + 1) (fun x hx=>hp x (by simp [hx]));exact ⟨r,h1,by simp [he,h2]⟩
theorem aou : ∀ l,bkL l=l.any bkS
 | []=>rfl
 | s :: l=>by simp [bkL,aou l]
theorem aoZ : ∀ (l:List aag) (s:aag),s ∈ l→szS s≤szSs l
 | [],s,h=>by simp at h
 | x :: l,s,h=>by
  simp only [szSs];rcases List.mem_cons.1 h with rfl | h
  ·omega
  ·have:=aoZ l s h; omega
theorem ar8 (k:Nat) : ∀ N:Nat,(∀ (l:List aag) (n:Nat),szSs l≤N→N≤100000→6 * szSs l + 3≤n→(acf k n).f63 l=some (bkL l))∧(∀ (s:aag) (n:Nat),szS s≤N→N≤100000→6 * szS s≤n→(acf k n).f90 s=some (bkS s)):=by
 intro N;induction N with
 | zero =>
  refine ⟨fun l n h _ hn=>?_,fun s n h _ _=>?_⟩
  ·obtain rfl:l=[]:=by
    cases l with
    | nil=>rfl
    | cons s l=>obtain ⟨a0,a1,a2,a3,a4,a5,a6,a7,a8,a9,a10⟩:=s; simp only [szSs,szS] at h; omega
   obtain ⟨m,rfl⟩ : ∃ m,n=m + 3:=⟨n - 3,by omega⟩;rfl
  ·obtain ⟨a0,a1,a2,a3,a4,a5,a6,a7,a8,a9,a10⟩:=s;simp only [szS] at h;omega
 | succ N ih =>
  have hS : ∀ (s:aag) (n:Nat),szS s≤N + 1→N + 1≤100000→6 * szS s≤n→(acf k n).f90 s=some (bkS s):=by
   intro s n h hN hn;obtain ⟨op,name,slot,fr,ix,flag,l6,l7,l8,l9,l10⟩:=s;simp only [szS] at h hn;obtain ⟨m,rfl⟩ : ∃ m,n=m + 3:=⟨n - 3,by omega⟩;have h10:l10.length≤100000:=Nat.le_trans (amv l10) (by omega);have hB:(acf k (m + 2)).f1009184 (l7 :: l8 :: l9 :: l10.map adM)=some (bkL l7 || (bkL l8 || (bkL l9 || bkC l10))):=by
    show ((acp k (acf k m) (l7 :: l8 :: l9 :: l10.map adM) 0).bind fun r0=>some (decide (r0 ≥ 0)))=_;obtain ⟨r,h1,h2⟩:=akz (g:=acp k (acf k m)) (h:=bkL) (fun _=>rfl) (fun b=>szSs b≤N∧6 * szSs b + 3≤m) (fun e l i he=>by
     show ((acf k m).f63 e).bind _=_;rw [ih.1 e m he.1 (by omega) he.2];rfl) (l7 :: l8 :: l9 :: l10.map adM) 0 (fun e he=>by
      simp only [List.mem_cons] at he;rcases he with rfl | rfl | rfl | he
      ·exact ⟨by omega,by omega⟩
      ·exact ⟨by omega,by omega⟩
      ·exact ⟨by omega,by omega⟩
      ·have:=ak2 l10 e he;exact ⟨by omega,by omega⟩)
    rw [h1,Option.bind_some,h2];simp [aoi]
   show aop k (acf k (m + 2)) (.mk op name slot fr ix flag l6 l7 l8 l9 l10)=_;unfold aop akP ahV bkS;simp only [auR k op name slot fr ix flag l6 l7 l8 l9 l10 h10,Option.bind_some,hB];generalize (bkL l7 || (bkL l8 || (bkL l9 || bkC l10)))=q;cases op == 21 <;> cases op == 28 <;> cases op == 18 <;> cases op == 6 <;> cases flag == 1 <;> rfl
  refine ⟨fun l n h hN hn=>?_,hS⟩;obtain ⟨m,rfl⟩ : ∃ m,n=m + 3:=⟨n - 3,by omega⟩;show (((((acd k (acf k m) l 0).bind fun r0=>some (decide (r0 ≥ 0)))).bind fun r0=>some r0):Option Bool)=_;obtain ⟨r,h1,h2⟩:=akz (g:=acd k (acf k m)) (h:=bkS) (fun _=>rfl) (fun s=>szS s≤N + 1∧6 * szS s≤m) (fun e l i he=>by
   have:=hS e m he.1 hN he.2;obtain ⟨a0,a1,a2,a3,a4,a5,a6,a7,a8,a9,a10⟩:=e;rw [acd,this];rfl) l 0 (fun e he=>by
    have:=aoZ l e he;exact ⟨by omega,by omega⟩)
  rw [h1,Option.bind_some,Option.bind_some,h2,aou]
theorem aul (k:Nat) (l:List aag) (h:szSs l≤100000) (hk:6 * szSs l + 3≤k):f63 k l=some (bkL l):=(ar8 k (szSs l)).1 l k (Nat.le_refl _) h hk
mutual
def oS:aag→Bool
 | .mk op _ _ _ _ _ l6 l7 l8 l9 l10=>(op != 21 || decide (1≤l6.length)) && (oL l7 && (oL l8 && (oL l9 && oC l10)))
def oL:List aag→Bool
 | []=>true
 | s :: l=>oS s && oL l
def oC:List aaz→Bool
 | []=>true
 | .mk _ _ _ _ b :: l=>oL b && oC l
end
def auq:List aal→Bool
 | .mk op n _ _ _ :: _=>op == 2 && n == 1
 | []=>false
mutual
def edS:aag→Bool
 | .mk op _ _ _ _ flag l6 l7 l8 l9 l10 =>
  cond (op == 17 || op == 15 || op == 18 || op == 19) true
  (cond (op == 20) (flag == 1 && (edL l7 && edL l8))
  (cond (op == 21) (auq l6 && !bkL l7)
  (cond (op == 23 || op == 25 || op == 26) (edL l7)
  (cond (op == 24) (edL l9 || (edL l7 && ((IntKind.i64.wrap (BitVec.ofInt IntKind.i64.bits flag &&& BitVec.ofInt IntKind.i64.bits 1).toNat) == 0 || edL l8)))
  (cond (op == 27) (edC l10) false)))))
def edL:List aag→Bool
 | []=>false
 | s :: l=>edS s || edL l
def edC:List aaz→Bool
 | []=>true
 | .mk _ _ _ _ b :: l=>edL b && edC l
end
theorem aos : ∀ l,edL l=l.any edS
 | []=>rfl
 | s :: l=>by simp [edL,aos l]
theorem anG : ∀ l,edC l=!l.any (fun c=>!edL (adM c))
 | []=>rfl
 | .mk a b c d e :: l=>by simp [edC,anG l,adM]
theorem arf : ∀ (l:List aag) (s:aag),oL l=true→s ∈ l→oS s=true
 | [],s,_,h=>by simp at h
 | x :: l,s,ho,h=>by
  simp only [oL,Bool.and_eq_true] at ho;rcases List.mem_cons.1 h with rfl | h
  ·exact ho.1
  ·exact arf l s ho.2 h
theorem aqR : ∀ (l:List aaz) (c:aaz),oC l=true→c ∈ l→oL (adM c)=true∧szSs (adM c)≤szCs l
 | [],c,_,h=>by simp at h
 | .mk a1 a2 a3 es e :: l,c,ho,h=>by
  simp only [oC,Bool.and_eq_true] at ho;simp only [szCs,szC];rcases List.mem_cons.1 h with rfl | h
  ·exact ⟨ho.1,by simp only [adM]; omega⟩
  ·have:=aqR l c ho.2 h;exact ⟨this.1,by omega⟩
theorem as3 (k:Nat) : ∀ N:Nat,(∀ (l:List aag) (n:Nat),szSs l≤N→N≤100000→6 * N + 3≤k→oL l=true→9 * szSs l + 3≤n→(abt k n).f24 l=some (edL l))∧(∀ (s:aag) (n:Nat),szS s≤N→N≤100000→6 * N + 3≤k→oS s=true→9 * szS s≤n→(abt k n).f43 s=some (edS s)):=by
 intro N;induction N with
 | zero =>
  refine ⟨fun l n h _ _ _ hn=>?_,fun s n h _ _ _ _=>?_⟩
  ·obtain rfl:l=[]:=by
    cases l with
    | nil=>rfl
    | cons s l=>obtain ⟨a0,a1,a2,a3,a4,a5,a6,a7,a8,a9,a10⟩:=s; simp only [szSs,szS] at h; omega
   obtain ⟨m,rfl⟩ : ∃ m,n=m + 3:=⟨n - 3,by omega⟩;rfl
  ·obtain ⟨a0,a1,a2,a3,a4,a5,a6,a7,a8,a9,a10⟩:=s;simp only [szS] at h;omega
 | succ N ih =>
  have hS : ∀ (s:aag) (n:Nat),szS s≤N + 1→N + 1≤100000→6 * (N + 1) + 3≤k→oS s=true→9 * szS s≤n→(abt k n).f43 s=some (edS s):=by
   intro s n h hN hk ho hn;obtain ⟨op,name,slot,fr,ix,flag,l6,l7,l8,l9,l10⟩:=s;simp only [szS] at h hn;simp only [oS,Bool.and_eq_true] at ho;obtain ⟨o6,o7,o8,o9,o10⟩:=ho;obtain ⟨m,rfl⟩ : ∃ m,n=m + 9:=⟨n - 9,by omega⟩;have g7:=ih.1 l7 (m + 8) (by omega) (by omega) (by omega) o7 (by omega);have g8:=ih.1 l8 (m + 8) (by omega) (by omega) (by omega) o8 (by omega);have g9:=ih.1 l9 (m + 8) (by omega) (by omega) (by omega) o9 (by omega);have gb:=aul k l7 (by omega) (by omega);have hC:(abt k (m + 8)).f1006449 l10=some (edC l10):=by
    show ((((ab6 k (abt k (m + 5)) l10 0).bind fun r0=>some (decide (r0 ≥ 0))).bind fun r2=>some (!r2)):Option Bool)=_;obtain ⟨r,h1,h2⟩:=akz (g:=ab6 k (abt k (m + 5))) (h:=fun c=>!edL (adM c)) (fun _=>rfl) (fun c=>oL (adM c)=true∧szSs (adM c)≤N∧9 * szSs (adM c) + 3≤m + 3) (fun e l i he=>by
     obtain ⟨b0,b1,b2,b3,b4⟩:=e;simp only [adM] at he ⊢;have:=ih.1 b4 (m + 3) he.2.1 (by omega) (by omega) he.1 he.2.2;rw [ab6];show ((((((abt k (m + 3)).f24 b4).bind fun r9=>some r9).bind fun r9=>some (!r9)):Option Bool)).bind _=_;rw [this];rfl) l10 0 (fun c hc=>by
      have:=aqR l10 c o10 hc;exact ⟨this.1,by omega,by omega⟩)
    rw [h1,Option.bind_some,Option.bind_some,h2,anG]
   show aoy k (abt k (m + 8)) (.mk op name slot fr ix flag l6 l7 l8 l9 l10)=_;unfold aoy ahI aix aig aiy agW edS;simp only [g7,g8,g9,gb,hC,Option.bind_some];generalize edL l7=e7;generalize edL l8=e8;generalize edL l9=e9;generalize edC l10=e10;generalize (IntKind.i64.wrap (BitVec.ofInt IntKind.i64.bits flag &&& BitVec.ofInt IntKind.i64.bits 1).toNat == 0)=fb;cases op == 17 <;> cases op == 15 <;> cases op == 18 <;> cases op == 19 <;> try rfl
   simp only [cond_false,Bool.or_false];cases op == 20
   ·simp only [cond_false];cases h21:op == 21
    ·simp only [cond_false];cases op == 23 <;> cases op == 25 <;> cases op == 26 <;> cases op == 24 <;> cases op == 27 <;> cases e7 <;> cases e8 <;> cases e9 <;> cases fb <;> rfl
    ·have:(op != 21)=false:=by rw [bne,h21]; rfl
     rw [this,Bool.false_or,decide_eq_true_eq] at o6;cases l6 with
     | nil=>simp at o6
     | cons e l =>
      obtain ⟨b0,b1,b2,b3,b4⟩:=e;have hi:idxO (aal.mk b0 b1 b2 b3 b4 :: l) 0=some (.mk b0 b1 b2 b3 b4):=rfl;simp only [cond_true,hi,Option.bind_some,auq];cases b0 == 2 <;> cases b1 == 1 <;> rfl
   ·cases flag == 1 <;> cases e7 <;> cases e8 <;> rfl
  refine ⟨fun l n h hN hk ho hn=>?_,hS⟩;obtain ⟨m,rfl⟩ : ∃ m,n=m + 3:=⟨n - 3,by omega⟩;show (((((ab9 k (abt k m) l 0).bind fun r0=>some (decide (r0 ≥ 0)))).bind fun r0=>some r0):Option Bool)=_;obtain ⟨r,h1,h2⟩:=akz (g:=ab9 k (abt k m)) (h:=edS) (fun _=>rfl) (fun s=>oS s=true∧szS s≤N + 1∧9 * szS s≤m) (fun e l i he=>by
   have:=hS e m he.2.1 hN hk he.1 he.2.2;obtain ⟨a0,a1,a2,a3,a4,a5,a6,a7,a8,a9,a10⟩:=e;rw [ab9,this];rfl) l 0 (fun e he=>by
    have:=aoZ l e he;exact ⟨arf l e ho he,by omega,by omega⟩)
  rw [h1,Option.bind_some,Option.bind_some,h2,aos]
theorem auL (k:Nat) (l:List aag) (h:szSs l≤100000) (ho:oL l=true) (hk:9 * szSs l + 3≤k):f24 k l=some (edL l):=(as3 k (szSs l)).1 l k (Nat.le_refl _) h (by omega) ho hk
theorem asU {fs:List aaf} {a0:ByteArray} {a1:List aaL} {a2:Int} {a3:Bool} {a4:Int} {a5:List aag} (k:Nat) : ∀ n:Nat,
  (∀ (l:List aag) (vs:List Int),2 * szSs l + 1≤n→szSs l≤k→vSs fs vs.length l=true→Rs fs a0 a1 a2 a3 a4 a5 ((agB k n).f36 (Stt fs a0 a1 a2 a3 a4 a5 vs) l) (ySs fs a2 vs l) vs.length) ∧
  (∀ (s:aag) (vs:List Int),2 * szS s≤n→szS s≤k→wvS fs vs.length s=true→Rs fs a0 a1 a2 a3 a4 a5 ((agB k n).f57 (Stt fs a0 a1 a2 a3 a4 a5 vs) s) (yS fs a2 vs s) vs.length):=by
 intro n;induction n with
 | zero =>
  refine ⟨fun l vs h=>by omega,fun s vs h=>?_⟩;obtain ⟨b0,b1,b2,b3,b4,b5,b6,b7,b8,b9,b10⟩:=s;simp only [szS] at h;omega
 | succ n ih =>
  refine ⟨fun l vs h hk hv=>?_,fun s vs h hk hv=>?_⟩
  ·show Rs fs a0 a1 a2 a3 a4 a5 (agv k (agB k n) l 0 fs a0 a1 a2 a3 a4 a5 vs) _ _;exact amj (N:=szSs l) (fun s v hs hv=>ih.2 s v (by omega) (by omega) hv) l 0 vs (Nat.le_refl _) hv
  ·show Rs fs a0 a1 a2 a3 a4 a5 (am8 k (agB k n) (Stt fs a0 a1 a2 a3 a4 a5 vs) s) _ _;have hp:1≤szS s:=by obtain ⟨b0,b1,b2,b3,b4,b5,b6,b7,b8,b9,b10⟩:=s; simp only [szS]; omega
   exact arU (N:=szS s - 1) (fun l v hl hv=>ih.1 l v (by omega) (by omega) hv) s vs (by omega) hk hv
theorem atV {fs:List aaf} {a0:ByteArray} {a1:List aaL} {a2:Int} {a3:Bool} {a4:Int} {a5:List aag} (k:Nat) (l:List aag) (vs:List Int) (h:2 * szSs l + 1≤k) (hv:vSs fs vs.length l=true) :
 Rs fs a0 a1 a2 a3 a4 a5 (f36 k (Stt fs a0 a1 a2 a3 a4 a5 vs) l) (ySs fs a2 vs l) vs.length:=(asU k k).1 l vs h (by omega) hv
def ajo (ps:List aaL) (v:Int):List Int:=acI ps ++ List.replicate (v - (ps.length:Int)).toNat (0:Int)
def kkF (fs:List aaf):aaf→Ex (List Int)
 | .mk _ ps res _ v b=>match ySs fs res (ajo ps v) b with
  | none=>.error 23
  | some w=>cond (res != 0 && !edL b) (.error 26) (.ok w)
def kFs (fs:List aaf):List aaf→Ex (List (List Int))
 | []=>.ok []
 | f :: l=>eb (kkF fs f) fun x=>eb (kFs fs l) fun y=>.ok (x :: y)
def funs:aaa→List aaf | .mk fs=>fs
def uK (p:aaa):Ex (aaa × List (List Int)):=cond (wf true p) (eb (uP (stP p)) fun x=>eb (kFs (funs x.1) (funs x.1)) fun y=>.ok (x.1,y)) (.error 2)
def wvF (fs:List aaf) (k:Nat):aaf→Prop
 | .mk _ ps _ _ v b=>(ps.length:Int)≤v∧v≤1000∧vSs fs v.toNat b=true∧oL b=true∧szSs b≤100000∧9 * szSs b + 3≤k
theorem akf (k:Nat) (q:List aaf) : ∀ (l:List aaf) (i:Nat) (xs:List (List Int)),(∀ f ∈ l,wvF q k f)→xs.length + l.length≤100000 →
  aeA k q l i 0 xs=some (match kFs q l with | .error c=>(.mk [],[],c) | .ok y=>(.mk q,xs ++ y,0))
 | [],i,xs,_,_=>by simp [aeA,air,kFs]
 | .mk n ps res fl v b :: l,i,xs,hv,hl=>by
  obtain ⟨h1,h2,h3,h4,h5,h6⟩:=hv (.mk n ps res fl v b) (by simp);simp only [List.length_cons] at hl;have ih:=fun ys hy=>akf k q l (i + 1) ys (fun f hf=>hv f (by simp [hf])) hy
  have hw:w64 (v - (ps.length:Int))=v - (ps.length:Int):=by
   have:=acj (x:=v - (ps.length:Int)) (n:=(v - (ps.length:Int)).toNat) (by omega) (by omega);omega
  have hlen:(ajo ps v).length=v.toNat:=by
   unfold ajo;rw [List.length_append,ac8,List.length_replicate];omega
  have h36:=atV (fs:=q) (a0:=n) (a1:=ps) (a2:=res) (a3:=fl) (a4:=v) (a5:=b) k b (ajo ps v) (by omega) (by rw [hlen]; exact h3);have h24:=auL k b h5 h4 h6;unfold aeA kFs kkF amP akx ain air;have hps:ps.length≤1000:=by omega
  simp only [aoF k n ps res fl v b hps,Option.bind_some,hw];rw [show ∀ (z:Option (aaa × (List (List Int)) × Int)),aaW (decide (0≤v - (ps.length:Int)∧(((acI ps).length:Int) + (v - (ps.length:Int))) * ((8:Nat):Int)≤140737488355328)) z=z from fun z=>by
   unfold aaW; rw [decide_eq_true (by rw [ac8]; omega)]; rfl]
  show (f36 k (Stt q n ps res fl v b (ajo ps v)) b).bind _=_;cases e:ySs q res (ajo ps v) b with
  | none =>
   rw [e] at h36;obtain ⟨w,hw,hr⟩:=h36;simp only [hr,Option.bind_some];rfl
  | some w =>
   rw [e] at h36;obtain ⟨hwl,hr⟩:=h36;have hg : ∀ (z:Option (aaa × (List (List Int)) × Int)),aaW (decide ((xs.length + 1) * 24≤140737488355328)) z=z:=fun z=>by unfold aaW; rw [decide_eq_true (by omega)]; rfl
   have i2:=ih (xs ++ [w]) (by simp only [List.length_append,List.length_cons,List.length_nil]; omega);simp only [hr,Option.bind_some,h24,Bool.not_true,cond_false,hg,i2];have fin:(some (match kFs q l with | .error c=>(aaa.mk [],[],c) | .ok y=>(aaa.mk q,(xs ++ [w]) ++ y,0)):Option (aaa × (List (List Int)) × Int))=some (match (eb (.ok w) fun x=>eb (kFs q l) fun y=>.ok (x :: y):Ex (List (List Int))) with | .error c=>(aaa.mk [],[],c) | .ok y=>(aaa.mk q,xs ++ y,0)):=by
    cases kFs q l with
    | error c=>rfl
    | ok y=>simp [eb]
   cases hres:res != 0 with
   | true =>
    cases edL b with
    | true=>exact fin
    | false=>rfl
   | false=>exact fin
theorem aty (k:Nat) (p:aaa) (hk:2 * szP p + 1≤k) (hk2:4 * 600 + 1≤k) (hf:fitP p) (hv : ∀ x,wf true p=true→uP (stP p)=.ok x→(∀ f ∈ funs x.1,wvF (funs x.1) k f)∧(funs x.1).length≤16) :
  f21 k p=some (match uK p with | .error c=>(.mk [],[],c) | .ok x=>(x.1,x.2,0)):=by
 have h34:=ath k p hk hf;have h35:=atT k (stP p) (by rw [atI]; exact hk) hk2;obtain ⟨fs⟩:=p;unfold f21 aqf uK;simp only [h34,Option.bind_some];cases hw:wf true (.mk fs) with
 | false=>rfl
 | true =>
  simp only [stP] at h35 hv ⊢;simp only [cond_true,h35,Option.bind_some];cases hu:uP (.mk (stFs fs)) with
  | error c =>
   have hc:(c != 0)=true:=by simpa using ari hu
   simp only [bne_self_eq_false,cond_false,hc,cond_true];rfl
  | ok x =>
   obtain ⟨⟨q⟩,nl⟩:=x;obtain ⟨g1,g2⟩:=hv _ hw hu;simp only [funs] at g1 g2;simp only [bne_self_eq_false,cond_false,eb,funs,akf k q q 0 [] g1 (by simp; omega)];cases kFs q q with
   | error c=>rfl
   | ok y=>rfl
theorem arp {op:Int} {x:Int × Bool × Int × Int × Bool × Int} (h:shp op=some x) : ∃ n:Nat,n < 29∧op=((n + 1:Nat):Int):=by
 by_cases h1:op < 1∨op > 29
 ·rw [agN h1] at h; cases h
 ·exact ⟨(op - 1).toNat,by omega,by omega⟩
def ake (op:Int):Option Nat:=(mget qI op agx).map List.length
def aiT (op:Int) (n6:Nat):Bool:=(op != 1 && op != 14 && op != 2 || decide (1≤n6)) && ((op != 17 || decide (n6≤1)) && ((match ake op with | none=>true | some n=>decide (n6≤n)) && (op != 21 || decide (1≤n6))))
theorem asX:(List.range 29).all (fun n=>match shp ((n + 1:Nat):Int) with
 | none=>true
 | some (nm,fr,lo,hi,bd,fl)=>(fr == (((n + 1:Nat):Int) == 3 || ((n + 1:Nat):Int) == 4 || ((n + 1:Nat):Int) == 28)) && (decide (hi > 2) || (List.range 3).all (fun n6=>!(decide ((n6:Int) ≥ lo) && decide ((n6:Int)≤hi)) || aiT ((n + 1:Nat):Int) n6))
  && (decide (hi≤2) || (ake ((n + 1:Nat):Int)).isNone && (((n + 1:Nat):Int) != 1 && ((n + 1:Nat):Int) != 14 && ((n + 1:Nat):Int) != 2 && ((n + 1:Nat):Int) != 17 && ((n + 1:Nat):Int) != 21)))=true:=by kernel_rfl
theorem aqd {op flag:Int} {name fr:ByteArray} {n6 n7 n8 n9 n10:Nat} (h:afU op name fr flag n6 n7 n8 n9 n10=true):aiT op n6=true∧seq fr ⟨#[]⟩=!(op == 3 || op == 4 || op == 28):=by
 unfold afU at h;cases hs:shp op with
 | none=>rw [hs] at h; cases h
 | some x =>
  rw [hs] at h;obtain ⟨n,hn,rfl⟩:=arp hs;have ha:=List.all_eq_true.1 asX n (List.mem_range.2 hn);rw [hs] at ha;obtain ⟨nm,fr0,lo,hi,bd,fl⟩:=x;simp only [Bool.and_eq_true,decide_eq_true_eq,beq_iff_eq] at h ha;obtain ⟨⟨⟨⟨h1,h2⟩,_⟩,_⟩,⟨⟨⟨_,h3⟩,_⟩,_⟩,_⟩:=h;obtain ⟨⟨hfr,h4⟩,h5⟩:=ha;refine ⟨?_,?_⟩
  ·by_cases hh:hi > 2
   ·simp only [Bool.or_eq_true,decide_eq_true_eq,Bool.and_eq_true] at h5;rcases h5 with h5 | ⟨h5,h6⟩
    ·omega
    ·unfold aiT;obtain ⟨⟨⟨⟨g1,g2⟩,g3⟩,g4⟩,g5⟩:=h6;rw [g1,g2,g3,g4,g5];cases hw:ake ((n + 1:Nat):Int) with
     | none=>rfl
     | some _=>rw [hw] at h5; cases h5
   ·simp only [Bool.or_eq_true,decide_eq_true_eq] at h4;rcases h4 with h4 | h4
    ·omega
    ·have:=List.all_eq_true.1 h4 n6 (List.mem_range.2 (by omega));rw [decide_eq_true h1,decide_eq_true h2] at this;simpa using this
  ·rw [← hfr];unfold ape at h3;cases fr0 with
   | true=>simp only [cond_true] at h3; exact amd h3
   | false=>simpa using h3
theorem an7 {op:Int} {n6:Nat} (h:aiT op n6=true):(match mget qI op agx with | none=>true | some ws=>decide (n6≤ws.length))=true:=by
 unfold aiT ake at h;simp only [Bool.and_eq_true] at h;obtain ⟨_,_,h,_⟩:=h;cases hm:mget qI op agx with
 | none=>rfl
 | some ws=>rw [hm] at h; exact h
theorem uE_v {nm:List ByteArray} {vis:List Nat} (hv:okV nm vis) {m:Nat} (hm:nm.length≤m) : ∀ N:Nat,(∀ e a e',szE e≤N→gE false e a=true→uE nm vis e=.ok e'→wvE m e'=true)∧(∀ l a l',szEs l≤N→gEs false l a=true→uEs nm vis l=.ok l'→wvEs m l'=true∧l'.length=l.length):=by
 intro N;induction N with
 | zero =>
  refine ⟨fun e a e' h=>?_,fun l a l' h _ hu=>?_⟩
  ·obtain ⟨b0,b1,b2,b3,b4⟩:=e; simp only [szE] at h; omega
  ·cases l with
   | nil=>simp only [uEs] at hu; cases hu; exact ⟨rfl,rfl⟩
   | cons e l=>obtain ⟨b0,b1,b2,b3,b4⟩:=e; simp only [szEs,szE] at h; omega
 | succ N ih =>
  have hE : ∀ e a e',szE e≤N + 1→gE false e a=true→uE nm vis e=.ok e'→wvE m e'=true:=by
   rintro ⟨op,num,txt,slot,l⟩ a e' h hg hu;simp only [szE] at h;simp only [gE,Bool.and_eq_true] at hg;obtain ⟨⟨_,hn⟩,hl⟩:=hg;unfold uE at hu;cases hx:uEs nm vis l with
   | error c=>rw [hx] at hu; cases hu
   | ok l' =>
    obtain ⟨g1,g2⟩:=ih.2 l (a + 1) l' (by omega) hl hx;rw [hx] at hu;have ar:(op == 1 || op == 2 || op == 3)=false→(op == 4)=false→(l'.length == 1 || l'.length == 2)=true:=by
     intro h1 h4;simp only [Bool.or_eq_false_iff] at h1;obtain ⟨⟨h1,h2⟩,h3⟩:=h1;unfold alg at hn;rw [h1,h2,h3,h4] at hn;simp only [cond_false] at hn;rw [g2];cases h56:(op == 5 || op == 6) with
     | true=>rw [h56] at hn; simp at hn; simp; omega
     | false=>rw [h56] at hn; simp at hn; simp; omega
    revert hu;cases h4:op == 4 with
    | true =>
     simp only [cond_true];cases hs:abq nm vis txt with
     | none=>intro hu; cases hu
     | some v =>
      intro hu;cases hu;have:=hv v (List.mem_of_find?_eq_some hs);unfold wvE;rw [h4,g1,cond_true];cases (op == 1 || op == 2 || op == 3) with
      | true=>rfl
      | false=>simp; omega
    | false =>
     intro hu;cases hu;unfold wvE;rw [h4,g1];cases h1:(op == 1 || op == 2 || op == 3) with
     | true=>rfl
     | false=>simpa using ar h1 h4
  refine ⟨hE,?_⟩;intro l;induction l with
  | nil=>intro a l' _ _ hu; simp only [uEs] at hu; cases hu; exact ⟨rfl,rfl⟩
  | cons e l il =>
   intro a l' h hg hu;simp only [szEs] at h;simp only [gEs,Bool.and_eq_true] at hg;unfold uEs at hu;cases h1:uE nm vis e with
   | error c=>rw [h1] at hu; cases hu
   | ok e1 =>
    rw [h1] at hu;cases h2:uEs nm vis l with
    | error c=>rw [h2] at hu; cases hu
    | ok l1 =>
     rw [h2] at hu;cases hu;have g1:=hE e a e1 (by omega) hg.1 h1;obtain ⟨g2,g3⟩:=il a l1 (by omega) hg.2 h2;exact ⟨by simp only [wvEs,g1,g2,Bool.and_self],by simp [g3]⟩
theorem ae6 {nm nm' : List ByteArray} {vis:List Nat} (h:okV nm vis) (hl:nm.length≤nm'.length):okV nm' vis:=fun v hv=>Nat.lt_of_lt_of_le (h v hv) hl
theorem anW {op flag:Int} {name fr:ByteArray} {n6 n7 n8 n9 n10:Nat} (h:afU op name fr flag n6 n7 n8 n9 n10=true) :
  (op ≠ 27→n10=0)∧((op=27∨op=17∨op=18∨op=19∨op=20∨op=21∨op=22∨op=23∨op=26∨op=29)→seq name ⟨#[]⟩=true) ∧
   (op ≠ 20→op ≠ 21→op ≠ 22→op ≠ 23→op ≠ 24→op ≠ 25→op ≠ 26→op ≠ 28→n7=0)∧(op ≠ 20→op ≠ 24→n8=0):=by
 unfold afU aqr arD an2 ape at h;by_cases hop:op < 1∨op > 29
 ·rw [agN hop] at h; cases h
 generalize isN name=x1 at h;generalize isN fr=x2 at h;generalize seq name ⟨#[]⟩=x3 at h ⊢;generalize seq fr ⟨#[]⟩=x4 at h;generalize flag.tmod 2=t2 at h;generalize flag.tmod 4=t4 at h;rcases (by omega:op=1∨op=2∨op=3∨op=4∨op=5∨op=6∨op=7∨op=8∨op=9∨op=10∨op=11∨op=12∨op=13∨op=14∨op=15∨op=16∨op=17∨op=18∨op=19∨op=20∨op=21∨op=22∨op=23∨op=24∨op=25∨op=26∨op=27∨op=28∨op=29) with rfl | rfl | rfl | rfl | rfl | rfl | rfl | rfl | rfl | rfl | rfl | rfl | rfl | rfl | rfl | rfl | rfl | rfl | rfl | rfl | rfl | rfl | rfl | rfl | rfl | rfl | rfl | rfl | rfl <;>
  simp [shp] at h ⊢ <;> grind
theorem aoW {op flag:Int} {name fr:ByteArray} {n6 n7 n8 n9 n10:Nat} (h:afU op name fr flag n6 n7 n8 n9 n10=true) (h24:op ≠ 24):n9=0:=by
 unfold afU at h;cases hs:shp op with
 | none=>rw [hs] at h; cases h
 | some x =>
  rw [hs] at h;obtain ⟨nm,fr0,lo,hi,bd,fl⟩:=x;simp only [Bool.and_eq_true] at h;obtain ⟨_,⟨_,hf⟩,_⟩:=h;unfold aqr at hf;simp only [Bool.and_eq_true,Bool.or_eq_true,beq_iff_eq] at hf;obtain ⟨⟨_,h9⟩,_⟩:=hf;rcases h9 with h9 | ⟨h9,_⟩
  ·omega
  ·exact absurd h9 h24
theorem acy {α:Type} {l:List α} (h:l.length=0):l=[]:=List.eq_nil_of_length_eq_zero h
structure VG (nm nm1:List ByteArray) (vis1:List Nat) (b:Nat→Bool) (o:Bool):Prop where
 le:nm.length≤nm1.length
 ok:okV nm1 vis1
 v : ∀ m:Nat,nm1.length≤m→b m=true
 o:o=true
theorem ami {nm:List ByteArray} {vis:List Nat} {name:ByteArray} {r:List ByteArray × List Nat × Int} (h:(cond (seq name ⟨#[]⟩) (.ok (nm,vis,0)) (uMk nm vis name):Ex (List ByteArray × List Nat × Int))=.ok r) (hv:okV nm vis) :
  nm.length≤r.1.length∧okV r.1 r.2.1∧∀ m,r.1.length≤m→(seq name ⟨#[]⟩ || aeD m r.2.2)=true:=by
 revert h;cases seq name ⟨#[]⟩ with
 | true=>intro h; cases h; exact ⟨Nat.le_refl _,hv,fun m _=>rfl⟩
 | false =>
  unfold uMk;simp only [cond_false];cases abq nm vis name with
  | some v=>intro h; cases h
  | none =>
   intro h;cases h;refine ⟨by simp,fun v hv'=>?_,fun m hm=>?_⟩
   ·rw [List.mem_append,List.mem_singleton] at hv';rw [List.length_append,List.length_singleton];rcases hv' with h | rfl
    ·have:=hv v h; omega
    ·omega
   ·rw [List.length_append,List.length_singleton] at hm;unfold aeD;simp;omega
theorem apu (q:List aaf) (m:Nat) (c:aaz) (l:List aaz):vCs q m (c :: l)=(vCs q m [c] && vCs q m l):=by
 obtain ⟨a,b,c,d,e⟩:=c;simp [vCs,Bool.and_assoc]
theorem asJ (c:aaz) (l:List aaz):oC (c :: l)=(oC [c] && oC l):=by
 obtain ⟨a,b,c,d,e⟩:=c;simp [oC]
section
variable (fs:List aaf) (f2:Int) (f3:Bool) (q:List aaf)
def HQ:Prop:=∀ (op:Int) (fr:ByteArray) (n:Nat) (ix:Int),uCall op fr n fs 0=.ok ix→0≤ix∧∃ f,q[ix.toNat]?=some f∧(parF f).length=n∧(parF f).length≤1000
variable {fs f2 f3 q}
theorem alv {op:Int} {name:ByteArray} {slot:Int} {fr:ByteArray} {ix flag:Int} {r6:List aal} {b7 b8 b9:List aag} {b10:List aaz} {m:Nat} (h6:wvEs m r6=true) (hc:aiT op r6.length=true) (hs:(op != 2 && seq name ⟨#[]⟩ || aeD m slot)=true)
  (hq:(cond (op == 3 || op == 4 || op == 28) (decide (0≤ix) && (match q[ix.toNat]? with | none=>false | some f=>decide (r6.length≤(parF f).length) && decide ((parF f).length≤1000))) true)=true)
  (h7:vSs q m b7=true) (h8:vSs q m b8=true) (h9:vSs q m b9=true) (h10:vCs q m b10=true):wvS q m (.mk op name slot fr ix flag r6 b7 b8 b9 b10)=true:=by
 have hw:=an7 hc;unfold aiT at hc;simp only [Bool.and_eq_true] at hc;obtain ⟨c1,c2,_,_⟩:=hc;simp only [wvS,Bool.and_eq_true];exact ⟨h6,c1,c2,hs,hq,hw,h7,h8,h9,h10⟩
theorem alC {op:Int} {name:ByteArray} {slot:Int} {fr:ByteArray} {ix flag:Int} {r6:List aal} {b7 b8 b9:List aag} {b10:List aaz} (hc:aiT op r6.length=true) (h7:oL b7=true) (h8:oL b8=true) (h9:oL b9=true) (h10:oC b10=true):oS (.mk op name slot fr ix flag r6 b7 b8 b9 b10)=true:=by
 unfold aiT at hc;simp only [Bool.and_eq_true] at hc;obtain ⟨_,_,_,c⟩:=hc;unfold oS;rw [c,h7,h8,h9,h10];rfl
variable (H:HQ fs q)
include H
theorem uS_v : ∀ n:Nat,
  (∀ s,szS s≤n→∀ a lo nm vis r,gS false s a=true→okV nm vis→uS fs f2 f3 lo nm vis s=.ok r→VG nm r.1 r.2.1 (fun m=>wvS q m r.2.2) (oS r.2.2)) ∧
  (∀ l,szSs l≤n→∀ a lo nm vis r,gSs false l a=true→okV nm vis→uSs fs f2 f3 lo nm vis l=.ok r→VG nm r.1 r.2.1 (fun m=>vSs q m r.2.2) (oL r.2.2)) ∧
  (∀ c,szC c≤n→∀ a lo nm vis r,gC false c a=true→okV nm vis→uC fs f2 f3 lo nm vis c=.ok r→VG nm r.1 vis (fun m=>vCs q m [r.2.2]) (oC [r.2.2])) ∧
  (∀ l,szCs l≤n→∀ a lo nm vis r,gCs false l a=true→okV nm vis→uCs fs f2 f3 lo nm vis l=.ok r→VG nm r.1 vis (fun m=>vCs q m r.2.2) (oC r.2.2))
 | 0=>by
  refine ⟨fun s h=>?_,fun l h=>?_,fun c h=>?_,fun l h=>?_⟩
  ·have:=abI s; omega
  ·cases l with
   | nil=>intro a lo nm vis r _ hv h; simp only [uSs] at h; cases h; exact ⟨Nat.le_refl _,hv,fun _ _=>rfl,rfl⟩
   | cons s l=>have:=abI s; simp only [szSs] at h; omega
  ·have:=acZ c; omega
  ·cases l with
   | nil=>intro a lo nm vis r _ hv h; simp only [uCs] at h; cases h; exact ⟨Nat.le_refl _,hv,fun _ _=>rfl,rfl⟩
   | cons s l=>have:=acZ s; simp only [szCs] at h; omega
 | n + 1=>by
  obtain ⟨i1,i2,i3,i4⟩:=uS_v n;have a1 : ∀ s,szS s≤n + 1→∀ a lo nm vis r,gS false s a=true→okV nm vis→uS fs f2 f3 lo nm vis s=.ok r→VG nm r.1 r.2.1 (fun m=>wvS q m r.2.2) (oS r.2.2):=by
   rintro ⟨op,name,s2,fr,s4,flag,l6,l7,l8,l9,l10⟩ h a lo nm vis r hg hv hu;simp only [szS] at h;simp only [gS,Bool.and_eq_true,Bool.false_or,beq_iff_eq] at hg;obtain ⟨⟨⟨_,rfl,rfl⟩,hnode⟩,g6,g7,g8,g9,g10⟩:=hg;obtain ⟨n1,n2,n3,n4⟩:=anW hnode;have n9:=aoW hnode;obtain ⟨hcnt,hfr⟩:=aqd hnode;have h7:=fun lo nm vis r=>i2 l7 (by omega) _ lo nm vis r g7
   have h8:=fun lo nm vis r=>i2 l8 (by omega) _ lo nm vis r g8
   have h9:=fun lo nm vis r=>i2 l9 (by omega) _ lo nm vis r g9
   have h10:=fun lo nm vis r=>i4 l10 (by omega) _ lo nm vis r g10
   simp only [uS,aoj,ah8] at hu;obtain ⟨r6,h6,hu⟩:=ae5 hu;have e6 : ∀ m:Nat,nm.length≤m→wvEs m r6=true:=fun m hm=>((uE_v hv hm (szEs l6)).2 l6 _ r6 (Nat.le_refl _) g6 h6).1
   have l6e:r6.length=l6.length:=((uE_v hv (Nat.le_refl _) (szEs l6)).2 l6 _ r6 (Nat.le_refl _) g6 h6).2;rw [← l6e] at hcnt;clear i1 i2 i3 i4;revert hu;cases ho:op == 27 with
   | true =>
    intro hu;obtain rfl:op=27:=by simpa using ho
    obtain ⟨nm1,v1,cs,q1,hu⟩:=aay hu;cases hu;have z7:=acy (n3 (by omega) (by omega) (by omega) (by omega) (by omega) (by omega) (by omega) (by omega));have z8:=acy (n4 (by omega) (by omega));have z9:=acy (n9 (by omega));subst z7 z8 z9;have G:=h10 _ _ _ _ hv q1;exact ⟨G.le,G.ok,fun m hm=>alv (e6 m (Nat.le_trans G.le hm)) hcnt (by rw [n2 (by omega)]; rfl) rfl rfl rfl rfl (G.v m hm),alC hcnt rfl rfl rfl G.o⟩
   | false =>
   have c27:op ≠ 27:=by simpa using ho
   have z10:=acy (n1 c27);subst z10;intro hu;obtain ⟨ix,hix,hu⟩:=ae5 hu;have hq:(cond (op == 3 || op == 4 || op == 28) (decide (0≤ix) && (match q[ix.toNat]? with | none=>false | some f=>decide (r6.length≤(parF f).length) && decide ((parF f).length≤1000))) true)=true:=by
    cases hcl:(op == 3 || op == 4 || op == 28) with
    | false=>rfl
    | true =>
     rw [hcl] at hfr;rw [hfr] at hix;obtain ⟨k1,f,k2,k3,k4⟩:=H op fr r6.length ix hix;rw [k2];simp only [cond_true,Bool.and_eq_true,decide_eq_true_eq];exact ⟨k1,by omega,k4⟩
   have none_ : ∀ {v:Int},(op=2∧(∃ w:Nat,v=(w:Int)∧w < nm.length)∨(op=18∨op=19∨op=29∨op=17))→VG nm nm vis (fun m=>wvS q m (.mk op name v fr ix flag r6 l7 l8 l9 [])) (oS (.mk op name v fr ix flag r6 l7 l8 l9 [])):=by
    intro v ho;have z7:=acy (n3 (by omega) (by omega) (by omega) (by omega) (by omega) (by omega) (by omega) (by omega));have z8:=acy (n4 (by omega) (by omega));have z9:=acy (n9 (by omega));subst z7 z8 z9;refine ⟨Nat.le_refl _,hv,fun m hm=>alv (e6 m hm) hcnt ?_ hq rfl rfl rfl rfl,alC hcnt rfl rfl rfl rfl⟩;rcases ho with ⟨_,w,rfl,hw⟩ | ho
    ·have:aeD m (w:Int)=true:=by unfold aeD; simp; omega
     rw [this,Bool.or_true]
    ·rw [n2 (by omega)];have:(op != 2)=true:=by simp; omega
     rw [this];rfl
   revert hu;cases ho:op == 2 with
   | true =>
    have c:op=2:=by simpa using ho
    cases hs:abq nm vis name with
    | none=>intro hu; cases hu
    | some v=>intro hu; cases hu; exact none_ (.inl ⟨c,v,rfl,hv v (List.mem_of_find?_eq_some hs)⟩)
   | false =>
   have c2:op ≠ 2:=by simpa using ho
   have c2' : (op != 2)=true:=by simpa using c2
   cases ho:op == 18 || op == 19 with
   | true=>intro hu; obtain ⟨_,hu⟩:=aeo hu; cases hu; simp at ho; exact none_ (.inr (by omega))
   | false =>
   cases ho29:op == 29 with
   | true=>intro hu; obtain ⟨_,hu⟩:=aeo hu; cases hu; simp at ho29; exact none_ (.inr (by omega))
   | false =>
   cases ho17:op == 17 with
   | true=>intro hu; obtain ⟨_,hu⟩:=aeo hu; cases hu; simp at ho17; exact none_ (.inr (by omega))
   | false =>
   simp at ho ho29 ho17;cases ho:op == 21 with
   | true =>
    intro hu;obtain rfl:op=21:=by simpa using ho
    obtain ⟨nm1,v1,b,q1,hu⟩:=aay hu;cases hu;obtain ⟨nm2,v2,b2,q2,q1⟩:=aay q1;cases q1;have z8:=acy (n4 (by omega) (by omega));have z9:=acy (n9 (by omega));subst z8 z9;have G:=h7 _ _ _ _ hv q2;exact ⟨G.le,ae6 hv G.le,fun m hm=>alv (e6 m (Nat.le_trans G.le hm)) hcnt (by rw [n2 (by omega)]; rfl) hq (G.v m hm) rfl rfl rfl,alC hcnt G.o rfl rfl rfl⟩
   | false =>
   have in_ : ∀ {lo' : Nat} {nm1:List ByteArray} {v1:List Nat} {vb:Int × List aag},op ≠ 24→op ≠ 20 →
     (eb3 (cond (seq name ⟨#[]⟩) (.ok (nm,vis,0)) (uMk nm vis name)) fun nm1 vis1 v=>eb3 (uSs fs f2 f3 lo' nm1 vis1 l7) fun nm2 _ l'=>.ok (nm2,vis,(v,l')):Ex (List ByteArray × List Nat × (Int × List aag)))=.ok (nm1,v1,vb) →
     VG nm nm1 vis (fun m=>wvS q m (.mk op name vb.1 fr ix flag r6 vb.2 l8 l9 [])) (oS (.mk op name vb.1 fr ix flag r6 vb.2 l8 l9 [])):=by
    intro lo' nm1 v1 vb c24 c20 q1;obtain ⟨na,va,x,q2,q1⟩:=aay q1;obtain ⟨nb,vb',y,q3,q1⟩:=aay q1;cases q1;have z8:=acy (n4 c20 c24);have z9:=acy (n9 c24);subst z8 z9;obtain ⟨k1,k2,k3⟩:=ami q2 hv;have G2:=h7 _ _ _ _ k2 q3;exact ⟨Nat.le_trans k1 G2.le,ae6 hv (Nat.le_trans k1 G2.le),fun m hm=>alv (e6 m (Nat.le_trans (Nat.le_trans k1 G2.le) hm)) hcnt (by rw [c2']; exact k3 m (Nat.le_trans G2.le hm)) hq (G2.v m hm) rfl rfl rfl,alC hcnt G2.o rfl rfl rfl⟩
   cases ho28:op == 28 with
   | true =>
    intro hu;have c:op=28:=by simpa using ho28
    obtain ⟨nm1,v1,vb,q1,hu⟩:=aay hu;cases hu;exact in_ (by omega) (by omega) q1
   | false =>
   cases ho25:op == 25 with
   | true =>
    intro hu;have c:op=25:=by simpa using ho25
    obtain ⟨nm1,v1,vb,q1,hu⟩:=aay hu;cases hu;exact in_ (by omega) (by omega) q1
   | false =>
   cases ho24:op == 24 with
   | true =>
    intro hu;obtain ⟨nm1,v1,b,q1,hu⟩:=aay hu;obtain ⟨nm2,v2,b7,q7,q1⟩:=aay q1;cases q1;obtain ⟨nm3,v3,b,q1,hu⟩:=aay hu;obtain ⟨nm4,v4,x,qn,q1⟩:=aay q1;obtain ⟨nm5,v5,b8,q8,q1⟩:=aay q1;cases q1;obtain ⟨nm6,v6,b,q1,hu⟩:=aay hu;obtain ⟨nm7,v7,b9,q9,q1⟩:=aay q1;cases q1;cases hu;have G7:=h7 _ _ _ _ hv q7;obtain ⟨k1,k2,k3⟩:=ami qn (ae6 hv G7.le);have G8:=h8 _ _ _ _ k2 q8;have le8:=Nat.le_trans G7.le (Nat.le_trans k1 G8.le);have G9:=h9 _ _ _ _ (ae6 hv le8) q9;refine ⟨Nat.le_trans le8 G9.le,ae6 hv (Nat.le_trans le8 G9.le),fun m hm=>?_,alC hcnt G7.o G8.o G9.o rfl⟩;have m8:=Nat.le_trans G9.le hm;have mn:=Nat.le_trans G8.le m8;have m7:=Nat.le_trans k1 mn;exact alv (e6 m (Nat.le_trans G7.le m7)) hcnt (by rw [c2']; exact k3 m mn) hq (G7.v m m7) (G8.v m m8) (G9.v m hm) rfl
   | false =>
   cases ho26:op == 20 || op == 22 || op == 23 || op == 26 with
   | true =>
    intro hu;have c:op=20∨op=22∨op=23∨op=26:=by simp at ho26; omega
    obtain ⟨nm1,v1,b,q1,hu⟩:=aay hu;obtain ⟨nm2,v2,b7,q7,q1⟩:=aay q1;cases q1;obtain ⟨nm3,v3,b,q1,hu⟩:=aay hu;obtain ⟨nm4,v4,b8,q8,q1⟩:=aay q1;cases q1;cases hu;have z9:=acy (n9 (by omega));subst z9;have G7:=h7 _ _ _ _ hv q7;have G8:=h8 _ _ _ _ (ae6 hv G7.le) q8;refine ⟨Nat.le_trans G7.le G8.le,ae6 hv (Nat.le_trans G7.le G8.le),fun m hm=>?_,alC hcnt G7.o G8.o rfl rfl⟩;have m7:=Nat.le_trans G8.le hm;exact alv (e6 m (Nat.le_trans G7.le m7)) hcnt (by rw [c2',n2 (by omega)]; rfl) hq (G7.v m m7) (G8.v m hm) rfl rfl
   | false =>
    intro hu;simp at ho28 ho25 ho24 ho26;have ho21:op ≠ 21:=by simpa using ho
    obtain ⟨nm1,v1,x,q1,hu⟩:=aay hu;obtain ⟨_,hu⟩:=aeo hu;cases hu;have z7:=acy (n3 (by omega) (by omega) (by omega) (by omega) (by omega) (by omega) (by omega) (by omega));have z8:=acy (n4 (by omega) (by omega));have z9:=acy (n9 (by omega));subst z7 z8 z9;obtain ⟨k1,k2,k3⟩:=ami q1 hv;exact ⟨k1,k2,fun m hm=>alv (e6 m (Nat.le_trans k1 hm)) hcnt (by rw [c2']; exact k3 m hm) hq rfl rfl rfl rfl,alC hcnt rfl rfl rfl rfl⟩
  have a3 : ∀ c,szC c≤n + 1→∀ a lo nm vis r,gC false c a=true→okV nm vis→uC fs f2 f3 lo nm vis c=.ok r→VG nm r.1 vis (fun m=>vCs q m [r.2.2]) (oC [r.2.2]):=by
   rintro ⟨kind,name,slot,es,b⟩ h a lo nm vis r hg hv hu;simp only [szC] at h;simp only [gC,Bool.and_eq_true,Bool.false_or,beq_iff_eq] at hg;obtain ⟨⟨⟨_,rfl⟩,hnode⟩,g6,g7⟩:=hg;simp only [uC,ah8] at hu;obtain ⟨r6,h6,hu⟩:=ae5 hu;obtain ⟨nm1,v1,vb,q1,hu⟩:=aay hu;obtain ⟨nm2,v2,x,qn,q1⟩:=aay q1;obtain ⟨nm3,v3,b3,q3,q1⟩:=aay q1;cases q1;cases hu;obtain ⟨k1,k2,k3⟩:=ami qn hv;have G2:=i2 b (by omega) _ _ _ _ _ g7 k2 q3;have hE:=fun (m:Nat) (hm:nm.length≤m)=>(uE_v hv hm (szEs es)).2 es _ r6 (Nat.le_refl _) g6 h6
   refine ⟨Nat.le_trans k1 G2.le,ae6 hv (Nat.le_trans k1 G2.le),fun m hm=>?_,by simp only [oC,G2.o,Bool.and_self]⟩;have m2:=Nat.le_trans G2.le hm;have he:=hE m (Nat.le_trans k1 m2);have hc:(decide (r6.length≤((mget qI kind aeu).getD []).length))=true:=by
    rw [he.2];unfold alh at hnode;simp only [Bool.and_eq_true,decide_eq_true_eq,beq_iff_eq] at hnode;obtain ⟨⟨⟨c1,c4⟩,hl⟩,_⟩:=hnode;rcases (by omega:kind=1∨kind=2∨kind=3∨kind=4) with rfl | rfl | rfl | rfl
    ·have hl:(es.length:Int)=1:=hl;have:((mget qI 1 aeu).getD []).length=1:=by kernel_rfl
     rw [this]; simp; omega
    ·have hl:(es.length:Int)=2:=hl;have:((mget qI 2 aeu).getD []).length=2:=by kernel_rfl
     rw [this]; simp; omega
    ·have hl:(es.length:Int)=1:=hl;have:((mget qI 3 aeu).getD []).length=1:=by kernel_rfl
     rw [this]; simp; omega
    ·have hl:(es.length:Int)=0:=hl;simp; omega
   simp only [vCs,he.1,hc,k3 m m2,G2.v m hm,Bool.and_self]
  have a2 : ∀ l,szSs l≤n + 1→∀ a lo nm vis r,gSs false l a=true→okV nm vis→uSs fs f2 f3 lo nm vis l=.ok r→VG nm r.1 r.2.1 (fun m=>vSs q m r.2.2) (oL r.2.2):=by
   intro l;induction l with
   | nil=>intro h a lo nm vis r _ hv hu; simp only [uSs] at hu; cases hu; exact ⟨Nat.le_refl _,hv,fun _ _=>rfl,rfl⟩
   | cons s l ih =>
    intro h a lo nm vis r hg hv hu;simp only [szSs] at h;simp only [gSs,Bool.and_eq_true] at hg;simp only [uSs] at hu;obtain ⟨nm1,v1,x,q1,hu⟩:=aay hu;obtain ⟨nm2,v2,y,q2,hu⟩:=aay hu;cases hu;have G1:=a1 s (by omega) _ _ _ _ _ hg.1 hv q1;have G2:=ih (by omega) _ _ _ _ _ hg.2 G1.ok q2;exact ⟨Nat.le_trans G1.le G2.le,G2.ok,fun m hm=>by simp only [vSs,G1.v m (Nat.le_trans G2.le hm),G2.v m hm,Bool.and_self],by simp only [oL,G1.o,G2.o,Bool.and_self]⟩
  have a4 : ∀ l,szCs l≤n + 1→∀ a lo nm vis r,gCs false l a=true→okV nm vis→uCs fs f2 f3 lo nm vis l=.ok r→VG nm r.1 vis (fun m=>vCs q m r.2.2) (oC r.2.2):=by
   intro l;induction l with
   | nil=>intro h a lo nm vis r _ hv hu; simp only [uCs] at hu; cases hu; exact ⟨Nat.le_refl _,hv,fun _ _=>rfl,rfl⟩
   | cons s l ih =>
    intro h a lo nm vis r hg hv hu;obtain ⟨kind,name,slot,es,b⟩:=s;simp only [szCs] at h;simp only [gCs,Bool.and_eq_true] at hg;simp only [uCs] at hu;obtain ⟨nm1,v1,x,q1,hu⟩:=aay hu;obtain ⟨nm2,v2,y,q2,hu⟩:=aay hu;cases hu;have G1:=a3 _ (by omega) _ _ _ _ _ hg.1.2 hv q1;have G2:=ih (by omega) _ _ _ _ _ hg.2 (ae6 hv G1.le) q2;exact ⟨Nat.le_trans G1.le G2.le,ae6 hv (Nat.le_trans G1.le G2.le),fun m hm=>by rw [apu,G1.v m (Nat.le_trans G2.le hm),G2.v m hm]; rfl,by rw [asJ,G1.o,G2.o]; rfl⟩
  exact ⟨a1,a2,a3,a4⟩
end
end Go.Proofs.YtoegpkmhifmamaaGreatDoor
namespace Go.Proofs.YtoegpkmhifmamaaGreatDoor
open Go
theorem ask : ∀ (ps:List aaL) (nm:List ByteArray) (vis:List Nat) (r:List ByteArray × List Nat × Unit),uPs nm vis ps=.ok r→okV nm vis→r.1.length=nm.length + ps.length∧okV r.1 r.2.1
 | [],nm,vis,r,h,hv=>by cases h; exact ⟨by simp,hv⟩
 | .mk a kd :: ps,nm,vis,r,h,hv=>by
  simp only [uPs] at h;obtain ⟨nm1,v1,x,h1,h2⟩:=aay h;unfold uMk at h1;cases hs:abq nm vis a with
  | some v=>rw [hs] at h1; cases h1
  | none =>
   rw [hs] at h1;cases h1;obtain ⟨g1,g2⟩:=ask ps _ _ r h2 (by
    intro v hv';rw [List.mem_append,List.mem_singleton] at hv';rw [List.length_append,List.length_singleton];rcases hv' with h | rfl
    ·have:=hv v h; omega
    ·omega)
   rw [List.length_append,List.length_singleton] at g1;exact ⟨by rw [g1,List.length_cons]; omega,g2⟩
theorem anY {gs:List aaf} {f:aaf} {x:aaf × List ByteArray} (h:uF gs f=.ok x):parF x.1=parF f∧akS x.1=akS f∧alR x.1=alR f:=by
 obtain ⟨n,ps,res,fl,v,b⟩:=f;unfold uF at h;obtain ⟨nm,vis,_,h3,h⟩:=aay h;obtain ⟨nm1,vis1,b',h4,h⟩:=aay h;obtain ⟨_,h⟩:=aeo h;cases h;exact ⟨rfl,rfl,rfl⟩
theorem afL (gs:List aaf) : ∀ (l q:List aaf) (nl:List (List ByteArray)),uFs gs l=.ok (q,nl)→q.length=l.length∧∀ (n:Nat) (f:aaf),l[n]?=some f→∃ g m,uF gs f=.ok (g,m)∧q[n]?=some g
 | [],q,nl,h=>by cases h; exact ⟨rfl,fun n f h=>by simp at h⟩
 | x :: l,q,nl,h=>by
  unfold uFs at h;obtain ⟨y,h1,h⟩:=ae5 h;obtain ⟨z,h2,h⟩:=ae5 h;cases h;obtain ⟨h3,h4⟩:=afL gs l z.1 z.2 h2;refine ⟨by simp [h3],fun n f hf=>?_⟩;cases n with
  | zero =>
   obtain rfl:x=f:=by simpa using hf
   exact ⟨y.1,y.2,h1,rfl⟩
  | succ n=>simpa using h4 n f (by simpa using hf)
theorem anu (gs:List aaf) {l q:List aaf} {nl:List (List ByteArray)} (h:uFs gs l=.ok (q,nl)) {g:aaf} (hg:g ∈ q) : ∃ f ∈ l,∃ m,uF gs f=.ok (g,m):=by
 obtain ⟨h1,h2⟩:=afL gs l q nl h;obtain ⟨n,hn,rfl⟩:=List.getElem_of_mem hg;obtain ⟨g',m,h3,h4⟩:=h2 n l[n] (List.getElem?_eq_getElem (by omega));rw [List.getElem?_eq_getElem hn] at h4;cases h4;exact ⟨_,List.getElem_mem _,m,h3⟩
theorem amR {op:Int} {fr:ByteArray} {n:Nat} {ix:Int} : ∀ (l:List aaf) (i:Nat),uCall op fr n l i=.ok ix→∃ (j:Nat) (f:aaf),l[j]?=some f∧(parF f).length=n∧ix=((i + j:Nat):Int)
 | [],i,h=>by cases h
 | .mk nm ps r fl v b :: l,i,h=>by
  simp only [uCall] at h;cases h1:seq nm fr with
  | false =>
   rw [h1] at h;obtain ⟨j,f,g1,g2,g3⟩:=amR l (i + 1) h;exact ⟨j + 1,f,by simpa using g1,g2,by rw [g3]; congr 1; omega⟩
  | true =>
   rw [h1] at h;simp only [cond_true] at h;cases h2:fl == (op == 28) with
   | false=>rw [h2] at h; cases h
   | true =>
    rw [h2] at h;simp only [cond_true] at h;cases h3:(ps.length:Int) == (n:Int) with
    | false=>rw [h3] at h; cases h
    | true =>
     rw [h3] at h;cases h;exact ⟨0,_,rfl,by simp only [beq_iff_eq] at h3; simp only [parF]; omega,by simp⟩
theorem ao8 {z:Bool} : ∀ {l:List aaf} {f:aaf},f ∈ l→gFs z l=true→(parF f).length≤4
 | .mk n ps res fl v b :: l,f,hf,hg=>by
  simp only [gFs,alI,Bool.and_eq_true,decide_eq_true_eq] at hg;rcases List.mem_cons.1 hf with rfl | h
  ·exact hg.1.1.1.1.1.2
  ·exact ao8 h hg.2.2.2
theorem HQ_u {fs q:List aaf} {nl:List (List ByteArray)} (h:uFs fs fs=.ok (q,nl)) (hg:gFs false fs=true):HQ fs q:=by
 intro op fr n ix hu;obtain ⟨j,f,h1,h2,h3⟩:=amR fs 0 hu;obtain ⟨g,m,h4,h5⟩:=(afL fs fs q nl h).2 j f h1;subst h3;have hp:=(anY h4).1;simp only at hp;refine ⟨by omega,g,by rw [show ((0 + j:Nat):Int).toNat=j by omega]; exact h5,by rw [hp]; exact h2,?_⟩;rw [hp];have:=ao8 (List.mem_of_getElem? h1) hg;omega
theorem vF_u {k:Nat} {fs q:List aaf} {nl:List (List ByteArray)} (h:uP (.mk fs)=.ok (.mk q,nl)) (hk:6000≤k):(∀ f ∈ q,wvF q k f)∧q.length≤16:=by
 obtain ⟨hw,_,_,x,hx,hu⟩:=arN h;cases hx;have hw':=hw;simp only [wf,Bool.and_eq_true,decide_eq_true_eq] at hw';obtain ⟨⟨⟨_,h16⟩,hg⟩,hc⟩:=hw';have H:=HQ_u hu hg;refine ⟨fun f hf=>?_,by rw [(afL _ _ _ _ hu).1]; exact h16⟩;obtain ⟨f0,h0,m,hF⟩:=anu fs hu hf;have hb:=aeT h0 hc hg;obtain ⟨n,ps,res,fl,v,b⟩:=f0;simp only at hb;obtain ⟨b1,b2,b3⟩:=hb;unfold uF at hF;obtain ⟨nm,vis,_,h3,hF⟩:=aay hF;obtain ⟨nm1,vis1,b',h4,hF⟩:=aay hF;obtain ⟨h5,hF⟩:=aeo hF;cases hF;have hp:=ask ps [] [] _ h3 (fun v hv=>by simp at hv);simp only [List.length_nil,Nat.zero_add] at hp;have G:=(uS_v H (f2:=res) (f3:=fl) (szSs b)).2.1 b (Nat.le_refl _) 1 0 nm vis _ b3 hp.2 h4;have e1:=(at7 fs res fl (szSs b)).2.1 b (Nat.le_refl _) 1 0 nm vis _ b3 h4;have hsz:szSs b'=szSs b:=by
  have:=afb b';simp only at e1;rw [e1] at this;exact this.symm
 have hle:nm.length≤m.length:=G.le;have h32:=of_decide_eq_true h5;refine ⟨by omega,by omega,?_,G.o,by omega,by omega⟩;exact G.v _ (by rw [Int.toNat_natCast]; exact Nat.le_refl _)
theorem atc (k:Nat) (p:aaa) (hk:2 * szP p + 1≤k) (hk2:6000≤k) (hf:fitP p) :
  f21 k p=some (match uK p with | .error c=>(.mk [],[],c) | .ok x=>(x.1,x.2,0)):=by
 refine aty k p hk (by omega) hf fun x _ hu=>?_
 obtain ⟨fs⟩:=p;obtain ⟨⟨q⟩,nl⟩:=x;exact vF_u hu hk2
theorem aqT (q:List aaf) : ∀ l,Nz (kFs q l)
 | []=>.ok _
 | f :: l=>by
  simp only [kFs];refine .eb ?_ fun _=>.eb (aqT q l) fun _=>.ok _
  obtain ⟨n,ps,res,fl,v,b⟩:=f;simp only [kkF];cases ySs q res (ajo ps v) b with
  | none=>exact .er (by decide)
  | some w=>exact .cond (.er (by decide)) (.ok _)
theorem atq {p:aaa} {c:Int} (h:uK p=.error c):c ≠ 0:=by
 unfold uK at h;cases hw:wf true p with
 | false=>rw [hw] at h; cases h; decide
 | true =>
  rw [hw] at h;simp only [cond_true] at h;cases hu:uP (stP p) with
  | error e=>rw [hu] at h; simp only [eb] at h; cases h; exact ari hu
  | ok x =>
   rw [hu] at h;simp only [eb] at h;cases hx:kFs (funs x.1) (funs x.1) with
   | error e=>rw [hx] at h; simp only at h; cases h; exact aqT _ _ _ hx
   | ok y=>rw [hx] at h; cases h
theorem au5 {fs:List aaf} {x:aaa × List (List Int)} (h:uK (.mk fs)=.ok x) : ∃ q nl,wf true (.mk fs)=true∧uP (.mk (stFs fs))=.ok (.mk q,nl)∧x.1=.mk q∧kFs q q=.ok x.2:=by
 unfold uK at h;cases hw:wf true (.mk fs) with
 | false=>rw [hw] at h; cases h
 | true =>
  rw [hw] at h;simp only [cond_true,stP] at h;obtain ⟨⟨⟨q⟩,nl⟩,h1,h⟩:=ae5 h;obtain ⟨y,h2,h⟩:=ae5 h;cases h;exact ⟨q,nl,rfl,h1,rfl,h2⟩
def Lr {α:Type} (R:α→α→Prop) (u v:Ex α):Prop:=∀ r,u=.ok r→∃ r',v=.ok r'∧R r r'
theorem Lr.ok {α:Type} {R:α→α→Prop} {x y:α} (h:R x y):Lr R (.ok x) (.ok y):=fun r hr=>by cases hr; exact ⟨y,rfl,h⟩
theorem Lr.cond {α:Type} {R:α→α→Prop} (b:Bool) {u v u' v' : Ex α} (h:Lr R u u') (h' : Lr R v v'):Lr R (cond b u v) (cond b u' v'):=by
 cases b
 ·exact h'
 ·exact h
def hd2 (f:aaf):List aaL × Int:=(parF f,akS f)
section
variable (ps qs:List aaf)
structure RS1 (s s' : aag):Prop where
 y : ∀ q q' : List aaf,q.map hd2=ps.map hd2→q'.map hd2=qs.map hd2→∀ res vs,yS q res vs s=yS q' res vs s'
 ed:edS s=edS s'
 bk:bkS s=bkS s'
structure RB (l l' : List aag):Prop where
 y : ∀ q q' : List aaf,q.map hd2=ps.map hd2→q'.map hd2=qs.map hd2→∀ res vs,ySs q res vs l=ySs q' res vs l'
 ed:edL l=edL l'
 bk:bkL l=bkL l'
structure RC (l l' : List aaz):Prop where
 y : ∀ q q' : List aaf,q.map hd2=ps.map hd2→q'.map hd2=qs.map hd2→∀ res vs,yCs q res vs l=yCs q' res vs l'
 ed:edC l=edC l'
 bk:bkC l=bkC l'
variable {ps qs}
variable (f2:Int) (f3:Bool)
end
theorem anE (q:List aaf) : ∀ (l:List aaf) (y:List (List Int)),kFs q l=.ok y→y.length=l.length∧∀ (n:Nat) (g:aaf),l[n]?=some g→∃ w,kkF q g=.ok w∧y[n]?=some w
 | [],y,h=>by cases h; exact ⟨rfl,fun n f h=>by simp at h⟩
 | x :: l,y,h=>by
  unfold kFs at h;obtain ⟨w,h1,h⟩:=ae5 h;obtain ⟨z,h2,h⟩:=ae5 h;cases h;obtain ⟨h3,h4⟩:=anE q l z h2;refine ⟨by simp [h3],fun n f hf=>?_⟩;cases n with
  | zero =>
   obtain rfl:x=f:=by simpa using hf
   exact ⟨w,h1,rfl⟩
  | succ n=>simpa using h4 n f (by simpa using hf)
theorem auk (k:Nat) (p:aaa) (hk:2 * szP p + 1≤k) : ∃ b,f7 k p=some b:=by
 obtain ⟨fs⟩:=p;simp only [szP] at hk;have loop : ∀ (l:List aaf) (i:Nat) (n:Int),szFs l + 1≤k→∃ r,alk k l i n=some r:=by
  intro l;induction l with
  | nil=>intro i n _; exact ⟨_,rfl⟩
  | cons e l ih =>
   intro i n hk;obtain ⟨e0,e1,e2,e3,e4,e5⟩:=e;simp only [szFs,szF] at hk;unfold alk f18;cases decide (n≤2000)
   ·exact ⟨_,rfl⟩
   ·obtain ⟨r,hr⟩:=ahw k k e5 0 (by omega) (by omega);rw [hr];exact ih _ _ (by omega)
 obtain ⟨r,hr⟩:=loop fs 0 0 (by omega);exact ⟨r,by unfold f7 f7_b; simp [hr]⟩
theorem avL (k:Nat):f8 (k + 100)=some true:=by kernel_rfl
theorem atU (k:Nat) (x:Int) (n:Nat) (h0:0 < n) (hn:n≤4611686018427387904) : ∃ m:Nat,f9 k x (n:Int)=some (m:Int)∧m < n:=by
 have e1:IntKind.u64.wrap (n:Int)=(n:Int):=by unfold IntKind.wrap; simp [IntKind.bits,IntKind.signed]; omega
 have e2:0≤IntKind.u64.wrap x:=by unfold IntKind.wrap; simp [IntKind.bits,IntKind.signed]; omega
 obtain ⟨y,hy⟩ : ∃ y:Nat,IntKind.u64.wrap x=(y:Int):=⟨(IntKind.u64.wrap x).toNat,by omega⟩;have hlt:y % n < n:=Nat.mod_lt _ h0;refine ⟨y % n,?_,hlt⟩;unfold f9 f9_b aaW;rw [e1,hy,show decide (¬ ((n:Int)=0))=true by simpa using (by omega : ¬ n=0)];have e3:((y:Int).tmod (n:Int))=((y % n:Nat):Int):=by rw [Int.tmod_eq_emod_of_nonneg (by omega)]; omega
 rw [e3,acj (n:=y % n) rfl (by omega)];rfl
theorem ak4 {α:Type} {l:List α} {n:Nat} {x:α} (h:l[n]?=some x):idxO l (n:Int)=some x:=by
 unfold idxO;rw [if_pos (by omega)];simpa using h
mutual
def mqS (m:Nat):aag→Bool
 | .mk op name slot _ _ _ _ l7 l8 l9 l10=>(op == 2 || (seq name ⟨#[]⟩ || decide ((m:Int)≤slot))) && (mqL m l7 && (mqL m l8 && (mqL m l9 && mqC m l10)))
def mqL (m:Nat):List aag→Bool
 | []=>true
 | s :: l=>mqS m s && mqL m l
def mqC (m:Nat):List aaz→Bool
 | []=>true
 | .mk _ name slot _ b :: l=>(seq name ⟨#[]⟩ || decide ((m:Int)≤slot)) && (mqL m b && mqC m l)
end
theorem alB {m m' : Nat} (hm:m'≤m) : ∀ N:Nat,(∀ s,szS s≤N→mqS m s=true→mqS m' s=true)∧(∀ l,szSs l≤N→mqL m l=true→mqL m' l=true)∧(∀ l,szCs l≤N→mqC m l=true→mqC m' l=true)
 | 0=>by
  refine ⟨fun s h=>?_,fun l h=>?_,fun l h=>?_⟩
  ·have:=abI s; omega
  ·cases l with
   | nil=>intro _; rfl
   | cons s l=>have:=abI s; simp only [szSs] at h; omega
  ·cases l with
   | nil=>intro _; rfl
   | cons s l=>have:=acZ s; simp only [szCs] at h; omega
 | N + 1=>by
  obtain ⟨i1,i2,i3⟩:=alB hm N;have nm : ∀ (name:ByteArray) (slot:Int),(seq name ⟨#[]⟩ || decide ((m:Int)≤slot))=true→(seq name ⟨#[]⟩ || decide ((m' : Int)≤slot))=true:=by
   intro name slot h;simp only [Bool.or_eq_true,decide_eq_true_eq] at h ⊢;exact h.imp id fun h=>by omega
  have a1 : ∀ s,szS s≤N + 1→mqS m s=true→mqS m' s=true:=by
   rintro ⟨op,name,slot,fr,ix,flag,l6,l7,l8,l9,l10⟩ h ht;simp only [szS] at h;simp only [mqS,Bool.and_eq_true] at ht ⊢;obtain ⟨t0,t7,t8,t9,t10⟩:=ht;refine ⟨?_,i2 l7 (by omega) t7,i2 l8 (by omega) t8,i2 l9 (by omega) t9,i3 l10 (by omega) t10⟩;rw [Bool.or_eq_true] at t0 ⊢;exact t0.imp id (nm name slot)
  have a2 : ∀ l,szSs l≤N + 1→mqL m l=true→mqL m' l=true:=by
   intro l;induction l with
   | nil=>intro _ _; rfl
   | cons s l ih =>
    intro h ht;simp only [szSs] at h;simp only [mqL,Bool.and_eq_true] at ht ⊢;exact ⟨a1 s (by omega) ht.1,ih (by omega) ht.2⟩
  refine ⟨a1,a2,fun l=>?_⟩;induction l with
  | nil=>intro _ _; rfl
  | cons c l ih =>
   obtain ⟨kind,name,slot,es,b⟩:=c;intro h ht;simp only [szCs,szC] at h;simp only [mqC,Bool.and_eq_true] at ht ⊢;exact ⟨nm name slot ht.1,i2 b (by omega) ht.2.1,ih (by omega) ht.2.2⟩
theorem ais {m m' : Nat} {l:List aag} (h:mqL m l=true) (hm:m'≤m):mqL m' l=true:=(alB hm (szSs l)).2.1 l (Nat.le_refl _) h
theorem aud {m m' : Nat} {l:List aaz} (h:mqC m l=true) (hm:m'≤m):mqC m' l=true:=(alB hm (szCs l)).2.2 l (Nat.le_refl _) h
theorem aoc {m:Nat} {name:ByteArray} {slot x:Int} {vs:List Int} (h:(seq name ⟨#[]⟩ || decide ((m:Int)≤slot))=true) {j:Nat} (hj:j < m):(cond (seq name ⟨#[]⟩) vs (vs.set slot.toNat x))[j]?=vs[j]?:=by
 cases hs:seq name ⟨#[]⟩ with
 | true=>rfl
 | false =>
  rw [hs,Bool.false_or,decide_eq_true_eq] at h;exact List.getElem?_set_ne (by omega)
theorem arj {q:List aaf} {res:Int} {m:Nat} : ∀ N:Nat,
  (∀ s vs w,szS s≤N→mqS m s=true→yS q res vs s=some w→∀ j,j < m→w[j]?=vs[j]?) ∧
  (∀ l vs w,szSs l≤N→mqL m l=true→ySs q res vs l=some w→∀ j,j < m→w[j]?=vs[j]?) ∧
  (∀ l vs w,szCs l≤N→mqC m l=true→yCs q res vs l=some w→∀ j,j < m→w[j]?=vs[j]?)
 | 0=>by
  refine ⟨fun s vs w h=>?_,fun l vs w h=>?_,fun l vs w h=>?_⟩
  ·have:=abI s; omega
  ·cases l with
   | nil=>intro _ h; simp only [ySs] at h; cases h; exact fun _ _=>rfl
   | cons s l=>have:=abI s; simp only [szSs] at h; omega
  ·cases l with
   | nil=>intro _ h; simp only [yCs] at h; cases h; exact fun _ _=>rfl
   | cons s l=>have:=acZ s; simp only [szCs] at h; omega
 | N + 1=>by
  obtain ⟨i1,i2,i3⟩:=arj (q:=q) (res:=res) (m:=m) N;have a1 : ∀ s vs w,szS s≤N + 1→mqS m s=true→yS q res vs s=some w→∀ j,j < m→w[j]?=vs[j]?:=by
   rintro ⟨op,name,slot,fr,ix,flag,l6,l7,l8,l9,l10⟩ vs w h ht hy j hj;simp only [szS] at h;simp only [mqS,Bool.and_eq_true] at ht;obtain ⟨t0,t7,t8,t9,t10⟩:=ht;simp only [yS] at hy;revert hy;cases h2:op == 2 with
   | true =>
    simp only [cond_true];cases (kTs vs l6).headD 0 == (vs[slot.toNat]?.getD 0) with
    | true=>intro hy; cases hy; rfl
    | false=>intro hy; cases hy
   | false =>
    rw [h2,Bool.false_or] at t0;simp only [cond_false];cases op == 17 with
    | true =>
     simp only [cond_true];cases areK vs l6 [res] with
     | true=>intro hy; cases hy; rfl
     | false=>intro hy; cases hy
    | false =>
     simp only [cond_false];cases amY q vs op name ix l6 with
     | none=>intro hy; cases hy
     | some made =>
      cases ajM vs op l6 with
      | false=>intro hy; cases hy
      | true =>
       simp only [cond_true];intro hy;obtain ⟨v1,e1,hy⟩:=Option.bind_eq_some_iff.1 hy;obtain ⟨v2,e2,hy⟩:=Option.bind_eq_some_iff.1 hy;obtain ⟨v3,e3,hy⟩:=Option.bind_eq_some_iff.1 hy;rw [i2 l9 _ _ (by omega) t9 hy j hj,i2 l8 _ _ (by omega) t8 e3 j hj,i2 l7 _ _ (by omega) t7 e2 j hj,i3 l10 _ _ (by omega) t10 e1 j hj];exact aoc t0 hj
  have a2 : ∀ l vs w,szSs l≤N + 1→mqL m l=true→ySs q res vs l=some w→∀ j,j < m→w[j]?=vs[j]?:=by
   intro l;induction l with
   | nil=>intro vs w _ _ hy; simp only [ySs] at hy; cases hy; exact fun _ _=>rfl
   | cons s l ih =>
    intro vs w h ht hy j hj;simp only [szSs] at h;simp only [mqL,Bool.and_eq_true] at ht;simp only [ySs] at hy;obtain ⟨v1,e1,hy⟩:=Option.bind_eq_some_iff.1 hy;rw [ih _ _ (by omega) ht.2 hy j hj,a1 s _ _ (by omega) ht.1 e1 j hj]
  refine ⟨a1,a2,fun l=>?_⟩;induction l with
  | nil=>intro vs w _ _ hy; simp only [yCs] at hy; cases hy; exact fun _ _=>rfl
  | cons c l ih =>
   obtain ⟨kind,name,slot,es,b⟩:=c;intro vs w h ht hy j hj;simp only [szCs,szC] at h;simp only [mqC,Bool.and_eq_true] at ht;simp only [yCs] at hy;revert hy;cases areK vs es ((mget qI kind aeu).getD []) with
   | false=>intro hy; cases hy
   | true =>
    simp only [cond_true];intro hy;obtain ⟨v1,e1,hy⟩:=Option.bind_eq_some_iff.1 hy;rw [ih _ _ (by omega) ht.2.2 hy j hj,i2 b _ _ (by omega) ht.2.1 e1 j hj];exact aoc ht.1 hj
structure MG (nm nm1:List ByteArray) (b:Nat→Bool):Prop where
 le:nm.length≤nm1.length
 v:b nm.length=true
theorem amf {nm:List ByteArray} {vis:List Nat} {name:ByteArray} {r:List ByteArray × List Nat × Int} (h:(cond (seq name ⟨#[]⟩) (.ok (nm,vis,0)) (uMk nm vis name):Ex (List ByteArray × List Nat × Int))=.ok r) :
  nm.length≤r.1.length∧∀ m,m≤nm.length→(seq name ⟨#[]⟩ || decide ((m:Int)≤r.2.2))=true:=by
 revert h;cases seq name ⟨#[]⟩ with
 | true=>intro h; cases h; exact ⟨Nat.le_refl _,fun m _=>rfl⟩
 | false =>
  unfold uMk;simp only [cond_false];cases abq nm vis name with
  | some v=>intro h; cases h
  | none=>intro h; cases h; exact ⟨by simp,fun m hm=>by simp; omega⟩
section
variable {fs:List aaf} {f2:Int} {f3:Bool}
theorem ahq {op:Int} {name:ByteArray} {slot:Int} {fr:ByteArray} {ix flag:Int} {r6:List aal} {b7 b8 b9:List aag} {b10:List aaz} {m:Nat} (hs:(op == 2 || (seq name ⟨#[]⟩ || decide ((m:Int)≤slot)))=true)
  (h7:mqL m b7=true) (h8:mqL m b8=true) (h9:mqL m b9=true) (h10:mqC m b10=true):mqS m (.mk op name slot fr ix flag r6 b7 b8 b9 b10)=true:=by
 simp only [mqS,Bool.and_eq_true];exact ⟨hs,h7,h8,h9,h10⟩
theorem uS_m : ∀ n:Nat,
  (∀ s,szS s≤n→∀ a lo nm vis r,gS false s a=true→uS fs f2 f3 lo nm vis s=.ok r→MG nm r.1 (fun m=>mqS m r.2.2)) ∧
  (∀ l,szSs l≤n→∀ a lo nm vis r,gSs false l a=true→uSs fs f2 f3 lo nm vis l=.ok r→MG nm r.1 (fun m=>mqL m r.2.2)) ∧
  (∀ c,szC c≤n→∀ a lo nm vis r,gC false c a=true→uC fs f2 f3 lo nm vis c=.ok r→MG nm r.1 (fun m=>mqC m [r.2.2])) ∧
  (∀ l,szCs l≤n→∀ a lo nm vis r,gCs false l a=true→uCs fs f2 f3 lo nm vis l=.ok r→MG nm r.1 (fun m=>mqC m r.2.2))
 | 0=>by
  refine ⟨fun s h=>?_,fun l h=>?_,fun c h=>?_,fun l h=>?_⟩
  ·have:=abI s; omega
  ·cases l with
   | nil=>intro a lo nm vis r _ h; simp only [uSs] at h; cases h; exact ⟨Nat.le_refl _,rfl⟩
   | cons s l=>have:=abI s; simp only [szSs] at h; omega
  ·have:=acZ c; omega
  ·cases l with
   | nil=>intro a lo nm vis r _ h; simp only [uCs] at h; cases h; exact ⟨Nat.le_refl _,rfl⟩
   | cons s l=>have:=acZ s; simp only [szCs] at h; omega
 | n + 1=>by
  obtain ⟨i1,i2,i3,i4⟩:=uS_m n;have a1 : ∀ s,szS s≤n + 1→∀ a lo nm vis r,gS false s a=true→uS fs f2 f3 lo nm vis s=.ok r→MG nm r.1 (fun m=>mqS m r.2.2):=by
   rintro ⟨op,name,s2,fr,s4,flag,l6,l7,l8,l9,l10⟩ h a lo nm vis r hg hu;simp only [szS] at h;simp only [gS,Bool.and_eq_true,Bool.false_or,beq_iff_eq] at hg;obtain ⟨⟨⟨_,rfl,rfl⟩,hnode⟩,g6,g7,g8,g9,g10⟩:=hg;obtain ⟨n1,n2,n3,n4⟩:=anW hnode;have n9:=aoW hnode;have h7:=fun lo nm vis r=>i2 l7 (by omega) _ lo nm vis r g7
   have h8:=fun lo nm vis r=>i2 l8 (by omega) _ lo nm vis r g8
   have h9:=fun lo nm vis r=>i2 l9 (by omega) _ lo nm vis r g9
   have h10:=fun lo nm vis r=>i4 l10 (by omega) _ lo nm vis r g10
   simp only [uS,aoj,ah8] at hu;obtain ⟨r6,h6,hu⟩:=ae5 hu;clear i1 i2 i3 i4;revert hu;cases ho:op == 27 with
   | true =>
    intro hu;obtain rfl:op=27:=by simpa using ho
    obtain ⟨nm1,v1,cs,q1,hu⟩:=aay hu;cases hu;have z7:=acy (n3 (by omega) (by omega) (by omega) (by omega) (by omega) (by omega) (by omega) (by omega));have z8:=acy (n4 (by omega) (by omega));have z9:=acy (n9 (by omega));subst z7 z8 z9;have G:=h10 _ _ _ _ q1;exact ⟨G.le,ahq (by rw [n2 (by omega)]; rfl) rfl rfl rfl G.v⟩
   | false =>
   have c27:op ≠ 27:=by simpa using ho
   have z10:=acy (n1 c27);subst z10;intro hu;obtain ⟨ix,hix,hu⟩:=ae5 hu;have none_ : ∀ {v:Int},(op=2∨(op=18∨op=19∨op=29∨op=17))→MG nm nm (fun m=>mqS m (.mk op name v fr ix flag r6 l7 l8 l9 [])):=by
    intro v ho;have z7:=acy (n3 (by omega) (by omega) (by omega) (by omega) (by omega) (by omega) (by omega) (by omega));have z8:=acy (n4 (by omega) (by omega));have z9:=acy (n9 (by omega));subst z7 z8 z9;refine ⟨Nat.le_refl _,ahq ?_ rfl rfl rfl rfl⟩;rcases ho with rfl | ho
    ·rfl
    ·rw [n2 (by omega),Bool.true_or,Bool.or_true]
   revert hu;cases ho:op == 2 with
   | true =>
    have c:op=2:=by simpa using ho
    cases hs:abq nm vis name with
    | none=>intro hu; cases hu
    | some v=>intro hu; cases hu; exact none_ (.inl c)
   | false =>
   have c2:op ≠ 2:=by simpa using ho
   cases ho:op == 18 || op == 19 with
   | true=>intro hu; obtain ⟨_,hu⟩:=aeo hu; cases hu; simp at ho; exact none_ (.inr (by omega))
   | false =>
   cases ho29:op == 29 with
   | true=>intro hu; obtain ⟨_,hu⟩:=aeo hu; cases hu; simp at ho29; exact none_ (.inr (by omega))
   | false =>
   cases ho17:op == 17 with
   | true=>intro hu; obtain ⟨_,hu⟩:=aeo hu; cases hu; simp at ho17; exact none_ (.inr (by omega))
   | false =>
   simp at ho ho29 ho17;cases ho:op == 21 with
   | true =>
    intro hu;obtain rfl:op=21:=by simpa using ho
    obtain ⟨nm1,v1,b,q1,hu⟩:=aay hu;cases hu;obtain ⟨nm2,v2,b2,q2,q1⟩:=aay q1;cases q1;have z8:=acy (n4 (by omega) (by omega));have z9:=acy (n9 (by omega));subst z8 z9;have G:=h7 _ _ _ _ q2;exact ⟨G.le,ahq (by rw [n2 (by omega)]; rfl) G.v rfl rfl rfl⟩
   | false =>
   have in_ : ∀ {lo' : Nat} {nm1:List ByteArray} {v1:List Nat} {vb:Int × List aag},op ≠ 24→op ≠ 20 →
     (eb3 (cond (seq name ⟨#[]⟩) (.ok (nm,vis,0)) (uMk nm vis name)) fun nm1 vis1 v=>eb3 (uSs fs f2 f3 lo' nm1 vis1 l7) fun nm2 _ l'=>.ok (nm2,vis,(v,l')):Ex (List ByteArray × List Nat × (Int × List aag)))=.ok (nm1,v1,vb) →
     MG nm nm1 (fun m=>mqS m (.mk op name vb.1 fr ix flag r6 vb.2 l8 l9 [])):=by
    intro lo' nm1 v1 vb c24 c20 q1;obtain ⟨na,va,x,q2,q1⟩:=aay q1;obtain ⟨nb,vb',y,q3,q1⟩:=aay q1;cases q1;have z8:=acy (n4 c20 c24);have z9:=acy (n9 c24);subst z8 z9;obtain ⟨k1,k3⟩:=amf q2;have G2:=h7 _ _ _ _ q3;exact ⟨Nat.le_trans k1 G2.le,ahq (by rw [k3 _ (Nat.le_refl _),Bool.or_true]) (ais G2.v k1) rfl rfl rfl⟩
   cases ho28:op == 28 with
   | true =>
    intro hu;have c:op=28:=by simpa using ho28
    obtain ⟨nm1,v1,vb,q1,hu⟩:=aay hu;cases hu;exact in_ (by omega) (by omega) q1
   | false =>
   cases ho25:op == 25 with
   | true =>
    intro hu;have c:op=25:=by simpa using ho25
    obtain ⟨nm1,v1,vb,q1,hu⟩:=aay hu;cases hu;exact in_ (by omega) (by omega) q1
   | false =>
   cases ho24:op == 24 with
   | true =>
    intro hu;obtain ⟨nm1,v1,b,q1,hu⟩:=aay hu;obtain ⟨nm2,v2,b7,q7,q1⟩:=aay q1;cases q1;obtain ⟨nm3,v3,b,q1,hu⟩:=aay hu;obtain ⟨nm4,v4,x,qn,q1⟩:=aay q1;obtain ⟨nm5,v5,b8,q8,q1⟩:=aay q1;cases q1;obtain ⟨nm6,v6,b,q1,hu⟩:=aay hu;obtain ⟨nm7,v7,b9,q9,q1⟩:=aay q1;cases q1;cases hu;have G7:=h7 _ _ _ _ q7;obtain ⟨k1,k3⟩:=amf qn;have G8:=h8 _ _ _ _ q8;have G9:=h9 _ _ _ _ q9;have le8:=Nat.le_trans G7.le (Nat.le_trans k1 G8.le);exact ⟨Nat.le_trans le8 G9.le,ahq (by rw [k3 _ G7.le,Bool.or_true]) G7.v (ais G8.v (Nat.le_trans G7.le k1)) (ais G9.v le8) rfl⟩
   | false =>
   cases ho26:op == 20 || op == 22 || op == 23 || op == 26 with
   | true =>
    intro hu;have c:op=20∨op=22∨op=23∨op=26:=by simp at ho26; omega
    obtain ⟨nm1,v1,b,q1,hu⟩:=aay hu;obtain ⟨nm2,v2,b7,q7,q1⟩:=aay q1;cases q1;obtain ⟨nm3,v3,b,q1,hu⟩:=aay hu;obtain ⟨nm4,v4,b8,q8,q1⟩:=aay q1;cases q1;cases hu;have z9:=acy (n9 (by omega));subst z9;have G7:=h7 _ _ _ _ q7;have G8:=h8 _ _ _ _ q8;exact ⟨Nat.le_trans G7.le G8.le,ahq (by rw [n2 (by omega),Bool.true_or,Bool.or_true]) G7.v (ais G8.v G7.le) rfl rfl⟩
   | false =>
    intro hu;simp at ho28 ho25 ho24 ho26;have ho21:op ≠ 21:=by simpa using ho
    obtain ⟨nm1,v1,x,q1,hu⟩:=aay hu;obtain ⟨_,hu⟩:=aeo hu;cases hu;have z7:=acy (n3 (by omega) (by omega) (by omega) (by omega) (by omega) (by omega) (by omega) (by omega));have z8:=acy (n4 (by omega) (by omega));have z9:=acy (n9 (by omega));subst z7 z8 z9;obtain ⟨k1,k3⟩:=amf q1;exact ⟨k1,ahq (by rw [k3 _ (Nat.le_refl _),Bool.or_true]) rfl rfl rfl rfl⟩
  have a3 : ∀ c,szC c≤n + 1→∀ a lo nm vis r,gC false c a=true→uC fs f2 f3 lo nm vis c=.ok r→MG nm r.1 (fun m=>mqC m [r.2.2]):=by
   rintro ⟨kind,name,slot,es,b⟩ h a lo nm vis r hg hu;simp only [szC] at h;simp only [gC,Bool.and_eq_true,Bool.false_or,beq_iff_eq] at hg;obtain ⟨⟨⟨_,rfl⟩,hnode⟩,g6,g7⟩:=hg;simp only [uC,ah8] at hu;obtain ⟨r6,h6,hu⟩:=ae5 hu;obtain ⟨nm1,v1,vb,q1,hu⟩:=aay hu;obtain ⟨nm2,v2,x,qn,q1⟩:=aay q1;obtain ⟨nm3,v3,b3,q3,q1⟩:=aay q1;cases q1;cases hu;obtain ⟨k1,k3⟩:=amf qn;have G2:=i2 b (by omega) _ _ _ _ _ g7 q3;refine ⟨Nat.le_trans k1 G2.le,?_⟩;simp only [mqC,k3 _ (Nat.le_refl _),ais G2.v k1,Bool.and_self]
  have a2 : ∀ l,szSs l≤n + 1→∀ a lo nm vis r,gSs false l a=true→uSs fs f2 f3 lo nm vis l=.ok r→MG nm r.1 (fun m=>mqL m r.2.2):=by
   intro l;induction l with
   | nil=>intro h a lo nm vis r _ hu; simp only [uSs] at hu; cases hu; exact ⟨Nat.le_refl _,rfl⟩
   | cons s l ih =>
    intro h a lo nm vis r hg hu;simp only [szSs] at h;simp only [gSs,Bool.and_eq_true] at hg;simp only [uSs] at hu;obtain ⟨nm1,v1,x,q1,hu⟩:=aay hu;obtain ⟨nm2,v2,y,q2,hu⟩:=aay hu;cases hu;have G1:=a1 s (by omega) _ _ _ _ _ hg.1 q1;have G2:=ih (by omega) _ _ _ _ _ hg.2 q2;refine ⟨Nat.le_trans G1.le G2.le,?_⟩;have v1:=G1.v;simp only [mqL,v1,ais G2.v G1.le,Bool.and_self]
  have a4 : ∀ l,szCs l≤n + 1→∀ a lo nm vis r,gCs false l a=true→uCs fs f2 f3 lo nm vis l=.ok r→MG nm r.1 (fun m=>mqC m r.2.2):=by
   intro l;induction l with
   | nil=>intro h a lo nm vis r _ hu; simp only [uCs] at hu; cases hu; exact ⟨Nat.le_refl _,rfl⟩
   | cons s l ih =>
    intro h a lo nm vis r hg hu;obtain ⟨kind,name,slot,es,b⟩:=s;simp only [szCs] at h;simp only [gCs,Bool.and_eq_true] at hg;simp only [uCs] at hu;obtain ⟨nm1,v1,x,q1,hu⟩:=aay hu;obtain ⟨nm2,v2,y,q2,hu⟩:=aay hu;cases hu;have G1:=a3 _ (by omega) _ _ _ _ _ hg.1.2 q1;have G2:=ih (by omega) _ _ _ _ _ hg.2 q2;refine ⟨Nat.le_trans G1.le G2.le,?_⟩;have v1:=G1.v;have v2:=aud G2.v G1.le;obtain ⟨a',b',c',d',e'⟩:=x;simp only [mqC,Bool.and_true,Bool.and_eq_true] at v1 ⊢;exact ⟨v1.1,v1.2,v2⟩
  exact ⟨a1,a2,a3,a4⟩
end
theorem auM {fs q:List aaf} {nl:List (List ByteArray)} (h:uP (.mk fs)=.ok (.mk q,nl)) {f:aaf} (hf:f ∈ q) {w:List Int} (hk:kkF q f=.ok w) : ∀ j:Nat,j < (parF f).length→w[j]?=(acI (parF f))[j]?:=by
 obtain ⟨hw,_,_,x,hx,hu⟩:=arN h;cases hx;simp only [wf,Bool.and_eq_true,decide_eq_true_eq] at hw;obtain ⟨⟨⟨_,h16⟩,hg⟩,hc⟩:=hw;obtain ⟨f0,h0,m,hF⟩:=anu fs hu hf;have hb:=aeT h0 hc hg;obtain ⟨n,ps,res,fl,v,b⟩:=f0;simp only at hb;obtain ⟨b1,b2,b3⟩:=hb;unfold uF at hF;obtain ⟨nm,vis,_,h3,hF⟩:=aay hF;obtain ⟨nm1,vis1,b',h4,hF⟩:=aay hF;obtain ⟨h5,hF⟩:=aeo hF;cases hF;have hp:=ask ps [] [] _ h3 (fun v hv=>by simp at hv);simp only [List.length_nil,Nat.zero_add] at hp;have G:=(uS_m (f2:=res) (f3:=fl) (szSs b)).2.1 b (Nat.le_refl _) 1 0 nm vis _ b3 h4;have hv:=G.v;simp only at hv;simp only [kkF] at hk;revert hk;cases hy:ySs q res (ajo ps (m.length:Int)) b' with
 | none=>intro hk; cases hk
 | some w' =>
  simp only;cases res != 0 && !edL b' with
  | true=>intro hk; cases hk
  | false =>
   intro hk;cases hk;intro j hj;simp only [parF] at hj ⊢;rw [(arj (szSs b')).2.1 b' _ _ (Nat.le_refl _) hv hy j (by omega)];unfold ajo;rw [List.getElem?_append_left (by rw [ac8]; exact hj)]
end Go.Proofs.YtoegpkmhifmamaaGreatDoor
namespace Go.Proofs.YtoegpkmhifmamaaGreatDoor
open Go
def vK (a:Int):aaH:=.mk a (cond (decide (a > 3)) 1 0) ⟨#[]⟩
theorem aue (k:Nat) {a:Int} (h1:1≤a) (h2:a≤6):f27 k (vK a)=some true:=by
 rcases (by omega:a=1∨a=2∨a=3∨a=4∨a=5∨a=6) with rfl | rfl | rfl | rfl | rfl | rfl <;> kernel_rfl
theorem atj (k:Nat) {a:Int} (h1:2≤a) (h2:a≤6):f27 k (.mk a (-1) ⟨#[]⟩)=some false:=by
 rcases (by omega:a=2∨a=3∨a=4∨a=5∨a=6) with rfl | rfl | rfl | rfl | rfl <;> kernel_rfl
theorem arW (k:Nat):f27 k (.mk 1 0 ⟨#[120]⟩)=some false:=by kernel_rfl
theorem aqZ {z:Bool} : ∀ {l:List aaf} {f:aaf},f ∈ l→gFs z l=true→okP (parF f)=true
 | .mk n ps res fl v b :: l,f,hf,hg=>by
  simp only [gFs,Bool.and_eq_true] at hg;rcases List.mem_cons.1 hf with rfl | h
  ·exact hg.2.1
  ·exact aqZ h hg.2.2.2
theorem amS : ∀ (ps:List aaL),okP ps=true→∀ a ∈ acI ps,1≤a∧a≤6
 | [],_,a,h=>by simp [acI] at h
 | .mk nm kd :: ps,ho,a,h=>by
  simp only [okP,Bool.and_eq_true,decide_eq_true_eq] at ho;obtain ⟨⟨⟨_,h1⟩,h2⟩,h3⟩:=ho;simp only [acI,List.mem_cons] at h;rcases h with rfl | h
  ·exact ⟨h1,h2⟩
  ·exact amS ps h3 a h
theorem anV (k:Nat) : ∀ (ks pre:List Int),(∀ a ∈ ks,1≤a∧a≤6)→adw k (pre ++ ks) (ks.map vK) pre.length=some 0
 | [],pre,_=>rfl
 | a :: ks,pre,h=>by
  have ih:=anV k ks (pre ++ [a]) (fun x hx=>h x (by simp [hx]));rw [List.length_append,List.length_singleton,List.append_assoc,List.singleton_append] at ih;have hv:=aue k (h a (by simp)).1 (h a (by simp)).2;unfold vK at hv;simp only [List.map_cons];unfold adw;simp only [vK];rw [hv,ak4 (n:=pre.length) (x:=a) (by simp)];simp only [Option.bind_some,Bool.not_true,cond_false,bne_self_eq_false,agY];simpa only [vK] using ih
theorem aoT (k:Nat) (ks:List Int) : ∀ (args:List aaH) (m i:Nat),(∀ j,j < m→∃ a,ks[i + j]?=some a∧1≤a∧a≤6∧args[j]?=some (vK a))→(∃ x,args[m]?=some x∧f27 k x=some false)→adw k ks args i=some 23
 | [],m,i,_,h=>by obtain ⟨x,hx,_⟩:=h; simp at hx
 | x :: args,0,i,_,h=>by
  obtain ⟨y,hy,hb⟩:=h;obtain rfl:x=y:=by simpa using hy
  obtain ⟨e0,e1,e2⟩:=x;unfold adw;simp only [hb,Option.bind_some,Bool.not_false,cond_true,agY]
 | x :: args,m + 1,i,hj,h=>by
  obtain ⟨a,h1,h2,h3,h4⟩:=hj 0 (by omega);obtain rfl:x=vK a:=by simpa using h4
  have ih:=aoT k ks args m (i + 1) (fun j hlt=>by
   obtain ⟨b,g1,g2,g3,g4⟩:=hj (j + 1) (by omega);exact ⟨b,by rw [show i + 1 + j=i + (j + 1) by omega]; exact g1,g2,g3,by simpa using g4⟩) (by
   obtain ⟨y,hy,hb⟩:=h;exact ⟨y,by simpa using hy,hb⟩)
  have hv:=aue k h2 h3;unfold vK at hv ⊢;unfold adw;rw [hv,ak4 (n:=i) (x:=a) (by simpa using h1)];simp only [Option.bind_some,Bool.not_true,cond_false,bne_self_eq_false,agY,ih]
theorem au9 (k:Nat) (p:aaa) (a1 a2:Int) (hk:2 * szP p + 6500≤k) (hf:fitP p):f6 (k + 100) p a1 a2=some true:=by
 obtain ⟨c,hc⟩:=auk (k + 100) p (by omega);have h8:=avL k;have h21:=atc (k + 100) p (by omega) (by omega) hf;have hne:=fun c=>atq (p:=p) (c:=c)
 obtain ⟨fs⟩:=p;have hj1:alX (k + 100) fs a1 a2 true=some true:=by
  unfold alX;simp only [cond_true,h8,Option.bind_some]
 unfold f6 f6_b;simp only [hc,Option.bind_some];cases c with
 | false=>simp only [Bool.not_false,cond_true,hj1]
 | true =>
  simp only [Bool.not_true,cond_false];cases hl:(fs.length:Int) == 0 with
  | true=>exact hj1
  | false =>
   have hl:fs.length ≠ 0:=by simpa using hl
   have hmax:fs.length * 88≤maxB:=hf.1;unfold maxB at hmax;obtain ⟨n,h9,hn⟩:=atU (k + 100) a1 fs.length (by omega) (by omega);unfold alX;simp only [cond_false,h9,Option.bind_some];cases hu:uK (.mk fs) with
   | error e =>
    rw [hu] at h21;have h0:=hne e hu;have he:(e != 0)=true:=by simpa using h0
    have he' : (e == 0)=false:=by simpa using h0
    have e15:f15 (k + 100) (.mk fs) (n:Int)=some ([],e):=by
     unfold f15 aol;simp only [h21,Option.bind_some,he',cond_false,ahm,aij,he,cond_true]
    simp only [e15,Option.bind_some,he,cond_true,am0,h8,anq]
   | ok x =>
    rw [hu] at h21;obtain ⟨q,nl,_,hP,hx,hy⟩:=au5 hu;obtain ⟨x1,y⟩:=x;simp only at hx hy;subst hx;simp only at h21;obtain ⟨hyl,hget⟩:=anE q q y hy;obtain ⟨hw0,_,_,x',hx',huF⟩:=arN hP;cases hx';have hsl:(stFs fs).length=fs.length:=by
     have : ∀ l:List aaf,(stFs l).length=l.length:=by
      intro l;induction l with
      | nil=>rfl
      | cons f l ih=>simp [stFs,ih]
     exact this fs
    have hql:q.length=fs.length:=by rw [(afL _ _ _ _ huF).1,hsl]
    obtain ⟨f0,hf0⟩ : ∃ f0,fs[n]?=some f0:=⟨_,List.getElem?_eq_getElem hn⟩;have hst : ∀ (l:List aaf) (i:Nat) (f:aaf),l[i]?=some f→(stFs l)[i]?=some (stF f):=by
     intro l;induction l with
     | nil=>intro i f h; simp at h
     | cons g l ih =>
      intro i f h;cases i with
      | zero=>simp at h; subst h; rfl
      | succ i=>simpa [stFs] using ih i f (by simpa using h)
    have hs0:=hst fs n f0 hf0;obtain ⟨g,m0,hF,hg⟩:=(afL _ _ _ _ huF).2 n _ hs0;have hpar:parF g=parF f0:=by
     have:=(anY hF).1;simp only at this;rw [this];obtain ⟨a,b,c,d,e,f⟩:=f0;rfl
    have hok:okP (parF f0)=true:=by
     have:=aqZ (List.mem_of_getElem? hs0) (okWf hw0);obtain ⟨a,b,c,d,e,f⟩:=f0;exact this
    have hgm:=List.mem_of_getElem? hg;have hvF:=(vF_u hP (k:=k + 100) (by omega)).1 g hgm;obtain ⟨w,hw,hyw⟩:=hget n g hg;have hlow:=auM hP hgm hw;rw [hpar] at hlow;have hple:(parF f0).length≤1000:=by
     rw [← hpar];obtain ⟨a,b,c,d,e,f⟩:=g;obtain ⟨h1,h2,_⟩:=hvF;simp only [parF];omega
    obtain ⟨g0,g1,g2,g3,g4,g5⟩:=g;simp only [parF] at hpar;subst hpar;obtain ⟨b0,ps,b2,b3,b4,b5⟩:=f0;simp only [parF] at hlow hok hple hg hw hvF;have hkin:=amS ps hok;generalize hks:acI ps=ks at hlow hkin;have hkl:ks.length=ps.length:=by rw [← hks,ac8]
    have e15:f15 (k + 100) (.mk fs) (n:Int)=some (w,0):=by
     unfold f15 aol;simp only [h21,Option.bind_some];unfold ahm aij;rw [decide_eq_false (by omega : ¬ (n:Int) < 0),decide_eq_false (by omega : ¬ (n:Int) ≥ (y.length:Int))];simp only [beq_self_eq_true,cond_true,cond_false,bne_self_eq_false,ak4 hyw,Option.bind_some]
    have e17 : ∀ args:List aaH,f17 (k + 100) (.mk fs) (n:Int) args=cond ((ks.length:Int) != (args.length:Int)) (some 24) (adw (k + 100) ks args 0):=by
     intro args;unfold f17 aqi;simp only [h21,Option.bind_some,bne_self_eq_false,cond_false];unfold ak0;rw [decide_eq_false (by omega : ¬ (n:Int) < 0),decide_eq_false (by omega : ¬ (n:Int) ≥ (q.length:Int))];simp only [cond_false,ak4 hg,Option.bind_some,aoF (k + 100) g0 ps g2 g3 g4 g5 hple,hks]
    have hwl:ps.length≤w.length:=by
     rcases Nat.lt_or_ge w.length ps.length with hlt | hge
     ·have:=hlow w.length hlt;rw [List.getElem?_eq_none (Nat.le_refl _),List.getElem?_eq_getElem (by omega)] at this;cases this
     ·exact hge
    have hlt:decide ((w.length:Int) < (ps.length:Int))=false:=decide_eq_false (by omega);simp only [e15,Option.bind_some,bne_self_eq_false,cond_false,ak4 hf0,hlt];unfold am0;simp only [cond_false,ak4 hf0,Option.bind_some];have build : ∀ (l:List aaL) (i:Nat) (xs:List aaH),i + l.length=ps.length→xs=(ks.take i).map vK →
      ahl (k + 100) fs a2 (n:Int) w ps l i xs=ahl (k + 100) fs a2 (n:Int) w ps [] ps.length (ks.map vK):=by
     intro l;induction l with
     | nil =>
      intro i xs hi hxs;simp only [List.length_nil,Nat.add_zero] at hi;rw [hxs,hi,← hkl,List.take_length]
     | cons d l ih =>
      intro i xs hi hxs;simp only [List.length_cons] at hi;obtain ⟨d0,d1⟩:=d;obtain ⟨e,he⟩ : ∃ e,ks[i]?=some e:=⟨_,List.getElem?_eq_getElem (by omega)⟩;have hwe:w[i]?=some e:=by rw [hlow i (by omega)]; exact he
      have hxl:xs.length=i:=by rw [hxs,List.length_map,List.length_take]; omega
      have hgd : ∀ z:Option Bool,aaW (decide ((xs.length + 1) * 32≤140737488355328)) z=z:=fun z=>by unfold aaW; rw [decide_eq_true (by omega)]; rfl
      have hnx:=ih (i + 1) (xs ++ [vK e]) (by omega) (by rw [List.take_add_one,he,List.map_append,hxs]; rfl)
      conv=>lhs; unfold ahl
      simp only [ak4 hwe,Option.bind_some];unfold aoK;simp only [hgd];unfold vK at hnx;cases h3:decide (e > 3) with
      | true=>rw [h3] at hnx; exact hnx
      | false=>rw [h3] at hnx; exact hnx
    rw [build ps 0 [] (by simp) (by simp)]
    conv=>lhs; unfold ahl
    have hfit:adw (k + 100) ks (ks.map vK) 0=some 0:=anV (k + 100) ks [] hkin;have hsame:((ks.length:Int) != ((ks.map vK).length:Int))=false:=by simp
    simp only [e17,hsame,cond_false,hfit,Option.bind_some,bne_self_eq_false];cases hp0:(ps.length:Int) == 0 with
    | true =>
     have hz:ps.length=0:=by simpa using hp0
     have h1:((ks.length:Int) != (([(aaH.mk 0 0 ⟨#[]⟩)]:List aaH).length:Int))=true:=by simp; omega
     simp only [h1,cond_true,Option.bind_some,beq_self_eq_true,h8,aod]
    | false =>
     have hz:ps.length ≠ 0:=by simpa using hp0
     obtain ⟨m,h9',hm⟩:=atU (k + 100) a2 ps.length (by omega) (by omega);obtain ⟨e,he⟩ : ∃ e,ks[m]?=some e:=⟨_,List.getElem?_eq_getElem (by omega)⟩;have hek:=hkin e (List.mem_of_getElem? he);have hme:(ks.map vK)[m]?=some (vK e):=by rw [List.getElem?_map,he]; rfl
     have hml:m < (ks.map vK).length:=by rw [List.length_map]; omega
     have j5 : ∀ xs:List aaH,xs.length=ks.length→(∀ j,j < m→xs[j]?=(ks.map vK)[j]?)→(∃ x,xs[m]?=some x∧f27 (k + 100) x=some false)→anh (k + 100) fs (n:Int) ps xs=some true:=by
      intro xs hxl hpre hbad;have h23:=aoT (k + 100) ks xs m 0 (fun j hj=>by
       obtain ⟨a,ha⟩ : ∃ a,ks[j]?=some a:=⟨_,List.getElem?_eq_getElem (by omega)⟩;have:=hkin a (List.mem_of_getElem? ha);exact ⟨a,by rw [Nat.zero_add]; exact ha,this.1,this.2,by rw [hpre j hj,List.getElem?_map,ha]; rfl⟩) hbad
      have hw1:w64 ((ps.length:Int) - 1)=((ps.length - 1:Nat):Int):=acj (by omega) (by omega);have hl1:((ks.length:Int) != (xs.length:Int))=false:=by rw [hxl]; simp
      have hl2:((ks.length:Int) != ((xs.take (ps.length - 1)).length:Int))=true:=by rw [List.length_take]; simp; omega
      have hgd : ∀ z:Option Bool,aaW (decide (0≤((ps.length - 1:Nat):Int)∧((ps.length - 1:Nat):Int)≤(xs.length:Int))) z=z:=fun z=>by unfold aaW; rw [decide_eq_true (by omega)]; rfl
      unfold anh;simp only [e17,hl1,cond_false,h23,Option.bind_some,beq_self_eq_true,cond_true,hw1,hgd,Int.toNat_natCast,hl2,h8,amT]
     simp only [cond_false,h9',Option.bind_some,ak4 hme];simp only [vK,Int.toNat_natCast];cases h1:e == 1 with
     | true =>
      have c1:e=1:=by simpa using h1
      subst c1;simp only [cond_true];refine j5 _ (by simp) (fun j hj=>?_) ⟨_,?_,arW (k + 100)⟩
      ·rw [List.getElem?_set_ne (by omega),List.getElem?_set_ne (by omega)]
      ·rw [List.getElem?_set_self (by simpa using hml)]
     | false =>
      have c1:e ≠ 1:=by simpa using h1
      simp only [cond_false];refine j5 _ (by simp) (fun j hj=>?_) ⟨_,?_,atj (k + 100) (a:=e) (by omega) hek.2⟩
      ·rw [List.getElem?_set_ne (by omega)]
      ·rw [List.getElem?_set_self (by simpa using hml)]
end Go.Proofs.YtoegpkmhifmamaaGreatDoor
