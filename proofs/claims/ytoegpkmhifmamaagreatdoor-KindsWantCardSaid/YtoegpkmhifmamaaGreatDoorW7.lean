/- Words of the same proof, part 7: what the last text needs; nothing is claimed here. -/
import Derived.Test.YtoegpkmhifmamaaGreatDoorW6
set_option linter.unusedVariables false
set_option linter.unusedSimpArgs false
namespace Go.Proofs.YtoegpkmhifmamaaGreatDoor
open Go
theorem avT {op:Int} {x:Int × Bool × Int × Int × Bool × Int} (h:shp op=some x) : ∃ n:Nat,n < 29∧op=((n + 1:Nat):Int):=by
 by_cases h1:op < 1∨op > 29
 ·rw [agm h1] at h; cases h
 ·exact ⟨(op - 1).toNat,by omega,by omega⟩
def akq (op:Int):Option Nat:=(mget qI op aff).map List.length
def akg (op:Int) (n6:Nat):Bool:=(op != 1 && op != 14 && op != 2 || decide (1≤n6)) && ((op != 17 || decide (n6≤1)) && ((match akq op with | none=>true | some n=>decide (n6≤n)) && (op != 21 || decide (1≤n6))))
theorem auR:(List.range 29).all (fun n=>match shp ((n + 1:Nat):Int) with
 | none=>true
 | some (nm,fr,lo,hi,bd,fl)=>(fr == (((n + 1:Nat):Int) == 3 || ((n + 1:Nat):Int) == 4 || ((n + 1:Nat):Int) == 28)) && (decide (hi > 2) || (List.range 3).all (fun n6=>!(decide ((n6:Int) ≥ lo) && decide ((n6:Int)≤hi)) || akg ((n + 1:Nat):Int) n6))
  && (decide (hi≤2) || (akq ((n + 1:Nat):Int)).isNone && (((n + 1:Nat):Int) != 1 && ((n + 1:Nat):Int) != 14 && ((n + 1:Nat):Int) != 2 && ((n + 1:Nat):Int) != 17 && ((n + 1:Nat):Int) != 21)))=true:=by kernel_rfl
theorem aro {op flag:Int} {name fr:ByteArray} {n6 n7 n8 n9 n10:Nat} (h:aeb op name fr flag n6 n7 n8 n9 n10=true):akg op n6=true∧seq fr ⟨#[]⟩=!(op == 3 || op == 4 || op == 28):=by
 unfold aeb at h;cases hs:shp op with
 | none=>rw [hs] at h; cases h
 | some x =>
  rw [hs] at h;obtain ⟨n,hn,rfl⟩:=avT hs;have ha:=List.all_eq_true.1 auR n (List.mem_range.2 hn);rw [hs] at ha;obtain ⟨nm,fr0,lo,hi,bd,fl⟩:=x;simp only [Bool.and_eq_true,decide_eq_true_eq,beq_iff_eq] at h ha;obtain ⟨⟨⟨⟨h1,h2⟩,_⟩,_⟩,⟨⟨⟨_,h3⟩,_⟩,_⟩,_⟩:=h;obtain ⟨⟨hfr,h4⟩,h5⟩:=ha;refine ⟨?_,?_⟩
  ·by_cases hh:hi > 2
   ·simp only [Bool.or_eq_true,decide_eq_true_eq,Bool.and_eq_true] at h5;rcases h5 with h5 | ⟨h5,h6⟩
    ·omega
    ·unfold akg;obtain ⟨⟨⟨⟨g1,g2⟩,g3⟩,g4⟩,g5⟩:=h6;rw [g1,g2,g3,g4,g5];cases hw:akq ((n + 1:Nat):Int) with
     | none=>rfl
     | some _=>rw [hw] at h5; cases h5
   ·simp only [Bool.or_eq_true,decide_eq_true_eq] at h4;rcases h4 with h4 | h4
    ·omega
    ·have:=List.all_eq_true.1 h4 n6 (List.mem_range.2 (by omega));rw [decide_eq_true h1,decide_eq_true h2] at this;simpa using this
  ·rw [← hfr];unfold anI at h3;cases fr0 with
   | true=>simp only [cond_true] at h3; exact aog h3
   | false=>simpa using h3
theorem apr {op:Int} {n6:Nat} (h:akg op n6=true):(match mget qI op aff with | none=>true | some ws=>decide (n6≤ws.length))=true:=by
 unfold akg akq at h;simp only [Bool.and_eq_true] at h;obtain ⟨_,_,h,_⟩:=h;cases hm:mget qI op aff with
 | none=>rfl
 | some ws=>rw [hm] at h; exact h
theorem uE_v {nm:List ByteArray} {vis:List Nat} (hv:okV nm vis) {m:Nat} (hm:nm.length≤m) : ∀ N:Nat,(∀ e a e',szE e≤N→gE false e a=true→uE nm vis e=.ok e'→wvE m e'=true)∧(∀ l a l',szEs l≤N→gEs false l a=true→uEs nm vis l=.ok l'→wvEs m l'=true∧l'.length=l.length):=by
 intro N;induction N with
 | zero =>
  refine ⟨fun e a e' h=>?_,fun l a l' h _ hu=>?_⟩
  ·obtain ⟨b0,b1,b2,b3,b4⟩:=e; simp only [szE] at h; omega
  ·cases l with
   | nil=>simp only [uEs] at hu; cases hu; exact ⟨rfl,rfl⟩
   | cons e l=>obtain ⟨b0,b1,b2,b3,b4⟩:=e; simp only [szEs,szE] at h; omega
 | succ N ih =>
  have hE : ∀ e a e',szE e≤N + 1→gE false e a=true→uE nm vis e=.ok e'→wvE m e'=true:=by
   rintro ⟨op,num,txt,slot,l⟩ a e' h hg hu;simp only [szE] at h;simp only [gE,Bool.and_eq_true] at hg;obtain ⟨⟨_,hn⟩,hl⟩:=hg;unfold uE at hu;cases hx:uEs nm vis l with
   | error c=>rw [hx] at hu; cases hu
   | ok l' =>
    obtain ⟨g1,g2⟩:=ih.2 l (a + 1) l' (by omega) hl hx;rw [hx] at hu;have ar:(op == 1 || op == 2 || op == 3)=false→(op == 4)=false→(l'.length == 1 || l'.length == 2)=true:=by
     intro h1 h4;simp only [Bool.or_eq_false_iff] at h1;obtain ⟨⟨h1,h2⟩,h3⟩:=h1;unfold ahP at hn;rw [h1,h2,h3,h4] at hn;simp only [cond_false] at hn;rw [g2];cases h56:(op == 5 || op == 6) with
     | true=>rw [h56] at hn; simp at hn; simp; omega
     | false=>rw [h56] at hn; simp at hn; simp; omega
    revert hu;cases h4:op == 4 with
    | true =>
     simp only [cond_true];cases hs:abN nm vis txt with
     | none=>intro hu; cases hu
     | some v =>
      intro hu;cases hu;have:=hv v (List.mem_of_find?_eq_some hs);unfold wvE;rw [h4,g1,cond_true];cases (op == 1 || op == 2 || op == 3) with
      | true=>rfl
      | false=>simp; omega
    | false =>
     intro hu;cases hu;unfold wvE;rw [h4,g1];cases h1:(op == 1 || op == 2 || op == 3) with
     | true=>rfl
     | false=>simpa using ar h1 h4
  refine ⟨hE,?_⟩;intro l;induction l with
  | nil=>intro a l' _ _ hu; simp only [uEs] at hu; cases hu; exact ⟨rfl,rfl⟩
  | cons e l il =>
   intro a l' h hg hu;simp only [szEs] at h;simp only [gEs,Bool.and_eq_true] at hg;unfold uEs at hu;cases h1:uE nm vis e with
   | error c=>rw [h1] at hu; cases hu
   | ok e1 =>
    rw [h1] at hu;cases h2:uEs nm vis l with
    | error c=>rw [h2] at hu; cases hu
    | ok l1 =>
     rw [h2] at hu;cases hu;have g1:=hE e a e1 (by omega) hg.1 h1;obtain ⟨g2,g3⟩:=il a l1 (by omega) hg.2 h2;exact ⟨by simp only [wvEs,g1,g2,Bool.and_self],by simp [g3]⟩
theorem afW {nm nm' : List ByteArray} {vis:List Nat} (h:okV nm vis) (hl:nm.length≤nm'.length):okV nm' vis:=fun v hv=>Nat.lt_of_lt_of_le (h v hv) hl
theorem av2 {op flag:Int} {name fr:ByteArray} {n6 n7 n8 n9 n10:Nat} (h:aeb op name fr flag n6 n7 n8 n9 n10=true) :
  (op ≠ 27→n10=0)∧((op=27∨op=17∨op=18∨op=19∨op=20∨op=21∨op=22∨op=23∨op=26∨op=29)→seq name ⟨#[]⟩=true) ∧
   (op ≠ 20→op ≠ 21→op ≠ 22→op ≠ 23→op ≠ 24→op ≠ 25→op ≠ 26→op ≠ 28→n7=0)∧(op ≠ 20→op ≠ 24→n8=0):=by
 unfold aeb alJ apc ae1 anI at h;by_cases hop:op < 1∨op > 29
 ·rw [agm hop] at h; cases h
 generalize isN name=x1 at h;generalize isN fr=x2 at h;generalize seq name ⟨#[]⟩=x3 at h ⊢;generalize seq fr ⟨#[]⟩=x4 at h;generalize flag.tmod 2=t2 at h;generalize flag.tmod 4=t4 at h;rcases (by omega:op=1∨op=2∨op=3∨op=4∨op=5∨op=6∨op=7∨op=8∨op=9∨op=10∨op=11∨op=12∨op=13∨op=14∨op=15∨op=16∨op=17∨op=18∨op=19∨op=20∨op=21∨op=22∨op=23∨op=24∨op=25∨op=26∨op=27∨op=28∨op=29) with rfl | rfl | rfl | rfl | rfl | rfl | rfl | rfl | rfl | rfl | rfl | rfl | rfl | rfl | rfl | rfl | rfl | rfl | rfl | rfl | rfl | rfl | rfl | rfl | rfl | rfl | rfl | rfl | rfl <;>
  simp [shp] at h ⊢ <;> grind
theorem auk {op flag:Int} {name fr:ByteArray} {n6 n7 n8 n9 n10:Nat} (h:aeb op name fr flag n6 n7 n8 n9 n10=true) (h24:op ≠ 24):n9=0:=by
 unfold aeb at h;cases hs:shp op with
 | none=>rw [hs] at h; cases h
 | some x =>
  rw [hs] at h;obtain ⟨nm,fr0,lo,hi,bd,fl⟩:=x;simp only [Bool.and_eq_true] at h;obtain ⟨_,⟨_,hf⟩,_⟩:=h;unfold alJ at hf;simp only [Bool.and_eq_true,Bool.or_eq_true,beq_iff_eq] at hf;obtain ⟨⟨_,h9⟩,_⟩:=hf;rcases h9 with h9 | ⟨h9,_⟩
  ·omega
  ·exact absurd h9 h24
theorem af1 {α:Type} {l:List α} (h:l.length=0):l=[]:=List.eq_nil_of_length_eq_zero h
structure VG (nm nm1:List ByteArray) (vis1:List Nat) (b:Nat→Bool) (o:Bool):Prop where
 le:nm.length≤nm1.length
 ok:okV nm1 vis1
 v : ∀ m:Nat,nm1.length≤m→b m=true
 o:o=true
theorem aoB {nm:List ByteArray} {vis:List Nat} {name:ByteArray} {r:List ByteArray × List Nat × Int} (h:(cond (seq name ⟨#[]⟩) (.ok (nm,vis,0)) (uMk nm vis name):Ex (List ByteArray × List Nat × Int))=.ok r) (hv:okV nm vis) :
  nm.length≤r.1.length∧okV r.1 r.2.1∧∀ m,r.1.length≤m→(seq name ⟨#[]⟩ || afk m r.2.2)=true:=by
 revert h;cases seq name ⟨#[]⟩ with
 | true=>intro h; cases h; exact ⟨Nat.le_refl _,hv,fun m _=>rfl⟩
 | false =>
  unfold uMk;simp only [cond_false];cases abN nm vis name with
  | some v=>intro h; cases h
  | none =>
   intro h;cases h;refine ⟨by simp,fun v hv'=>?_,fun m hm=>?_⟩
   ·rw [List.mem_append,List.mem_singleton] at hv';rw [List.length_append,List.length_singleton];rcases hv' with h | rfl
    ·have:=hv v h; omega
    ·omega
   ·rw [List.length_append,List.length_singleton] at hm;unfold afk;simp;omega
theorem arS (q:List aae) (m:Nat) (c:aaB) (l:List aaB):vCs q m (c :: l)=(vCs q m [c] && vCs q m l):=by
 obtain ⟨a,b,c,d,e⟩:=c;simp [vCs,Bool.and_assoc]
theorem avj (c:aaB) (l:List aaB):oC (c :: l)=(oC [c] && oC l):=by
 obtain ⟨a,b,c,d,e⟩:=c;simp [oC]
section
variable (fs:List aae) (f2:Int) (f3:Bool) (q:List aae)
def HQ:Prop:=∀ (op:Int) (fr:ByteArray) (n:Nat) (ix:Int),uCall op fr n fs 0=.ok ix→0≤ix∧∃ f,q[ix.toNat]?=some f∧(parF f).length=n∧(parF f).length≤1000
variable {fs f2 f3 q}
theorem anO {op:Int} {name:ByteArray} {slot:Int} {fr:ByteArray} {ix flag:Int} {r6:List aah} {b7 b8 b9:List aaf} {b10:List aaB} {m:Nat} (h6:wvEs m r6=true) (hc:akg op r6.length=true) (hs:(op != 2 && seq name ⟨#[]⟩ || afk m slot)=true)
  (hq:(cond (op == 3 || op == 4 || op == 28) (decide (0≤ix) && (match q[ix.toNat]? with | none=>false | some f=>decide (r6.length≤(parF f).length) && decide ((parF f).length≤1000))) true)=true)
  (h7:vSs q m b7=true) (h8:vSs q m b8=true) (h9:vSs q m b9=true) (h10:vCs q m b10=true):wvS q m (.mk op name slot fr ix flag r6 b7 b8 b9 b10)=true:=by
 have hw:=apr hc;unfold akg at hc;simp only [Bool.and_eq_true] at hc;obtain ⟨c1,c2,_,_⟩:=hc;simp only [wvS,Bool.and_eq_true];exact ⟨h6,c1,c2,hs,hq,hw,h7,h8,h9,h10⟩
theorem anj {op:Int} {name:ByteArray} {slot:Int} {fr:ByteArray} {ix flag:Int} {r6:List aah} {b7 b8 b9:List aaf} {b10:List aaB} (hc:akg op r6.length=true) (h7:oL b7=true) (h8:oL b8=true) (h9:oL b9=true) (h10:oC b10=true):oS (.mk op name slot fr ix flag r6 b7 b8 b9 b10)=true:=by
 unfold akg at hc;simp only [Bool.and_eq_true] at hc;obtain ⟨_,_,_,c⟩:=hc;unfold oS;rw [c,h7,h8,h9,h10];rfl
variable (H:HQ fs q)
include H
theorem uS_v : ∀ n:Nat,
  (∀ s,szS s≤n→∀ a lo nm vis r,gS false s a=true→okV nm vis→uS fs f2 f3 lo nm vis s=.ok r→VG nm r.1 r.2.1 (fun m=>wvS q m r.2.2) (oS r.2.2)) ∧
  (∀ l,szSs l≤n→∀ a lo nm vis r,gSs false l a=true→okV nm vis→uSs fs f2 f3 lo nm vis l=.ok r→VG nm r.1 r.2.1 (fun m=>vSs q m r.2.2) (oL r.2.2)) ∧
  (∀ c,szC c≤n→∀ a lo nm vis r,gC false c a=true→okV nm vis→uC fs f2 f3 lo nm vis c=.ok r→VG nm r.1 vis (fun m=>vCs q m [r.2.2]) (oC [r.2.2])) ∧
  (∀ l,szCs l≤n→∀ a lo nm vis r,gCs false l a=true→okV nm vis→uCs fs f2 f3 lo nm vis l=.ok r→VG nm r.1 vis (fun m=>vCs q m r.2.2) (oC r.2.2))
 | 0=>by
  refine ⟨fun s h=>?_,fun l h=>?_,fun c h=>?_,fun l h=>?_⟩
  ·have:=acl s; omega
  ·cases l with
   | nil=>intro a lo nm vis r _ hv h; simp only [uSs] at h; cases h; exact ⟨Nat.le_refl _,hv,fun _ _=>rfl,rfl⟩
   | cons s l=>have:=acl s; simp only [szSs] at h; omega
  ·have:=adG c; omega
  ·cases l with
   | nil=>intro a lo nm vis r _ hv h; simp only [uCs] at h; cases h; exact ⟨Nat.le_refl _,hv,fun _ _=>rfl,rfl⟩
   | cons s l=>have:=adG s; simp only [szCs] at h; omega
 | n + 1=>by
  obtain ⟨i1,i2,i3,i4⟩:=uS_v n;have a1 : ∀ s,szS s≤n + 1→∀ a lo nm vis r,gS false s a=true→okV nm vis→uS fs f2 f3 lo nm vis s=.ok r→VG nm r.1 r.2.1 (fun m=>wvS q m r.2.2) (oS r.2.2):=by
   rintro ⟨op,name,s2,fr,s4,flag,l6,l7,l8,l9,l10⟩ h a lo nm vis r hg hv hu;simp only [szS] at h;simp only [gS,Bool.and_eq_true,Bool.false_or,beq_iff_eq] at hg;obtain ⟨⟨⟨_,rfl,rfl⟩,hnode⟩,g6,g7,g8,g9,g10⟩:=hg;obtain ⟨n1,n2,n3,n4⟩:=av2 hnode;have n9:=auk hnode;obtain ⟨hcnt,hfr⟩:=aro hnode;have h7:=fun lo nm vis r=>i2 l7 (by omega) _ lo nm vis r g7
   have h8:=fun lo nm vis r=>i2 l8 (by omega) _ lo nm vis r g8
   have h9:=fun lo nm vis r=>i2 l9 (by omega) _ lo nm vis r g9
   have h10:=fun lo nm vis r=>i4 l10 (by omega) _ lo nm vis r g10
   simp only [uS,arh,ajk] at hu;obtain ⟨r6,h6,hu⟩:=afO hu;have e6 : ∀ m:Nat,nm.length≤m→wvEs m r6=true:=fun m hm=>((uE_v hv hm (szEs l6)).2 l6 _ r6 (Nat.le_refl _) g6 h6).1
   have l6e:r6.length=l6.length:=((uE_v hv (Nat.le_refl _) (szEs l6)).2 l6 _ r6 (Nat.le_refl _) g6 h6).2;rw [← l6e] at hcnt;clear i1 i2 i3 i4;revert hu;cases ho:op == 27 with
   | true =>
    intro hu;obtain rfl:op=27:=by simpa using ho
    obtain ⟨nm1,v1,cs,q1,hu⟩:=aaJ hu;cases hu;have z7:=af1 (n3 (by omega) (by omega) (by omega) (by omega) (by omega) (by omega) (by omega) (by omega));have z8:=af1 (n4 (by omega) (by omega));have z9:=af1 (n9 (by omega));subst z7 z8 z9;have G:=h10 _ _ _ _ hv q1;exact ⟨G.le,G.ok,fun m hm=>anO (e6 m (Nat.le_trans G.le hm)) hcnt (by rw [n2 (by omega)]; rfl) rfl rfl rfl rfl (G.v m hm),anj hcnt rfl rfl rfl G.o⟩
   | false =>
   have c27:op ≠ 27:=by simpa using ho
   have z10:=af1 (n1 c27);subst z10;intro hu;obtain ⟨ix,hix,hu⟩:=afO hu;have hq:(cond (op == 3 || op == 4 || op == 28) (decide (0≤ix) && (match q[ix.toNat]? with | none=>false | some f=>decide (r6.length≤(parF f).length) && decide ((parF f).length≤1000))) true)=true:=by
    cases hcl:(op == 3 || op == 4 || op == 28) with
    | false=>rfl
    | true =>
     rw [hcl] at hfr;rw [hfr] at hix;obtain ⟨k1,f,k2,k3,k4⟩:=H op fr r6.length ix hix;rw [k2];simp only [cond_true,Bool.and_eq_true,decide_eq_true_eq];exact ⟨k1,by omega,k4⟩
   have none_ : ∀ {v:Int},(op=2∧(∃ w:Nat,v=(w:Int)∧w < nm.length)∨(op=18∨op=19∨op=29∨op=17))→VG nm nm vis (fun m=>wvS q m (.mk op name v fr ix flag r6 l7 l8 l9 [])) (oS (.mk op name v fr ix flag r6 l7 l8 l9 [])):=by
    intro v ho;have z7:=af1 (n3 (by omega) (by omega) (by omega) (by omega) (by omega) (by omega) (by omega) (by omega));have z8:=af1 (n4 (by omega) (by omega));have z9:=af1 (n9 (by omega));subst z7 z8 z9;refine ⟨Nat.le_refl _,hv,fun m hm=>anO (e6 m hm) hcnt ?_ hq rfl rfl rfl rfl,anj hcnt rfl rfl rfl rfl⟩;rcases ho with ⟨_,w,rfl,hw⟩ | ho
    ·have:afk m (w:Int)=true:=by unfold afk; simp; omega
     rw [this,Bool.or_true]
    ·rw [n2 (by omega)];have:(op != 2)=true:=by simp; omega
     rw [this];rfl
   revert hu;cases ho:op == 2 with
   | true =>
    have c:op=2:=by simpa using ho
    cases hs:abN nm vis name with
    | none=>intro hu; cases hu
    | some v=>intro hu; cases hu; exact none_ (.inl ⟨c,v,rfl,hv v (List.mem_of_find?_eq_some hs)⟩)
   | false =>
   have c2:op ≠ 2:=by simpa using ho
   have c2' : (op != 2)=true:=by simpa using c2
   cases ho:op == 18 || op == 19 with
   | true=>intro hu; obtain ⟨_,hu⟩:=agz hu; cases hu; simp at ho; exact none_ (.inr (by omega))
   | false =>
   cases ho29:op == 29 with
   | true=>intro hu; obtain ⟨_,hu⟩:=agz hu; cases hu; simp at ho29; exact none_ (.inr (by omega))
   | false =>
   cases ho17:op == 17 with
   | true=>intro hu; obtain ⟨_,hu⟩:=agz hu; cases hu; simp at ho17; exact none_ (.inr (by omega))
   | false =>
   simp at ho ho29 ho17;cases ho:op == 21 with
   | true =>
    intro hu;obtain rfl:op=21:=by simpa using ho
    obtain ⟨nm1,v1,b,q1,hu⟩:=aaJ hu;cases hu;obtain ⟨nm2,v2,b2,q2,q1⟩:=aaJ q1;cases q1;have z8:=af1 (n4 (by omega) (by omega));have z9:=af1 (n9 (by omega));subst z8 z9;have G:=h7 _ _ _ _ hv q2;exact ⟨G.le,afW hv G.le,fun m hm=>anO (e6 m (Nat.le_trans G.le hm)) hcnt (by rw [n2 (by omega)]; rfl) hq (G.v m hm) rfl rfl rfl,anj hcnt G.o rfl rfl rfl⟩
   | false =>
   have in_ : ∀ {lo' : Nat} {nm1:List ByteArray} {v1:List Nat} {vb:Int × List aaf},op ≠ 24→op ≠ 20 →
     (eb3 (cond (seq name ⟨#[]⟩) (.ok (nm,vis,0)) (uMk nm vis name)) fun nm1 vis1 v=>eb3 (uSs fs f2 f3 lo' nm1 vis1 l7) fun nm2 _ l'=>.ok (nm2,vis,(v,l')):Ex (List ByteArray × List Nat × (Int × List aaf)))=.ok (nm1,v1,vb) →
     VG nm nm1 vis (fun m=>wvS q m (.mk op name vb.1 fr ix flag r6 vb.2 l8 l9 [])) (oS (.mk op name vb.1 fr ix flag r6 vb.2 l8 l9 [])):=by
    intro lo' nm1 v1 vb c24 c20 q1;obtain ⟨na,va,x,q2,q1⟩:=aaJ q1;obtain ⟨nb,vb',y,q3,q1⟩:=aaJ q1;cases q1;have z8:=af1 (n4 c20 c24);have z9:=af1 (n9 c24);subst z8 z9;obtain ⟨k1,k2,k3⟩:=aoB q2 hv;have G2:=h7 _ _ _ _ k2 q3;exact ⟨Nat.le_trans k1 G2.le,afW hv (Nat.le_trans k1 G2.le),fun m hm=>anO (e6 m (Nat.le_trans (Nat.le_trans k1 G2.le) hm)) hcnt (by rw [c2']; exact k3 m (Nat.le_trans G2.le hm)) hq (G2.v m hm) rfl rfl rfl,anj hcnt G2.o rfl rfl rfl⟩
   cases ho28:op == 28 with
   | true =>
    intro hu;have c:op=28:=by simpa using ho28
    obtain ⟨nm1,v1,vb,q1,hu⟩:=aaJ hu;cases hu;exact in_ (by omega) (by omega) q1
   | false =>
   cases ho25:op == 25 with
   | true =>
    intro hu;have c:op=25:=by simpa using ho25
    obtain ⟨nm1,v1,vb,q1,hu⟩:=aaJ hu;cases hu;exact in_ (by omega) (by omega) q1
   | false =>
   cases ho24:op == 24 with
   | true =>
    intro hu;obtain ⟨nm1,v1,b,q1,hu⟩:=aaJ hu;obtain ⟨nm2,v2,b7,q7,q1⟩:=aaJ q1;cases q1;obtain ⟨nm3,v3,b,q1,hu⟩:=aaJ hu;obtain ⟨nm4,v4,x,qn,q1⟩:=aaJ q1;obtain ⟨nm5,v5,b8,q8,q1⟩:=aaJ q1;cases q1;obtain ⟨nm6,v6,b,q1,hu⟩:=aaJ hu;obtain ⟨nm7,v7,b9,q9,q1⟩:=aaJ q1;cases q1;cases hu;have G7:=h7 _ _ _ _ hv q7;obtain ⟨k1,k2,k3⟩:=aoB qn (afW hv G7.le);have G8:=h8 _ _ _ _ k2 q8;have le8:=Nat.le_trans G7.le (Nat.le_trans k1 G8.le);have G9:=h9 _ _ _ _ (afW hv le8) q9;refine ⟨Nat.le_trans le8 G9.le,afW hv (Nat.le_trans le8 G9.le),fun m hm=>?_,anj hcnt G7.o G8.o G9.o rfl⟩;have m8:=Nat.le_trans G9.le hm;have mn:=Nat.le_trans G8.le m8;have m7:=Nat.le_trans k1 mn;exact anO (e6 m (Nat.le_trans G7.le m7)) hcnt (by rw [c2']; exact k3 m mn) hq (G7.v m m7) (G8.v m m8) (G9.v m hm) rfl
   | false =>
   cases ho26:op == 20 || op == 22 || op == 23 || op == 26 with
   | true =>
    intro hu;have c:op=20∨op=22∨op=23∨op=26:=by simp at ho26; omega
    obtain ⟨nm1,v1,b,q1,hu⟩:=aaJ hu;obtain ⟨nm2,v2,b7,q7,q1⟩:=aaJ q1;cases q1;obtain ⟨nm3,v3,b,q1,hu⟩:=aaJ hu;obtain ⟨nm4,v4,b8,q8,q1⟩:=aaJ q1;cases q1;cases hu;have z9:=af1 (n9 (by omega));subst z9;have G7:=h7 _ _ _ _ hv q7;have G8:=h8 _ _ _ _ (afW hv G7.le) q8;refine ⟨Nat.le_trans G7.le G8.le,afW hv (Nat.le_trans G7.le G8.le),fun m hm=>?_,anj hcnt G7.o G8.o rfl rfl⟩;have m7:=Nat.le_trans G8.le hm;exact anO (e6 m (Nat.le_trans G7.le m7)) hcnt (by rw [c2',n2 (by omega)]; rfl) hq (G7.v m m7) (G8.v m hm) rfl rfl
   | false =>
    intro hu;simp at ho28 ho25 ho24 ho26;have ho21:op ≠ 21:=by simpa using ho
    obtain ⟨nm1,v1,x,q1,hu⟩:=aaJ hu;obtain ⟨_,hu⟩:=agz hu;cases hu;have z7:=af1 (n3 (by omega) (by omega) (by omega) (by omega) (by omega) (by omega) (by omega) (by omega));have z8:=af1 (n4 (by omega) (by omega));have z9:=af1 (n9 (by omega));subst z7 z8 z9;obtain ⟨k1,k2,k3⟩:=aoB q1 hv;exact ⟨k1,k2,fun m hm=>anO (e6 m (Nat.le_trans k1 hm)) hcnt (by rw [c2']; exact k3 m hm) hq rfl rfl rfl rfl,anj hcnt rfl rfl rfl rfl⟩
  have a3 : ∀ c,szC c≤n + 1→∀ a lo nm vis r,gC false c a=true→okV nm vis→uC fs f2 f3 lo nm vis c=.ok r→VG nm r.1 vis (fun m=>vCs q m [r.2.2]) (oC [r.2.2]):=by
   rintro ⟨kind,name,slot,es,b⟩ h a lo nm vis r hg hv hu;simp only [szC] at h;simp only [gC,Bool.and_eq_true,Bool.false_or,beq_iff_eq] at hg;obtain ⟨⟨⟨_,rfl⟩,hnode⟩,g6,g7⟩:=hg;simp only [uC,ajk] at hu;obtain ⟨r6,h6,hu⟩:=afO hu;obtain ⟨nm1,v1,vb,q1,hu⟩:=aaJ hu;obtain ⟨nm2,v2,x,qn,q1⟩:=aaJ q1;obtain ⟨nm3,v3,b3,q3,q1⟩:=aaJ q1;cases q1;cases hu;obtain ⟨k1,k2,k3⟩:=aoB qn hv;have G2:=i2 b (by omega) _ _ _ _ _ g7 k2 q3;have hE:=fun (m:Nat) (hm:nm.length≤m)=>(uE_v hv hm (szEs es)).2 es _ r6 (Nat.le_refl _) g6 h6
   refine ⟨Nat.le_trans k1 G2.le,afW hv (Nat.le_trans k1 G2.le),fun m hm=>?_,by simp only [oC,G2.o,Bool.and_self]⟩;have m2:=Nat.le_trans G2.le hm;have he:=hE m (Nat.le_trans k1 m2);have hc:(decide (r6.length≤((mget qI kind afP).getD []).length))=true:=by
    rw [he.2];unfold aji at hnode;simp only [Bool.and_eq_true,decide_eq_true_eq,beq_iff_eq] at hnode;obtain ⟨⟨⟨c1,c4⟩,hl⟩,_⟩:=hnode;rcases (by omega:kind=1∨kind=2∨kind=3∨kind=4) with rfl | rfl | rfl | rfl
    ·have hl:(es.length:Int)=1:=hl;have:((mget qI 1 afP).getD []).length=1:=by kernel_rfl
     rw [this]; simp; omega
    ·have hl:(es.length:Int)=2:=hl;have:((mget qI 2 afP).getD []).length=2:=by kernel_rfl
     rw [this]; simp; omega
    ·have hl:(es.length:Int)=1:=hl;have:((mget qI 3 afP).getD []).length=1:=by kernel_rfl
     rw [this]; simp; omega
    ·have hl:(es.length:Int)=0:=hl;simp; omega
   simp only [vCs,he.1,hc,k3 m m2,G2.v m hm,Bool.and_self]
  have a2 : ∀ l,szSs l≤n + 1→∀ a lo nm vis r,gSs false l a=true→okV nm vis→uSs fs f2 f3 lo nm vis l=.ok r→VG nm r.1 r.2.1 (fun m=>vSs q m r.2.2) (oL r.2.2):=by
   intro l;induction l with
   | nil=>intro h a lo nm vis r _ hv hu; simp only [uSs] at hu; cases hu; exact ⟨Nat.le_refl _,hv,fun _ _=>rfl,rfl⟩
   | cons s l ih =>
    intro h a lo nm vis r hg hv hu;simp only [szSs] at h;simp only [gSs,Bool.and_eq_true] at hg;simp only [uSs] at hu;obtain ⟨nm1,v1,x,q1,hu⟩:=aaJ hu;obtain ⟨nm2,v2,y,q2,hu⟩:=aaJ hu;cases hu;have G1:=a1 s (by omega) _ _ _ _ _ hg.1 hv q1;have G2:=ih (by omega) _ _ _ _ _ hg.2 G1.ok q2;exact ⟨Nat.le_trans G1.le G2.le,G2.ok,fun m hm=>by simp only [vSs,G1.v m (Nat.le_trans G2.le hm),G2.v m hm,Bool.and_self],by simp only [oL,G1.o,G2.o,Bool.and_self]⟩
  have a4 : ∀ l,szCs l≤n + 1→∀ a lo nm vis r,gCs false l a=true→okV nm vis→uCs fs f2 f3 lo nm vis l=.ok r→VG nm r.1 vis (fun m=>vCs q m r.2.2) (oC r.2.2):=by
   intro l;induction l with
   | nil=>intro h a lo nm vis r _ hv hu; simp only [uCs] at hu; cases hu; exact ⟨Nat.le_refl _,hv,fun _ _=>rfl,rfl⟩
   | cons s l ih =>
    intro h a lo nm vis r hg hv hu;obtain ⟨kind,name,slot,es,b⟩:=s;simp only [szCs] at h;simp only [gCs,Bool.and_eq_true] at hg;simp only [uCs] at hu;obtain ⟨nm1,v1,x,q1,hu⟩:=aaJ hu;obtain ⟨nm2,v2,y,q2,hu⟩:=aaJ hu;cases hu;have G1:=a3 _ (by omega) _ _ _ _ _ hg.1.2 hv q1;have G2:=ih (by omega) _ _ _ _ _ hg.2 (afW hv G1.le) q2;exact ⟨Nat.le_trans G1.le G2.le,afW hv (Nat.le_trans G1.le G2.le),fun m hm=>by rw [arS,G1.v m (Nat.le_trans G2.le hm),G2.v m hm]; rfl,by rw [avj,G1.o,G2.o]; rfl⟩
  exact ⟨a1,a2,a3,a4⟩
end
theorem aws : ∀ (ps:List aaR) (nm:List ByteArray) (vis:List Nat) (r:List ByteArray × List Nat × Unit),uPs nm vis ps=.ok r→okV nm vis→r.1.length=nm.length + ps.length∧okV r.1 r.2.1
 | [],nm,vis,r,h,hv=>by cases h; exact ⟨by simp,hv⟩
 | .mk a kd :: ps,nm,vis,r,h,hv=>by
  simp only [uPs] at h;obtain ⟨nm1,v1,x,h1,h2⟩:=aaJ h;unfold uMk at h1;cases hs:abN nm vis a with
  | some v=>rw [hs] at h1; cases h1
  | none =>
   rw [hs] at h1;cases h1;obtain ⟨g1,g2⟩:=aws ps _ _ r h2 (by
    intro v hv';rw [List.mem_append,List.mem_singleton] at hv';rw [List.length_append,List.length_singleton];rcases hv' with h | rfl
    ·have:=hv v h; omega
    ·omega)
   rw [List.length_append,List.length_singleton] at g1;exact ⟨by rw [g1,List.length_cons]; omega,g2⟩
theorem apM {gs:List aae} {f:aae} {x:aae × List ByteArray} (h:uF gs f=.ok x):parF x.1=parF f∧amE x.1=amE f∧af8 x.1=af8 f:=by
 obtain ⟨n,ps,res,fl,v,b⟩:=f;unfold uF at h;obtain ⟨nm,vis,_,h3,h⟩:=aaJ h;obtain ⟨nm1,vis1,b',h4,h⟩:=aaJ h;obtain ⟨_,h⟩:=agz h;cases h;exact ⟨rfl,rfl,rfl⟩
theorem af2 (gs:List aae) : ∀ (l q:List aae) (nl:List (List ByteArray)),uFs gs l=.ok (q,nl)→q.length=l.length∧∀ (n:Nat) (f:aae),l[n]?=some f→∃ g m,uF gs f=.ok (g,m)∧q[n]?=some g
 | [],q,nl,h=>by cases h; exact ⟨rfl,fun n f h=>by simp at h⟩
 | x :: l,q,nl,h=>by
  unfold uFs at h;obtain ⟨y,h1,h⟩:=afO h;obtain ⟨z,h2,h⟩:=afO h;cases h;obtain ⟨h3,h4⟩:=af2 gs l z.1 z.2 h2;refine ⟨by simp [h3],fun n f hf=>?_⟩;cases n with
  | zero =>
   obtain rfl:x=f:=by simpa using hf
   exact ⟨y.1,y.2,h1,rfl⟩
  | succ n=>simpa using h4 n f (by simpa using hf)
theorem auu (gs:List aae) {l q:List aae} {nl:List (List ByteArray)} (h:uFs gs l=.ok (q,nl)) {g:aae} (hg:g ∈ q) : ∃ f ∈ l,∃ m,uF gs f=.ok (g,m):=by
 obtain ⟨h1,h2⟩:=af2 gs l q nl h;obtain ⟨n,hn,rfl⟩:=List.getElem_of_mem hg;obtain ⟨g',m,h3,h4⟩:=h2 n l[n] (List.getElem?_eq_getElem (by omega));rw [List.getElem?_eq_getElem hn] at h4;cases h4;exact ⟨_,List.getElem_mem _,m,h3⟩
theorem an4 {op:Int} {fr:ByteArray} {n:Nat} {ix:Int} : ∀ (l:List aae) (i:Nat),uCall op fr n l i=.ok ix→∃ (j:Nat) (f:aae),l[j]?=some f∧(parF f).length=n∧ix=((i + j:Nat):Int)
 | [],i,h=>by cases h
 | .mk nm ps r fl v b :: l,i,h=>by
  simp only [uCall] at h;cases h1:seq nm fr with
  | false =>
   rw [h1] at h;obtain ⟨j,f,g1,g2,g3⟩:=an4 l (i + 1) h;exact ⟨j + 1,f,by simpa using g1,g2,by rw [g3]; congr 1; omega⟩
  | true =>
   rw [h1] at h;simp only [cond_true] at h;cases h2:fl == (op == 28) with
   | false=>rw [h2] at h; cases h
   | true =>
    rw [h2] at h;simp only [cond_true] at h;cases h3:(ps.length:Int) == (n:Int) with
    | false=>rw [h3] at h; cases h
    | true =>
     rw [h3] at h;cases h;exact ⟨0,_,rfl,by simp only [beq_iff_eq] at h3; simp only [parF]; omega,by simp⟩
theorem ap3 {z:Bool} : ∀ {l:List aae} {f:aae},f ∈ l→gFs z l=true→(parF f).length≤4
 | .mk n ps res fl v b :: l,f,hf,hg=>by
  simp only [gFs,ahT,Bool.and_eq_true,decide_eq_true_eq] at hg;rcases List.mem_cons.1 hf with rfl | h
  ·exact hg.1.1.1.1.1.2
  ·exact ap3 h hg.2.2.2
theorem HQ_u {fs q:List aae} {nl:List (List ByteArray)} (h:uFs fs fs=.ok (q,nl)) (hg:gFs false fs=true):HQ fs q:=by
 intro op fr n ix hu;obtain ⟨j,f,h1,h2,h3⟩:=an4 fs 0 hu;obtain ⟨g,m,h4,h5⟩:=(af2 fs fs q nl h).2 j f h1;subst h3;have hp:=(apM h4).1;simp only at hp;refine ⟨by omega,g,by rw [show ((0 + j:Nat):Int).toNat=j by omega]; exact h5,by rw [hp]; exact h2,?_⟩;rw [hp];have:=ap3 (List.mem_of_getElem? h1) hg;omega
theorem vF_u {k:Nat} {fs q:List aae} {nl:List (List ByteArray)} (h:uP (.mk fs)=.ok (.mk q,nl)) (hk:6000≤k):(∀ f ∈ q,wvF q k f)∧q.length≤16:=by
 obtain ⟨hw,_,_,x,hx,hu⟩:=aup h;cases hx;have hw':=hw;simp only [wf,Bool.and_eq_true,decide_eq_true_eq] at hw';obtain ⟨⟨⟨_,h16⟩,hg⟩,hc⟩:=hw';have H:=HQ_u hu hg;refine ⟨fun f hf=>?_,by rw [(af2 _ _ _ _ hu).1]; exact h16⟩;obtain ⟨f0,h0,m,hF⟩:=auu fs hu hf;have hb:=ael h0 hc hg;obtain ⟨n,ps,res,fl,v,b⟩:=f0;simp only at hb;obtain ⟨b1,b2,b3⟩:=hb;unfold uF at hF;obtain ⟨nm,vis,_,h3,hF⟩:=aaJ hF;obtain ⟨nm1,vis1,b',h4,hF⟩:=aaJ hF;obtain ⟨h5,hF⟩:=agz hF;cases hF;have hp:=aws ps [] [] _ h3 (fun v hv=>by simp at hv);simp only [List.length_nil,Nat.zero_add] at hp;have G:=(uS_v H (f2:=res) (f3:=fl) (szSs b)).2.1 b (Nat.le_refl _) 1 0 nm vis _ b3 hp.2 h4;have e1:=(axb fs res fl (szSs b)).2.1 b (Nat.le_refl _) 1 0 nm vis _ b3 h4;have hsz:szSs b'=szSs b:=by
  have:=afc b';simp only at e1;rw [e1] at this;exact this.symm
 have hle:nm.length≤m.length:=G.le;have h32:=of_decide_eq_true h5;refine ⟨by omega,by omega,?_,G.o,by omega,by omega⟩;exact G.v _ (by rw [Int.toNat_natCast]; exact Nat.le_refl _)
theorem aww (k:Nat) (p:aaa) (hk:2 * szP p + 1≤k) (hk2:6000≤k) (hf:fitP p) :
  f21 k p=some (match uK p with | .error c=>(.mk [],[],c) | .ok x=>(x.1,x.2,0)):=by
 refine ayd k p hk (by omega) hf fun x _ hu=>?_
 obtain ⟨fs⟩:=p;obtain ⟨⟨q⟩,nl⟩:=x;exact vF_u hu hk2
theorem atS (q:List aae) : ∀ l,Nz (kFs q l)
 | []=>.ok _
 | f :: l=>by
  simp only [kFs];refine .eb ?_ fun _=>.eb (atS q l) fun _=>.ok _
  obtain ⟨n,ps,res,fl,v,b⟩:=f;simp only [kkF];cases ySs q res (anQ ps v) b with
  | none=>exact .er (by decide)
  | some w=>exact .cond (.er (by decide)) (.ok _)
theorem awK {p:aaa} {c:Int} (h:uK p=.error c):c ≠ 0:=by
 unfold uK at h;cases hw:wf true p with
 | false=>rw [hw] at h; cases h; decide
 | true =>
  rw [hw] at h;simp only [cond_true] at h;cases hu:uP (stP p) with
  | error e=>rw [hu] at h; simp only [eb] at h; cases h; exact atB hu
  | ok x =>
   rw [hu] at h;simp only [eb] at h;cases hx:kFs (funs x.1) (funs x.1) with
   | error e=>rw [hx] at h; simp only at h; cases h; exact atS _ _ _ hx
   | ok y=>rw [hx] at h; cases h
theorem awL {fs:List aae} {x:aaa × List (List Int)} (h:uK (.mk fs)=.ok x) : ∃ q nl,wf true (.mk fs)=true∧uP (.mk (stFs fs))=.ok (.mk q,nl)∧x.1=.mk q∧kFs q q=.ok x.2:=by
 unfold uK at h;cases hw:wf true (.mk fs) with
 | false=>rw [hw] at h; cases h
 | true =>
  rw [hw] at h;simp only [cond_true,stP] at h;obtain ⟨⟨⟨q⟩,nl⟩,h1,h⟩:=afO h;obtain ⟨y,h2,h⟩:=afO h;cases h;exact ⟨q,nl,rfl,h1,rfl,h2⟩
theorem atV (k:Nat) (p:aaa) (hk:2 * szP p + 1≤k) (hk2:6000≤k) (hf:fitP p):f10 k p=some (match uK p with | .error c=>(.mk [],c) | .ok x=>(x.1,0)):=by
 have h:=aww k p hk hk2 hf;obtain ⟨fs⟩:=p;unfold f10 aru;simp only [h,Option.bind_some];cases hu:uK (.mk fs) with
 | error c=>rfl
 | ok x=>obtain ⟨⟨q⟩,y⟩:=x; rfl
def Lr {α:Type} (R:α→α→Prop) (u v:Ex α):Prop:=∀ r,u=.ok r→∃ r',v=.ok r'∧R r r'
def R3 {α:Type} (R:α→α→Prop) (r r' : List ByteArray × List Nat × α):Prop:=r.1=r'.1∧r.2.1=r'.2.1∧R r.2.2 r'.2.2
theorem Lr.ok {α:Type} {R:α→α→Prop} {x y:α} (h:R x y):Lr R (.ok x) (.ok y):=fun r hr=>by cases hr; exact ⟨y,rfl,h⟩
theorem Lr.er {α:Type} {R:α→α→Prop} {c:Int} {v:Ex α}:Lr R (.error c) v:=fun r hr=>by cases hr
theorem Lr.refl {α:Type} (u:Ex α):Lr (·=·) u u:=fun r hr=>⟨r,hr,rfl⟩
theorem Lr.eb {α β:Type} {R:α→α→Prop} {S:β→β→Prop} {u v:Ex α} {f g:α→Ex β} (h:Lr R u v) (hf : ∀ x x',R x x'→Lr S (f x) (g x')):Lr S (eb u f) (eb v g):=by
 intro r hr;obtain ⟨x,h1,h2⟩:=afO hr;obtain ⟨x',h3,h4⟩:=h x h1;rw [h3];exact hf x x' h4 r h2
theorem Lr.eb3 {α β:Type} {R:α→α→Prop} {S:β→β→Prop} {u v:Ex (List ByteArray × List Nat × α)} {f g:List ByteArray→List Nat→α→Ex β} (h:Lr (R3 R) u v) (hf : ∀ a b x x',R x x'→Lr S (f a b x) (g a b x')):Lr S (eb3 u f) (eb3 v g):=by
 intro r hr;obtain ⟨a,b,x,h1,h2⟩:=aaJ hr;obtain ⟨⟨a',b',x'⟩,h3,h4,h5,h6⟩:=h _ h1;simp only at h4 h5 h6;subst h4 h5;rw [h3];exact hf a b x x' h6 r h2
theorem Lr.refl3 {α:Type} (u:Ex (List ByteArray × List Nat × α)):Lr (R3 (·=·)) u u:=fun r hr=>⟨r,hr,rfl,rfl,rfl⟩
theorem Lr.cond {α:Type} {R:α→α→Prop} (b:Bool) {u v u' v' : Ex α} (h:Lr R u u') (h' : Lr R v v'):Lr R (cond b u v) (cond b u' v'):=by
 cases b
 ·exact h'
 ·exact h
theorem Lr.uD {α:Type} {R:α→α→Prop} (b:Bool) (c:Int) {u v:Ex α} (h:Lr R u v):Lr R (uD b c u) (uD b c v):=.cond b h .er
def hd2 (f:aae):List aaR × Int:=(parF f,amE f)
section
variable (ps qs:List aae)
def HI (i i' : Int):Prop:=(ps.map hd2)[i.toNat]?=(qs.map hd2)[i'.toNat]?
structure RS1 (s s' : aaf):Prop where
 y : ∀ q q' : List aae,q.map hd2=ps.map hd2→q'.map hd2=qs.map hd2→∀ res vs,yS q res vs s=yS q' res vs s'
 ed:edS s=edS s'
 bk:bkS s=bkS s'
structure RB (l l' : List aaf):Prop where
 y : ∀ q q' : List aae,q.map hd2=ps.map hd2→q'.map hd2=qs.map hd2→∀ res vs,ySs q res vs l=ySs q' res vs l'
 ed:edL l=edL l'
 bk:bkL l=bkL l'
structure RC (l l' : List aaB):Prop where
 y : ∀ q q' : List aae,q.map hd2=ps.map hd2→q'.map hd2=qs.map hd2→∀ res vs,yCs q res vs l=yCs q' res vs l'
 ed:edC l=edC l'
 bk:bkC l=bkC l'
variable {ps qs}
theorem ato {q q' : List aae} {ix ix' : Int} (h:(q.map hd2)[ix.toNat]?=(q'.map hd2)[ix'.toNat]?) (vs:List Int) (op:Int) (name:ByteArray) (l6:List aah):ai0 q vs op name ix l6=ai0 q' vs op name ix' l6:=by
 rw [List.getElem?_map,List.getElem?_map] at h;unfold ai0;cases h1:q[ix.toNat]? with
 | none =>
  cases h2:q'[ix'.toNat]? with
  | none=>rfl
  | some f=>rw [h1,h2] at h; cases h
 | some f =>
  cases h2:q'[ix'.toNat]? with
  | none=>rw [h1,h2] at h; cases h
  | some g =>
   rw [h1,h2] at h;simp only [Option.map_some,hd2,Option.some.injEq,Prod.mk.injEq] at h;simp only [h.1,h.2]
theorem ahO {op:Int} {name:ByteArray} {slot:Int} {fr:ByteArray} {ix ix' flag:Int} {r6:List aah} {l7 l7' l8 l8' l9 l9' : List aaf} {l10 l10' : List aaB} (hi:HI ps qs ix ix') (h7:RB ps qs l7 l7') (h8:RB ps qs l8 l8') (h9:RB ps qs l9 l9') (h10:RC ps qs l10 l10') :
  RS1 ps qs (.mk op name slot fr ix flag r6 l7 l8 l9 l10) (.mk op name slot fr ix' flag r6 l7' l8' l9' l10') where
 y:=fun q q' hq hq' res vs=>by
  simp only [yS,ato (q:=q) (q':=q') (ix:=ix) (ix':=ix') (by rw [hq,hq']; exact hi),h10.y q q' hq hq',h7.y q q' hq hq',h8.y q q' hq hq',h9.y q q' hq hq']
 ed:=by simp only [edS,h7.ed,h8.ed,h9.ed,h10.ed,h7.bk]
 bk:=by simp only [bkS,h7.bk,h8.bk,h9.bk,h10.bk]
theorem aoA:RB ps qs [] []:=⟨fun _ _ _ _ _ _=>rfl,rfl,rfl⟩
theorem apl {s s' : aaf} {l l' : List aaf} (h:RS1 ps qs s s') (h' : RB ps qs l l'):RB ps qs (s :: l) (s' :: l') :=
 ⟨fun q q' hq hq' res vs=>by simp only [ySs,h.y q q' hq hq',h'.y q q' hq hq'],by simp only [edL,h.ed,h'.ed],by simp only [bkL,h.bk,h'.bk]⟩
theorem aon:RC ps qs [] []:=⟨fun _ _ _ _ _ _=>rfl,rfl,rfl⟩
theorem at4 {kind:Int} {name:ByteArray} {slot:Int} {es:List aah} {b b' : List aaf} {l l' : List aaB} (h:RB ps qs b b') (h' : RC ps qs l l'):RC ps qs (.mk kind name slot es b :: l) (.mk kind name slot es b' :: l') :=
 ⟨fun q q' hq hq' res vs=>by simp only [yCs,h.y q q' hq hq',h'.y q q' hq hq'],by simp only [edC,h.ed,h'.ed],by simp only [bkC,h.bk,h'.bk]⟩
variable (h0:HI ps qs 0 0)
include h0
theorem aiw : ∀ n:Nat,
  (∀ s,szS s≤n→∀ a,gS false s a=true→RS1 ps qs s s)∧(∀ l,szSs l≤n→∀ a,gSs false l a=true→RB ps qs l l)∧(∀ l,szCs l≤n→∀ a,gCs false l a=true→RC ps qs l l)
 | 0=>by
  refine ⟨fun s h=>?_,fun l h=>?_,fun l h=>?_⟩
  ·have:=acl s; omega
  ·cases l with
   | nil=>intro _ _; exact aoA
   | cons s l=>have:=acl s; simp only [szSs] at h; omega
  ·cases l with
   | nil=>intro _ _; exact aon
   | cons s l=>have:=adG s; simp only [szCs] at h; omega
 | n + 1=>by
  obtain ⟨i1,i2,i3⟩:=aiw n;have a1 : ∀ s,szS s≤n + 1→∀ a,gS false s a=true→RS1 ps qs s s:=by
   rintro ⟨op,name,s2,fr,s4,flag,l6,l7,l8,l9,l10⟩ h a hg;simp only [szS] at h;simp only [gS,Bool.and_eq_true,Bool.false_or,beq_iff_eq] at hg;obtain ⟨⟨⟨_,rfl,rfl⟩,hnode⟩,g6,g7,g8,g9,g10⟩:=hg;exact ahO h0 (i2 _ (by omega) _ g7) (i2 _ (by omega) _ g8) (i2 _ (by omega) _ g9) (i3 _ (by omega) _ g10)
  refine ⟨a1,fun l=>?_,fun l=>?_⟩
  ·induction l with
   | nil=>intro _ _ _; exact aoA
   | cons s l ih =>
    intro h a hg;simp only [szSs] at h;simp only [gSs,Bool.and_eq_true] at hg;exact apl (a1 s (by omega) a hg.1) (ih (by omega) a hg.2)
  ·induction l with
   | nil=>intro _ _ _; exact aon
   | cons s l ih =>
    intro h a hg;obtain ⟨kind,name,slot,es,b⟩:=s;simp only [szCs,szC] at h;simp only [gCs,gC,Bool.and_eq_true] at hg;exact at4 (i2 b (by omega) _ hg.1.2.2.2) (ih (by omega) a hg.2)
variable (hc : ∀ op fr na,Lr (HI ps qs) (uCall op fr na ps 0) (uCall op fr na qs 0)) (f2:Int) (f3:Bool)
include hc
theorem axB : ∀ n:Nat,
  (∀ s,szS s≤n→∀ a lo nm vis,gS false s a=true→Lr (R3 (RS1 ps qs)) (uS ps f2 f3 lo nm vis s) (uS qs f2 f3 lo nm vis s)) ∧
  (∀ l,szSs l≤n→∀ a lo nm vis,gSs false l a=true→Lr (R3 (RB ps qs)) (uSs ps f2 f3 lo nm vis l) (uSs qs f2 f3 lo nm vis l)) ∧
  (∀ l,szCs l≤n→∀ a lo nm vis,gCs false l a=true→Lr (R3 (RC ps qs)) (uCs ps f2 f3 lo nm vis l) (uCs qs f2 f3 lo nm vis l))
 | 0=>by
  refine ⟨fun s h=>?_,fun l h=>?_,fun l h=>?_⟩
  ·have:=acl s; omega
  ·cases l with
   | nil=>intro a lo nm vis _; simp only [uSs]; exact .ok ⟨rfl,rfl,aoA⟩
   | cons s l=>have:=acl s; simp only [szSs] at h; omega
  ·cases l with
   | nil=>intro a lo nm vis _; simp only [uCs]; exact .ok ⟨rfl,rfl,aon⟩
   | cons s l=>have:=adG s; simp only [szCs] at h; omega
 | n + 1=>by
  obtain ⟨i1,i2,i4⟩:=axB n;have a1 : ∀ s,szS s≤n + 1→∀ a lo nm vis,gS false s a=true→Lr (R3 (RS1 ps qs)) (uS ps f2 f3 lo nm vis s) (uS qs f2 f3 lo nm vis s):=by
   rintro ⟨op,name,s2,fr,s4,flag,l6,l7,l8,l9,l10⟩ h a lo nm vis hg;simp only [szS] at h;simp only [gS,Bool.and_eq_true,Bool.false_or,beq_iff_eq] at hg;obtain ⟨⟨⟨_,rfl,rfl⟩,hnode⟩,g6,g7,g8,g9,g10⟩:=hg;have h7:=fun lo nm vis=>i2 l7 (by omega) _ lo nm vis g7
   have h8:=fun lo nm vis=>i2 l8 (by omega) _ lo nm vis g8
   have h9:=fun lo nm vis=>i2 l9 (by omega) _ lo nm vis g9
   have h10:=fun lo nm vis=>i4 l10 (by omega) _ lo nm vis g10
   have r7:=(aiw h0 n).2.1 l7 (by omega) _ g7;have r8:=(aiw h0 n).2.1 l8 (by omega) _ g8;have r9:=(aiw h0 n).2.1 l9 (by omega) _ g9;have r10:=(aiw h0 n).2.2 l10 (by omega) _ g10;clear i1 i2 i4;have nm_ : ∀ nm vis,Lr (R3 (·=·)) (cond (seq name ⟨#[]⟩) (.ok (nm,vis,0)) (uMk nm vis name):Ex (List ByteArray × List Nat × Int)) (cond (seq name ⟨#[]⟩) (.ok (nm,vis,0)) (uMk nm vis name)):=fun nm vis=>.refl3 _
   simp only [uS,arh,ajk];refine .eb (.refl _) fun r6 r6' e=>?_
   subst e;refine .cond _ (.eb3 (h10 _ _ _) fun _ _ _ _ hcs=>.ok ⟨rfl,rfl,ahO h0 r7 r8 r9 hcs⟩) (.eb (R:=HI ps qs) (.cond _ (.ok h0) (hc _ _ _)) fun ix ix' hix=>?_);refine .cond _ ?_ (.cond _ (.uD _ _ (.ok ⟨rfl,rfl,ahO hix r7 r8 r9 r10⟩)) (.cond _ (.uD _ _ (.ok ⟨rfl,rfl,ahO hix r7 r8 r9 r10⟩)) (.cond _ (.uD _ _ (.ok ⟨rfl,rfl,ahO hix r7 r8 r9 r10⟩)) (.cond _ (.eb3 (R:=RB ps qs) (.eb3 (h7 _ _ _) fun _ _ _ _ hb=>.ok ⟨rfl,rfl,hb⟩) fun _ _ _ _ hb=>.ok ⟨rfl,rfl,ahO hix hb r8 r9 r10⟩) ?_))))
   ·cases abN nm vis name with
    | none=>exact .er
    | some v=>exact .ok ⟨rfl,rfl,ahO hix r7 r8 r9 r10⟩
   have in_ : ∀ lo nm vis,Lr (R3 fun (x x' : Int × List aaf)=>x.1=x'.1∧RB ps qs x.2 x'.2)
     (eb3 (cond (seq name ⟨#[]⟩) (.ok (nm,vis,0)) (uMk nm vis name)) fun nm1 vis1 v=>eb3 (uSs ps f2 f3 lo nm1 vis1 l7) fun nm2 _ l'=>.ok (nm2,vis,(v,l')):Ex (List ByteArray × List Nat × (Int × List aaf)))
     (eb3 (cond (seq name ⟨#[]⟩) (.ok (nm,vis,0)) (uMk nm vis name)) fun nm1 vis1 v=>eb3 (uSs qs f2 f3 lo nm1 vis1 l7) fun nm2 _ l'=>.ok (nm2,vis,(v,l'))) :=
    fun lo nm vis=>.eb3 (nm_ _ _) fun _ _ v v' e=>.eb3 (h7 _ _ _) fun _ _ _ _ hb=>.ok ⟨rfl,rfl,e,hb⟩
   refine .cond _ (.eb3 (in_ _ _ _) ?_) (.cond _ (.eb3 (in_ _ _ _) ?_) (.cond _ ?_ (.cond _ ?_ ?_)))
   ·rintro _ _ ⟨v,b⟩ ⟨v',b'⟩ ⟨rfl,hb⟩; exact .ok ⟨rfl,rfl,ahO hix hb r8 r9 r10⟩
   ·rintro _ _ ⟨v,b⟩ ⟨v',b'⟩ ⟨rfl,hb⟩; exact .ok ⟨rfl,rfl,ahO hix hb r8 r9 r10⟩
   ·refine .eb3 (R:=RB ps qs) (.eb3 (h7 _ _ _) fun _ _ _ _ hb=>.ok ⟨rfl,rfl,hb⟩) fun _ _ b7 b7' hb7=>?_
    refine .eb3 (R:=fun (x x' : Int × List aaf)=>x.1=x'.1∧RB ps qs x.2 x'.2) (.eb3 (nm_ _ _) fun _ _ v v' e=>.eb3 (h8 _ _ _) fun _ _ _ _ hb=>.ok ⟨rfl,rfl,e,hb⟩) ?_;rintro _ _ ⟨v,b⟩ ⟨v',b'⟩ ⟨rfl,hb⟩;exact .eb3 (R:=RB ps qs) (.eb3 (h9 _ _ _) fun _ _ _ _ hb=>.ok ⟨rfl,rfl,hb⟩) fun _ _ b9 b9' hb9=>.ok ⟨rfl,rfl,ahO hix hb7 hb hb9 r10⟩
   ·refine .eb3 (R:=RB ps qs) (.eb3 (h7 _ _ _) fun _ _ _ _ hb=>.ok ⟨rfl,rfl,hb⟩) fun _ _ b7 b7' hb7=>?_
    exact .eb3 (R:=RB ps qs) (.eb3 (h8 _ _ _) fun _ _ _ _ hb=>.ok ⟨rfl,rfl,hb⟩) fun _ _ b8 b8' hb8=>.ok ⟨rfl,rfl,ahO hix hb7 hb8 r9 r10⟩
   ·refine .eb3 (nm_ _ _) fun _ _ v v' e=>?_
    subst e;exact .uD _ _ (.ok ⟨rfl,rfl,ahO hix r7 r8 r9 r10⟩)
  refine ⟨a1,fun l=>?_,fun l=>?_⟩
  ·induction l with
   | nil=>intro h a lo nm vis _; simp only [uSs]; exact .ok ⟨rfl,rfl,aoA⟩
   | cons s l ih =>
    intro h a lo nm vis hg;simp only [szSs] at h;simp only [gSs,Bool.and_eq_true] at hg;simp only [uSs];exact .eb3 (a1 s (by omega) _ _ _ _ hg.1) fun _ _ _ _ h1=>.eb3 (ih (by omega) _ _ _ _ hg.2) fun _ _ _ _ h2=>.ok ⟨rfl,rfl,apl h1 h2⟩
  ·induction l with
   | nil=>intro h a lo nm vis _; simp only [uCs]; exact .ok ⟨rfl,rfl,aon⟩
   | cons s l ih =>
    intro h a lo nm vis hg;obtain ⟨kind,name,slot,es,b⟩:=s;simp only [szCs,szC] at h;simp only [gCs,gC,Bool.and_eq_true,Bool.false_or,beq_iff_eq] at hg;obtain ⟨⟨_,⟨⟨_,rfl⟩,_⟩,g6,g7⟩,g8⟩:=hg;simp only [uCs,uC,ajk];refine .eb3 (R:=fun (c c' : aaB)=>∃ v r b b',c=.mk kind name v r b∧c'=.mk kind name v r b'∧RB ps qs b b') (.eb (.refl _) fun r6 r6' e=>?_) ?_
    ·subst e;refine .eb3 (R:=fun (x x' : Int × List aaf)=>x.1=x'.1∧RB ps qs x.2 x'.2) (.eb3 (.refl3 _) fun _ _ v v' e=>.eb3 (i2 b (by omega) _ _ _ _ g7) fun _ _ _ _ hb=>.ok ⟨rfl,rfl,e,hb⟩) ?_;rintro _ _ ⟨v,b⟩ ⟨v',b'⟩ ⟨rfl,hb⟩;exact .ok ⟨rfl,rfl,_,_,_,_,rfl,rfl,hb⟩
    ·rintro _ _ _ _ ⟨v,r,b,b',rfl,rfl,hb⟩;exact .eb3 (ih (by omega) _ _ _ _ g8) fun _ _ _ _ h2=>.ok ⟨rfl,rfl,at4 hb h2⟩
end
theorem agG : ∀ l,af7 l↔∀ f ∈ l,fitF f
 | []=>by simp [af7]
 | f :: l=>by simp [af7,agG l]
theorem an2 (a:ByteArray) : ∀ l:List aae,hasF a l=true↔a ∈ l.map af8
 | []=>by simp [hasF]
 | f :: l=>by
  simp only [hasF,Bool.or_eq_true,an2 a l,List.map_cons,List.mem_cons,auM];exact or_congr ⟨fun h=>h.symm,fun h=>h.symm⟩ Iff.rfl
theorem alz : ∀ (l pre:List aae),dupF pre l=false↔(l.map af8).Nodup∧∀ f ∈ l,af8 f ∉ pre.map af8
 | [],pre=>by simp [dupF]
 | f :: l,pre=>by
  have h1:hasF (af8 f) pre=false↔af8 f ∉ pre.map af8:=by rw [← an2]; simp
  simp only [dupF,Bool.or_eq_false_iff,h1,alz l,List.map_cons,List.nodup_cons,List.map_append,List.map_nil,List.mem_append,List.mem_singleton,List.mem_cons,forall_eq_or_imp,not_or];constructor
  ·rintro ⟨g1,g2,g3⟩;refine ⟨⟨fun hm=>?_,g2⟩,g1,fun g hg=>(g3 g hg).1⟩;obtain ⟨g,hg,e⟩:=List.mem_map.1 hm;exact (g3 g hg).2.1 e
  ·rintro ⟨⟨g1,g2⟩,g3,g4⟩;exact ⟨g3,g2,fun g hg=>⟨g4 g hg,fun e=>g1 (List.mem_map.2 ⟨g,hg,e⟩),by simp⟩⟩
def azX:aae→Int | .mk nm ps _ fl _ _=>cond fl 25 (cond (decide ((ps.length:Int) > 0)) 24 0)
def arm:aae→List aaf | .mk _ _ _ _ _ b=>b
def RF (ps qs:List aae) (g g' : aae):Prop:=∃ n pr res fl v b b',g=.mk n pr res fl v b∧g'=.mk n pr res fl v b'∧RB ps qs b b'
theorem ayz {ps qs:List aae} (h0:HI ps qs 0 0) (hc : ∀ op fr na,Lr (HI ps qs) (uCall op fr na ps 0) (uCall op fr na qs 0)) {f:aae} (hg:gSs false (arm f) 1=true) :
  Lr (fun (x x' : aae × List ByteArray)=>RF ps qs x.1 x'.1) (uF ps f) (uF qs f):=by
 obtain ⟨n,pr,res,fl,v,b⟩:=f;simp only [uF];exact .eb3 (.refl3 _) fun nm vis _ _ _=>.eb3 (((axB h0 hc res fl) (szSs b)).2.1 b (Nat.le_refl _) 1 0 nm vis hg) fun nm1 _ b1 b1' hb=>.uD _ _ (.ok ⟨_,_,_,_,_,_,_,rfl,rfl,hb⟩)
theorem aua (gs:List aae) : ∀ l:List aae,(∀ f ∈ l,∃ x,uF gs f=.ok x)→∃ q nl,uFs gs l=.ok (q,nl)
 | [],_=>⟨[],[],rfl⟩
 | f :: l,h=>by
  obtain ⟨x,hx⟩:=h f List.mem_cons_self;obtain ⟨q,nl,hq⟩:=aua gs l fun g hg=>h g (List.mem_cons_of_mem _ hg)
  exact ⟨x.1 :: q,x.2 :: nl,by simp only [uFs,hx,hq,eb]⟩
theorem anB (gs:List aae) : ∀ (l q:List aae) (nl:List (List ByteArray)),uFs gs l=.ok (q,nl)→q.map hd2=l.map hd2
 | [],q,nl,h=>by cases h; rfl
 | f :: l,q,nl,h=>by
  simp only [uFs] at h;obtain ⟨y,h1,h⟩:=afO h;obtain ⟨z,h2,h⟩:=afO h;cases h;obtain ⟨g1,g2,_⟩:=apM h1;simp only [List.map_cons,anB gs l z.1 z.2 h2,hd2,g1,g2]
theorem aqw (q:List aae) : ∀ (l:List aae) (y:List (List Int)),kFs q l=.ok y→y.length=l.length∧∀ (n:Nat) (g:aae),l[n]?=some g→∃ w,kkF q g=.ok w∧y[n]?=some w
 | [],y,h=>by cases h; exact ⟨rfl,fun n f h=>by simp at h⟩
 | x :: l,y,h=>by
  unfold kFs at h;obtain ⟨w,h1,h⟩:=afO h;obtain ⟨z,h2,h⟩:=afO h;cases h;obtain ⟨h3,h4⟩:=aqw q l z h2;refine ⟨by simp [h3],fun n f hf=>?_⟩;cases n with
  | zero =>
   obtain rfl:x=f:=by simpa using hf
   exact ⟨w,h1,rfl⟩
  | succ n=>simpa using h4 n f (by simpa using hf)
theorem azy {ps qs q q' : List aae} (hq:q.map hd2=ps.map hd2) (hq' : q'.map hd2=qs.map hd2) {g g' : aae} (h:RF ps qs g g'):kkF q g=kkF q' g'∧edL (arm g)=edL (arm g'):=by
 obtain ⟨n,pr,res,fl,v,b,b',rfl,rfl,hb⟩:=h;exact ⟨by simp only [kkF,hb.y q q' hq hq',hb.ed],hb.ed⟩
theorem awQ (k:Nat) (p:aaa) (hk:2 * szP p + 1≤k) : ∃ b,f7 k p=some b:=by
 obtain ⟨fs⟩:=p;simp only [szP] at hk;have loop : ∀ (l:List aae) (i:Nat) (n:Int),szFs l + 1≤k→∃ r,anm k l i n=some r:=by
  intro l;induction l with
  | nil=>intro i n _; exact ⟨_,rfl⟩
  | cons e l ih =>
   intro i n hk;obtain ⟨e0,e1,e2,e3,e4,e5⟩:=e;simp only [szFs,szF] at hk;unfold anm f18;cases decide (n≤2000)
   ·exact ⟨_,rfl⟩
   ·obtain ⟨r,hr⟩:=aiS k k e5 0 (by omega) (by omega);rw [hr];exact ih _ _ (by omega)
 obtain ⟨r,hr⟩:=loop fs 0 0 (by omega);exact ⟨r,by unfold f7 f7_b; simp [hr]⟩
theorem ayM (k:Nat):f8 (k + 100)=some true:=by kernel_rfl
theorem azO (k:Nat) (x:Int) (n:Nat) (h0:0 < n) (hn:n≤4611686018427387904) : ∃ m:Nat,f9 k x (n:Int)=some (m:Int)∧m < n:=by
 have e1:IntKind.u64.wrap (n:Int)=(n:Int):=by unfold IntKind.wrap; simp [IntKind.bits,IntKind.signed]; omega
 have e2:0≤IntKind.u64.wrap x:=by unfold IntKind.wrap; simp [IntKind.bits,IntKind.signed]; omega
 obtain ⟨y,hy⟩ : ∃ y:Nat,IntKind.u64.wrap x=(y:Int):=⟨(IntKind.u64.wrap x).toNat,by omega⟩;have hlt:y % n < n:=Nat.mod_lt _ h0;refine ⟨y % n,?_,hlt⟩;unfold f9 f9_b aaT;rw [e1,hy,show decide (¬ ((n:Int)=0))=true by simpa using (by omega : ¬ n=0)];have e3:((y:Int).tmod (n:Int))=((y % n:Nat):Int):=by rw [Int.tmod_eq_emod_of_nonneg (by omega)]; omega
 rw [e3,aby (n:=y % n) rfl (by omega)];rfl
theorem ayy {α:Type} {l:List α} {n:Nat} {x:α} (h:l[n]?=some x):idxO l (n:Int)=some x:=by
 unfold idxO;rw [if_pos (by omega)];simpa using h
mutual
theorem aso : ∀ e,fitE e→fitE (stE e)
 | .mk _ _ _ _ l=>by
  simp only [stE,fitE,aeC];exact fun h=>⟨h.1,agL l h.2⟩
theorem agL : ∀ l,ad8 l→ad8 (stEs l)
 | []=>fun h=>h
 | e :: l=>by
  simp only [stEs,ad8];exact fun h=>⟨aso e h.1,agL l h.2⟩
end
mutual
theorem arx : ∀ s,fitS s→fitS (stS s)
 | .mk _ _ _ _ _ _ l6 l7 l8 l9 l10=>by
  simp only [stS,fitS,aeC,agj,akZ];exact fun h=>⟨⟨h.1.1,agL l6 h.1.2⟩,⟨h.2.1.1,aeq l7 h.2.1.2⟩,⟨h.2.2.1.1,aeq l8 h.2.2.1.2⟩,⟨h.2.2.2.1.1,aeq l9 h.2.2.2.1.2⟩,⟨h.2.2.2.2.1,amR l10 h.2.2.2.2.2⟩⟩
theorem aeq : ∀ l,adx l→adx (stSs l)
 | []=>fun h=>h
 | e :: l=>by
  simp only [stSs,adx];exact fun h=>⟨arx e h.1,aeq l h.2⟩
theorem arI : ∀ c,fitC c→fitC (stC c)
 | .mk _ _ _ l b=>by
  simp only [stC,fitC,aeC,agj];exact fun h=>⟨⟨h.1.1,agL l h.1.2⟩,⟨h.2.1,aeq b h.2.2⟩⟩
theorem amR : ∀ l,afZ l→afZ (stCs l)
 | []=>fun h=>h
 | e :: l=>by
  simp only [stCs,afZ];exact fun h=>⟨arI e h.1,amR l h.2⟩
end
theorem amm : ∀ l,af7 l→af7 (stFs l)
 | []=>fun h=>h
 | .mk _ ps _ _ _ b :: l=>by
  simp only [stFs,stF,af7,fitF,agj];exact fun h=>⟨⟨h.1.1,h.1.2.1,aeq b h.1.2.2⟩,amm l h.2⟩
def awj (f g:aae):Prop:=∃ n ps r fl v v' b b',f=.mk n ps r fl v b∧g=.mk n ps r fl v' b'
theorem afa {α β:Type} (H:α→β) : ∀ (l:List α) (n:Nat) (f g:α),l[n]?=some f→H g=H f→(l.set n g).map H=l.map H
 | [],n,f,g,h,_=>by simp at h
 | x :: l,0,f,g,h,e=>by
  obtain rfl:x=f:=by simpa using h
  simp [e]
 | x :: l,n + 1,f,g,h,e=>by simp [afa H l n f g (by simpa using h) e]
theorem al7 {op:Int} {fr:ByteArray} {na:Nat} {f g:aae} (hs:awj f g) : ∀ (l:List aae) (n i:Nat),l[n]?=some f→uCall op fr na (l.set n g) i=uCall op fr na l i
 | [],n,i,h=>by simp at h
 | x :: l,0,i,h=>by
  obtain rfl:x=f:=by simpa using h
  obtain ⟨nm,ps,r,fl,v,v',b,b',rfl,rfl⟩:=hs;rfl
 | .mk nm ps r fl v b :: l,n + 1,i,h=>by
  simp only [List.set_cons_succ,uCall,al7 hs l n (i + 1) (by simpa using h)]
theorem aoF {f g:aae} (hs:awj f g) : ∀ (l:List aae) (n:Nat),l[n]?=some f→acA (l.set n g)=acA l
 | [],n,h=>by simp at h
 | x :: l,0,h=>by
  obtain rfl:x=f:=by simpa using h
  obtain ⟨nm,ps,r,fl,v,v',b,b',rfl,rfl⟩:=hs;rfl
 | .mk nm ps r fl v b :: l,n + 1,h=>by
  simp only [List.set_cons_succ,acA,aoF hs l n (by simpa using h)]
theorem aqM {q:List aae} : ∀ (l:List aae) (n:Nat),(∀ (j:Nat) (f:aae),j < n→l[j]?=some f→∃ w,kkF q f=.ok w)→(∃ f,l[n]?=some f∧kkF q f=.error 23)→kFs q l=.error 23
 | [],n,_,h=>by obtain ⟨f,h,_⟩:=h; simp at h
 | x :: l,0,_,h=>by
  obtain ⟨f,h1,h2⟩:=h;obtain rfl:x=f:=by simpa using h1
  simp only [kFs,h2,eb]
 | x :: l,n + 1,hj,h=>by
  obtain ⟨w,hw⟩:=hj 0 x (by omega) rfl;obtain ⟨f,h1,h2⟩:=h;have ih:=aqM l n (fun j f hlt hf=>hj (j + 1) f (by omega) (by simpa using hf)) ⟨f,by simpa using h1,h2⟩;simp only [kFs,hw,ih,eb]
structure aqs (bad:aaf):Prop where
 u : ∀ fs f2 f3 lo nm vis,uS fs f2 f3 lo nm vis bad=.ok (nm,vis,bad)
 y : ∀ q res vs,yS q res vs bad=none
 z:szS bad≤3
 f:fitS bad
theorem axy {fs:List aae} {x:aaa × List (List Int)} (hu:uK (.mk fs)=.ok x) {n:Nat} {nm:ByteArray} {ps:List aaR} {res:Int} {fl:Bool} {v:Int} {b:List aaf} {bad:aaf} (hb:aqs bad)
  (hg:(stFs fs)[n]?=some (.mk nm ps res fl v b)) (hw:wf false (.mk ((stFs fs).set n (.mk nm ps res fl v (bad :: b))))=true) :
  uK (.mk ((stFs fs).set n (.mk nm ps res fl v (bad :: b))))=.error 23:=by
 obtain ⟨q,nl,_,hP,hx,hk⟩:=awL hu;obtain ⟨hw0,hd,hm,x',hx',hF⟩:=aup hP;cases hx';obtain ⟨hw1,e1⟩:=auV hw;generalize hgs:stFs fs=gs at *;have hs:awj (.mk nm ps res fl v b) (.mk nm ps res fl v (bad :: b)):=⟨_,_,_,_,_,_,_,_,rfl,rfl⟩;have hhd:=afa hd2 gs n _ (.mk nm ps res fl v (bad :: b)) hg rfl;have hnm:=afa af8 gs n _ (.mk nm ps res fl v (bad :: b)) hg rfl;generalize hqs:gs.set n (.mk nm ps res fl v (bad :: b))=qs at *;have hI : ∀ i,HI gs qs i i:=fun i=>by unfold HI; rw [hhd]
 have hcall : ∀ op fr na,uCall op fr na qs 0=uCall op fr na gs 0:=fun op fr na=>by rw [← hqs]; exact al7 hs gs n 0 hg
 have hc : ∀ op fr na,Lr (HI gs qs) (uCall op fr na gs 0) (uCall op fr na qs 0):=fun op fr na r hr=>⟨r,by rw [hcall]; exact hr,hI r⟩
 have hgf:=okWf hw0;have hgS : ∀ f ∈ gs,gSs false (arm f) 1=true:=fun f hf=>by
  have:=ael hf (by simp only [wf,Bool.and_eq_true,decide_eq_true_eq] at hw0; exact hw0.2) hgf;obtain ⟨n,pr,res,fl,v,b⟩:=f;exact this.2.2
 have hall : ∀ f ∈ gs,∃ x x',uF gs f=.ok x∧uF qs f=.ok x'∧RF gs qs x.1 x'.1:=fun f hf=>by
  obtain ⟨i,hi⟩:=List.getElem?_of_mem hf;obtain ⟨g,m,h1,_⟩:=(af2 gs gs q nl hF).2 i f hi;obtain ⟨x',h2,h3⟩:=ayz (hI 0) hc (hgS f hf) _ h1;exact ⟨_,x',h1,h2,h3⟩
 obtain ⟨g',m',hbad,hg'⟩ : ∃ g' m',uF qs (.mk nm ps res fl v (bad :: b))=.ok (g',m')∧∀ q1:List aae,kkF q1 g'=.error 23:=by
  obtain ⟨_,x',_,h2,_⟩:=hall _ (List.mem_of_getElem? hg);unfold uF at h2;obtain ⟨nm0,vis0,z0,h3,h2⟩:=aaJ h2;obtain ⟨nm1,vis1,b',h4,h2⟩:=aaJ h2;obtain ⟨h5,h2⟩:=agz h2;refine ⟨.mk nm ps res fl (nm1.length:Int) (bad :: b'),nm1,?_,fun q1=>?_⟩
  ·unfold uF;simp only [h3,eb3,uSs,hb.u,h4,uD,h5,cond_true]
  ·simp only [kkF,ySs,hb.y,Option.bind_none]
 have hmem : ∀ (j:Nat) (f:aae),qs[j]?=some f→(j=n∧f=.mk nm ps res fl v (bad :: b))∨(j ≠ n∧gs[j]?=some f):=by
  intro j f hf;have hn:n < gs.length:=(List.getElem?_eq_some_iff.1 hg).1;rw [← hqs] at hf;by_cases e:j=n
  ·subst e;rw [List.getElem?_set_self hn] at hf;exact .inl ⟨rfl,(Option.some.inj hf).symm⟩
  ·rw [List.getElem?_set_ne (Ne.symm e)] at hf;exact .inr ⟨e,hf⟩
 obtain ⟨q1,nl1,hF1⟩:=aua qs qs fun f hf=>by
  obtain ⟨j,hj⟩:=List.getElem?_of_mem hf;rcases hmem j f hj with ⟨_,rfl⟩ | ⟨_,h⟩
  ·exact ⟨_,hbad⟩
  ·obtain ⟨x,x',_,h2,_⟩:=hall f (List.mem_of_getElem? h);exact ⟨x',h2⟩
 have hh0:=anB gs gs q nl hF;have hh1:=anB qs qs q1 nl1 hF1;have hlen:qs.length=gs.length:=by rw [← hqs,List.length_set]
 have hk1:kFs q1 q1=.error 23:=by
  obtain ⟨hl1,hget1⟩:=af2 qs qs q1 nl1 hF1;have hn:n < gs.length:=(List.getElem?_eq_some_iff.1 hg).1;refine aqM q1 n (fun j f hlt hf=>?_) ?_
  ·obtain ⟨f0,hf0⟩ : ∃ f0,qs[j]?=some f0:=⟨_,List.getElem?_eq_getElem (by omega)⟩;obtain ⟨g1,m1,h1,h2⟩:=hget1 j f0 hf0;rw [hf] at h2;cases h2;rcases hmem j f0 hf0 with ⟨e,_⟩ | ⟨_,h⟩
   ·omega
   ·obtain ⟨y,y',h3,h4,h5⟩:=hall f0 (List.mem_of_getElem? h);rw [h1] at h4;cases h4;obtain ⟨g0,m0,h6,h7⟩:=(af2 gs gs q nl hF).2 j f0 h;rw [h3] at h6;cases h6;obtain ⟨w,h8,_⟩:=(aqw q q x.2 hk).2 j g0 h7;exact ⟨w,(azy hh0 hh1 h5).1.symm.trans h8⟩
  ·have hqn:qs[n]?=some (.mk nm ps res fl v (bad :: b)):=by rw [← hqs]; exact List.getElem?_set_self hn
   obtain ⟨g1,m1,h1,h2⟩:=hget1 n _ hqn;rw [hbad] at h1;cases h1;exact ⟨_,h2,hg' q1⟩
 have hdq:dupF [] qs=false:=(alz qs []).2 ⟨by rw [hnm]; exact ((alz gs []).1 hd).1,fun f hf=>by simp⟩;have hmq:acA qs=0:=by rw [← hqs,aoF hs gs n hg]; exact hm
 have hPq:uP (.mk qs)=.ok (.mk q1,nl1):=by
  show uD _ 2 (uD _ 21 (uD _ _ _))=_;rw [hw,hdq,hmq,hF1];rfl
 unfold uK;rw [hw1,e1,hPq];simp only [cond_true,eb,funs,hk1]
def bad1:aaf:=.mk 20 ⟨#[]⟩ 0 ⟨#[]⟩ 0 0 [.mk 1 1 ⟨#[]⟩ 0 []] [] [] [] []
def bad2:aaf:=.mk 12 ⟨#[]⟩ 0 ⟨#[]⟩ 0 0 [.mk 3 0 ⟨#[]⟩ 0 []] [] [] [] []
def bad3:aaf:=.mk 15 ⟨#[]⟩ 0 ⟨#[]⟩ 0 0 [.mk 2 0 ⟨#[]⟩ 0 []] [] [] [] []
theorem awD:aqs bad1:=⟨fun fs f2 f3 lo nm vis=>by
 have hs:seq ⟨#[]⟩ ⟨#[]⟩=true:=by kernel_rfl
 simp [bad1,uS,uEs,uE,uB,eb,eb3,hs,uD],fun q res vs=>by
 have h:mget qI 20 aff=some [2]:=by kernel_rfl
 have hs:seq ⟨#[]⟩ ⟨#[]⟩=true:=by kernel_rfl
 simp [bad1,yS,aiI,h,ai0,areK,kT,hs],by decide,by simp [bad1,fitS,ad8,fitE,adx,afZ,maxB]⟩
theorem awl:aqs bad2:=⟨fun fs f2 f3 lo nm vis=>by
 have hs:seq ⟨#[]⟩ ⟨#[]⟩=true:=by kernel_rfl
 simp [bad2,uS,uEs,uE,uB,eb,eb3,hs,uD],fun q res vs=>by
 have h:mget qI 12 aff=some [1]:=by kernel_rfl
 have hs:seq ⟨#[]⟩ ⟨#[]⟩=true:=by kernel_rfl
 simp [bad2,yS,aiI,h,ai0,areK,kT,hs],by decide,by simp [bad2,fitS,ad8,fitE,adx,afZ,maxB]⟩
theorem ayi:aqs bad3:=⟨fun fs f2 f3 lo nm vis=>by
 have hs:seq ⟨#[]⟩ ⟨#[]⟩=true:=by kernel_rfl
 simp [bad3,uS,uEs,uE,uB,eb,eb3,hs,uD],fun q res vs=>by
 have h:mget qI 15 aff=some [3]:=by kernel_rfl
 have hs:seq ⟨#[]⟩ ⟨#[]⟩=true:=by kernel_rfl
 simp [bad3,yS,aiI,h,ai0,areK,kT,hs],by decide,by simp [bad3,fitS,ad8,fitE,adx,afZ,maxB]⟩
theorem aoI : ∀ (l:List aae) (n:Nat) (f g:aae),l[n]?=some f→szF g≤szF f + 3→szFs (l.set n g)≤szFs l + 3
 | [],n,f,g,h,_=>by simp at h
 | x :: l,0,f,g,h,e=>by
  obtain rfl:x=f:=by simpa using h
  simp only [List.set_cons_zero,szFs]; omega
 | x :: l,n + 1,f,g,h,e=>by
  have:=aoI l n f g (by simpa using h) e;simp only [List.set_cons_succ,szFs]; omega
theorem azp (k:Nat) (p:aaa) (a:Int) (hk:2 * szP p + 6500≤k) (hf:fitP p):f3 (k + 100) p a=some true:=by
 obtain ⟨c,hc⟩:=awQ (k + 100) p (by omega);have h8:=ayM k;have h10:=atV (k + 100) p (by omega) (by omega) hf;have h11:=awm (k + 100) p (by omega) hf;have hne:=fun c=>awK (p:=p) (c:=c)
 obtain ⟨fs⟩:=p;have hj1:ang (k + 100) fs a true=some true:=by
  unfold ang;simp only [cond_true,h8,Option.bind_some]
 unfold f3 f3_b;simp only [hc,Option.bind_some];cases c with
 | false=>simp only [Bool.not_false,cond_true,hj1]
 | true =>
  simp only [Bool.not_true,cond_false];cases hl:(fs.length:Int) == 0 with
  | true=>exact hj1
  | false =>
   have hl:fs.length ≠ 0:=by simpa using hl
   have hlen:fs.length≤szFs fs:=alj fs;have hmax:fs.length * 88≤maxB:=hf.1;unfold maxB at hmax;obtain ⟨n,h9,hn⟩:=azO (k + 100) a fs.length (by omega) (by omega);unfold ang;simp only [cond_false,h9,Option.bind_some,h10];cases hu:uK (.mk fs) with
   | error e =>
    have he:(e != 0)=true:=by simpa using hne e hu
    simp only [he,cond_true,h8,Option.bind_some]
   | ok x =>
    obtain ⟨⟨q⟩,y⟩:=x;simp only [bne_self_eq_false,cond_false,h11,Option.bind_some,stP];have hsl:(stFs fs).length=fs.length:=by
     have : ∀ l:List aae,(stFs l).length=l.length:=by
      intro l;induction l with
      | nil=>rfl
      | cons f l ih=>simp [stFs,ih]
     exact this fs
    obtain ⟨g,hg⟩ : ∃ g,(stFs fs)[n]?=some g:=⟨_,List.getElem?_eq_getElem (by omega)⟩;obtain ⟨_,_,hwf,hP,_,_⟩:=awL hu;obtain ⟨hw0,_⟩:=aup hP;have hbnd:=ael (List.mem_of_getElem? hg) (by simp only [wf,Bool.and_eq_true,decide_eq_true_eq] at hw0; exact hw0.2) (okWf hw0);have hfit:=amm fs hf.2;have hfg:=(agG _).1 hfit g (List.mem_of_getElem? hg);obtain ⟨nm,ps,res,fl,v,b⟩:=g;simp only at hbnd;have hbl:=aoo b;have gd : ∀ (bad:aaf) (z:Option Bool),aaT (decide (([bad].length + b.length) * 184≤140737488355328)) z=z:=fun bad z=>by
     unfold aaT;rw [decide_eq_true (by simp only [List.length_singleton]; omega)];rfl
    have step : ∀ (bad:aaf),aqs bad→∀ z:Option Bool,(wf false (.mk ((stFs fs).set n (.mk nm ps res fl v (bad :: b))))=false∧f12 (k + 100) (.mk ((stFs fs).set n (.mk nm ps res fl v (bad :: b))))=some false) ∨
      (f12 (k + 100) (.mk ((stFs fs).set n (.mk nm ps res fl v (bad :: b))))=some true∧f10 (k + 100) (.mk ((stFs fs).set n (.mk nm ps res fl v (bad :: b))))=some (.mk [],23)):=by
     intro bad hb z;have hsz:szP (.mk ((stFs fs).set n (.mk nm ps res fl v (bad :: b))))≤szP (.mk fs) + 3:=by
      have:=aoI (stFs fs) n _ (.mk nm ps res fl v (bad :: b)) hg (by simp only [szF,szSs]; have:=hb.z; omega);rw [ano] at this;simp only [szP];omega
     have h12:=ayc (k + 100) (.mk ((stFs fs).set n (.mk nm ps res fl v (bad :: b)))) (by omega);cases hw:wf false (.mk ((stFs fs).set n (.mk nm ps res fl v (bad :: b)))) with
     | false=>rw [hw] at h12; exact .inl ⟨rfl,h12⟩
     | true =>
      rw [hw] at h12;refine .inr ⟨h12,?_⟩;have hfit2:fitP (.mk ((stFs fs).set n (.mk nm ps res fl v (bad :: b)))):=by
       refine ⟨by rw [List.length_set,hsl]; exact hf.1,(agG _).2 fun f hm=>?_⟩;rcases List.mem_or_eq_of_mem_set hm with h | rfl
       ·exact (agG _).1 hfit f h
       ·exact ⟨hfg.1,by simp only [List.length_cons]; unfold maxB; omega,hb.f,hfg.2.2⟩
      have:=atV (k + 100) _ (by omega) (by omega) hfit2;rw [axy hu hb hg hw] at this;exact this
    have i0:idxO (stFs fs) (n:Int)=some (.mk nm ps res fl v b):=ayy hg;simp only [i0,Option.bind_some,gd,Int.toNat_natCast];have hc23:((23:Int) != 23)=false:=rfl;have s1:=step bad1 awD none;have s2:=step bad2 awl none;have s3:=step bad3 ayi none;unfold bad1 at s1;unfold bad2 at s2;unfold bad3 at s3;simp only [List.cons_append,List.nil_append];unfold asW;rcases s1 with ⟨_,s1⟩ | ⟨s1,t1⟩
    ·simp only [s1,Option.bind_some,Bool.not_false,cond_true,h8]
    ·simp only [s1,t1,Option.bind_some,Bool.not_true,cond_false,hc23,h11,stP,i0,gd,Int.toNat_natCast,List.cons_append,List.nil_append];unfold asR;rcases s2 with ⟨_,s2⟩ | ⟨s2,t2⟩
     ·simp only [s2,Option.bind_some,Bool.not_false,cond_true,h8]
     ·simp only [s2,t2,Option.bind_some,Bool.not_true,cond_false,hc23,h11,stP,i0,gd,Int.toNat_natCast,List.cons_append,List.nil_append];unfold asJ;rcases s3 with ⟨_,s3⟩ | ⟨s3,t3⟩
      ·simp only [s3,Option.bind_some,Bool.not_false,cond_true,h8]
      ·simp only [s3,t3,Option.bind_some,Bool.not_true,cond_false,hc23,h8]
end Go.Proofs.YtoegpkmhifmamaaGreatDoor
