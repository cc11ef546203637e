/- Words of the same proof, part 6: what the last text needs; nothing is claimed here. -/
import Derived.Test.YtphdlngnegjgcaaGreatDoorO5
import Derived.ProofKit
set_option linter.unusedVariables false
set_option linter.unusedSimpArgs false
namespace Go.Proofs.YtphdlngnegjgcaaGreatDoor
open Go
section
variable (k:Nat) (F:abz) (op:Int) (name:ByteArray) (s2:Int) (from_:ByteArray) (s4 flag:Int) (l6:List aam) (l7 l8 l9:List aaf) (l10:List aaz) (a nm:Int) (fr:Bool) (lo hi:Int) (bd:Bool) (n d:Int) (z q:Bool)
theorem aqB:ajI k F (.mk n d false) (.mk op name s2 from_ s4 flag l6 l7 l8 l9 l10) a=(f114 k (.mk n d false) a).bind fun x=>match x with
  | .mk n1 d1 q1=>abF k F l7 l8 l9 l10 a l6 0 n1 d1 (q1 || !((s2 == 0 && s4 == 0) && acx op name from_ flag l6.length l7.length l8.length l9.length l10.length)):=by
 unfold ajI;simp only [cond_false];congr 1;funext x;obtain ⟨n1,d1,q1⟩:=x;simp only [avk,Option.bind_some,adz,apb,acx];cases shp op with
 | none =>
  simp only [toR,cond_false,Bool.and_false,Bool.not_false,Bool.or_true,Bool.true_or]
 | some t =>
  obtain ⟨nm,frm,lo,hi,bd,fl⟩:=t;simp only [toR,cond_true];generalize (akw nm name && alh frm from_ && (bd || ((l7.length:Int) == 0)) && aig op name flag l8.length l9.length && aeC op l10.length)=g;generalize abF k F l7 l8 l9 l10 a l6 0 n1 d1=Q;obtain ⟨A,B,rfl⟩:=bfun Q;simp only [Bool.cond_eq_ite];grind (splits:=20)
theorem art (kind:Int) (slot:Int) (es:List aam) (b:List aaf):ajQ k F (.mk n d q) (.mk kind name slot es b) a=(f114 k (.mk n d q) a).bind fun x=>match x with
  | .mk n1 d1 q1=>acR k F b a es 0 n1 d1 (q1 || !((slot == 0) && ai1 kind name es.length)):=by
 unfold ajQ;simp only;congr 1;funext x;obtain ⟨n1,d1,q1⟩:=x;unfold agv afY aeX;simp only [Option.bind_some,adz,ajf,ai1];generalize acR k F b a es 0 n1 d1=Q;obtain ⟨A,B,rfl⟩:=bfun Q;generalize (slot == 0)=b5;generalize isN name=b6;generalize seq name ⟨#[]⟩=b7;simp only [Bool.cond_eq_ite];grind (splits:=20)
end
theorem ajM (k:Nat) (F:abz) (a:Int) (l:List aaf) (i:Nat) (x d:Int):aeh k F a l i x d true=some (.mk x d true):=by
 cases l with
 | nil=>rfl
 | cons e l=>obtain ⟨_,_,_,_,_,_,_,_,_,_,_⟩:=e; rfl
theorem RRes.conv {r:Option aap} {g g' : Bool} {n s n' s' : Nat} {q q' : Bool} (h:RRes r g n s q) (hs:n + s=n' + s') (hg:(q || !(g && decide (n + s≤600)))=(q' || !(g' && decide (n' + s'≤600)))):RRes r g' n' s' q':=by
 obtain ⟨x,d,q1,h1,h2,h3⟩:=h;exact ⟨x,d,q1,h1,by rw [h2,hg],by rw [← hs]; exact h3⟩
theorem RRes.node {r:Option aap} {g b:Bool} {n s a:Nat} (h:RRes r g (n + 1) s (!(decide (n + 1≤600) && decide (a≤16)) || !b)):RRes r (decide (a≤16) && b && g) n (s + 1) false:=by
 refine h.conv (by omega) ?_;have e:n + (s + 1)=n + 1 + s:=by omega
 rw [e];by_cases hh:n + 1 + s≤600
 ·have:n + 1≤600:=by omega
  simp only [hh,this,decide_true];cases decide (a≤16) <;> cases b <;> cases g <;> rfl
 ·simp [hh]
theorem ara (k:Nat) (e:aam) (hk:szE e≤k) (n:Nat) (d:Int) (a:Nat) (hn:n≤600) (ha:a≤17):RRes (f84 k (.mk n d false) e a false) (gE false e a) n (szE e) false :=
 rE k k e hk n d a hn ha
theorem ap2 {n a:Nat} {b:Bool}:(!(decide (n + 1≤600) && decide (a≤16)) || !b)=false→((n + 1:Nat):Int)=((n + 1:Nat):Int)∧n + 1≤600:=by
 intro h; simp at h; exact ⟨rfl,by omega⟩
theorem arB {op flag:Int} {name fr:ByteArray} {l6 l7 l8 l9 l10:Nat} (h:acx op name fr flag l6 l7 l8 l9 l10=true):l10≤1000:=by
 unfold acx at h;cases hs:shp op with
 | none=>rw [hs] at h; cases h
 | some t =>
  obtain ⟨nm,frm,lo,hi,bd,fl⟩:=t;rw [hs] at h;simp only [Bool.and_eq_true,aeC,decide_eq_true_eq] at h;have:=h.2.2.2;omega
theorem rS (k:Nat) : ∀ m,m≤k →
  (∀ s,2 * szS s≤m→∀ (n:Nat) (d:Int) (a:Nat),n≤600→a≤17→RRes ((abl k m).f142 (.mk n d false) s a) (gS false s a) n (szS s) false) ∧
  (∀ l,2 * szSs l + 1≤m→∀ (x:Int) (n:Nat) (d:Int) (q:Bool) (a:Nat),(q=false→x=(n:Int)∧n≤600)→a≤17→RRes ((abl k m).f118 (.mk x d q) l a) (gSs false l a) n (szSs l) q) ∧
  (∀ c,2 * szC c≤m→∀ (n:Nat) (d:Int) (a:Nat),n≤600→a≤17→RRes ((abl k m).f169 (.mk n d false) c a) (gC false c a) n (szC c) false)
 | 0,_=>⟨fun e he=>by have:=acl e; omega,fun l hl=>by omega,fun c hc=>by have:=adq c; omega⟩
 | m + 1,hmk=>by
  obtain ⟨ihs,ihl,ihc⟩:=rS k m (by omega);refine ⟨?_,?_,?_⟩
  ·intro s hs n d a hn ha;obtain ⟨op,name,s2,fr,s4,flag,l6,l7,l8,l9,l10⟩:=s;simp only [szS] at hs;show RRes (ajI k (abl k m) (.mk n d false) (.mk op name s2 fr s4 flag l6 l7 l8 l9 l10) a) _ _ _ _;rw [aqB,akW k n d false a hn];simp only [Option.bind_some,Bool.false_or];have cs:a≤16→l10.length≤1000→∀ (rest:List aaz) (i:Nat) (x:Int) (n:Nat) (d:Int) (q:Bool),2 * szCs rest≤m→i + rest.length=l10.length→(q=false→x=(n:Int)∧n≤600) →
     RRes (acS k (abl k m) l10 a rest i x d q) (gCs false rest (a + 1)) n (szCs rest) q:=by
    intro ha h10 rest;induction rest with
    | nil=>intro i x n d q _ _ hx; exact .done hx
    | cons c rest ih =>
     intro i x n d q hm hi hx;obtain ⟨e0,e1,e2,e3,e4⟩:=c;simp only [szCs,List.length_cons] at hm hi;unfold acS;cases q with
     | true=>exact .wrong rfl
     | false =>
      obtain ⟨rfl,hn⟩:=hx rfl;simp only [Bool.not_false,cond_true];rw [abk (x:=(a:Int) + 1) (n:=a + 1) (by omega) (by omega),abk (x:=(l10.length:Int) - 1) (n:=l10.length - 1) (by omega) (by omega)];refine ((ihc (.mk e0 e1 e2 e3 e4) (by omega) n d (a + 1) hn (by omega)).bind (g2:=(!(e0 == 4) || rest.isEmpty) && gCs false rest (a + 1)) (s2:=szCs rest) fun x1 d1 q1 h1=>?_).cast ?_ (by simp only [szCs])
      ·have hb:(cond (e0 != 4) ((f115 k (aap.mk x1 d1 q1) true).bind fun q_=>match q_ with | .mk z931_0 z931_1 z931_2=>(ael k (abl k m) i z931_0 z931_1 z931_2 (acS k (abl k m) l10 a rest))) ((f115 k (aap.mk x1 d1 q1) ((i:Int) == ((l10.length - 1:Nat):Int))).bind fun q_=>match q_ with | .mk z938_0 z938_1 z938_2=>(ael k (abl k m) i z938_0 z938_1 z938_2 (acS k (abl k m) l10 a rest)))) =
         acS k (abl k m) l10 a rest (i + 1) x1 d1 (q1 || !(!(e0 == 4) || rest.isEmpty)):=by
        have hl:((i:Int) == ((l10.length - 1:Nat):Int))=rest.isEmpty:=by
         cases rest with
         | nil=>simp at hi ⊢; omega
         | cons _ _=>simp at hi ⊢; omega
        simp only [adz,Option.bind_some,hl,bne];unfold ael;cases (e0 == 4) <;> cases rest.isEmpty <;> simp
       rw [hb];refine (ih (i + 1) x1 _ d1 _ (by omega) (by omega) (fun h=>h1 ?_)).check;simp at h; exact h.1
      ·simp only [gCs];cases (!(e0 == 4) || rest.isEmpty) <;> cases gC false (.mk e0 e1 e2 e3 e4) (a + 1) <;> rfl
   have fw : ∀ (x d:Int) (l:List aaf) (a:Int),(abl k m).f118 (.mk x d true) l a=some (.mk x d true):=by
    intro x d l a;cases m with
    | zero=>omega
    | succ m=>exact ajM _ _ _ _ _ _ _
   have w1 : ∀ (x d:Int) (rest:List aaz) (i:Nat),acS k (abl k m) l10 a rest i x d true=some (.mk x d true):=by
    intro x d rest i;cases rest with
    | nil=>rfl
    | cons c l=>obtain ⟨_,_,_,_,_⟩:=c; rfl
   have w2 : ∀ (x d:Int) (l:List aam) (i:Nat),abF k (abl k m) l7 l8 l9 l10 a l i x d true=some (.mk x d true):=by
    intro x d l i;cases l with
    | nil=>unfold abF aeU; simp only [fw,Option.bind_some,w1]
    | cons c l=>obtain ⟨_,_,_,_,_⟩:=c; unfold abF aeU; simp only [fw,Option.bind_some,w1,Bool.not_true,cond_false]
   have tail:a≤16→l10.length≤1000→∀ (x:Int) (n:Nat) (d:Int) (q:Bool),(q=false→x=(n:Int)∧n≤600) →
     RRes (aeU k (abl k m) l7 l8 l9 l10 a x d q) (gSs false l7 (a + 1) && (gSs false l8 (a + 1) && (gSs false l9 (a + 1) && gCs false l10 (a + 1)))) n (szSs l7 + (szSs l8 + (szSs l9 + szCs l10))) q:=by
    intro ha h10 x n d q hx;unfold aeU;rw [abk (x:=(a:Int) + 1) (n:=a + 1) (by omega) (by omega)];refine (ihl l7 (by omega) x n d q (a + 1) hx (by omega)).bind fun x d q hx=>?_
    refine (ihl l8 (by omega) x _ d q (a + 1) hx (by omega)).bind fun x d q hx=>?_
    refine (ihl l9 (by omega) x _ d q (a + 1) hx (by omega)).bind fun x d q hx=>?_
    exact cs ha h10 l10 0 x _ d q (by omega) (by omega) hx
   have loop:a≤16→l10.length≤1000→∀ (l:List aam) (i:Nat) (x:Int) (n:Nat) (d:Int) (q:Bool),szEs l≤m→(q=false→x=(n:Int)∧n≤600) →
     RRes (abF k (abl k m) l7 l8 l9 l10 a l i x d q) (gEs false l (a + 1) && (gSs false l7 (a + 1) && (gSs false l8 (a + 1) && (gSs false l9 (a + 1) && gCs false l10 (a + 1))))) n (szEs l + (szSs l7 + (szSs l8 + (szSs l9 + szCs l10)))) q:=by
    intro ha h10 l;induction l with
    | nil =>
     intro i x n d q _ hx;unfold abF;exact (tail ha h10 x n d q hx).cast (by simp [gEs]) (by simp [szEs])
    | cons e l ih =>
     intro i x n d q hm hx;cases q with
     | true=>rw [w2]; exact .wrong rfl
     | false =>
      obtain ⟨rfl,hn⟩:=hx rfl;obtain ⟨e0,e1,e2,e3,e4⟩:=e;unfold abF;simp only [szEs] at hm;simp only [Bool.not_false,cond_true];rw [abk (x:=(a:Int) + 1) (n:=a + 1) (by omega) (by omega)];refine ((ara k (.mk e0 e1 e2 e3 e4) (by omega) n d (a + 1) hn (by omega)).bind fun x1 d1 q1 h1=>ih (i + 1) x1 _ d1 q1 (by omega) h1).cast ?_ ?_
      ·simp only [gEs,Bool.and_assoc]
      ·simp only [szEs]; omega
   by_cases hq:(decide (n + 1≤600) && decide (a≤16))=true∧((s2 == 0 && s4 == 0) && acx op name fr flag l6.length l7.length l8.length l9.length l10.length)=true
   ·have ha' : a≤16:=by have:=hq.1; simp at this; exact this.2
    have h10:l10.length≤1000:=by
     have h:=hq.2;rw [Bool.and_eq_true] at h;exact arB h.2
    refine RRes.cast (RRes.node (a:=a) (loop ha' h10 l6 0 _ (n + 1) _ _ (by omega) ap2)) ?_ ?_
    ·simp only [gS,Bool.false_or,← Bool.and_assoc]
    ·simp only [szS]; omega
   ·have hq' : (!(decide (n + 1≤600) && decide (a≤16)) || !((s2 == 0 && s4 == 0) && acx op name fr flag l6.length l7.length l8.length l9.length l10.length))=true:=by
     rw [← Bool.not_and,Bool.not_eq_true']; rw [← Bool.and_eq_true] at hq; simpa using hq
    rw [hq',w2];refine .bad rfl ?_;simp only [gS,szS,Bool.false_or];by_cases h1:n + 1≤600
    ·by_cases h2:a≤16
     ·have:((s2 == 0 && s4 == 0) && acx op name fr flag l6.length l7.length l8.length l9.length l10.length)=false:=by
       cases h:((s2 == 0 && s4 == 0) && acx op name fr flag l6.length l7.length l8.length l9.length l10.length) with
       | false=>rfl
       | true=>exact absurd ⟨by simp [h1,h2],h⟩ hq
      rw [Bool.and_assoc (decide (a≤16)),this]; simp
     ·simp [h2]
    ·have : ¬ (n + (szEs l6 + szSs l7 + szSs l8 + szSs l9 + szCs l10 + 1)≤600):=by omega
     simp [this]
  ·intro l hl x n d q a hx ha;show RRes (aeh k (abl k m) a l 0 x d q) _ _ _ _;have loop : ∀ (l:List aaf) (i:Nat) (x:Int) (n:Nat) (d:Int) (q:Bool),2 * szSs l≤m→(q=false→x=(n:Int)∧n≤600)→RRes (aeh k (abl k m) a l i x d q) (gSs false l a) n (szSs l) q:=by
    intro l;induction l with
    | nil=>intro i x n d q _ hx; exact .done hx
    | cons e l ih =>
     intro i x n d q hm hx;obtain ⟨e0,e1,e2,e3,e4,e5,e6,e7,e8,e9,e10⟩:=e;unfold aeh;cases q with
     | true=>exact .wrong rfl
     | false =>
      obtain ⟨rfl,hn⟩:=hx rfl;simp only [szSs] at hm;simp only [Bool.not_false,cond_true];exact (ihs (.mk e0 e1 e2 e3 e4 e5 e6 e7 e8 e9 e10) (by omega) n d a hn ha).bind fun x1 d1 q1 h1=>ih (i + 1) x1 _ d1 q1 (by omega) h1
   exact loop l 0 x n d q (by omega) hx
  ·intro c hc n d a hn ha;obtain ⟨kind,name,slot,es,b⟩:=c;simp only [szC] at hc;show RRes (ajQ k (abl k m) (.mk n d false) (.mk kind name slot es b) a) _ _ _ _;rw [art,akW k n d false a hn];simp only [Option.bind_some,Bool.false_or];have loop:a≤16→∀ (l:List aam) (i:Nat) (x:Int) (n:Nat) (d:Int) (q:Bool),szEs l≤m→(q=false→x=(n:Int)∧n≤600)→RRes (acR k (abl k m) b a l i x d q) (gEs false l (a + 1) && gSs false b (a + 1)) n (szEs l + szSs b) q:=by
    intro ha l;induction l with
    | nil =>
     intro i x n d q _ hx;unfold acR aeK;rw [abk (x:=(a:Int) + 1) (n:=a + 1) (by omega) (by omega)];refine ((ihl b (by omega) x n d q (a + 1) hx (by omega)).bind (g2:=true) (s2:=0) fun x1 d1 q1 h1=>.done h1).cast ?_ ?_
     ·simp [gEs]
     ·simp [szEs]
    | cons e l ih =>
     intro i x n d q hm hx;obtain ⟨e0,e1,e2,e3,e4⟩:=e;unfold acR;simp only [szEs] at hm;cases q with
     | true =>
      unfold aeK;simp only [Bool.not_true,cond_false];obtain ⟨x1,d1,q1,h1,h2,h3⟩:=ihl b (by omega) x n d true ((a + 1)) hx (by omega);rw [abk (x:=(a:Int) + 1) (n:=a + 1) (by omega) (by omega),h1];simp at h2; subst h2
      exact .wrong rfl
     | false =>
      obtain ⟨rfl,hn⟩:=hx rfl;simp only [Bool.not_false,cond_true];rw [abk (x:=(a:Int) + 1) (n:=a + 1) (by omega) (by omega)];refine ((ara k (.mk e0 e1 e2 e3 e4) (by omega) n d (a + 1) hn (by omega)).bind fun x1 d1 q1 h1=>ih (i + 1) x1 _ d1 q1 (by omega) h1).cast ?_ ?_
      ·simp only [gEs,Bool.and_assoc]
      ·simp only [szEs]; omega
   have fw : ∀ (x d:Int) (l:List aaf) (a:Int),(abl k m).f118 (.mk x d true) l a=some (.mk x d true):=by
    intro x d l a;cases m with
    | zero=>omega
    | succ m=>exact ajM _ _ _ _ _ _ _
   have w2 : ∀ (x d:Int) (l:List aam) (i:Nat),acR k (abl k m) b a l i x d true=some (.mk x d true):=by
    intro x d l i;cases l with
    | nil=>unfold acR aeK; simp only [fw,Option.bind_some]
    | cons c l=>obtain ⟨_,_,_,_,_⟩:=c; unfold acR aeK; simp only [fw,Option.bind_some,Bool.not_true,cond_false]
   by_cases ha' : a≤16
   ·refine RRes.cast (RRes.node (a:=a) (loop ha' es 0 _ (n + 1) _ _ (by omega) ap2)) ?_ ?_
    ·simp only [gC,Bool.false_or,← Bool.and_assoc]
    ·simp only [szC]
   ·have hq' : (!(decide (n + 1≤600) && decide (a≤16)) || !((slot == 0) && ai1 kind name es.length))=true:=by simp [ha']
    rw [hq',w2];exact .bad rfl (by simp [gC,ha'])
def okP:List aaL→Bool
 | []=>true
 | .mk nm kd :: l=>isN nm && decide (kd ≥ 1) && decide (kd≤6) && okP l
def aij (z:Bool) (name:ByteArray) (np:Nat) (res:Int) (f3:Bool) (s4:Int):Bool :=
 isN name && decide (np≤4) && (z || s4 == 0) && (!f3 || res == 0) && decide (res ≥ 0) && decide (res≤6)
def gFs (z:Bool):List aac→Bool
 | []=>true
 | .mk name ps res f3 s4 b :: l=>aij z name ps.length res f3 s4 && (okP ps && (gSs z b 1 && gFs z l))
def cnF:aac→Nat | .mk _ _ _ _ _ b=>szSs b + 1
def cnFs:List aac→Nat | []=>0 | f :: l=>cnF f + cnFs l
def wf (z:Bool):aaa→Bool
 | .mk fs=>decide (1≤fs.length) && decide (fs.length≤16) && gFs z fs && decide (cnFs fs≤600)
section
variable (k i:Nat) (body:List aaf) (n d:Int) (z q:Bool) (nx:Nat→Int→Int→Bool→Option (aae × Bool))
theorem ajB : ∀ (ps:List aaL) (j:Nat),acA k i body n d z nx ps j=cond (okP ps) (acA k i body n d z nx [] 0) (some (.mk n d z,false))
 | [],j=>rfl
 | .mk nm kd :: ps,j=>by
  have ih:=ajB ps;generalize acA k i body n d z nx [] 0=A at ih ⊢;rw [acA];simp only [al7,ajG,Option.bind_some,aii,ih,okP];cases isN nm <;> cases decide (kd ≥ 1) <;> cases decide (kd≤6) <;> rfl
theorem aps (ps:List aaL):acF k i ps body n d z q nx=cond (!q && okP ps) (acA k i body n d z nx [] 0) (some (.mk n d z,false)):=by
 unfold acF;rw [ajB];cases q <;> rfl
end
theorem atJ (k:Nat) (z:Bool) (l:List aaf) (hk:2 * szSs l + 1≤k) (n:Nat) (d:Int) (a:Nat) (hn:n≤600) (ha:a≤17):NRes (f156 k (.mk n d z) l a) (gSs z l a) n (szSs l) z :=
 (nSt k z k (Nat.le_refl k)).2.1 l hk n d a hn ha
theorem asC (k:Nat) (l:List aaf) (hk:2 * szSs l + 1≤k) (x:Int) (n:Nat) (d:Int) (q:Bool) (a:Nat) (hx:q=false→x=(n:Int)∧n≤600) (ha:a≤17):RRes (f118 k (.mk x d q) l a) (gSs false l a) n (szSs l) q :=
 (rS k k (Nat.le_refl k)).2.1 l hk x n d q a hx ha
theorem apg (k:Nat) (name:ByteArray) (ps:List aaL) (res:Int) (f3:Bool) (s4:Int) (b:List aaf) (l:List aac) (i:Nat) (n d:Int) (z:Bool) :
  abu k (.mk name ps res f3 s4 b :: l) i n d z=(f76 k (.mk n d z) 0).bind fun x=>match x with
   | (.mk n1 d1 z1,ok)=>cond (ok && aij z1 name ps.length res f3 s4 && okP ps) (acA k i b n1 d1 z1 (abu k l) [] 0) (some (.mk n1 d1 z1,false)):=by
 rw [abu];congr 1;funext x;obtain ⟨⟨n1,d1,z1⟩,ok⟩:=x;simp only [al7,ajG,Option.bind_some,aps,aij];have e:decide ((ps.length:Int) > 4)=!decide (ps.length≤4):=by rw [← decide_not,decide_eq_decide]; omega
 rw [e];simp only [Bool.cond_eq_ite];grind (splits:=20)
theorem nFs (k:Nat) (z:Bool) : ∀ (l:List aac) (i:Nat) (n:Nat) (d:Int),2 * szFs l + 1≤k→n≤600→NRes (abu k l i n d z) (gFs z l) n (cnFs l) z
 | [],i,n,d,hk,hn=>.yes rfl (by simp [gFs,cnFs,hn])
 | .mk name ps res f3 s4 b :: l,i,n,d,hk,hn=>by
  simp only [szFs,szF] at hk;rw [apg];have e0:((0:Nat):Int)=0:=rfl;rw [← e0,aoj k n d z 0 hn,e0];simp only [Option.bind_some,Nat.zero_le,decide_true,Bool.and_true];by_cases h1:n + 1≤600
  ·by_cases h2:(aij z name ps.length res f3 s4 && okP ps)=true
   ·rw [Bool.and_assoc,h2];simp only [h1,decide_true,Bool.and_self,cond_true];rw [acA];refine ((atJ k z b (by omega) (n + 1) (imax d 0) 1 h1 (by omega)).bind (f:=fun q_=>match q_ with | (.mk z10628_0 z10628_1 z10628_2,r10629)=>(cond (!r10629) (some ((aae.mk z10628_0 z10628_1 z10628_2),false)) (abu k l (i + 1) z10628_0 z10628_1 z10628_2)))
     (fun c=>by obtain ⟨_,_,_⟩:=c; exact ⟨_,rfl⟩) fun d hn=>nFs k z l (i + 1) _ d (by omega) hn).conv (by simp only [cnFs,cnF]; omega) (fun _=>?_)
    rw [Bool.and_eq_true] at h2;simp only [gFs,h2.1,h2.2,Bool.true_and]
   ·have h2' : (aij z name ps.length res f3 s4 && okP ps)=false:=by simpa using h2
    rw [Bool.and_assoc,h2',Bool.and_false];refine .no rfl ?_;rw [gFs,← Bool.and_assoc,h2'];simp
  ·simp only [h1,decide_false,Bool.false_and,cond_false];refine .no rfl ?_;have : ¬ (n + (szSs b + 1 + cnFs l)≤600):=by omega
   simp [cnFs,cnF,this]
theorem auE (k:Nat) (p:aaa) (z:Bool) (hk:2 * szP p + 1≤k):f99 k p z=some (wf z p):=by
 obtain ⟨fs⟩:=p;simp only [szP] at hk;unfold f99 atf f128 aoo;simp only [ajG,Option.bind_some];have e1:(decide ((fs.length:Int) ≥ 1) && decide ((fs.length:Int)≤16))=(decide (1≤fs.length) && decide (fs.length≤16)):=by
  congr 1
  ·rw [decide_eq_decide]; omega
  ·rw [decide_eq_decide]; omega
 rw [e1];by_cases h:(decide (1≤fs.length) && decide (fs.length≤16))=true
 ·rw [h];simp only [Bool.not_true,cond_false];obtain ⟨c,h1,h2⟩:=nFs k z fs 0 0 0 (by omega) (by omega);have e0:((0:Nat):Int)=0:=rfl;rw [e0] at h1;rw [h1];obtain ⟨_,_,_⟩:=c;simp only [Option.bind_some,wf,h,Nat.zero_add,Bool.true_and]
 ·have h' : (decide (1≤fs.length) && decide (fs.length≤16))=false:=by simpa using h
  rw [h'];simp only [Bool.not_false,cond_true,Option.bind_some,wf,h',Bool.false_and]
section
variable (k i:Nat) (body:List aaf) (d:Int) (nx:Nat→Int→Int→Bool→Option aap)
theorem amP : ∀ (ps:List aaL) (j:Nat) (x d:Int) (q:Bool),ae2 k i body nx ps j x d q=af9 k i body x d (q || !okP ps) nx
 | [],j,x,d,q=>by simp [ae2,okP]
 | .mk nm kd :: ps,j,x,d,q=>by
  unfold ae2;simp only [ajf,adz,Option.bind_some,ajR,amP ps,okP];cases q <;> cases isN nm <;> cases decide (kd ≥ 1) <;> cases decide (kd≤6) <;> rfl
end
theorem arL (k:Nat) (name:ByteArray) (ps:List aaL) (res:Int) (f3:Bool) (s4:Int) (b:List aaf) (l:List aac) (i:Nat) (n d:Int) :
  abX k (.mk name ps res f3 s4 b :: l) i n d false=(f114 k (.mk n d false) 0).bind fun x=>match x with
   | .mk n1 d1 q1=>af9 k i b n1 d1 (q1 || !(aij false name ps.length res f3 s4 && okP ps)) (abX k l):=by
 rw [abX];simp only [Bool.not_false,cond_true];congr 1;funext x;obtain ⟨n1,d1,q1⟩:=x;simp only [ajf,adz,Option.bind_some,afx,amP,aij];have e:decide ((ps.length:Int)≤4)=decide (ps.length≤4):=by rw [decide_eq_decide]; omega
 rw [e];have hQ : ∃ A B,(fun q=>af9 k i b n1 d1 q (abX k l))=fun b=>if b=true then A else B:=bfun _
 obtain ⟨A,B,hQ⟩:=hQ;have hQ' : ∀ q,af9 k i b n1 d1 q (abX k l)=if q=true then A else B:=fun q=>congrFun hQ q
 simp only [hQ'];generalize decide (ps.length≤4)=b2;generalize isN name=b1;generalize okP ps=b3;generalize (s4 == 0)=b4;generalize (res == 0)=b5;simp only [Bool.cond_eq_ite];grind (splits:=20)
theorem rFs (k:Nat) : ∀ (l:List aac) (i:Nat) (x:Int) (n:Nat) (d:Int) (q:Bool),2 * szFs l + 1≤k→(q=false→x=(n:Int)∧n≤600)→RRes (abX k l i x d q) (gFs false l) n (cnFs l) q
 | [],i,x,n,d,q,hk,hx=>.done hx
 | .mk name ps res f3 s4 b :: l,i,x,n,d,q,hk,hx=>by
  simp only [szFs,szF] at hk;cases q with
  | true=>exact .wrong rfl
  | false =>
   obtain ⟨rfl,hn⟩:=hx rfl;rw [arL];have e0:((0:Nat):Int)=0:=rfl;rw [← e0,akW k n d false 0 hn,e0];simp only [Option.bind_some,Bool.false_or];unfold af9;refine RRes.cast (RRes.node (a:=0) (b:=aij false name ps.length res f3 s4 && okP ps) (g:=gSs false b 1 && gFs false l) (s:=szSs b + cnFs l) ?_) ?_ ?_
   ·exact (asC k b (by omega) _ (n + 1) _ _ 1 (fun h=>by simp at h; exact ⟨rfl,by omega⟩) (by omega)).bind fun x d q hx=>rFs k l (i + 1) x _ d q (by omega) hx
   ·simp only [gFs,Nat.zero_le,decide_true,Bool.true_and,Bool.and_assoc]
   ·simp only [cnFs,cnF]; omega
theorem auH (k:Nat) (p:aaa) (hk:2 * szP p + 1≤k):f59 k p=some (wf false p):=by
 obtain ⟨fs⟩:=p;simp only [szP] at hk;unfold f59 atd f85 asF;simp only [adz,Option.bind_some,ama];have e:(cond (decide ((fs.length:Int) ≥ 1)) (abX k fs 0 0 0 (false || !decide ((fs.length:Int)≤16))) (abX k fs 0 0 0 (false || !false)))=abX k fs 0 0 0 (!(decide (1≤fs.length) && decide (fs.length≤16))):=by
  have e1:decide ((fs.length:Int) ≥ 1)=decide (1≤fs.length):=by rw [decide_eq_decide]; omega
  have e2:decide ((fs.length:Int)≤16)=decide (fs.length≤16):=by rw [decide_eq_decide]; omega
  rw [e1,e2];cases decide (1≤fs.length) <;> rfl
 rw [e];have e0:((0:Nat):Int)=0:=rfl;obtain ⟨x,d,q',h1,h2,h3⟩:=rFs k fs 0 0 0 0 (!(decide (1≤fs.length) && decide (fs.length≤16))) (by omega) (fun _=>⟨rfl,by omega⟩);rw [h1];simp only [Option.bind_some,wf,h2,Nat.zero_add];cases decide (1≤fs.length) <;> cases decide (fs.length≤16) <;> cases gFs false fs <;> cases decide (cnFs fs≤600) <;> rfl
mutual
def stS:aaf→aaf | .mk op name _ fr _ flag l6 l7 l8 l9 l10=>.mk op name 0 fr 0 flag (stEs l6) (stSs l7) (stSs l8) (stSs l9) (stCs l10)
def stSs:List aaf→List aaf | []=>[] | s :: l=>stS s :: stSs l
def stC:aaz→aaz | .mk kind name _ es b=>.mk kind name 0 (stEs es) (stSs b)
def stCs:List aaz→List aaz | []=>[] | c :: l=>stC c :: stCs l
end
def stF:aac→aac | .mk name ps res f3 _ b=>.mk name ps res f3 0 (stSs b)
def stFs:List aac→List aac | []=>[] | f :: l=>stF f :: stFs l
def stP:aaa→aaa | .mk fs=>.mk (stFs fs)
theorem an4 : ∀ l,(stSs l).length=l.length
 | []=>rfl
 | e :: l=>by simp [stSs,an4 l]
theorem aoZ : ∀ l,(stCs l).length=l.length
 | []=>rfl
 | e :: l=>by simp [stCs,aoZ l]
theorem aoL : ∀ l,(stFs l).length=l.length
 | []=>rfl
 | e :: l=>by simp [stFs,aoL l]
mutual
theorem ayd : ∀ e,szS (stS e)=szS e
 | .mk _ _ _ _ _ _ _ l7 l8 l9 l10=>by simp only [stS,szS,akb,aeS l7,aeS l8,aeS l9,arw l10]
theorem aeS : ∀ l,szSs (stSs l)=szSs l
 | []=>rfl
 | e :: l=>by simp only [stSs,szSs,ayd e,aeS l]
theorem ayf : ∀ e,szC (stC e)=szC e
 | .mk _ _ _ _ b=>by simp only [stC,szC,akb,aeS b]
theorem arw : ∀ l,szCs (stCs l)=szCs l
 | []=>rfl
 | e :: l=>by simp only [stCs,szCs,ayf e,arw l]
end
mutual
theorem az3 : ∀ e a,gS false (stS e) a=gS true e a
 | .mk _ _ _ _ _ _ _ l7 l8 l9 l10,a=>by simp [stS,gS,an1,ajy l7,ajy l8,ajy l9,auO l10,ahF,an4,aoZ]
theorem ajy : ∀ l a,gSs false (stSs l) a=gSs true l a
 | [],_=>rfl
 | e :: l,a=>by simp only [stSs,gSs,az3 e,ajy l]
theorem azW : ∀ e a,gC false (stC e) a=gC true e a
 | .mk _ _ _ _ b,a=>by simp [stC,gC,an1,ajy b,ahF]
theorem auO : ∀ l a,gCs false (stCs l) a=gCs true l a
 | [],_=>rfl
 | .mk k nm s es b :: l,a=>by
  have h:=azW (.mk k nm s es b) a;simp only [stC] at h;have e:(stCs l).isEmpty=l.isEmpty:=by cases l <;> rfl
  simp only [stCs,stC,gCs,h,auO l,e]
end
theorem ap1 : ∀ l,szFs (stFs l)=szFs l
 | []=>rfl
 | .mk _ _ _ _ _ b :: l=>by simp only [stFs,stF,szFs,szF,aeS,ap1 l]
theorem aqD : ∀ l,cnFs (stFs l)=cnFs l
 | []=>rfl
 | .mk _ _ _ _ _ b :: l=>by simp only [stFs,stF,cnFs,cnF,aeS,aqD l]
theorem auN : ∀ l,gFs false (stFs l)=gFs true l
 | []=>rfl
 | .mk _ _ _ _ _ b :: l=>by simp [stFs,stF,gFs,ajy,auN l,aij]
theorem aq9 : ∀ p,szP (stP p)=szP p
 | .mk fs=>by simp only [stP,szP,ap1]
theorem azZ : ∀ p,wf false (stP p)=wf true p
 | .mk fs=>by simp only [stP,wf,auN,aoL,aqD]
def maxB:Nat:=140737488355328
mutual
def fitE:aam→Prop | .mk _ _ _ _ l=>l.length * 64≤maxB∧afK l
def afK:List aam→Prop | []=>True | e :: l=>fitE e∧afK l
end
mutual
def fitS:aaf→Prop | .mk _ _ _ _ _ _ l6 l7 l8 l9 l10=>(l6.length * 64≤maxB∧afK l6)∧(l7.length * 184≤maxB∧aeG l7)∧(l8.length * 184≤maxB∧aeG l8)∧(l9.length * 184≤maxB∧aeG l9)∧(l10.length * 80≤maxB∧akJ l10)
def aeG:List aaf→Prop | []=>True | e :: l=>fitS e∧aeG l
def fitC:aaz→Prop | .mk _ _ _ l b=>(l.length * 64≤maxB∧afK l)∧(b.length * 184≤maxB∧aeG b)
def akJ:List aaz→Prop | []=>True | e :: l=>fitC e∧akJ l
end
def fitF:aac→Prop | .mk _ ps _ _ _ b=>ps.length * 24≤maxB∧(b.length * 184≤maxB∧aeG b)
def aj9:List aac→Prop | []=>True | e :: l=>fitF e∧aj9 l
def fitP:aaa→Prop | .mk fs=>fs.length * 88≤maxB∧aj9 fs
theorem aaQ {α:Type} {a:Nat} {x:Option α} (h:a≤maxB):aaP (decide (a≤140737488355328)) x=x:=by
 unfold maxB at h; unfold aaP; rw [decide_eq_true h]; rfl
theorem abi {α:Type} (xs:List α) (e:α):(xs ++ [e]).length=xs.length + 1:=by simp
theorem anq (k:Nat) : ∀ m l,szEs l + 1≤m→l.length * 64≤maxB→afK l→(aih k m).f121 l=some l
 | 0,l,h,_,_=>by omega
 | m + 1,l,h,hl,hf=>by
  show aey k (aih k m) l 0 []=some l;have loop : ∀ (l:List aam) (i:Nat) (xs:List aam),szEs l≤m→(xs.length + l.length) * 64≤maxB→afK l→aey k (aih k m) l i xs=some (xs ++ l):=by
   intro l;induction l with
   | nil=>intro i xs _ _ _; simp [aey]
   | cons e l ih =>
    intro i xs hm hl hf;obtain ⟨e0,e1,e2,e3,e4⟩:=e;simp only [szEs,szE,afK,fitE,List.length_cons] at hm hl hf;unfold aey;rw [anq k m e4 (by omega) hf.1.1 hf.1.2];simp only [Option.bind_some];rw [aaQ (by omega),ih (i + 1) _ (by omega) (by rw [abi]; omega) hf.2];simp
  exact loop l 0 [] (by omega) (by simpa using hl) hf
theorem ar8 (k:Nat) : ∀ m l,szEs l + 1≤m→l.length * 64≤maxB→afK l→(am5 k m).f90 l=some (stEs l)
 | 0,l,h,_,_=>by omega
 | m + 1,l,h,hl,hf=>by
  show af4 k (am5 k m) l 0 []=some (stEs l);have loop : ∀ (l:List aam) (i:Nat) (xs:List aam),szEs l≤m→(xs.length + l.length) * 64≤maxB→afK l→af4 k (am5 k m) l i xs=some (xs ++ stEs l):=by
   intro l;induction l with
   | nil=>intro i xs _ _ _; simp [af4,stEs]
   | cons e l ih =>
    intro i xs hm hl hf;obtain ⟨e0,e1,e2,e3,e4⟩:=e;simp only [szEs,szE,afK,fitE,List.length_cons] at hm hl hf;unfold af4;rw [ar8 k m e4 (by omega) hf.1.1 hf.1.2];simp only [Option.bind_some];rw [aaQ (by omega),ih (i + 1) _ (by omega) (by rw [abi]; omega) hf.2];simp [stEs,stE]
  exact loop l 0 [] (by omega) (by simpa using hl) hf
theorem cE (k:Nat) : ∀ m,(∀ e,2 * szE e≤m→fitE e→(abq k m).f1017823 e=some (stE e)) ∧
  (∀ l,2 * szEs l + 1≤m→l.length * 64≤maxB→afK l→(abq k m).f1015923 l=some (stEs l))
 | 0=>⟨fun e h=>by have:=aeg e; omega,fun l h=>by omega⟩
 | m + 1=>by
  obtain ⟨ihe,ihl⟩:=cE k m;constructor
  ·intro e h hf;obtain ⟨e0,e1,e2,e3,e4⟩:=e;simp only [szE,fitE] at h hf;show adY k (abq k m) (.mk e0 e1 e2 e3 e4)=_;unfold adY;simp only;rw [ihl e4 (by omega) hf.1 hf.2];simp [f157,aoc,stE]
  ·intro l h hl hf;show abE k (abq k m) l 0 []=_;have loop : ∀ (l:List aam) (i:Nat) (xs:List aam),2 * szEs l≤m→(xs.length + l.length) * 64≤maxB→afK l→abE k (abq k m) l i xs=some (xs ++ stEs l):=by
    intro l;induction l with
    | nil=>intro i xs _ _ _; simp [abE,stEs]
    | cons e l ih =>
     intro i xs hm hl hf;obtain ⟨e0,e1,e2,e3,e4⟩:=e;simp only [szEs,afK,List.length_cons] at hm hl hf;unfold abE;rw [ihe (.mk e0 e1 e2 e3 e4) (by omega) hf.1];simp only [Option.bind_some,stE];rw [aaQ (by omega),ih (i + 1) _ (by omega) (by rw [abi]; omega) hf.2];simp [stEs,stE]
   exact loop l 0 [] (by omega) (by simpa using hl) hf
theorem amb (k:Nat) : ∀ m l,szSs l + 1≤m→szSs l + 1≤k→l.length * 184≤maxB→aeG l→(amc k m).f89 l=some l
 | 0,l,h,_,_,_=>by omega
 | m + 1,l,h,hk,hl,hf=>by
  show afy k (amc k m) l 0 []=some l;have cs : ∀ (xs:List aaf) (i:Nat) (e0:Int) (e1:ByteArray) (e2:Int) (e3:ByteArray) (e4 e5:Int) (r6:List aam) (r7 r8 r9:List aaf) (nx:Nat→List aaf→Option (List aaf)) (l:List aaz) (j:Nat) (ys:List aaz),szCs l≤m→szCs l≤k →
    (ys.length + l.length) * 80≤maxB→(xs.length + 1) * 184≤maxB→akJ l→ahf k (amc k m) xs i e0 e1 e2 e3 e4 e5 r6 r7 r8 r9 nx l j ys=nx (i + 1) (xs ++ [.mk e0 e1 e2 e3 e4 e5 r6 r7 r8 r9 (ys ++ l)]):=by
   intro xs i e0 e1 e2 e3 e4 e5 r6 r7 r8 r9 nx l;induction l with
   | nil=>intro j ys _ _ _ hx _; unfold ahf; rw [aaQ hx]; simp
   | cons c l ih =>
    intro j ys hm hk hl hx hf;obtain ⟨c0,c1,c2,c3,c4⟩:=c;simp only [szCs,szC,akJ,fitC,List.length_cons] at hm hl hf hk;unfold ahf f121;rw [anq k k c3 (by omega) hf.1.1.1 hf.1.1.2];simp only [Option.bind_some];rw [amb k m c4 (by omega) (by omega) hf.1.2.1 hf.1.2.2];simp only [Option.bind_some];rw [aaQ (by omega),ih (j + 1) _ (by omega) (by omega) (by rw [abi]; omega) hx hf.2];simp
  have loop : ∀ (l:List aaf) (i:Nat) (xs:List aaf),szSs l≤m→szSs l≤k→(xs.length + l.length) * 184≤maxB→aeG l→afy k (amc k m) l i xs=some (xs ++ l):=by
   intro l;induction l with
   | nil=>intro i xs _ _ _ _; simp [afy]
   | cons e l ih =>
    intro i xs hm hk hl hf;obtain ⟨e0,e1,e2,e3,e4,e5,e6,e7,e8,e9,e10⟩:=e;simp only [szSs,szS,aeG,fitS,List.length_cons] at hm hl hf hk;obtain ⟨⟨⟨h6,h6'⟩,⟨h7,h7'⟩,⟨h8,h8'⟩,⟨h9,h9'⟩,h10,h10'⟩,hf⟩:=hf;unfold afy f121;rw [anq k k e6 (by omega) h6 h6',amb k m e7 (by omega) (by omega) h7 h7',amb k m e8 (by omega) (by omega) h8 h8',amb k m e9 (by omega) (by omega) h9 h9'];simp only [Option.bind_some];rw [cs xs i e0 e1 e2 e3 e4 e5 e6 e7 e8 e9 _ e10 0 [] (by omega) (by omega) (by simpa using h10) (by omega) h10',ih (i + 1) _ (by omega) (by omega) (by rw [abi]; omega) hf];simp
  exact loop l 0 [] (by omega) (by omega) (by simpa using hl) hf
theorem amp (k:Nat) : ∀ m l,szSs l + 1≤m→szSs l + 1≤k→l.length * 184≤maxB→aeG l→(alR k m).f63 l=some (stSs l)
 | 0,l,h,_,_,_=>by omega
 | m + 1,l,h,hk,hl,hf=>by
  show afB k (alR k m) l 0 []=some (stSs l);have cs : ∀ (xs:List aaf) (i:Nat) (e0:Int) (e1:ByteArray) (e3:ByteArray) (e5:Int) (r6:List aam) (r7 r8 r9:List aaf) (nx:Nat→List aaf→Option (List aaf)) (l:List aaz) (j:Nat) (ys:List aaz),szCs l≤m→szCs l≤k →
    (ys.length + l.length) * 80≤maxB→(xs.length + 1) * 184≤maxB→akJ l→ahg k (alR k m) xs i e0 e1 e3 e5 r6 r7 r8 r9 nx l j ys=nx (i + 1) (xs ++ [.mk e0 e1 0 e3 0 e5 r6 r7 r8 r9 (ys ++ stCs l)]):=by
   intro xs i e0 e1 e3 e5 r6 r7 r8 r9 nx l;induction l with
   | nil=>intro j ys _ _ _ hx _; unfold ahg; rw [aaQ hx]; simp [stCs]
   | cons c l ih =>
    intro j ys hm hk hl hx hf;obtain ⟨c0,c1,c2,c3,c4⟩:=c;simp only [szCs,szC,akJ,fitC,List.length_cons] at hm hl hf hk;unfold ahg f90;rw [ar8 k k c3 (by omega) hf.1.1.1 hf.1.1.2];simp only [Option.bind_some];rw [amp k m c4 (by omega) (by omega) hf.1.2.1 hf.1.2.2];simp only [Option.bind_some];rw [aaQ (by omega),ih (j + 1) _ (by omega) (by omega) (by rw [abi]; omega) hx hf.2];simp [stCs,stC]
  have loop : ∀ (l:List aaf) (i:Nat) (xs:List aaf),szSs l≤m→szSs l≤k→(xs.length + l.length) * 184≤maxB→aeG l→afB k (alR k m) l i xs=some (xs ++ stSs l):=by
   intro l;induction l with
   | nil=>intro i xs _ _ _ _; simp [afB,stSs]
   | cons e l ih =>
    intro i xs hm hk hl hf;obtain ⟨e0,e1,e2,e3,e4,e5,e6,e7,e8,e9,e10⟩:=e;simp only [szSs,szS,aeG,fitS,List.length_cons] at hm hl hf hk;obtain ⟨⟨⟨h6,h6'⟩,⟨h7,h7'⟩,⟨h8,h8'⟩,⟨h9,h9'⟩,h10,h10'⟩,hf⟩:=hf;unfold afB f90;rw [ar8 k k e6 (by omega) h6 h6',amp k m e7 (by omega) (by omega) h7 h7',amp k m e8 (by omega) (by omega) h8 h8',amp k m e9 (by omega) (by omega) h9 h9'];simp only [Option.bind_some];rw [cs xs i e0 e1 e3 e5 _ _ _ _ _ e10 0 [] (by omega) (by omega) (by simpa using h10) (by omega) h10',ih (i + 1) _ (by omega) (by omega) (by rw [abi]; omega) hf];simp [stSs,stS]
  exact loop l 0 [] (by omega) (by omega) (by simpa using hl) hf
theorem aiK (k:Nat) : ∀ m l,szSs l + 1≤m→2 * szSs l + 1≤k→l.length * 184≤maxB→aeG l→(ahn k m).f130 l false=some (stSs l)
 | 0,l,h,_,_,_=>by omega
 | m + 1,l,h,hk,hl,hf=>by
  show acU k (ahn k m) false l 0 []=some (stSs l);have cs : ∀ (xs:List aaf) (i:Nat) (e0:Int) (e1:ByteArray) (e3:ByteArray) (e5 n1 n2:Int) (r6:List aam) (r7 r8 r9:List aaf) (nx:Nat→List aaf→Option (List aaf)) (l:List aaz) (j:Nat) (ys:List aaz),szCs l≤m→2 * szCs l≤k →
    (ys.length + l.length) * 80≤maxB→(xs.length + 1) * 184≤maxB→akJ l→adN k (ahn k m) false xs i e0 e1 e3 e5 n1 n2 r6 r7 r8 r9 nx l j ys=nx (i + 1) (xs ++ [.mk e0 e1 n1 e3 n2 e5 r6 r7 r8 r9 (ys ++ stCs l)]):=by
   intro xs i e0 e1 e3 e5 n1 n2 r6 r7 r8 r9 nx l;induction l with
   | nil=>intro j ys _ _ _ hx _; unfold adN; rw [aaQ hx]; simp [stCs]
   | cons c l ih =>
    intro j ys hm hk hl hx hf;obtain ⟨c0,c1,c2,c3,c4⟩:=c;simp only [szCs,szC,akJ,fitC,List.length_cons] at hm hl hf hk;unfold adN aje f1015923;rw [(cE k k).2 c3 (by omega) hf.1.1.1 hf.1.1.2];simp only [Bool.not_false,cond_true,Option.bind_some];rw [aiK k m c4 (by omega) (by omega) hf.1.2.1 hf.1.2.2];simp only [Option.bind_some];rw [aaQ (by omega),ih (j + 1) _ (by omega) (by omega) (by rw [abi]; omega) hx hf.2];simp [stCs,stC]
  have loop : ∀ (l:List aaf) (i:Nat) (xs:List aaf),szSs l≤m→2 * szSs l≤k→(xs.length + l.length) * 184≤maxB→aeG l→acU k (ahn k m) false l i xs=some (xs ++ stSs l):=by
   intro l;induction l with
   | nil=>intro i xs _ _ _ _; simp [acU,stSs]
   | cons e l ih =>
    intro i xs hm hk hl hf;obtain ⟨e0,e1,e2,e3,e4,e5,e6,e7,e8,e9,e10⟩:=e;simp only [szSs,szS,aeG,fitS,List.length_cons] at hm hl hf hk;obtain ⟨⟨⟨h6,h6'⟩,⟨h7,h7'⟩,⟨h8,h8'⟩,⟨h9,h9'⟩,h10,h10'⟩,hf⟩:=hf;unfold acU aiX f1015923;rw [(cE k k).2 e6 (by omega) h6 h6',aiK k m e7 (by omega) (by omega) h7 h7',aiK k m e8 (by omega) (by omega) h8 h8',aiK k m e9 (by omega) (by omega) h9 h9'];simp only [Bool.not_false,cond_true,Option.bind_some];rw [cs xs i e0 e1 e3 e5 _ _ _ _ _ _ _ e10 0 [] (by omega) (by omega) (by simpa using h10) (by omega) h10',ih (i + 1) _ (by omega) (by omega) (by rw [abi]; omega) hf];simp [stSs,stS]
  exact loop l 0 [] (by omega) (by omega) (by simpa using hl) hf
theorem avK (k:Nat) (p:aaa) (hk:2 * szP p + 1≤k) (hf:fitP p):f100 k p false=some (stP p):=by
 obtain ⟨fs⟩:=p;simp only [szP,fitP] at hk hf;show adp k false fs 0 []=some (.mk (stFs fs));have loop : ∀ (l:List aac) (i:Nat) (xs:List aac),2 * szFs l + 1≤k→(xs.length + l.length) * 88≤maxB→aj9 l→adp k false l i xs=some (.mk (xs ++ stFs l)):=by
  intro l;induction l with
  | nil=>intro i xs _ _ _; simp [adp,stFs]
  | cons e l ih =>
   intro i xs hk hl hf;obtain ⟨e0,e1,e2,e3,e4,e5⟩:=e;simp only [szFs,szF,aj9,fitF,List.length_cons] at hk hl hf;unfold adp ajb f129 f130;rw [aaQ hf.1.1,aiK k k e5 (by omega) (by omega) hf.1.2.1 hf.1.2.2];simp only [Bool.not_false,cond_true,Option.bind_some];rw [aaQ (by omega),ih (i + 1) _ (by omega) (by rw [abi]; omega) hf.2];simp [stFs,stF]
 exact loop fs 0 [] (by omega) (by simpa using hf.1) hf.2
theorem axk (k:Nat) (p:aaa) (hk:2 * szP p + 1≤k) (hf:fitP p):f62 k p=some p:=by
 obtain ⟨fs⟩:=p;simp only [szP,fitP] at hk hf;show af7 k fs 0 []=some (.mk fs);have loop : ∀ (l:List aac) (i:Nat) (xs:List aac),2 * szFs l + 1≤k→(xs.length + l.length) * 88≤maxB→aj9 l→af7 k l i xs=some (.mk (xs ++ l)):=by
  intro l;induction l with
  | nil=>intro i xs _ _ _; simp [af7]
  | cons e l ih =>
   intro i xs hk hl hf;obtain ⟨e0,e1,e2,e3,e4,e5⟩:=e;simp only [szFs,szF,aj9,fitF,List.length_cons] at hk hl hf;unfold af7 f89;rw [aaQ (by simpa using hf.1.1),amb k k e5 (by omega) (by omega) hf.1.2.1 hf.1.2.2];simp only [Option.bind_some];rw [aaQ (by omega),ih (i + 1) _ (by omega) (by rw [abi]; omega) hf.2];simp
 exact loop fs 0 [] (by omega) (by simpa using hf.1) hf.2
theorem alC {α:Type} (xs:List α) (e:α) (l:List α) (i:Int) (hi:i=(xs.length:Int)):idxO (xs ++ e :: l) i=some e:=by
 subst hi;unfold idxO;rw [if_pos (by omega)];simp
theorem awR {α:Type} (xs:List α) (e e' : α) (l:List α):(xs ++ e :: l).set xs.length e'=xs ++ e' :: l:=by
 simp
theorem auD (k:Nat) (p:aaa) (hk:2 * szP p + 1≤k) (hf:fitP p):f39 k p=some (stP p):=by
 have h19:=axk k p hk hf;obtain ⟨fs⟩:=p;unfold f39 as4;simp only;rw [h19];simp only [szP,fitP] at hk hf;simp only [Option.bind_some];have loop : ∀ (l:List aac) (j:Nat) (xs:List aac),l.length < j→2 * szFs l + 1≤k→(xs.length + l.length) * 88≤maxB→aj9 l→ahq k j (xs ++ l) (xs.length:Int)=some (.mk (xs ++ stFs l)):=by
  intro l;induction l with
  | nil =>
   intro j xs hj _ _ _;obtain ⟨j,rfl⟩ : ∃ j',j=j' + 1:=⟨j - 1,by simp at hj; omega⟩;unfold ahq;simp [stFs]
  | cons e l ih =>
   intro j xs hj hk hl hf;simp only [szFs,aj9,List.length_cons] at hk hl hf hj;obtain ⟨j,rfl⟩ : ∃ j',j=j' + 1:=⟨j - 1,by omega⟩;unfold ahq;have h1:decide ((xs.length:Int) < ((xs ++ e :: l).length:Int))=true:=by simp; omega
   rw [h1,alC xs e l _ rfl];obtain ⟨e0,e1,e2,e3,e4,e5⟩:=e;simp only [szF,fitF] at hk hf;simp only [cond_true,Option.bind_some];unfold f63;rw [amp k k e5 (by omega) (by omega) hf.1.2.1 hf.1.2.2];simp only [Option.bind_some,Int.toNat_natCast,awR];unfold maxB at hl;rw [abk (x:=(xs.length:Int) + 1) (n:=xs.length + 1) (by omega) (by omega)];have:=ih j (xs ++ [.mk e0 e1 e2 e3 0 (stSs e5)]) (by omega) (by omega) (by rw [abi]; unfold maxB; omega) hf.2;rw [abi] at this;simp only [List.append_assoc,List.singleton_append] at this;rw [this];rfl
 have hlen:=aoY fs;exact loop fs k [] (by omega) (by omega) (by simpa using hf.1) hf.2
theorem aoU (a:ByteArray):seq a a=true:=by unfold seq; simp
theorem anb (k:Nat) : ∀ m l (a:Int),szEs l + 1≤m→∃ r,(anT k m).f45 l a=some r
 | 0,l,a,h=>by omega
 | m + 1,l,a,h=>by
  show ∃ r,aqC k (anT k m) l a=some r;unfold aqC;have loop : ∀ (l:List aam) (i:Nat) (n:Int),szEs l≤m→∃ r,ahU k (anT k m) a l i n=some r:=by
   intro l;induction l with
   | nil=>intro i n _; exact ⟨_,rfl⟩
   | cons e l ih =>
    intro i n hm;obtain ⟨e0,e1,e2,e3,e4⟩:=e;simp only [szEs,szE] at hm;unfold ahU;cases decide (n≤2000)
    ·exact ⟨_,rfl⟩
    ·obtain ⟨r,hr⟩:=anb k m e4 (w64 (a + 1)) (by omega);rw [hr];exact ih _ _ (by omega)
  cases decide (a > 60)
  ·exact loop l 0 0 (by omega)
  ·exact ⟨_,rfl⟩
theorem aix (k:Nat) : ∀ m l (a:Int),szSs l + 1≤m→szSs l + 1≤k→∃ r,(amm k m).f24 l a=some r
 | 0,l,a,h,_=>by omega
 | m + 1,l,a,h,hk=>by
  show ∃ r,ass k (amm k m) l a=some r;unfold ass;have cs : ∀ (i:Nat) (nx:Nat→Int→Option Int) (hnx : ∀ n,∃ r,nx (i + 1) n=some r) (l:List aaz) (j:Nat) (n:Int),szCs l≤m→szCs l≤k→∃ r,ahQ k (amm k m) a i nx l j n=some r:=by
   intro i nx hnx l;induction l with
   | nil=>intro j n _ _; exact hnx _
   | cons e l ih =>
    intro j n hm hk;obtain ⟨e0,e1,e2,e3,e4⟩:=e;simp only [szCs,szC] at hm hk;unfold ahQ f45;cases decide (n≤2000)
    ·exact hnx _
    ·obtain ⟨r,hr⟩:=anb k k e3 (w64 (a + 1)) (by omega);obtain ⟨r2,hr2⟩:=aix k m e4 (w64 (a + 1)) (by omega) (by omega);rw [hr,cond_true,Option.bind_some,hr2];exact ih _ _ (by omega) (by omega)
  have loop : ∀ (l:List aaf) (i:Nat) (n:Int),szSs l≤m→szSs l≤k→∃ r,af1 k (amm k m) a l i n=some r:=by
   intro l;induction l with
   | nil=>intro i n _ _; exact ⟨_,rfl⟩
   | cons e l ih =>
    intro i n hm hk;obtain ⟨e0,e1,e2,e3,e4,e5,e6,e7,e8,e9,e10⟩:=e;simp only [szSs,szS] at hm hk;unfold af1 f45;cases decide (n≤2000)
    ·exact ⟨_,rfl⟩
    ·obtain ⟨r,hr⟩:=anb k k e6 (w64 (a + 1)) (by omega);obtain ⟨r7,hr7⟩:=aix k m e7 (w64 (a + 1)) (by omega) (by omega);obtain ⟨r8,hr8⟩:=aix k m e8 (w64 (a + 1)) (by omega) (by omega);obtain ⟨r9,hr9⟩:=aix k m e9 (w64 (a + 1)) (by omega) (by omega);rw [hr,cond_true,Option.bind_some,hr7,Option.bind_some,hr8,Option.bind_some,hr9];exact cs i _ (fun n=>ih _ _ (by omega) (by omega)) e10 0 _ (by omega) (by omega)
  cases decide (a > 40)
  ·exact loop l 0 0 (by omega) (by omega)
  ·exact ⟨_,rfl⟩
theorem ayS (k:Nat) (p:aaa) (hk:2 * szP p + 1≤k) (hf:fitP p):f46 k p=some (cond (wf true p) (stP p,0) (.mk [],2)):=by
 have h78:=auE k p true hk;have h88:=avK k p hk hf;obtain ⟨fs⟩:=p;unfold f46 atM ahC ahD afj f70 asG;simp only [h78,h88,Option.bind_some];cases hw:wf true (.mk fs) <;> rfl
theorem ayG (k:Nat) (p:aaa) (hk:2 * szP p + 1≤k) (hf:fitP p):f37 k p=some (wf true p):=by
 have h24:=auD k p hk hf;have h20:=auH k (stP p) (by rw [aq9]; exact hk);rw [azZ] at h20;obtain ⟨fs⟩:=p;unfold f37 asB alT;simp only [h24,Option.bind_some];have e:decide ((fs.length:Int)≤16)=decide (fs.length≤16):=by rw [decide_eq_decide]; omega
 rw [e];simp only [stP] at h20 ⊢;rw [h20];by_cases h:fs.length≤16
 ·simp [h]
 ·simp [h,wf]
abbrev Ex (α:Type):=Except Int α
def abh (nm:List ByteArray) (vis:List Nat) (a:ByteArray):Option Nat :=
 vis.find? fun v=>match nm[v]? with | some b=>seq b a | none=>false
mutual
def uE (nm:List ByteArray) (vis:List Nat):aam→Ex aam
 | .mk op num txt slot l=>match uEs nm vis l with
  | .error c=>.error c
  | .ok l'=>cond (op == 4) (match abh nm vis txt with | none=>.error 20 | some v=>.ok (.mk op num txt (v:Int) l')) (.ok (.mk op num txt 0 l'))
def uEs (nm:List ByteArray) (vis:List Nat):List aam→Ex (List aam)
 | []=>.ok []
 | e :: l=>match uE nm vis e with
  | .error c=>.error c
  | .ok e'=>match uEs nm vis l with
   | .error c=>.error c
   | .ok l'=>.ok (e' :: l')
end
def lkU (a:ByteArray):List (List (ByteArray × Int))→Option Int
 | []=>none
 | d :: sc=>match mget seq a d with
  | some v=>some v
  | none=>lkU a sc
def okV (nm:List ByteArray) (vis:List Nat):Prop:=∀ v ∈ vis,v < nm.length
structure Rel (sc:List (List (ByteArray × Int))) (vis:List Nat) (nm:List ByteArray):Prop where
 look : ∀ a,lkU a sc=(abh nm vis a).map (fun (v:Nat)=>(v:Int))
 ok:okV nm vis
theorem aw5 (k:Nat) (p:List aac) (f:aac) (nm:List ByteArray) (sc:List (List (ByteArray × Int))) (lo:Int) (a:ByteArray) :
  f160 k (.mk (.mk p) f nm sc lo) a=some (match lkU a sc with | some v=>(v,true) | none=>(0,false)):=by
 obtain ⟨f0,f1,f2,f3,f4,f5⟩:=f;have h : ∀ (sc:List (List (ByteArray × Int))) (i:Nat),afV k a sc i=some (match lkU a sc with | some v=>(v,true) | none=>(0,false)):=by
  intro sc;induction sc with
  | nil=>intro i; rfl
  | cons d sc ih =>
   intro i;unfold afV lkU;rw [ih];cases mget seq a d <;> rfl
 exact h sc 0
theorem Rel.f160 {k:Nat} {p:List aac} {f:aac} {nm:List ByteArray} {sc:List (List (ByteArray × Int))} {lo:Int} {vis:List Nat} (R:Rel sc vis nm) (a:ByteArray) :
  Go.Proofs.YtphdlngnegjgcaaGreatDoor.f160 k (.mk (.mk p) f nm sc lo) a=some (match abh nm vis a with | some v=>((v:Int),true) | none=>(0,false)):=by
 rw [aw5,R.look];cases abh nm vis a <;> rfl
theorem aec (k:Nat) (b:Bool) (c:Int):f98 k b c=some (cond b (.ok ()) (.error c)):=by cases b <;> rfl
theorem nU (k:Nat) (p:List aac) (f:aac) {nm:List ByteArray} {sc:List (List (ByteArray × Int))} (lo:Int) {vis:List Nat} (R:Rel sc vis nm) : ∀ m,
  (∀ e,2 * szE e≤m→szE e≤100000→(abr k m).f1017888 e (.mk (.mk p) f nm sc lo)=some (uE nm vis e)) ∧
  (∀ l,2 * szEs l + 1≤m→szEs l≤100000→(abr k m).f1015988 l (.mk (.mk p) f nm sc lo)=some (uEs nm vis l))
 | 0=>⟨fun e h=>by have:=aeg e; omega,fun l h=>by omega⟩
 | m + 1=>by
  obtain ⟨ihe,ihl⟩:=nU k p f lo R m;constructor
  ·intro e h hb;obtain ⟨op,num,txt,slot,l⟩:=e;obtain ⟨f0,f1,f2,f3,f4,f5⟩:=f;simp only [szE] at h hb;show ad6 k (abr k m) (.mk op num txt slot l) (.mk (.mk p) (.mk f0 f1 f2 f3 f4 f5) nm sc lo)=_;unfold ad6 uE;simp only;rw [ihl l (by omega) (by omega)];simp only [Option.bind_some];cases uEs nm vis l with
   | error c=>rfl
   | ok l' =>
    simp only;unfold akO ae9;simp only;rw [R.f160];simp only [Option.bind_some,aec,bne];cases (op == 4) <;> cases abh nm vis txt <;> rfl
  ·intro l h hb;obtain ⟨f0,f1,f2,f3,f4,f5⟩:=f;show abL k (abr k m) p f0 f1 f2 f3 f4 f5 nm sc lo l 0 []=_;have loop : ∀ (l:List aam) (i:Nat) (xs:List aam),2 * szEs l≤m→xs.length + szEs l≤100000→abL k (abr k m) p f0 f1 f2 f3 f4 f5 nm sc lo l i xs=some (match uEs nm vis l with | .error c=>.error c | .ok l'=>.ok (xs ++ l')):=by
    intro l;induction l with
    | nil=>intro i xs _ _; simp [abL,uEs]
    | cons e l ih =>
     intro i xs hm hx;obtain ⟨e0,e1,e2,e3,e4⟩:=e;simp only [szEs] at hm hx;have hp:=aeg (.mk e0 e1 e2 e3 e4);unfold abL uEs;rw [ihe (.mk e0 e1 e2 e3 e4) (by omega) (by omega)];simp only [Option.bind_some];cases uE nm vis (.mk e0 e1 e2 e3 e4) with
     | error c=>rfl
     | ok e' =>
      obtain ⟨r0,r1,r2,r3,r4⟩:=e';simp only;rw [aaQ (by unfold maxB; omega),ih (i + 1) _ (by omega) (by rw [abi]; omega)];cases uEs nm vis l with
      | error c=>rfl
      | ok l'=>simp
   rw [loop l 0 [] (by omega) (by simpa using hb)];cases uEs nm vis l <;> simp
theorem aro (k:Nat) (p:List aac) (f:aac) {nm:List ByteArray} {sc:List (List (ByteArray × Int))} (lo:Int) {vis:List Nat} (R:Rel sc vis nm) (l:List aam) (hk:2 * szEs l + 1≤k) (hb:szEs l≤100000) :
  f161 k (.mk (.mk p) f nm sc lo) l=some (uEs nm vis l):=by
 have h:=(nU k p f lo R k).2 l hk hb;obtain ⟨f0,f1,f2,f3,f4,f5⟩:=f;unfold f161 aoh f1015988;simp only;rw [h];cases uEs nm vis l <;> rfl
def vI (vis:List Nat):List Int:=vis.map fun (v:Nat)=>(v:Int)
abbrev ami (o:Option Nat):Int:=match o with | some v=>(v:Int) | none=>-1
theorem ans (k:Nat) (p:List aac) (f:aac) (nm:List ByteArray) (vis:List Nat) (lo er:Int) (a:ByteArray) (hv:okV nm vis) :
  f119 k (.mk p f nm (vI vis) lo er) a=some (.mk p f nm (vI vis) lo er,ami (abh nm vis a)):=by
 obtain ⟨f0,f1,f2,f3,f4,f5⟩:=f;have h : ∀ (l:List Nat) (i:Nat),okV nm l→ae1 k p f0 f1 f2 f3 f4 f5 nm (vI vis) lo er a (vI l) i=some (.mk p (.mk f0 f1 f2 f3 f4 f5) nm (vI vis) lo er,ami (abh nm l a)):=by
  intro l;induction l with
  | nil=>intro i _; rfl
  | cons v l ih =>
   intro i hl;have hv:v < nm.length:=hl v (by simp);show ae1 k p f0 f1 f2 f3 f4 f5 nm (vI vis) lo er a ((v:Int) :: vI l) i=_;unfold ae1;have:idxO nm (v:Int)=some nm[v]:=by unfold idxO; rw [if_pos (by omega)]; simp [hv]
   rw [this,ih (i + 1) (fun w hw=>hl w (by simp [hw]))];simp only [Option.bind_some];unfold abh;rw [List.find?_cons];simp only [List.getElem?_eq_getElem hv];cases seq nm[v] a <;> rfl
 exact h vis 0 hv
def agn (er:Int) (b:Bool) (c:Int):Int:=cond (!b && er == 0) c er
theorem aho (k:Nat) (p:List aac) (f:aac) (nm:List ByteArray) (vis:List Int) (lo er:Int) (b:Bool) (c:Int) :
  f88 k (.mk p f nm vis lo er) b c=some (.mk p f nm vis lo (agn er b c)):=by
 obtain ⟨f0,f1,f2,f3,f4,f5⟩:=f;unfold f88 asU amG agn;simp only;cases b <;> cases (er == 0) <;> rfl
def errI {α:Type} (er:Int) (u:Ex α):Int:=cond (er == 0) (match u with | .error c=>c | .ok _=>0) er
theorem aqJ {nm:List ByteArray} {vis:List Nat} : ∀ m,(∀ e c,szE e≤m→uE nm vis e=.error c→c=20)∧(∀ l c,szEs l≤m→uEs nm vis l=.error c→c=20)
 | 0=>⟨fun e c h=>by have:=aeg e; omega,fun l c h hu=>by
   cases l with
   | nil=>cases hu
   | cons e l=>have:=aeg e; simp only [szEs] at h; omega⟩
 | m + 1=>by
  obtain ⟨ihe,ihl⟩:=aqJ (nm:=nm) (vis:=vis) m;have he : ∀ e c,szE e≤m + 1→uE nm vis e=.error c→c=20:=by
   intro e c h hu;obtain ⟨op,num,txt,slot,l⟩:=e;simp only [szE] at h;unfold uE at hu;cases hl:uEs nm vis l with
   | error c'=>rw [hl] at hu; have:=ihl l c' (by omega) hl; cases hu; exact this
   | ok l' =>
    rw [hl] at hu;cases h4:(op == 4) <;> rw [h4] at hu
    ·cases hu
    ·cases hs:abh nm vis txt <;> simp only [hs,cond_true] at hu <;> cases hu
     rfl
  refine ⟨he,?_⟩;intro l;induction l with
  | nil=>intro c _ hu; cases hu
  | cons e l ih =>
   intro c h hu;simp only [szEs] at h;unfold uEs at hu;cases he' : uE nm vis e with
   | error c'=>rw [he'] at hu; have:=he e c' (by omega) he'; cases hu; exact this
   | ok e' =>
    rw [he'] at hu;cases hl:uEs nm vis l with
    | error c'=>rw [hl] at hu; have:=ih c' (by omega) hl; cases hu; exact this
    | ok l'=>rw [hl] at hu; cases hu
theorem aAs {nm:List ByteArray} {vis:List Nat} {e:aam} {c:Int} (h:uE nm vis e=.error c):c=20:=(aqJ _).1 e c (Nat.le_refl _) h
theorem aoS {nm:List ByteArray} {vis:List Nat} {e:List aam} {c:Int} (h:uEs nm vis e=.error c):c=20:=(aqJ _).2 e c (Nat.le_refl _) h
theorem rU (k:Nat) (p:List aac) (f:aac) {nm:List ByteArray} (lo:Int) {vis:List Nat} (hv:okV nm vis) : ∀ m,
  (∀ e a er,2 * szE e≤m→szE e≤100000→gE false e a=true→∃ e',(adS k m).f170 (.mk p f nm (vI vis) lo er) e=some (.mk p f nm (vI vis) lo (errI er (uE nm vis e)),e')∧(∀ x,uE nm vis e=.ok x→e'=x)) ∧
  (∀ l a er,2 * szEs l + 1≤m→szEs l≤100000→gEs false l a=true→∃ l',(adS k m).f143 (.mk p f nm (vI vis) lo er) l=some (.mk p f nm (vI vis) lo (errI er (uEs nm vis l)),l')∧(∀ x,uEs nm vis l=.ok x→l'=x))
 | 0=>⟨fun e a er h=>by have:=aeg e; omega,fun l a er h=>by omega⟩
 | m + 1=>by
  obtain ⟨ihe,ihl⟩:=rU k p f lo hv m;constructor
  ·intro e a er h hb hg;obtain ⟨op,num,txt,slot,l⟩:=e;obtain ⟨f0,f1,f2,f3,f4,f5⟩:=f;simp only [szE] at h hb;simp only [gE,Bool.false_or,Bool.and_eq_true] at hg;obtain ⟨⟨⟨_,hs⟩,_⟩,hgl⟩:=hg;obtain rfl:slot=0:=by simpa using hs
   show ∃ e',amt k (adS k m) (.mk p (.mk f0 f1 f2 f3 f4 f5) nm (vI vis) lo er) (.mk op num txt 0 l)=some (_,e')∧_;unfold amt ai5 uE;simp only;rw [ans k p (.mk f0 f1 f2 f3 f4 f5) nm vis lo er txt hv];simp only [Option.bind_some,aho];cases h4:(op == 4) with
   | false =>
    simp only [cond_false];obtain ⟨l',h1,h2⟩:=ihl l (a + 1) er (by omega) (by omega) hgl;rw [h1];refine ⟨.mk op num txt 0 l',?_,?_⟩
    ·simp only [Option.bind_some];cases uEs nm vis l <;> rfl
    ·intro x hx;cases hu:uEs nm vis l with
     | error c=>rw [hu] at hx; cases hx
     | ok y=>rw [hu] at hx; cases hx; rw [h2 y hu]
   | true =>
    simp only [cond_true];obtain ⟨l',h1,h2⟩:=ihl l (a + 1) (agn er (decide (ami (abh nm vis txt) ≥ 0)) 20) (by omega) (by omega) hgl;rw [h1];refine ⟨.mk op num txt (ami (abh nm vis txt)) l',?_,?_⟩
    ·simp only [Option.bind_some,Option.some.injEq,Prod.mk.injEq,and_true,aas.mk.injEq,true_and];cases hu:uEs nm vis l with
     | error c =>
      obtain rfl:=aoS hu;cases hsl:abh nm vis txt <;> unfold errI agn <;> cases her:(er == 0) <;> simp [ami,her]
     | ok y =>
      cases hsl:abh nm vis txt <;> unfold errI agn <;> cases her:(er == 0) <;> simp [ami,her]
      all_goals simp [show er=0 by simpa using her]
    ·intro x hx;cases hu:uEs nm vis l with
     | error c=>rw [hu] at hx; cases hx
     | ok y =>
      rw [hu] at hx;cases hsl:abh nm vis txt <;> simp only [hsl] at hx <;> cases hx
      rw [h2 y hu]
  ·intro l a er h hb hg;obtain ⟨f0,f1,f2,f3,f4,f5⟩:=f;show ∃ l',aes k (adS k m) l 0 p f0 f1 f2 f3 f4 f5 nm (vI vis) lo er []=some (_,l')∧_;have loop : ∀ (l:List aam) (i:Nat) (er:Int) (xs:List aam),2 * szEs l≤m→xs.length + szEs l≤100000→gEs false l a=true →
     ∃ l',aes k (adS k m) l i p f0 f1 f2 f3 f4 f5 nm (vI vis) lo er xs=some (.mk p (.mk f0 f1 f2 f3 f4 f5) nm (vI vis) lo (errI er (uEs nm vis l)),l')∧(∀ x,uEs nm vis l=.ok x→l'=xs ++ x):=by
    intro l;induction l with
    | nil =>
     intro i er xs _ _ _;refine ⟨xs,?_,fun x hx=>by cases hx; simp⟩;unfold aes errI uEs;cases her:(er == 0)
     ·rfl
     ·have:er=0:=by simpa using her
      simp [this]
    | cons e l ih =>
     intro i er xs hm hx hg;obtain ⟨e0,e1,e2,e3,e4⟩:=e;simp only [szEs] at hm hx;simp only [gEs,Bool.and_eq_true] at hg;have hp:=aeg (.mk e0 e1 e2 e3 e4);unfold aes;obtain ⟨e',h1,h2⟩:=ihe (.mk e0 e1 e2 e3 e4) a er (by omega) (by omega) hg.1;rw [h1];obtain ⟨r0,r1,r2,r3,r4⟩:=e';simp only [Option.bind_some];rw [aaQ (by unfold maxB; omega)];obtain ⟨l',h3,h4⟩:=ih (i + 1) (errI er (uE nm vis (.mk e0 e1 e2 e3 e4))) (xs ++ [.mk r0 r1 r2 r3 r4]) (by omega) (by rw [abi]; omega) hg.2;refine ⟨l',?_,?_⟩
     ·rw [h3];simp only [Option.some.injEq,Prod.mk.injEq,and_true,aas.mk.injEq,true_and,uEs];cases hu:uE nm vis (.mk e0 e1 e2 e3 e4) with
      | error c =>
       obtain rfl:=aAs hu;unfold errI; cases her:(er == 0) <;> simp [her]
      | ok y =>
       cases hl:uEs nm vis l <;> unfold errI <;> cases her:(er == 0) <;> simp [her]
     ·intro x hx;unfold uEs at hx;cases hu:uE nm vis (.mk e0 e1 e2 e3 e4) with
      | error c=>rw [hu] at hx; cases hx
      | ok y =>
       rw [hu] at hx;cases hl:uEs nm vis l with
       | error c=>rw [hl] at hx; cases hx
       | ok z =>
        rw [hl] at hx; cases hx
        rw [h4 z hl,h2 y hu];simp
   exact (loop l 0 er [] (by omega) (by simpa using hb) hg).imp fun l' h=>⟨h.1,fun x hx=>by simpa using h.2 x hx⟩
theorem arn (k:Nat) (p:List aac) (f:aac) {nm:List ByteArray} (lo er:Int) {vis:List Nat} (hv:okV nm vis) (l:List aam) (a:Nat) (hk:2 * szEs l + 1≤k) (hb:szEs l≤100000) (hg:gEs false l a=true) :
 ∃ l',f143 k (.mk p f nm (vI vis) lo er) l=some (.mk p f nm (vI vis) lo (errI er (uEs nm vis l)),l')∧(∀ x,uEs nm vis l=.ok x→l'=x):=(rU k p f lo hv k).2 l a er hk hb hg
def eb {α β:Type} (u:Ex α) (f:α→Ex β):Ex β:=match u with | .error c=>.error c | .ok x=>f x
def eb3 {α β:Type} (u:Ex (List ByteArray × List Nat × α)) (f:List ByteArray→List Nat→α→Ex β):Ex β:=match u with | .error c=>.error c | .ok (a,b,x)=>f a b x
def uMk (nm:List ByteArray) (vis:List Nat) (a:ByteArray):Ex (List ByteArray × List Nat × Int) :=
 match abh nm vis a with | some _=>.error 21 | none=>.ok (nm ++ [a],vis ++ [nm.length],(nm.length:Int))
def uCall (op:Int) (fr:ByteArray) (na:Nat):List aac→Nat→Ex Int
 | [],_=>.error 20
 | .mk nm ps _ fl _ _ :: l,i=>cond (seq nm fr) (cond (fl == (op == 28)) (cond ((ps.length:Int) == (na:Int)) (.ok (i:Int)) (.error 24)) (.error 25)) (uCall op fr na l (i + 1))
def uD {α:Type} (b:Bool) (c:Int) (x:Ex α):Ex α:=cond b x (.error c)
section
variable (fs:List aac) (f2:Int) (f3:Bool)
mutual
def uS:Nat→List ByteArray→List Nat→aaf→Ex (List ByteArray × List Nat × aaf)
 | lo,nm,vis,.mk op name s2 fr s4 flag l6 l7 l8 l9 l10 =>
  eb (uEs nm vis l6) fun r6 =>
  cond (op == 27) (eb3 (uCs lo nm vis l10) fun nm1 _ cs=>.ok (nm1,vis,.mk op name s2 fr s4 flag r6 l7 l8 l9 cs))
  (eb (cond (seq fr ⟨#[]⟩) (.ok s4) (uCall op fr r6.length fs 0)) fun ix =>
  cond (op == 2) (match abh nm vis name with | none=>.error 20 | some v=>.ok (nm,vis,.mk op name (v:Int) fr ix flag r6 l7 l8 l9 l10))
  (cond (op == 18 || op == 19) (uD (decide (lo > 0)) 22 (.ok (nm,vis,.mk op name s2 fr ix flag r6 l7 l8 l9 l10)))
  (cond (op == 29) (uD f3 22 (.ok (nm,vis,.mk op name s2 fr ix flag r6 l7 l8 l9 l10)))
  (cond (op == 17) (uD ((decide (r6.length > 0)) == (f2 != 0)) 22 (.ok (nm,vis,.mk op name s2 fr ix flag r6 l7 l8 l9 l10)))
  (cond (op == 21) (eb3 (uB (lo + 1) nm vis l7) fun nm1 _ b=>.ok (nm1,vis,.mk op name s2 fr ix flag r6 b l8 l9 l10))
  (cond (op == 28) (eb3 (uI (lo + 1) nm vis name s2 l7) fun nm1 _ vb=>.ok (nm1,vis,.mk op name vb.1 fr ix flag r6 vb.2 l8 l9 l10))
  (cond (op == 25) (eb3 (uI lo nm vis name s2 l7) fun nm1 _ vb=>.ok (nm1,vis,.mk op name vb.1 fr ix flag r6 vb.2 l8 l9 l10))
  (cond (op == 24) (eb3 (uB lo nm vis l7) fun nm1 _ b7=>eb3 (uI lo nm1 vis name s2 l8) fun nm2 _ vb=>eb3 (uB lo nm2 vis l9) fun nm3 _ b9=>.ok (nm3,vis,.mk op name vb.1 fr ix flag r6 b7 vb.2 b9 l10))
  (cond (op == 20 || op == 22 || op == 23 || op == 26) (eb3 (uB lo nm vis l7) fun nm1 _ b7=>eb3 (uB lo nm1 vis l8) fun nm2 _ b8=>.ok (nm2,vis,.mk op name s2 fr ix flag r6 b7 b8 l9 l10))
   (eb3 (cond (seq name ⟨#[]⟩) (.ok (nm,vis,s2)) (uMk nm vis name)) fun nm1 vis1 v=>uD (op != 6 || flag == 0 || decide (lo > 0)) 22 (.ok (nm1,vis1,.mk op name v fr ix flag r6 l7 l8 l9 l10))))))))))))
def uSs:Nat→List ByteArray→List Nat→List aaf→Ex (List ByteArray × List Nat × List aaf)
 | _,nm,vis,[]=>.ok (nm,vis,[])
 | lo,nm,vis,s :: l=>eb3 (uS lo nm vis s) fun nm1 vis1 s'=>eb3 (uSs lo nm1 vis1 l) fun nm2 vis2 l'=>.ok (nm2,vis2,s' :: l')
def uB:Nat→List ByteArray→List Nat→List aaf→Ex (List ByteArray × List Nat × List aaf)
 | _,nm,vis,[]=>.ok (nm,vis,[])
 | lo,nm,vis,s :: l=>eb3 (uS lo nm vis s) fun nm1 vis1 s'=>eb3 (uSs lo nm1 vis1 l) fun nm2 vis2 l'=>.ok (nm2,vis,s' :: l')
def uI:Nat→List ByteArray→List Nat→ByteArray→Int→List aaf→Ex (List ByteArray × List Nat × (Int × List aaf))
 | lo,nm,vis,name,s2,[]=>eb3 (cond (seq name ⟨#[]⟩) (.ok (nm,vis,s2)) (uMk nm vis name)) fun nm1 _ v=>.ok (nm1,vis,(v,[]))
 | lo,nm,vis,name,s2,s :: l=>eb3 (cond (seq name ⟨#[]⟩) (.ok (nm,vis,s2)) (uMk nm vis name)) fun nm1 vis1 v=>eb3 (uS lo nm1 vis1 s) fun nm2 vis2 s'=>eb3 (uSs lo nm2 vis2 l) fun nm3 _ l'=>.ok (nm3,vis,(v,s' :: l'))
def uC:Nat→List ByteArray→List Nat→aaz→Ex (List ByteArray × List Nat × aaz)
 | lo,nm,vis,.mk kind name slot es b=>eb (uEs nm vis es) fun r=>eb3 (uI lo nm vis name slot b) fun nm1 _ vb=>.ok (nm1,vis,.mk kind name vb.1 r vb.2)
def uCs:Nat→List ByteArray→List Nat→List aaz→Ex (List ByteArray × List Nat × List aaz)
 | _,nm,vis,[]=>.ok (nm,vis,[])
 | lo,nm,vis,c :: l=>eb3 (uC lo nm vis c) fun nm1 _ c'=>eb3 (uCs lo nm1 vis l) fun nm2 _ l'=>.ok (nm2,vis,c' :: l')
end
theorem amz (lo:Nat) (nm:List ByteArray) (vis:List Nat) (l:List aaf):uB fs f2 f3 lo nm vis l=eb3 (uSs fs f2 f3 lo nm vis l) fun nm1 _ l'=>.ok (nm1,vis,l'):=by
 cases l with
 | nil=>simp [uB,uSs,eb3]
 | cons s l =>
  rw [uB,uSs];cases uS fs f2 f3 lo nm vis s with
  | error c=>rfl
  | ok x =>
   simp only [eb3];cases uSs fs f2 f3 lo x.1 x.2.1 l <;> rfl
theorem ajm (lo:Nat) (nm:List ByteArray) (vis:List Nat) (name:ByteArray) (s2:Int) (l:List aaf):uI fs f2 f3 lo nm vis name s2 l =
  eb3 (cond (seq name ⟨#[]⟩) (.ok (nm,vis,s2)) (uMk nm vis name)) fun nm1 vis1 v=>eb3 (uSs fs f2 f3 lo nm1 vis1 l) fun nm2 _ l'=>.ok (nm2,vis,(v,l')):=by
 cases l with
 | nil=>simp [uI,uSs,eb3]
 | cons s l =>
  rw [uI];congr 1;funext nm1 vis1 v;rw [uSs];cases uS fs f2 f3 lo nm1 vis1 s with
  | error c=>rfl
  | ok x =>
   simp only [eb3];cases uSs fs f2 f3 lo x.1 x.2.1 l <;> rfl
end
theorem ajF {nm nm' : List ByteArray} {vis:List Nat} (hv:okV nm vis) (hn:nm <+: nm') (a:ByteArray):abh nm' vis a=abh nm vis a:=by
 obtain ⟨t,rfl⟩:=hn;unfold abh;induction vis with
 | nil=>rfl
 | cons v vis ih =>
  have h:v < nm.length:=hv v (by simp);rw [List.find?_cons,List.find?_cons,List.getElem?_append_left h,ih (fun w hw=>hv w (by simp [hw]))]
theorem apq {nm:List ByteArray} {vis:List Nat} (hv:okV nm vis) (a b:ByteArray) (hn:abh nm vis a=none):abh (nm ++ [a]) (vis ++ [nm.length]) b=match abh nm vis b with | some v=>some v | none=>cond (seq a b) (some nm.length) none:=by
 have h1:=ajF (nm':=nm ++ [a]) hv ⟨[a],rfl⟩ b;unfold abh at h1 ⊢;rw [List.find?_append,h1];cases List.find? (fun v=>match nm[v]? with | some b_1=>seq b_1 b | none=>false) vis with
 | some v=>rfl
 | none =>
  simp only [Option.none_or,List.find?_cons,List.find?_nil];have:(nm ++ [a])[nm.length]?=some a:=by simp
  rw [this];dsimp only;cases seq a b <;> rfl
theorem aqs {a b:ByteArray} (h:seq a b=true):a=b:=by
 unfold seq at h;rw [ByteArray.toList_eq,ByteArray.toList_eq] at h;have h:=eq_of_beq h;obtain ⟨⟨a⟩⟩:=a; obtain ⟨⟨b⟩⟩:=b
 exact congrArg (fun l=>(⟨⟨l⟩⟩:ByteArray)) h
theorem an7 (a:ByteArray) (k:Int) (b:ByteArray) : ∀ d:List (ByteArray × Int),mget seq b (mput seq a k d)=cond (seq a b) (some k) (mget seq b d)
 | []=>by
  unfold mput mget;rw [ahI b a];cases seq a b <;> rfl
 | (x,v) :: d=>by
  unfold mput;cases h:seq a x with
  | true =>
   obtain rfl:=aqs h;simp only [if_true,mget];rw [ahI b a];cases seq a b <;> rfl
  | false =>
   rw [if_neg (by simp)];simp only [mget,an7 a k b d];cases hb:seq b x with
   | false=>simp
   | true =>
    obtain rfl:=aqs hb;simp [h]
theorem ali (a:ByteArray) : ∀ (x y:List (List (ByteArray × Int))),lkU a (x ++ y)=match lkU a x with | some v=>some v | none=>lkU a y
 | [],y=>rfl
 | d :: x,y=>by
  simp only [List.cons_append,lkU,ali a x y];cases mget seq a d <;> rfl
theorem anW (a:ByteArray) (d:List (ByteArray × Int)):lkU a [d]=mget seq a d:=by
 unfold lkU; cases mget seq a d <;> rfl
theorem Rel.push {sc:List (List (ByteArray × Int))} {vis:List Nat} {nm:List ByteArray} (R:Rel sc vis nm):Rel (sc ++ [[]]) vis nm :=
 ⟨fun a=>by rw [ali,anW,← R.look a]; cases lkU a sc <;> rfl,R.ok⟩
theorem Rel.ext {sc:List (List (ByteArray × Int))} {vis:List Nat} {nm nm' : List ByteArray} (R:Rel sc vis nm) (h:nm <+: nm'):Rel sc vis nm' :=
 ⟨fun a=>by rw [R.look,ajF R.ok h],fun v hv=>Nat.lt_of_lt_of_le (R.ok v hv) h.length_le⟩
theorem Rel.make {pre:List (List (ByteArray × Int))} {d:List (ByteArray × Int)} {vis:List Nat} {nm:List ByteArray} {a:ByteArray} (R:Rel (pre ++ [d]) vis nm) (hn:abh nm vis a=none) :
  Rel (pre ++ [mput seq a (nm.length:Int) d]) (vis ++ [nm.length]) (nm ++ [a]):=by
 refine ⟨fun b=>?_,fun v hv=>?_⟩
 ·rw [apq R.ok a b hn,ali,anW,an7];have h:=R.look b;rw [ali,anW] at h;cases hs:seq a b with
  | false =>
   simp only [cond_false];rw [h];cases abh nm vis b <;> rfl
  | true =>
   obtain rfl:=aqs hs;rw [hn] at h ⊢;simp only [Option.map_none] at h;cases hp:lkU a pre with
   | some v=>rw [hp] at h; cases h
   | none=>rfl
 ·rcases List.mem_append.1 hv with hv | hv
  ·have:=R.ok v hv; simp; omega
  ·simp at hv; simp; omega
theorem auW (k:Nat) (p:List aac) (f:aac) {nm:List ByteArray} {pre:List (List (ByteArray × Int))} {d:List (ByteArray × Int)} (lo:Int) {vis:List Nat} (R:Rel (pre ++ [d]) vis nm) (a:ByteArray) (hb:nm.length≤1000000) (hp:pre.length≤1000000) :
  f133 k (.mk (.mk p) f nm (pre ++ [d]) lo) a=some (match uMk nm vis a with | .error c=>.error c | .ok (nm',_,v)=>.ok (.mk (.mk p) f nm' (pre ++ [mput seq a (nm.length:Int) d]) lo,v)):=by
 have h119:=R.f160 (k:=k) (p:=p) (f:=f) (lo:=lo) a;obtain ⟨f0,f1,f2,f3,f4,f5⟩:=f;unfold f133 aoF uMk;simp only;rw [h119];cases abh nm vis a with
 | some v=>rfl
 | none =>
  simp only [Option.bind_some,aec,Bool.not_false,cond_true];rw [aaQ (by unfold maxB; omega)];have e1:w64 (((pre ++ [d]).length:Int) - 1)=(pre.length:Int):=abk (n:=pre.length) (by simp) (by omega);rw [e1,alC pre d [] _ rfl];simp
def fdL (fr:ByteArray):List aac→Nat→Option Int
 | [],_=>some (-1)
 | .mk nm _ _ _ _ _ :: l,i=>cond (seq nm fr) (some (i:Int)) (fdL fr l (i + 1))
theorem aip (k:Nat) (s0:Int) (s1:ByteArray) (s2:Int) (fr:ByteArray) (s4 s5:Int) (s6:List aam) (s7 s8 s9:List aaf) (s10:List aaz) : ∀ (l:List aac) (i:Nat),
  acp k s0 s1 s2 fr s4 s5 s6 s7 s8 s9 s10 l i=fdL fr l i
 | [],i=>rfl
 | .mk e0 e1 e2 e3 e4 e5 :: l,i=>by
  unfold acp fdL akU afa;simp only [Option.bind_some];rw [aip k s0 s1 s2 fr s4 s5 s6 s7 s8 s9 s10 l (i + 1)]
theorem anf (op:Int) (fr:ByteArray) (na:Nat) : ∀ (l:List aac) (pre:List aac),∃ r,fdL fr l pre.length=some r ∧
  ((r=-1∧uCall op fr na l pre.length=.error 20)∨(∃ (j:Nat) (g0:ByteArray) (g1:List aaL) (g2:Int) (g3:Bool) (g4:Int) (g5:List aaf),r=(j:Int)∧(pre ++ l)[j]?=some (.mk g0 g1 g2 g3 g4 g5) ∧
   uCall op fr na l pre.length=cond (g3 == (op == 28)) (cond ((g1.length:Int) == (na:Int)) (.ok (j:Int)) (.error 24)) (.error 25)))
 | [],pre=>⟨-1,rfl,.inl ⟨rfl,rfl⟩⟩
 | .mk g0 g1 g2 g3 g4 g5 :: l,pre=>by
  unfold fdL uCall;cases h:seq g0 fr with
  | true=>exact ⟨_,rfl,.inr ⟨pre.length,g0,g1,g2,g3,g4,g5,rfl,by simp,rfl⟩⟩
  | false =>
   obtain ⟨r,h1,h2⟩:=anf op fr na l (pre ++ [.mk g0 g1 g2 g3 g4 g5]);rw [abi] at h1 h2;rw [List.append_assoc,List.singleton_append] at h2;exact ⟨r,h1,h2⟩
theorem avD (k:Nat) (p:List aac) (f:aac) (nm:List ByteArray) (sc:List (List (ByteArray × Int))) (lo:Int) (op:Int) (name:ByteArray) (s2:Int) (fr:ByteArray) (s4 flag:Int) (l6:List aam) (l7 l8 l9:List aaf) (l10:List aaz) :
  f163 k (.mk (.mk p) f nm sc lo) (.mk op name s2 fr s4 flag l6 l7 l8 l9 l10)=some (match uCall op fr l6.length p 0 with | .error c=>.error c | .ok ix=>.ok (.mk (.mk p) f nm sc lo,.mk op name s2 fr ix flag l6 l7 l8 l9 l10)):=by
 obtain ⟨f0,f1,f2,f3,f4,f5⟩:=f;unfold f163 aos ake afc;simp only;rw [aip];obtain ⟨r,h1,h2⟩:=anf op fr l6.length p [];simp only [List.length_nil,List.nil_append] at h1 h2;rw [h1];simp only [Option.bind_some,aec];rcases h2 with ⟨rfl,h2⟩ | ⟨j,g0,g1,g2,g3,g4,g5,rfl,h3,h2⟩
 ·rw [h2]; rfl
 ·rw [h2];have:idxO p (j:Int)=some (.mk g0 g1 g2 g3 g4 g5):=by unfold idxO; rw [if_pos (by omega)]; simpa using h3
  have hj:decide ((j:Int) ≥ 0)=true:=by simp
  rw [this,hj];simp only [cond_true,Option.bind_some];cases (g3 == (op == 28)) <;> cases ((g1.length:Int) == (l6.length:Int)) <;> rfl
end Go.Proofs.YtphdlngnegjgcaaGreatDoor
namespace Go.Proofs.YtphdlngnegjgcaaGreatDoor
open Go
abbrev Sc:=List (List (ByteArray × Int))
def NN {α:Type} (r:Option (Ex (aad × α))) (p:List aac) (f:aac) (lo:Nat) (pre:Sc) (nm:List ByteArray) (u:Ex (List ByteArray × List Nat × α)) (n:Nat):Prop :=
 match u with
 | .error c=>r=some (.error c)
 | .ok (nm',vis',y)=>∃ d',r=some (.ok (.mk (.mk p) f nm' (pre ++ [d']) lo,y))∧Rel (pre ++ [d']) vis' nm'∧nm <+: nm'∧nm'.length≤nm.length + n
def NB {α β:Type} (r:Option (Ex (aad × β))) (p:List aac) (f:aac) (lo:Nat) (sc:Sc) (nm:List ByteArray) (u:Ex (List ByteArray × List Nat × α)) (g:α→β) (n:Nat):Prop :=
 match u with
 | .error c=>r=some (.error c)
 | .ok (nm',_,y)=>r=some (.ok (.mk (.mk p) f nm' sc lo,g y))∧nm <+: nm'∧nm'.length≤nm.length + n
theorem ahB (k:Nat) (p:List aac) (f:aac) {nm:List ByteArray} {pre:Sc} {d:List (ByteArray × Int)} (lo:Nat) {vis:List Nat} (R:Rel (pre ++ [d]) vis nm) (a:ByteArray) (hb:nm.length≤1000000) (hp:pre.length≤1000000) :
  NN (f133 k (.mk (.mk p) f nm (pre ++ [d]) lo) a) p f lo pre nm (uMk nm vis a) 1:=by
 rw [auW k p f lo R a hb hp];unfold uMk NN;cases hs:abh nm vis a with
 | some v=>rfl
 | none=>exact ⟨_,rfl,R.make hs,⟨[a],rfl⟩,by simp⟩
theorem amW (lo:Nat):decide ((lo:Int) > 0)=decide (lo > 0):=by rw [decide_eq_decide]; omega
theorem aiI {α:Type} (sc:Sc) (d:List (ByteArray × Int)) (h:sc.length≤1000000) (x:Option α):aaP (decide (0≤(w64 (((sc ++ [d]).length:Int) - 1))∧(w64 (((sc ++ [d]).length:Int) - 1))≤((sc ++ [d]).length:Int))) x=x:=by
 have e1:w64 (((sc ++ [d]).length:Int) - 1)=(sc.length:Int):=abk (n:=sc.length) (by simp) (by omega);rw [e1];have:(0≤(sc.length:Int)∧(sc.length:Int)≤((sc ++ [d]).length:Int)):=⟨by omega,by simp; omega⟩;rw [decide_eq_true this]; rfl
theorem akP (sc:Sc) (d:List (ByteArray × Int)) (h:sc.length≤1000000):(sc ++ [d]).take (w64 (((sc ++ [d]).length:Int) - 1)).toNat=sc:=by
 have e1:w64 (((sc ++ [d]).length:Int) - 1)=(sc.length:Int):=abk (n:=sc.length) (by simp) (by omega);rw [e1]; simp
theorem nR (k:Nat) (p:List aac) (f0:ByteArray) (f1:List aaL) (f2:Int) (f3:Bool) (f4:Int) (f5:List aaf) : ∀ m,m≤k →
  (∀ s,4 * szS s≤m→∀ (nm:List ByteArray) (vis:List Nat) (pre:Sc) (d:List (ByteArray × Int)) (lo:Nat),nm.length + szS s≤100000→pre.length + szS s≤100000→lo + szS s≤100000→Rel (pre ++ [d]) vis nm →
   NN ((aa0 k m).f134 (.mk (.mk p) (.mk f0 f1 f2 f3 f4 f5) nm (pre ++ [d]) lo) s) p (.mk f0 f1 f2 f3 f4 f5) lo pre nm (uS p f2 f3 lo nm vis s) (szS s)) ∧
  (∀ l,4 * szSs l + 1≤m→∀ (nm:List ByteArray) (vis:List Nat) (sc:Sc) (lo:Nat),nm.length + szSs l≤100000→sc.length + szSs l≤100000→lo + szSs l≤100000→Rel sc vis nm →
   NB ((aa0 k m).f1016266 (.mk (.mk p) (.mk f0 f1 f2 f3 f4 f5) nm sc lo) ⟨#[]⟩ l) p (.mk f0 f1 f2 f3 f4 f5) lo sc nm (uB p f2 f3 lo nm vis l) id (szSs l)) ∧
  (∀ l,4 * szSs l + 1≤m→∀ (name:ByteArray) (s0:Int) (s1:ByteArray) (s2:Int) (s3:ByteArray) (s4 s5:Int) (s6:List aam) (s7 s8 s9:List aaf) (s10:List aaz) (nm:List ByteArray) (vis:List Nat) (sc:Sc) (lo:Nat),nm.length + szSs l + 1≤100000→sc.length + szSs l≤100000→lo + szSs l≤100000→Rel sc vis nm →
   NB ((aa0 k m).f1016220 (.mk (.mk p) (.mk f0 f1 f2 f3 f4 f5) nm sc lo) name l (.mk s0 s1 s2 s3 s4 s5 s6 s7 s8 s9 s10)) p (.mk f0 f1 f2 f3 f4 f5) lo sc nm (uI p f2 f3 lo nm vis name s2 l) (fun vb=>(aaf.mk s0 s1 vb.1 s3 s4 s5 s6 s7 s8 s9 s10,vb.2)) (szSs l + 1)) ∧
  (∀ l,4 * szSs l + 1≤m→∀ (name:ByteArray) (s0:Int) (s1:ByteArray) (s2:Int) (s3:List aam) (s4:List aaf) (nm:List ByteArray) (vis:List Nat) (sc:Sc) (lo:Nat),nm.length + szSs l + 1≤100000→sc.length + szSs l≤100000→lo + szSs l≤100000→Rel sc vis nm →
   NB ((aa0 k m).f1016212 (.mk (.mk p) (.mk f0 f1 f2 f3 f4 f5) nm sc lo) name l (.mk s0 s1 s2 s3 s4)) p (.mk f0 f1 f2 f3 f4 f5) lo sc nm (uI p f2 f3 lo nm vis name s2 l) (fun vb=>(aaz.mk s0 s1 vb.1 s3 s4,vb.2)) (szSs l + 1)) ∧
  (∀ l,4 * szSs l + 2≤m→∀ (nm:List ByteArray) (vis:List Nat) (sc:Sc) (lo:Nat),nm.length + szSs l≤100000→sc.length + szSs l≤100000→lo + szSs l + 1≤100000→Rel sc vis nm →
   NB ((aa0 k m).f1016466 (.mk (.mk p) (.mk f0 f1 f2 f3 f4 f5) nm sc lo) ⟨#[]⟩ l) p (.mk f0 f1 f2 f3 f4 f5) lo sc nm (uB p f2 f3 (lo + 1) nm vis l) id (szSs l)) ∧
  (∀ l,4 * szSs l + 2≤m→∀ (name:ByteArray) (s0:Int) (s1:ByteArray) (s2:Int) (s3:ByteArray) (s4 s5:Int) (s6:List aam) (s7 s8 s9:List aaf) (s10:List aaz) (nm:List ByteArray) (vis:List Nat) (sc:Sc) (lo:Nat),nm.length + szSs l + 1≤100000→sc.length + szSs l≤100000→lo + szSs l + 1≤100000→Rel sc vis nm →
   NB ((aa0 k m).f1016420 (.mk (.mk p) (.mk f0 f1 f2 f3 f4 f5) nm sc lo) name l (.mk s0 s1 s2 s3 s4 s5 s6 s7 s8 s9 s10)) p (.mk f0 f1 f2 f3 f4 f5) lo sc nm (uI p f2 f3 (lo + 1) nm vis name s2 l) (fun vb=>(aaf.mk s0 s1 vb.1 s3 s4 s5 s6 s7 s8 s9 s10,vb.2)) (szSs l + 1))
 | 0,_=>⟨fun e he=>by have:=acl e; omega,fun l hl=>by omega,fun l hl=>by omega,fun l hl=>by omega,fun l hl=>by omega,fun l hl=>by omega⟩
 | m + 1,hmk=>by
  obtain ⟨ihs,ihb,ihi,ihc,ihlb,ihli⟩:=nR k p f0 f1 f2 f3 f4 f5 m (by omega);have loopB : ∀ (l:List aaf) (i:Nat) (xs:List aaf) (nm:List ByteArray) (vis:List Nat) (sc:Sc) (d:List (ByteArray × Int)) (lo:Nat),4 * szSs l≤m→xs.length + szSs l≤100000→nm.length + szSs l≤100000→sc.length + szSs l≤100000→lo + szSs l≤100000→Rel (sc ++ [d]) vis nm →
    NB (abY k (aa0 k m) l i p f0 f1 f2 f3 f4 f5 nm (sc ++ [d]) lo xs) p (.mk f0 f1 f2 f3 f4 f5) lo sc nm (uSs p f2 f3 lo nm vis l) (fun l'=>xs ++ l') (szSs l):=by
   intro l;induction l with
   | nil =>
    intro i xs nm vis sc d lo _ _ _ hsc _ R;unfold abY;rw [aiI sc d (by omega),akP sc d (by omega),uSs];exact ⟨by simp,List.prefix_refl _,by simp⟩
   | cons s l ih =>
    intro i xs nm vis sc d lo hm hxs hnm hsc hlo R;obtain ⟨e0,e1,e2,e3,e4,e5,e6,e7,e8,e9,e10⟩:=s;simp only [szSs] at hm hxs hnm hsc hlo;have hp:=acl (.mk e0 e1 e2 e3 e4 e5 e6 e7 e8 e9 e10);unfold abY;rw [uSs];have h:=ihs (.mk e0 e1 e2 e3 e4 e5 e6 e7 e8 e9 e10) (by omega) nm vis sc d lo (by omega) (by omega) (by omega) R;revert h;cases uS p f2 f3 lo nm vis (.mk e0 e1 e2 e3 e4 e5 e6 e7 e8 e9 e10) with
    | error c=>intro h; simp only [NN] at h; rw [h]; rfl
    | ok x =>
     obtain ⟨nm1,vis1,s'⟩:=x;rintro ⟨d1,h,R1,hp1,hl1⟩;rw [h];obtain ⟨r0,r1,r2,r3,r4,r5,r6,r7,r8,r9,r10⟩:=s';simp only [Option.bind_some,eb3];rw [aaQ (by unfold maxB; omega)];have h2:=ih (i + 1) (xs ++ [.mk r0 r1 r2 r3 r4 r5 r6 r7 r8 r9 r10]) nm1 vis1 sc d1 lo (by omega) (by rw [abi]; omega) (by omega) (by omega) (by omega) R1;revert h2;cases uSs p f2 f3 lo nm1 vis1 l with
     | error c=>intro h2; exact h2
     | ok x =>
      obtain ⟨nm2,vis2,l'⟩:=x;rintro ⟨h3,hp2,hl2⟩;refine ⟨by rw [h3]; simp,hp1.trans hp2,by simp only [szSs]; omega⟩
  have loopS : ∀ (s0:Int) (s1:ByteArray) (s3:ByteArray) (s4 s5:Int) (s6:List aam) (s7 s8 s9:List aaf) (s10:List aaz) (v:Int) (l:List aaf) (i:Nat) (xs:List aaf) (nm:List ByteArray) (vis:List Nat) (sc:Sc) (d:List (ByteArray × Int)) (lo:Nat),4 * szSs l≤m→xs.length + szSs l≤100000→nm.length + szSs l≤100000→sc.length + szSs l≤100000→lo + szSs l≤100000→Rel (sc ++ [d]) vis nm →
    NB (ab5 k (aa0 k m) s0 s1 s3 s4 s5 s6 s7 s8 s9 s10 v l i p f0 f1 f2 f3 f4 f5 nm (sc ++ [d]) lo xs) p (.mk f0 f1 f2 f3 f4 f5) lo sc nm (uSs p f2 f3 lo nm vis l) (fun l'=>(aaf.mk s0 s1 v s3 s4 s5 s6 s7 s8 s9 s10,xs ++ l')) (szSs l):=by
   intro s0 s1 s3 s4 s5 s6 s7 s8 s9 s10 v l;induction l with
   | nil =>
    intro i xs nm vis sc d lo _ _ _ hsc _ R;unfold ab5;rw [aiI sc d (by omega),akP sc d (by omega),uSs];exact ⟨by simp,List.prefix_refl _,by simp⟩
   | cons s l ih =>
    intro i xs nm vis sc d lo hm hxs hnm hsc hlo R;obtain ⟨e0,e1,e2,e3,e4,e5,e6,e7,e8,e9,e10⟩:=s;simp only [szSs] at hm hxs hnm hsc hlo;have hp:=acl (.mk e0 e1 e2 e3 e4 e5 e6 e7 e8 e9 e10);unfold ab5;rw [uSs];have h:=ihs (.mk e0 e1 e2 e3 e4 e5 e6 e7 e8 e9 e10) (by omega) nm vis sc d lo (by omega) (by omega) (by omega) R;revert h;cases uS p f2 f3 lo nm vis (.mk e0 e1 e2 e3 e4 e5 e6 e7 e8 e9 e10) with
    | error c=>intro h; simp only [NN] at h; rw [h]; rfl
    | ok x =>
     obtain ⟨nm1,vis1,s'⟩:=x;rintro ⟨d1,h,R1,hp1,hl1⟩;rw [h];obtain ⟨r0,r1,r2,r3,r4,r5,r6,r7,r8,r9,r10⟩:=s';simp only [Option.bind_some,eb3];rw [aaQ (by unfold maxB; omega)];have h2:=ih (i + 1) (xs ++ [.mk r0 r1 r2 r3 r4 r5 r6 r7 r8 r9 r10]) nm1 vis1 sc d1 lo (by omega) (by rw [abi]; omega) (by omega) (by omega) (by omega) R1;revert h2;cases uSs p f2 f3 lo nm1 vis1 l with
     | error c=>intro h2; exact h2
     | ok x =>
      obtain ⟨nm2,vis2,l'⟩:=x;rintro ⟨h3,hp2,hl2⟩;refine ⟨by rw [h3]; simp,hp1.trans hp2,by simp only [szSs]; omega⟩
  have loopC : ∀ (s0:Int) (s1:ByteArray) (s3:List aam) (s4:List aaf) (v:Int) (l:List aaf) (i:Nat) (xs:List aaf) (nm:List ByteArray) (vis:List Nat) (sc:Sc) (d:List (ByteArray × Int)) (lo:Nat),4 * szSs l≤m→xs.length + szSs l≤100000→nm.length + szSs l≤100000→sc.length + szSs l≤100000→lo + szSs l≤100000→Rel (sc ++ [d]) vis nm →
    NB (aca k (aa0 k m) s0 s1 s3 s4 v l i p f0 f1 f2 f3 f4 f5 nm (sc ++ [d]) lo xs) p (.mk f0 f1 f2 f3 f4 f5) lo sc nm (uSs p f2 f3 lo nm vis l) (fun l'=>(aaz.mk s0 s1 v s3 s4,xs ++ l')) (szSs l):=by
   intro s0 s1 s3 s4 v l;induction l with
   | nil =>
    intro i xs nm vis sc d lo _ _ _ hsc _ R;unfold aca;rw [aiI sc d (by omega),akP sc d (by omega),uSs];exact ⟨by simp,List.prefix_refl _,by simp⟩
   | cons s l ih =>
    intro i xs nm vis sc d lo hm hxs hnm hsc hlo R;obtain ⟨e0,e1,e2,e3,e4,e5,e6,e7,e8,e9,e10⟩:=s;simp only [szSs] at hm hxs hnm hsc hlo;have hp:=acl (.mk e0 e1 e2 e3 e4 e5 e6 e7 e8 e9 e10);unfold aca;rw [uSs];have h:=ihs (.mk e0 e1 e2 e3 e4 e5 e6 e7 e8 e9 e10) (by omega) nm vis sc d lo (by omega) (by omega) (by omega) R;revert h;cases uS p f2 f3 lo nm vis (.mk e0 e1 e2 e3 e4 e5 e6 e7 e8 e9 e10) with
    | error c=>intro h; simp only [NN] at h; rw [h]; rfl
    | ok x =>
     obtain ⟨nm1,vis1,s'⟩:=x;rintro ⟨d1,h,R1,hp1,hl1⟩;rw [h];obtain ⟨r0,r1,r2,r3,r4,r5,r6,r7,r8,r9,r10⟩:=s';simp only [Option.bind_some,eb3];rw [aaQ (by unfold maxB; omega)];have h2:=ih (i + 1) (xs ++ [.mk r0 r1 r2 r3 r4 r5 r6 r7 r8 r9 r10]) nm1 vis1 sc d1 lo (by omega) (by rw [abi]; omega) (by omega) (by omega) (by omega) R1;revert h2;cases uSs p f2 f3 lo nm1 vis1 l with
     | error c=>intro h2; exact h2
     | ok x =>
      obtain ⟨nm2,vis2,l'⟩:=x;rintro ⟨h3,hp2,hl2⟩;refine ⟨by rw [h3]; simp,hp1.trans hp2,by simp only [szSs]; omega⟩
  have loopK : ∀ (s0:Int) (s1:ByteArray) (s2:Int) (s3:ByteArray) (s4 s5:Int) (s7 s8 s9:List aaf) (r:List aam) (l:List aaz) (i:Nat) (xs:List aaz) (nm:List ByteArray) (vis:List Nat) (pre:Sc) (d:List (ByteArray × Int)) (lo:Nat),4 * szCs l≤m + 1→xs.length + szCs l≤100000→nm.length + szCs l≤100000→pre.length + szCs l≤100000→lo + szCs l≤100000→Rel (pre ++ [d]) vis nm →
    NB (aeN k (aa0 k m) s0 s1 s2 s3 s4 s5 s7 s8 s9 r l i p f0 f1 f2 f3 f4 f5 nm (pre ++ [d]) lo xs) p (.mk f0 f1 f2 f3 f4 f5) lo (pre ++ [d]) nm (uCs p f2 f3 lo nm vis l) (fun l'=>aaf.mk s0 s1 s2 s3 s4 s5 r s7 s8 s9 (xs ++ l')) (szCs l):=by
   intro s0 s1 s2 s3 s4 s5 s7 s8 s9 r l;induction l with
   | nil =>
    intro i xs nm vis pre d lo _ _ _ hsc _ R;unfold aeN;rw [uCs];exact ⟨by simp,List.prefix_refl _,by simp⟩
   | cons c l ih =>
    intro i xs nm vis pre d lo hm hxs hnm hsc hlo R;obtain ⟨e0,e1,e2,e3,e4⟩:=c;simp only [szCs,szC] at hm hxs hnm hsc hlo;unfold aeN;rw [uCs,uC];rw [aro k p (.mk f0 f1 f2 f3 f4 f5) lo R e3 (by omega) (by omega)];cases uEs nm vis e3 with
    | error c=>exact rfl
    | ok r3 =>
     simp only [Option.bind_some,eb];have h:=ihc e4 (by omega) e1 e0 e1 e2 r3 e4 nm vis (pre ++ [d]) lo (by omega) (by simp; omega) (by omega) R;revert h;cases uI p f2 f3 lo nm vis e1 e2 e4 with
     | error c=>intro h; simp only [NB] at h; rw [h]; exact rfl
     | ok x =>
      obtain ⟨nm1,vis1,v,b⟩:=x;rintro ⟨h,hp1,hl1⟩;rw [h];simp only [Option.bind_some,eb3];rw [aaQ (by unfold maxB; omega)];have h2:=ih (i + 1) (xs ++ [.mk e0 e1 v r3 b]) nm1 vis pre d lo (by omega) (by rw [abi]; omega) (by omega) (by omega) (by omega) (R.ext hp1);revert h2;cases uCs p f2 f3 lo nm1 vis l with
      | error c=>intro h2; exact h2
      | ok x =>
       obtain ⟨nm2,vis2,l'⟩:=x;rintro ⟨h3,hp2,hl2⟩;refine ⟨by rw [h3]; simp,hp1.trans hp2,by simp only [szCs,szC]; omega⟩
  refine ⟨?_,?_,?_,?_,?_,?_⟩
  ·intro s hs nm vis pre d lo hnm hpre hlo R;obtain ⟨op,name,s2,fr,s4,flag,l6,l7,l8,l9,l10⟩:=s;simp only [szS] at hs hnm hpre hlo;show NN (al4 k (aa0 k m) (.mk (.mk p) (.mk f0 f1 f2 f3 f4 f5) nm (pre ++ [d]) lo) (.mk op name s2 fr s4 flag l6 l7 l8 l9 l10)) p _ lo pre nm _ _;rw [uS];unfold al4;simp only;rw [aro k p (.mk f0 f1 f2 f3 f4 f5) lo R l6 (by omega) (by omega)];cases uEs nm vis l6 with
   | error c=>exact rfl
   | ok r6 =>
    simp only [Option.bind_some,eb];have stay : ∀ y:aaf,NN (some (.ok (aad.mk (aaa.mk p) (.mk f0 f1 f2 f3 f4 f5) nm (pre ++ [d]) lo,y))) p (.mk f0 f1 f2 f3 f4 f5) lo pre nm (.ok (nm,vis,y)) (szS (.mk op name s2 fr s4 flag l6 l7 l8 l9 l10)) :=
     fun y=>⟨d,rfl,R,List.prefix_refl _,by omega⟩
    cases h27:(op == 27) with
    | true =>
     simp only [cond_true];have h:=loopK op name s2 fr s4 flag l7 l8 l9 r6 l10 0 [] nm vis pre d lo (by omega) (by simp; omega) (by omega) (by omega) (by omega) R;revert h;cases uCs p f2 f3 lo nm vis l10 with
     | error c=>intro h; exact h
     | ok x =>
      obtain ⟨nm1,vis1,cs⟩:=x;rintro ⟨h,hp1,hl1⟩;exact ⟨d,by rw [h]; simp,R.ext hp1,hp1,by simp only [szS]; omega⟩
    | false =>
     simp only [cond_false];have tail : ∀ ix:Int,NN (ag1 k (aa0 k m) p f0 f1 f2 f3 f4 f5 nm (pre ++ [d]) lo op name s2 fr ix flag r6 l7 l8 l9 l10) p (.mk f0 f1 f2 f3 f4 f5) lo pre nm
       (cond (op == 2) (match abh nm vis name with | none=>.error 20 | some v=>.ok (nm,vis,.mk op name (v:Int) fr ix flag r6 l7 l8 l9 l10))
       (cond (op == 18 || op == 19) (uD (decide (lo > 0)) 22 (.ok (nm,vis,.mk op name s2 fr ix flag r6 l7 l8 l9 l10)))
       (cond (op == 29) (uD f3 22 (.ok (nm,vis,.mk op name s2 fr ix flag r6 l7 l8 l9 l10)))
       (cond (op == 17) (uD ((decide (r6.length > 0)) == (f2 != 0)) 22 (.ok (nm,vis,.mk op name s2 fr ix flag r6 l7 l8 l9 l10)))
       (cond (op == 21) (eb3 (uB p f2 f3 (lo + 1) nm vis l7) fun nm1 _ b=>.ok (nm1,vis,.mk op name s2 fr ix flag r6 b l8 l9 l10))
       (cond (op == 28) (eb3 (uI p f2 f3 (lo + 1) nm vis name s2 l7) fun nm1 _ vb=>.ok (nm1,vis,.mk op name vb.1 fr ix flag r6 vb.2 l8 l9 l10))
       (cond (op == 25) (eb3 (uI p f2 f3 lo nm vis name s2 l7) fun nm1 _ vb=>.ok (nm1,vis,.mk op name vb.1 fr ix flag r6 vb.2 l8 l9 l10))
       (cond (op == 24) (eb3 (uB p f2 f3 lo nm vis l7) fun nm1 _ b7=>eb3 (uI p f2 f3 lo nm1 vis name s2 l8) fun nm2 _ vb=>eb3 (uB p f2 f3 lo nm2 vis l9) fun nm3 _ b9=>.ok (nm3,vis,.mk op name vb.1 fr ix flag r6 b7 vb.2 b9 l10))
       (cond (op == 20 || op == 22 || op == 23 || op == 26) (eb3 (uB p f2 f3 lo nm vis l7) fun nm1 _ b7=>eb3 (uB p f2 f3 lo nm1 vis l8) fun nm2 _ b8=>.ok (nm2,vis,.mk op name s2 fr ix flag r6 b7 b8 l9 l10))
        (eb3 (cond (seq name ⟨#[]⟩) (.ok (nm,vis,s2)) (uMk nm vis name)) fun nm1 vis1 v=>uD (op != 6 || flag == 0 || decide (lo > 0)) 22 (.ok (nm1,vis1,.mk op name v fr ix flag r6 l7 l8 l9 l10)))))))))))) (szS (.mk op name s2 fr s4 flag l6 l7 l8 l9 l10)):=by
      intro ix;unfold ag1;cases h2:(op == 2) with
      | true =>
       simp only [cond_true];rw [R.f160];cases abh nm vis name with
       | none=>simp only [Option.bind_some,aec]; exact rfl
       | some v=>simp only [Option.bind_some,aec,cond_true]; exact stay _
      | false =>
       simp only [cond_false];have tail2 : ∀ q,q=(op == 18 || op == 19)→NN (ag8 k (aa0 k m) p f0 f1 f2 f3 f4 f5 nm (pre ++ [d]) lo op name s2 fr ix flag r6 l7 l8 l9 l10 q) p (.mk f0 f1 f2 f3 f4 f5) lo pre nm
         (cond (op == 18 || op == 19) (uD (decide (lo > 0)) 22 (.ok (nm,vis,.mk op name s2 fr ix flag r6 l7 l8 l9 l10)))
         (cond (op == 29) (uD f3 22 (.ok (nm,vis,.mk op name s2 fr ix flag r6 l7 l8 l9 l10)))
         (cond (op == 17) (uD ((decide (r6.length > 0)) == (f2 != 0)) 22 (.ok (nm,vis,.mk op name s2 fr ix flag r6 l7 l8 l9 l10)))
         (cond (op == 21) (eb3 (uB p f2 f3 (lo + 1) nm vis l7) fun nm1 _ b=>.ok (nm1,vis,.mk op name s2 fr ix flag r6 b l8 l9 l10))
         (cond (op == 28) (eb3 (uI p f2 f3 (lo + 1) nm vis name s2 l7) fun nm1 _ vb=>.ok (nm1,vis,.mk op name vb.1 fr ix flag r6 vb.2 l8 l9 l10))
         (cond (op == 25) (eb3 (uI p f2 f3 lo nm vis name s2 l7) fun nm1 _ vb=>.ok (nm1,vis,.mk op name vb.1 fr ix flag r6 vb.2 l8 l9 l10))
         (cond (op == 24) (eb3 (uB p f2 f3 lo nm vis l7) fun nm1 _ b7=>eb3 (uI p f2 f3 lo nm1 vis name s2 l8) fun nm2 _ vb=>eb3 (uB p f2 f3 lo nm2 vis l9) fun nm3 _ b9=>.ok (nm3,vis,.mk op name vb.1 fr ix flag r6 b7 vb.2 b9 l10))
         (cond (op == 20 || op == 22 || op == 23 || op == 26) (eb3 (uB p f2 f3 lo nm vis l7) fun nm1 _ b7=>eb3 (uB p f2 f3 lo nm1 vis l8) fun nm2 _ b8=>.ok (nm2,vis,.mk op name s2 fr ix flag r6 b7 b8 l9 l10))
          (eb3 (cond (seq name ⟨#[]⟩) (.ok (nm,vis,s2)) (uMk nm vis name)) fun nm1 vis1 v=>uD (op != 6 || flag == 0 || decide (lo > 0)) 22 (.ok (nm1,vis1,.mk op name v fr ix flag r6 l7 l8 l9 l10))))))))))) (szS (.mk op name s2 fr s4 flag l6 l7 l8 l9 l10)):=by
        rintro _ rfl;unfold ag8;cases (op == 18 || op == 19) with
        | true =>
         simp only [cond_true,aec,Option.bind_some,amW,uD];cases decide (lo > 0)
         ·exact rfl
         ·exact stay _
        | false =>
        simp only [cond_false];cases (op == 29) with
        | true =>
         simp only [cond_true,aec,Option.bind_some,uD];cases f3
         ·exact rfl
         ·exact stay _
        | false =>
        simp only [cond_false];cases (op == 17) with
        | true =>
         simp only [cond_true,aec,Option.bind_some,uD,amW];cases (decide (r6.length > 0) == (f2 != 0))
         ·exact rfl
         ·exact stay _
        | false =>
        simp only [cond_false];cases (op == 21) with
        | true =>
         simp only [cond_true];have h:=ihlb l7 (by omega) nm vis (pre ++ [d]) lo (by omega) (by simp; omega) (by omega) R;revert h;cases uB p f2 f3 (lo + 1) nm vis l7 with
         | error c=>intro h; simp only [NB] at h; rw [h]; exact rfl
         | ok x =>
          obtain ⟨nm1,vis1,b⟩:=x;rintro ⟨h,hp1,hl1⟩;rw [h];exact ⟨d,rfl,R.ext hp1,hp1,by simp only [szS]; omega⟩
        | false =>
        simp only [cond_false];cases (op == 28) with
        | true =>
         simp only [cond_true];have h:=ihli l7 (by omega) name op name s2 fr ix flag r6 l7 l8 l9 l10 nm vis (pre ++ [d]) lo (by omega) (by simp; omega) (by omega) R;revert h;cases uI p f2 f3 (lo + 1) nm vis name s2 l7 with
         | error c=>intro h; simp only [NB] at h; rw [h]; exact rfl
         | ok x =>
          obtain ⟨nm1,vis1,v,b⟩:=x;rintro ⟨h,hp1,hl1⟩;rw [h];exact ⟨d,rfl,R.ext hp1,hp1,by simp only [szS]; omega⟩
        | false =>
        simp only [cond_false];cases (op == 25) with
        | true =>
         simp only [cond_true];have h:=ihi l7 (by omega) name op name s2 fr ix flag r6 l7 l8 l9 l10 nm vis (pre ++ [d]) lo (by omega) (by simp; omega) (by omega) R;revert h;cases uI p f2 f3 lo nm vis name s2 l7 with
         | error c=>intro h; simp only [NB] at h; rw [h]; exact rfl
         | ok x =>
          obtain ⟨nm1,vis1,v,b⟩:=x;rintro ⟨h,hp1,hl1⟩;rw [h];exact ⟨d,rfl,R.ext hp1,hp1,by simp only [szS]; omega⟩
        | false =>
        simp only [cond_false];cases (op == 24) with
        | true =>
         simp only [cond_true];have h:=ihb l7 (by omega) nm vis (pre ++ [d]) lo (by omega) (by simp; omega) (by omega) R;revert h;cases uB p f2 f3 lo nm vis l7 with
         | error c=>intro h; simp only [NB] at h; rw [h]; exact rfl
         | ok x =>
          obtain ⟨nm1,vis1,b⟩:=x;rintro ⟨h,hp1,hl1⟩;rw [h];simp only [Option.bind_some,eb3,id];have h:=ihi l8 (by omega) name op name s2 fr ix flag r6 b l8 l9 l10 nm1 vis (pre ++ [d]) lo (by omega) (by simp; omega) (by omega) (R.ext hp1);revert h;cases uI p f2 f3 lo nm1 vis name s2 l8 with
          | error c=>intro h; simp only [NB] at h; rw [h]; exact rfl
          | ok x =>
           obtain ⟨nm2,vis2,v,b8⟩:=x;rintro ⟨h,hp2,hl2⟩;rw [h];simp only [Option.bind_some];have h:=ihb l9 (by omega) nm2 vis (pre ++ [d]) lo (by omega) (by simp; omega) (by omega) ((R.ext hp1).ext hp2);revert h;cases uB p f2 f3 lo nm2 vis l9 with
           | error c=>intro h; simp only [NB] at h; rw [h]; exact rfl
           | ok x =>
            obtain ⟨nm3,vis3,b9⟩:=x;rintro ⟨h,hp3,hl3⟩;rw [h];exact ⟨d,rfl,((R.ext hp1).ext hp2).ext hp3,(hp1.trans hp2).trans hp3,by simp only [szS]; omega⟩
        | false =>
        simp only [cond_false];have tail3 : ∀ q,q=(op == 20 || op == 22 || op == 23 || op == 26)→NN (aeQ k (aa0 k m) p f0 f1 f2 f3 f4 f5 nm (pre ++ [d]) lo op name s2 fr ix flag r6 l7 l8 l9 l10 q) p (.mk f0 f1 f2 f3 f4 f5) lo pre nm
          (cond (op == 20 || op == 22 || op == 23 || op == 26) (eb3 (uB p f2 f3 lo nm vis l7) fun nm1 _ b7=>eb3 (uB p f2 f3 lo nm1 vis l8) fun nm2 _ b8=>.ok (nm2,vis,.mk op name s2 fr ix flag r6 b7 b8 l9 l10))
           (eb3 (cond (seq name ⟨#[]⟩) (.ok (nm,vis,s2)) (uMk nm vis name)) fun nm1 vis1 v=>uD (op != 6 || flag == 0 || decide (lo > 0)) 22 (.ok (nm1,vis1,.mk op name v fr ix flag r6 l7 l8 l9 l10)))) (szS (.mk op name s2 fr s4 flag l6 l7 l8 l9 l10)):=by
         rintro _ rfl;unfold aeQ;cases (op == 20 || op == 22 || op == 23 || op == 26) with
         | true =>
          simp only [cond_true];have h:=ihb l7 (by omega) nm vis (pre ++ [d]) lo (by omega) (by simp; omega) (by omega) R;revert h;cases uB p f2 f3 lo nm vis l7 with
          | error c=>intro h; simp only [NB] at h; rw [h]; exact rfl
          | ok x =>
           obtain ⟨nm1,vis1,b⟩:=x;rintro ⟨h,hp1,hl1⟩;rw [h];simp only [Option.bind_some,eb3,id];have h:=ihb l8 (by omega) nm1 vis (pre ++ [d]) lo (by omega) (by simp; omega) (by omega) (R.ext hp1);revert h;cases uB p f2 f3 lo nm1 vis l8 with
           | error c=>intro h; simp only [NB] at h; rw [h]; exact rfl
           | ok x =>
            obtain ⟨nm2,vis2,b8⟩:=x;rintro ⟨h,hp2,hl2⟩;rw [h];exact ⟨d,rfl,(R.ext hp1).ext hp2,hp1.trans hp2,by simp only [szS]; omega⟩
         | false =>
          simp only [cond_false];have fin : ∀ (nm1:List ByteArray) (vis1:List Nat) (d1:List (ByteArray × Int)) (v:Int),Rel (pre ++ [d1]) vis1 nm1→nm <+: nm1→nm1.length≤nm.length + 1 →
            NN (agC k (aa0 k m) op name fr ix flag r6 l7 l8 l9 l10 p f0 f1 f2 f3 f4 f5 nm1 (pre ++ [d1]) lo v) p (.mk f0 f1 f2 f3 f4 f5) lo pre nm
             (uD (op != 6 || flag == 0 || decide (lo > 0)) 22 (.ok (nm1,vis1,.mk op name v fr ix flag r6 l7 l8 l9 l10))) (szS (.mk op name s2 fr s4 flag l6 l7 l8 l9 l10)):=by
           intro nm1 vis1 d1 v R1 hp1 hl1;unfold agC;simp only [aec,Option.bind_some,amW,uD,cond_true];cases (op != 6) <;> cases (flag == 0) <;> cases decide (lo > 0) <;> first | exact rfl | exact ⟨d1,rfl,R1,hp1,by simp only [szS]; omega⟩
          cases seq name ⟨#[]⟩ with
          | true =>
           simp only [Bool.not_true,cond_false,cond_true,eb3];exact fin nm vis d s2 R (List.prefix_refl _) (by omega)
          | false =>
           simp only [Bool.not_false,cond_true,cond_false];have h:=ahB k p (.mk f0 f1 f2 f3 f4 f5) lo R name (by omega) (by omega);revert h;cases uMk nm vis name with
           | error c=>intro h; simp only [NN] at h; rw [h]; exact rfl
           | ok x =>
            obtain ⟨nm1,vis1,v⟩:=x;rintro ⟨d1,h,R1,hp1,hl1⟩;rw [h];exact fin nm1 vis1 d1 v R1 hp1 hl1
        cases h20:(op == 20) <;> cases h22:(op == 22) <;> cases h23:(op == 23) <;> (have h:=tail3 _ rfl; simp only [h20,h22,h23,Bool.true_or,Bool.or_true,Bool.false_or,cond_true,cond_false] at h ⊢; exact h)
       cases h18:(op == 18) with
       | true=>simp only [cond_true,Bool.true_or]; have h:=tail2 true (by simp [h18]); simpa only [h18,Bool.true_or,cond_true] using h
       | false=>simp only [cond_false,Bool.false_or]; have h:=tail2 (op == 19) (by simp [h18]); simpa only [h18,Bool.false_or] using h
     cases hfr:seq fr ⟨#[]⟩ with
     | true =>
      simp only [Bool.not_true,cond_false,cond_true];exact tail s4
     | false =>
      simp only [Bool.not_false,cond_true,cond_false];rw [avD];cases uCall op fr r6.length p 0 with
      | error c=>exact rfl
      | ok ix=>exact tail ix
  ·intro l hl nm vis sc lo hnm hsc hlo R;show NB (ad8 k (aa0 k m) (.mk (.mk p) (.mk f0 f1 f2 f3 f4 f5) nm sc lo) ⟨#[]⟩ l) _ _ _ _ _ _ _ _;rw [amz];unfold ad8;simp only;rw [aaQ (by unfold maxB; omega)];have hs:seq ⟨#[]⟩ ⟨#[]⟩=true:=aoU _;rw [hs];simp only [Bool.not_true,cond_false];have h:=loopB l 0 [] nm vis sc [] lo (by omega) (by simp; omega) (by omega) (by omega) (by omega) R.push;revert h;cases uSs p f2 f3 lo nm vis l with
   | error c=>intro h; exact h
   | ok x =>
    obtain ⟨nm1,vis1,l'⟩:=x;rintro ⟨h,hp1,hl1⟩;exact ⟨by rw [h]; simp,hp1,by omega⟩
  ·intro l hl name s0 s1 s2 s3 s4 s5 s6 s7 s8 s9 s10 nm vis sc lo hnm hsc hlo R;show NB (adT k (aa0 k m) (.mk (.mk p) (.mk f0 f1 f2 f3 f4 f5) nm sc lo) name l (.mk s0 s1 s2 s3 s4 s5 s6 s7 s8 s9 s10)) _ _ _ _ _ _ _ _;rw [ajm];unfold adT adt;simp only;rw [aaQ (by unfold maxB; omega)];cases hn:seq name ⟨#[]⟩ with
   | true =>
    simp only [Bool.not_true,cond_false,cond_true,eb3];have h:=loopS s0 s1 s3 s4 s5 s6 s7 s8 s9 s10 s2 l 0 [] nm vis sc [] lo (by omega) (by simp; omega) (by omega) (by omega) (by omega) R.push;revert h;cases uSs p f2 f3 lo nm vis l with
    | error c=>intro h; exact h
    | ok x =>
     obtain ⟨nm1,vis1,l'⟩:=x;rintro ⟨h,hp1,hl1⟩;exact ⟨by rw [h]; simp,hp1,by omega⟩
   | false =>
    simp only [Bool.not_false,cond_true,cond_false];have h:=ahB k p (.mk f0 f1 f2 f3 f4 f5) lo R.push name (by omega) (by omega);revert h;cases hu:uMk nm vis name with
    | error c=>intro h; simp only [NN] at h; rw [h]; rfl
    | ok x =>
     obtain ⟨nm1,vis1,v⟩:=x;rintro ⟨d1,h,R1,hp1,hl1⟩;rw [h];simp only [Option.bind_some,eb3];have h2:=loopS s0 s1 s3 s4 s5 s6 s7 s8 s9 s10 v l 0 [] nm1 vis1 sc d1 lo (by omega) (by simp; omega) (by omega) (by omega) (by omega) R1;revert h2;cases uSs p f2 f3 lo nm1 vis1 l with
     | error c=>intro h2; exact h2
     | ok x =>
      obtain ⟨nm2,vis2,l'⟩:=x;rintro ⟨h2,hp2,hl2⟩;exact ⟨by rw [h2]; simp,hp1.trans hp2,by omega⟩
  ·intro l hl name s0 s1 s2 s3 s4 nm vis sc lo hnm hsc hlo R;show NB (aeb k (aa0 k m) (.mk (.mk p) (.mk f0 f1 f2 f3 f4 f5) nm sc lo) name l (.mk s0 s1 s2 s3 s4)) _ _ _ _ _ _ _ _;rw [ajm];unfold aeb ads;simp only;rw [aaQ (by unfold maxB; omega)];cases hn:seq name ⟨#[]⟩ with
   | true =>
    simp only [Bool.not_true,cond_false,cond_true,eb3];have h:=loopC s0 s1 s3 s4 s2 l 0 [] nm vis sc [] lo (by omega) (by simp; omega) (by omega) (by omega) (by omega) R.push;revert h;cases uSs p f2 f3 lo nm vis l with
    | error c=>intro h; exact h
    | ok x =>
     obtain ⟨nm1,vis1,l'⟩:=x;rintro ⟨h,hp1,hl1⟩;exact ⟨by rw [h]; simp,hp1,by omega⟩
   | false =>
    simp only [Bool.not_false,cond_true,cond_false];have h:=ahB k p (.mk f0 f1 f2 f3 f4 f5) lo R.push name (by omega) (by omega);revert h;cases hu:uMk nm vis name with
    | error c=>intro h; simp only [NN] at h; rw [h]; rfl
    | ok x =>
     obtain ⟨nm1,vis1,v⟩:=x;rintro ⟨d1,h,R1,hp1,hl1⟩;rw [h];simp only [Option.bind_some,eb3];have h2:=loopC s0 s1 s3 s4 v l 0 [] nm1 vis1 sc d1 lo (by omega) (by simp; omega) (by omega) (by omega) (by omega) R1;revert h2;cases uSs p f2 f3 lo nm1 vis1 l with
     | error c=>intro h2; exact h2
     | ok x =>
      obtain ⟨nm2,vis2,l'⟩:=x;rintro ⟨h2,hp2,hl2⟩;exact ⟨by rw [h2]; simp,hp1.trans hp2,by omega⟩
  ·intro l hl nm vis sc lo hnm hsc hlo R;show NB (adW k (aa0 k m) (.mk (.mk p) (.mk f0 f1 f2 f3 f4 f5) nm sc lo) ⟨#[]⟩ l) _ _ _ _ _ _ _ _;unfold adW;simp only;rw [abk (x:=(lo:Int) + 1) (n:=lo + 1) (by omega) (by omega)];have h:=ihb l (by omega) nm vis sc (lo + 1) (by omega) (by omega) (by omega) R;revert h;cases uB p f2 f3 (lo + 1) nm vis l with
   | error c=>intro h; simp only [NB] at h; rw [h]; rfl
   | ok x =>
    obtain ⟨nm1,vis1,l'⟩:=x;rintro ⟨h,hp1,hl1⟩;rw [h];simp only [Option.bind_some];rw [abk (x:=((lo + 1:Nat):Int) - 1) (n:=lo) (by omega) (by omega)];exact ⟨rfl,hp1,hl1⟩
  ·intro l hl name s0 s1 s2 s3 s4 s5 s6 s7 s8 s9 s10 nm vis sc lo hnm hsc hlo R;show NB (adU k (aa0 k m) (.mk (.mk p) (.mk f0 f1 f2 f3 f4 f5) nm sc lo) name l (.mk s0 s1 s2 s3 s4 s5 s6 s7 s8 s9 s10)) _ _ _ _ _ _ _ _;unfold adU;simp only;rw [abk (x:=(lo:Int) + 1) (n:=lo + 1) (by omega) (by omega)];have h:=ihi l (by omega) name s0 s1 s2 s3 s4 s5 s6 s7 s8 s9 s10 nm vis sc (lo + 1) (by omega) (by omega) (by omega) R;revert h;cases uI p f2 f3 (lo + 1) nm vis name s2 l with
   | error c=>intro h; simp only [NB] at h; rw [h]; rfl
   | ok x =>
    obtain ⟨nm1,vis1,l'⟩:=x;rintro ⟨h,hp1,hl1⟩;rw [h];simp only [Option.bind_some];rw [abk (x:=((lo + 1:Nat):Int) - 1) (n:=lo) (by omega) (by omega)];exact ⟨rfl,hp1,hl1⟩
def RR {β:Type} (r:Option (aas × β)) (p:List aac) (f:aac) (lo:Nat) (er:Int) (nm:List ByteArray) (vis:List Nat) (u:Ex (List ByteArray × List Nat × β)) (n:Nat):Prop :=
 ∃ nm' vis' er' y,r=some (.mk p f nm' (vI vis') lo er',y)∧nm <+: nm'∧vis <+: vis'∧okV nm' vis'∧nm'.length≤nm.length + n∧vis'.length≤vis.length + n∧(er ≠ 0→er'=er) ∧
  (er=0→match u with | .error c=>er'=c∧c ≠ 0 | .ok (a,b,x)=>er'=0∧nm'=a∧vis'=b∧y=x)
def RB {β:Type} (r:Option (aas × β)) (p:List aac) (f:aac) (lo:Nat) (er:Int) (nm:List ByteArray) (vis:List Nat) (u:Ex (List ByteArray × List Nat × β)) (n:Nat):Prop :=
 ∃ nm' er' y,r=some (.mk p f nm' (vI vis) lo er',y)∧nm <+: nm'∧okV nm' vis∧nm'.length≤nm.length + n∧(er ≠ 0→er'=er) ∧
  (er=0→match u with | .error c=>er'=c∧c ≠ 0 | .ok (a,_,x)=>er'=0∧nm'=a∧y=x)
section
variable {β γ:Type} {p:List aac} {f:aac} {lo:Nat} {er:Int} {nm:List ByteArray} {vis:List Nat}
theorem RR.bind {r:Option (aas × β)} {F:aas × β→Option (aas × γ)} {u:Ex (List ByteArray × List Nat × β)} {n1 n2:Nat} {K:List ByteArray→List Nat→β→Ex (List ByteArray × List Nat × γ)}
  (h1:RR r p f lo er nm vis u n1)
  (h2 : ∀ nm1 vis1 er1 y,nm <+: nm1→vis <+: vis1→okV nm1 vis1→nm1.length≤nm.length + n1→vis1.length≤vis.length + n1→RR (F (.mk p f nm1 (vI vis1) lo er1,y)) p f lo er1 nm1 vis1 (K nm1 vis1 y) n2) :
  RR (r.bind F) p f lo er nm vis (eb3 u K) (n1 + n2):=by
 obtain ⟨nm1,vis1,er1,y,rfl,hp,hv,hok,hl,hl2,he,h0⟩:=h1;obtain ⟨nm2,vis2,er2,z,hz,hp',hv',hok',hl',hl2',he',h0'⟩:=h2 nm1 vis1 er1 y hp hv hok hl hl2;refine ⟨nm2,vis2,er2,z,hz,hp.trans hp',hv.trans hv',hok',by omega,by omega,fun h=>?_,fun h=>?_⟩
 ·rw [he' (by rw [he h]; exact h),he h]
 ·have h0:=h0 h;cases u with
  | error c =>
   obtain ⟨rfl,hc⟩:=h0;exact ⟨he' hc,hc⟩
  | ok x =>
   obtain ⟨a,b,x⟩:=x;obtain ⟨rfl,rfl,rfl,rfl⟩:=h0;exact h0' rfl
theorem RB.bind {r:Option (aas × β)} {F:aas × β→Option (aas × γ)} {u:Ex (List ByteArray × List Nat × β)} {n1 n2:Nat} {K:List ByteArray→β→Ex (List ByteArray × List Nat × γ)}
  (h1:RB r p f lo er nm vis u n1)
  (h2 : ∀ nm1 er1 y,nm <+: nm1→okV nm1 vis→nm1.length≤nm.length + n1→RR (F (.mk p f nm1 (vI vis) lo er1,y)) p f lo er1 nm1 vis (K nm1 y) n2) :
  RR (r.bind F) p f lo er nm vis (eb3 u fun a _ x=>K a x) (n1 + n2):=by
 obtain ⟨nm1,er1,y,rfl,hp,hok,hl,he,h0⟩:=h1;obtain ⟨nm2,vis2,er2,z,hz,hp',hv',hok',hl',hl2',he',h0'⟩:=h2 nm1 er1 y hp hok hl;refine ⟨nm2,vis2,er2,z,hz,hp.trans hp',hv',hok',by omega,by omega,fun h=>?_,fun h=>?_⟩
 ·rw [he' (by rw [he h]; exact h),he h]
 ·have h0:=h0 h;cases u with
  | error c =>
   obtain ⟨rfl,hc⟩:=h0;exact ⟨he' hc,hc⟩
  | ok x =>
   obtain ⟨a,b,x⟩:=x;obtain ⟨rfl,rfl,rfl⟩:=h0;exact h0' rfl
theorem RR.done (hv:okV nm vis) (y:β) (n:Nat):RR (some (.mk p f nm (vI vis) lo er,y)) p f lo er nm vis (.ok (nm,vis,y)) n :=
 ⟨nm,vis,er,y,rfl,List.prefix_refl _,List.prefix_refl _,hv,by omega,by omega,fun _=>rfl,fun h=>⟨h,rfl,rfl,rfl⟩⟩
theorem RR.le {r:Option (aas × β)} {u:Ex (List ByteArray × List Nat × β)} {n m:Nat} (h:RR r p f lo er nm vis u n) (hn:n≤m):RR r p f lo er nm vis u m:=by
 obtain ⟨nm1,vis1,er1,y,hr,hp,hv,hok,hl,hl2,he,h0⟩:=h;exact ⟨nm1,vis1,er1,y,hr,hp,hv,hok,by omega,by omega,he,h0⟩
theorem RR.fail {r:Option (aas × β)} {u:Ex (List ByteArray × List Nat × β)} {n:Nat} {b:Bool} {c:Int} (hc:c ≠ 0) (h:RR r p f lo (agn er b c) nm vis u n):RR r p f lo er nm vis (uD b c u) n:=by
 obtain ⟨nm1,vis1,er1,y,hr,hp,hv,hok,hl,hl2,he,h0⟩:=h;refine ⟨nm1,vis1,er1,y,hr,hp,hv,hok,hl,hl2,fun h=>?_,fun h=>?_⟩
 ·have e:agn er b c=er:=by unfold agn; rw [show (er == 0)=false by simpa using h]; simp only [Bool.and_false,cond_false]
  rw [e] at he; exact he h
 ·subst h;cases b with
  | true=>exact h0 rfl
  | false=>exact ⟨he hc,hc⟩
end
theorem au0 (vis:List Nat) (n:Nat):vI vis ++ [(n:Int)]=vI (vis ++ [n]):=by simp [vI]
theorem arv (vis vis' : List Nat) (h:vis <+: vis'):(vI vis').take ((vI vis).length:Int).toNat=vI vis:=by
 obtain ⟨t,rfl⟩:=h;simp [vI]
theorem amj (vis:List Nat):(vI vis).length=vis.length:=by simp [vI]
theorem ap7 (o:Option Nat):decide (ami o < 0)=o.isNone:=by cases o <;> simp [ami]
theorem aj8 (k:Nat) (p:List aac) (f:aac) (lo:Nat) (er:Int) {nm:List ByteArray} {vis:List Nat} (hv:okV nm vis) (a:ByteArray) (h1:nm.length≤1000000) (h2:vis.length≤1000000) :
  RR (f86 k (.mk p f nm (vI vis) lo er) a) p f lo er nm vis (uMk nm vis a) 1:=by
 obtain ⟨f0,f1,f2,f3,f4,f5⟩:=f;unfold f86 asV;simp only;rw [ans k p (.mk f0 f1 f2 f3 f4 f5) nm vis lo er a hv];simp only [Option.bind_some,aho];rw [aaQ (by unfold maxB; omega),aaQ (by unfold maxB; rw [amj]; omega),au0,ap7];refine ⟨nm ++ [a],vis ++ [nm.length],_,_,rfl,⟨[a],rfl⟩,⟨[nm.length],rfl⟩,?_,by simp,by simp,fun h=>?_,fun h=>?_⟩
 ·intro v hv';rcases List.mem_append.1 hv' with h | h
  ·have:=hv v h; simp; omega
  ·simp at h; subst h; simp
 ·unfold agn; rw [show (er == 0)=false by simpa using h,Bool.and_false]; rfl
 ·subst h;unfold uMk;cases abh nm vis a with
  | some v=>exact ⟨rfl,by decide⟩
  | none=>exact ⟨rfl,rfl,rfl,rfl⟩
theorem alS (a b:Int):(a == b)=(b == a):=by rw [Bool.eq_iff_iff,beq_iff_eq,beq_iff_eq]; exact eq_comm
theorem auw (k:Nat) (a:ByteArray) : ∀ (l:List aac) (i:Nat),ad0 k a l i=fdL a l i
 | [],i=>rfl
 | .mk e0 e1 e2 e3 e4 e5 :: l,i=>by
  unfold ad0 fdL;rw [auw k a l (i + 1)]
theorem arm (k:Nat) (op:Int) (fr:ByteArray) (na:Nat) (l:List aac) (pre:List aac) : ∃ r,ad0 k fr l pre.length=some r ∧
  ((r=-1∧uCall op fr na l pre.length=.error 20)∨(∃ (j:Nat) (g0:ByteArray) (g1:List aaL) (g2:Int) (g3:Bool) (g4:Int) (g5:List aaf),r=(j:Int)∧(pre ++ l)[j]?=some (.mk g0 g1 g2 g3 g4 g5) ∧
   uCall op fr na l pre.length=cond (g3 == (op == 28)) (cond ((g1.length:Int) == (na:Int)) (.ok (j:Int)) (.error 24)) (.error 25))):=by
 rw [auw];exact anf op fr na l pre
def okE {α:Type} (u:Ex α) (er:Int) (y:α):Prop:=match u with | .error c=>er=c∧c ≠ 0 | .ok x=>er=0∧y=x
section
variable {α β γ:Type} {p:List aac} {f:aac} {lo:Nat} {er:Int} {nm:List ByteArray} {vis:List Nat}
theorem RR.eb {r:Option (aas × γ)} {u:Ex α} {T:α→Ex (List ByteArray × List Nat × γ)} {n:Nat} {er1:Int} {y:α} (he:er ≠ 0→er1=er) (h0:er=0→okE u er1 y)
  (h:RR r p f lo er1 nm vis (T y) n):RR r p f lo er nm vis (Go.Proofs.YtphdlngnegjgcaaGreatDoor.eb u T) n:=by
 obtain ⟨nm2,vis2,er2,z,hz,hp',hv',hok',hl',hl2',he',h0'⟩:=h;refine ⟨nm2,vis2,er2,z,hz,hp',hv',hok',hl',hl2',fun h=>?_,fun h=>?_⟩
 ·rw [he' (by rw [he h]; exact h),he h]
 ·have h0:=h0 h;cases u with
  | error c =>
   obtain ⟨rfl,hc⟩:=h0;exact ⟨he' hc,hc⟩
  | ok x =>
   obtain ⟨rfl,rfl⟩:=h0;exact h0' rfl
theorem RR.any {r:Option (aas × γ)} {u u' : Ex (List ByteArray × List Nat × γ)} {n:Nat} (h:RR r p f lo er nm vis u n) (he:er ≠ 0):RR r p f lo er nm vis u' n:=by
 obtain ⟨nm2,vis2,er2,z,hz,hp',hv',hok',hl',hl2',he',h0'⟩:=h;exact ⟨nm2,vis2,er2,z,hz,hp',hv',hok',hl',hl2',he',fun h=>absurd h he⟩
theorem RR.congr {r r' : Option (aas × γ)} {u:Ex (List ByteArray × List Nat × γ)} {n:Nat} (e:r=r') (h:RR r' p f lo er nm vis u n):RR r p f lo er nm vis u n:=e ▸ h
end
theorem apU {nm:List ByteArray} {vis:List Nat} : ∀ {l x:List aam},uEs nm vis l=.ok x→x.length=l.length
 | [],x,h=>by cases h; rfl
 | e :: l,x,h=>by
  unfold uEs at h;cases he:uE nm vis e with
  | error c=>rw [he] at h; cases h
  | ok e' =>
   rw [he] at h;cases hl:uEs nm vis l with
   | error c=>rw [hl] at h; cases h
   | ok y=>rw [hl] at h; cases h; simp [apU hl]
theorem aqb (k:Nat) (op:Int):f145 k op=some (op == 1 || op == 3 || op == 4 || op == 5 || op == 6 || op == 7 || op == 8 || op == 9):=by
 unfold f145 an6 adu;cases (op == 1) <;> cases (op == 3) <;> cases (op == 4) <;> cases (op == 5) <;> cases (op == 6) <;> cases (op == 7) <;> cases (op == 8) <;> cases (op == 9) <;> rfl
theorem au5 (k:Nat) (p:List aac) (f:aac) (lo:Nat) (er:Int) {nm:List ByteArray} {vis:List Nat} (hv:okV nm vis) (op:Int) (name:ByteArray) (s2:Int) (fr:ByteArray) (s4 flag:Int) (l6:List aam) (l7 l8 l9:List aaf) (l10:List aaz) :
  ∃ er1 ix,(∀ {γ:Type} (J:aas × Int→Option γ),cond (!seq fr ⟨#[]⟩) ((f144 k (.mk p f nm (vI vis) lo er) (.mk op name s2 fr s4 flag l6 l7 l8 l9 l10)).bind J) (J (.mk p f nm (vI vis) lo er,s4))=J (.mk p f nm (vI vis) lo er1,ix)) ∧
   (er ≠ 0→er1=er)∧(er=0→okE (cond (seq fr ⟨#[]⟩) (.ok s4) (uCall op fr l6.length p 0)) er1 ix):=by
 cases seq fr ⟨#[]⟩ with
 | true=>exact ⟨er,s4,fun J=>rfl,fun _=>rfl,fun h=>⟨h,rfl⟩⟩
 | false =>
  obtain ⟨f0,f1,f2,f3,f4,f5⟩:=f;have hc : ∃ er1 ix,f144 k (.mk p (.mk f0 f1 f2 f3 f4 f5) nm (vI vis) lo er) (.mk op name s2 fr s4 flag l6 l7 l8 l9 l10)=some (.mk p (.mk f0 f1 f2 f3 f4 f5) nm (vI vis) lo er1,ix)∧(er ≠ 0→er1=er) ∧
    (er=0→okE (uCall op fr l6.length p 0) er1 ix):=by
   unfold f144 aoB f60 aph;simp only;obtain ⟨r,h1,h2⟩:=arm k op fr l6.length p [];simp only [List.length_nil,List.nil_append] at h1 h2;rw [h1];simp only [Option.bind_some,aho];rcases h2 with ⟨rfl,h2⟩ | ⟨j,g0,g1,g2,g3,g4,g5,rfl,h3,h2⟩
   ·rw [h2];refine ⟨agn er false 20,0,rfl,fun h=>?_,fun h=>?_⟩
    ·unfold agn; rw [show (er == 0)=false by simpa using h]; rfl
    ·subst h; exact ⟨rfl,by decide⟩
   ·rw [h2];have:idxO p (j:Int)=some (.mk g0 g1 g2 g3 g4 g5):=by unfold idxO; rw [if_pos (by omega)]; simpa using h3
    have hj:decide ((j:Int) < 0)=false:=by simp
    rw [this,hj,alS (g1.length:Int)];simp only [cond_false,Option.bind_some,aho,this];refine ⟨_,_,rfl,fun h=>?_,fun h=>?_⟩
    ·unfold agn;rw [show (er == 0)=false by simpa using h]; simp only [Bool.and_false,cond_false]
     rw [show (er == 0)=false by simpa using h]; simp only [Bool.and_false,cond_false]
    ·subst h;cases (g3 == (op == 28)) <;> cases ((l6.length:Int) == (g1.length:Int)) <;> first | exact ⟨rfl,by decide⟩ | exact ⟨rfl,rfl⟩
  obtain ⟨er1,ix,h1,h2,h3⟩:=hc;exact ⟨er1,ix,fun J=>by rw [h1]; rfl,h2,h3⟩
theorem ape {op:Int} {name fr:ByteArray} {flag:Int} {n6 n7 n8 n9 n10:Nat} (h:acx op name fr flag n6 n7 n8 n9 n10=true) (h1:1≤op) (h2:op≤16) (h3:op ≠ 2) :
  n7=0∧n8=0∧((op == 1 || op == 3 || op == 4 || op == 5 || op == 6 || op == 7 || op == 8 || op == 9)=true∨seq name ⟨#[]⟩=true):=by
 have:op=1∨op=3∨op=4∨op=5∨op=6∨op=7∨op=8∨op=9∨op=10∨op=11∨op=12∨op=13∨op=14∨op=15∨op=16:=by omega
 rcases this with rfl | rfl | rfl | rfl | rfl | rfl | rfl | rfl | rfl | rfl | rfl | rfl | rfl | rfl | rfl <;>
  simp [acx,shp,akw,alh,aig,aeC] at h ⊢ <;> simp_all <;> omega
theorem api {op:Int} {name fr:ByteArray} {flag:Int} {n6 n7 n8 n9 n10:Nat} (h:acx op name fr flag n6 n7 n8 n9 n10=true):1≤op∧op≤29:=by
 refine Decidable.byContradiction fun hc=>?_
 rw [acx,afl (by omega)] at h;cases h
theorem rRS (k:Nat) (p:List aac) (f0:ByteArray) (f1:List aaL) (f2:Int) (f3:Bool) (f4:Int) (f5:List aaf) : ∀ m,m≤k →
  (∀ s a,4 * szS s≤m→gS false s a=true→∀ (nm:List ByteArray) (vis:List Nat) (lo:Nat) (er:Int),okV nm vis→nm.length + szS s≤100000→vis.length + szS s≤100000→lo + szS s≤100000 →
   RR ((ach k m).f120 (.mk p (.mk f0 f1 f2 f3 f4 f5) nm (vI vis) lo er) s) p (.mk f0 f1 f2 f3 f4 f5) lo er nm vis (uS p f2 f3 lo nm vis s) (szS s)) ∧
  (∀ l a,4 * szSs l + 1≤m→gSs false l a=true→∀ (lp:Int) (ln:Nat),lp=(ln:Int)→∀ (nm:List ByteArray) (vis:List Nat) (lo:Nat) (er:Int),okV nm vis→nm.length + szSs l≤100000→vis.length + szSs l≤100000→lo + ln + szSs l≤100000 →
   RB ((ach k m).f87 (.mk p (.mk f0 f1 f2 f3 f4 f5) nm (vI vis) lo er) l lp) p (.mk f0 f1 f2 f3 f4 f5) lo er nm vis (uB p f2 f3 (lo + ln) nm vis l) (szSs l)) ∧
  (∀ l a,4 * szSs l + 2≤m→gSs false l a=true→∀ (name:ByteArray) (s2:Int),seq name ⟨#[]⟩=false→∀ (lp:Int) (ln:Nat),lp=(ln:Int)→∀ (nm:List ByteArray) (vis:List Nat) (lo:Nat) (er:Int),okV nm vis→nm.length + szSs l + 1≤100000→vis.length + szSs l + 1≤100000→lo + ln + szSs l≤100000 →
   RB ((ach k m).f146 (.mk p (.mk f0 f1 f2 f3 f4 f5) nm (vI vis) lo er) name l lp) p (.mk f0 f1 f2 f3 f4 f5) lo er nm vis (uI p f2 f3 (lo + ln) nm vis name s2 l) (szSs l + 1)) ∧
  (∀ c a,4 * szC c≤m + 1→gC false c a=true→∀ (nm:List ByteArray) (vis:List Nat) (lo:Nat) (er:Int),okV nm vis→nm.length + szC c≤100000→vis.length + szC c≤100000→lo + szC c≤100000 →
   RB ((ach k m).f147 (.mk p (.mk f0 f1 f2 f3 f4 f5) nm (vI vis) lo er) c) p (.mk f0 f1 f2 f3 f4 f5) lo er nm vis (uC p f2 f3 lo nm vis c) (szC c))
 | 0,_=>⟨fun e a he=>by have:=acl e; omega,fun l a hl=>by omega,fun l a hl=>by omega,fun c a hc=>by have:=adq c; omega⟩
 | m + 1,hmk=>by
  obtain ⟨ihs,ihb,ihi,ihc⟩:=rRS k p f0 f1 f2 f3 f4 f5 m (by omega);refine ⟨?_,?_,?_,?_⟩
  ·intro s a hm hg nm vis lo er hv hnm hvis hlo;obtain ⟨op,name,s2,fr,s4,flag,l6,l7,l8,l9,l10⟩:=s;simp only [szS] at hm hnm hvis hlo ⊢;simp only [gS,Bool.and_eq_true,Bool.false_or] at hg;obtain ⟨⟨⟨_,hslot⟩,hnode⟩,hg6,hg7,hg8,hg9,hg10⟩:=hg;have hrange:=api hnode;show RR (ame k (ach k m) (.mk p (.mk f0 f1 f2 f3 f4 f5) nm (vI vis) lo er) (.mk op name s2 fr s4 flag l6 l7 l8 l9 l10)) p _ lo er nm vis _ _;unfold ame;simp only;rw [uS];obtain ⟨r6,h1,h2⟩:=arn k p (.mk f0 f1 f2 f3 f4 f5) lo er hv l6 (a + 1) (by omega) (by omega) hg6;rw [h1];simp only [Option.bind_some];have hen:er ≠ 0→errI er (uEs nm vis l6)=er:=fun h=>by unfold errI; rw [show (er == 0)=false by simpa using h]; rfl
   have hez:er=0→okE (uEs nm vis l6) (errI er (uEs nm vis l6)) r6:=by
    intro h; subst h
    cases hu:uEs nm vis l6 with
    | error c=>obtain rfl:=aoS hu; exact ⟨rfl,by decide⟩
    | ok x=>exact ⟨rfl,h2 x hu⟩
   have hlen:errI er (uEs nm vis l6)=0→r6.length=l6.length:=by
    intro h;by_cases her:er=0
    ·have h0:=hez her;revert h0;cases hu:uEs nm vis l6 with
     | error c=>rw [hu] at h; rintro ⟨h',hc⟩; exact absurd (h'.symm.trans h) hc
     | ok x=>rintro ⟨_,rfl⟩; exact apU hu
    ·exact absurd (hen her ▸ h) her
   refine RR.eb (y:=r6) hen hez ?_;generalize errI er (uEs nm vis l6)=er1 at hlen;obtain ⟨er2,ix,hc,hec,hcz⟩:=au5 k p (.mk f0 f1 f2 f3 f4 f5) lo er1 hv op name s2 fr s4 flag r6 l7 l8 l9 l10;refine RR.congr (hc fun q_=>match q_ with | (.mk z0 (.mk z10 z11 z12 z13 z14 z15) z2 z3 z4 z5,r)=>afZ k (ach k m) op name s2 fr flag l7 l8 l9 l10 r6 z0 z10 z11 z12 z13 z14 z15 z2 z3 z4 z5 r) ?_;have hlen2:er2=0→r6.length=l6.length:=by
    intro h;by_cases her:er1=0
    ·exact hlen her
    ·exact absurd (hec her ▸ h) her
   by_cases h27:op=27
   ·subst h27;have hn:=hnode;unfold acx at hn;rw [show shp 27=some (0,false,0,0,false,0) from rfl] at hn;simp only [alh,cond_false,Bool.and_eq_true] at hn;have hfr:=hn.2.1.1.1.2;rw [hfr] at hcz;obtain rfl:er2=er1:=by
     by_cases h:er1=0
     ·rw [(hcz h).1,h]
     ·exact hec h
    have loop : ∀ (l:List aaz) (i:Nat) (xs:List aaz) (nm:List ByteArray) (er:Int),4 * szCs l≤m + 1→gCs false l (a + 1)=true→okV nm vis→xs.length + szCs l≤100000→nm.length + szCs l≤100000→vis.length + szCs l≤100000→lo + szCs l≤100000 →
      ∃ nm' er' y,afR k (ach k m) 27 name fr flag l7 l8 l9 r6 ix s2 l i p f0 f1 f2 f3 f4 f5 nm (vI vis) lo er xs=some (.mk p (.mk f0 f1 f2 f3 f4 f5) nm' (vI vis) lo er',.mk 27 name s2 fr ix flag r6 l7 l8 l9 y)∧nm <+: nm'∧okV nm' vis∧nm'.length≤nm.length + szCs l∧(er ≠ 0→er'=er) ∧
       (er=0→match uCs p f2 f3 lo nm vis l with | .error c=>er'=c∧c ≠ 0 | .ok (b,_,x)=>er'=0∧nm'=b∧y=xs ++ x):=by
     intro l;induction l with
     | nil =>
      intro i xs nm er _ _ hv _ _ _ _;exact ⟨nm,er,xs,rfl,List.prefix_refl _,hv,by omega,fun _=>rfl,fun h=>by rw [uCs]; exact ⟨h,rfl,by simp⟩⟩
     | cons c l ih =>
      intro i xs nm er hm hg hv hxs hnm hvis hlo;obtain ⟨e0,e1,e2,e3,e4⟩:=c;have hp0:=adq (.mk e0 e1 e2 e3 e4);simp only [szCs] at hm hxs hnm hvis hlo ⊢;simp only [gCs,Bool.and_eq_true] at hg;unfold afR;rw [uCs];obtain ⟨nm1,er1,y,hr,hp1,hok1,hl1,he,h0⟩:=ihc (.mk e0 e1 e2 e3 e4) (a + 1) (by omega) hg.1.2 nm vis lo er hv (by omega) (by omega) (by omega);rw [hr];obtain ⟨r0,r1,r2,r3,r4⟩:=y;simp only [Option.bind_some];rw [aaQ (by unfold maxB; omega)];obtain ⟨nm2,er2,z,hr2,hp2,hok2,hl3,he2,h02⟩:=ih (i + 1) (xs ++ [.mk r0 r1 r2 r3 r4]) nm1 er1 (by omega) hg.2 hok1 (by rw [abi]; omega) (by omega) (by omega) (by omega);refine ⟨nm2,er2,z,hr2,hp1.trans hp2,hok2,by omega,fun h=>?_,fun h=>?_⟩
      ·rw [he2 (by rw [he h]; exact h),he h]
      ·have h0:=h0 h;revert h0;cases uC p f2 f3 lo nm vis (.mk e0 e1 e2 e3 e4) with
       | error c =>
        rintro ⟨rfl,hc⟩;exact ⟨he2 hc,hc⟩
       | ok x =>
        obtain ⟨b,v,x⟩:=x;rintro ⟨rfl,rfl,rfl⟩;have h02:=h02 rfl;revert h02;simp only [eb3];cases uCs p f2 f3 lo nm1 vis l with
        | error c=>exact id
        | ok x =>
         obtain ⟨b,v,x⟩:=x;rintro ⟨rfl,rfl,rfl⟩;exact ⟨rfl,rfl,by simp⟩
    obtain ⟨nm',er',y,hr,hp,hok,hl,he,h0⟩:=loop l10 0 [] nm er2 (by omega) hg10 hv (by simp; omega) (by omega) (by omega) (by omega);unfold afZ agV adP afX;simp only [aqb,Int.reduceBEq,Bool.or_false,cond_false,cond_true,Option.bind_some];refine ⟨nm',vis,er',_,hr,hp,List.prefix_refl _,hok,by omega,by omega,he,fun h=>?_⟩;have h0:=h0 h;revert h0;cases uCs p f2 f3 lo nm vis l10 with
    | error c=>exact id
    | ok x =>
     obtain ⟨b,v,x⟩:=x;rintro ⟨rfl,rfl,rfl⟩;refine ⟨rfl,rfl,rfl,?_⟩;rw [(hcz h).2]
   ·rw [show (op == 27)=false by simpa using h27];simp only [cond_false];refine RR.eb (y:=ix) hec hcz ?_;generalize er2=er3 at hlen2;unfold afZ agV;simp only [aqb,Option.bind_some];by_cases h2' : op=2
    ·subst h2';unfold adP ab9;simp only [Int.reduceBEq,Bool.or_false,cond_false,cond_true];rw [ans k p (.mk f0 f1 f2 f3 f4 f5) nm vis lo er3 name hv];simp only [Option.bind_some,aho];cases abh nm vis name with
     | none=>exact RR.fail (u:=.ok (nm,vis,_)) (b:=false) (by decide) (RR.done hv _ _)
     | some v=>exact RR.fail (u:=.ok (nm,vis,_)) (b:=true) (c:=20) (by decide) (RR.done hv _ _)
    ·rw [show (op == 2)=false by simpa using h2'];simp only [cond_false];have rest : ∀ (o:Int),o=op→17≤o→RR (adP k (ach k m) o name fr flag l7 l8 l9 l10 r6 ix p f0 f1 f2 f3 f4 f5 nm (vI vis) lo er3 s2) p (.mk f0 f1 f2 f3 f4 f5) lo er3 nm vis
       (cond (o == 18 || o == 19) (uD (decide (lo > 0)) 22 (.ok (nm,vis,.mk o name s2 fr ix flag r6 l7 l8 l9 l10)))
       (cond (o == 29) (uD f3 22 (.ok (nm,vis,.mk o name s2 fr ix flag r6 l7 l8 l9 l10)))
       (cond (o == 17) (uD ((decide (r6.length > 0)) == (f2 != 0)) 22 (.ok (nm,vis,.mk o name s2 fr ix flag r6 l7 l8 l9 l10)))
       (cond (o == 21) (eb3 (uB p f2 f3 (lo + 1) nm vis l7) fun nm1 _ b=>.ok (nm1,vis,.mk o name s2 fr ix flag r6 b l8 l9 l10))
       (cond (o == 28) (eb3 (uI p f2 f3 (lo + 1) nm vis name s2 l7) fun nm1 _ vb=>.ok (nm1,vis,.mk o name vb.1 fr ix flag r6 vb.2 l8 l9 l10))
       (cond (o == 25) (eb3 (uI p f2 f3 lo nm vis name s2 l7) fun nm1 _ vb=>.ok (nm1,vis,.mk o name vb.1 fr ix flag r6 vb.2 l8 l9 l10))
       (cond (o == 24) (eb3 (uB p f2 f3 lo nm vis l7) fun nm1 _ b7=>eb3 (uI p f2 f3 lo nm1 vis name s2 l8) fun nm2 _ vb=>eb3 (uB p f2 f3 lo nm2 vis l9) fun nm3 _ b9=>.ok (nm3,vis,.mk o name vb.1 fr ix flag r6 b7 vb.2 b9 l10))
       (cond (o == 20 || o == 22 || o == 23 || o == 26) (eb3 (uB p f2 f3 lo nm vis l7) fun nm1 _ b7=>eb3 (uB p f2 f3 lo nm1 vis l8) fun nm2 _ b8=>.ok (nm2,vis,.mk o name s2 fr ix flag r6 b7 b8 l9 l10))
        (eb3 (cond (seq name ⟨#[]⟩) (.ok (nm,vis,s2)) (uMk nm vis name)) fun nm1 vis1 v=>uD (o != 6 || flag == 0 || decide (lo > 0)) 22 (.ok (nm1,vis1,.mk o name v fr ix flag r6 l7 l8 l9 l10)))))))))))
       (szEs l6 + szSs l7 + szSs l8 + szSs l9 + szCs l10 + 1):=by
      intro o ho hge;have hoe:o=17∨o=18∨o=19∨o=20∨o=21∨o=22∨o=23∨o=24∨o=25∨o=26∨o=28∨o=29:=by omega
      rw [← ho] at hnode;clear ho h27 h2' hrange hcz hc hslot;have blocks : ∀ (P:Option (aas × aaf)),P=((ach k m).f87 (.mk p (.mk f0 f1 f2 f3 f4 f5) nm (vI vis) lo er3) l7 0).bind (fun q_=>match q_ with | (.mk z3118_0 (.mk z3118_1_0 z3118_1_1 z3118_1_2 z3118_1_3 z3118_1_4 z3118_1_5) z3118_2 z3118_3 z3118_4 z3118_5,r3119)=>(((ach k m).f87 (aas.mk z3118_0 (aac.mk z3118_1_0 z3118_1_1 z3118_1_2 z3118_1_3 z3118_1_4 z3118_1_5) z3118_2 z3118_3 z3118_4 z3118_5) l8 0).bind fun q_=>match q_ with | (.mk z3151_0 (.mk z3151_1_0 z3151_1_1 z3151_1_2 z3151_1_3 z3151_1_4 z3151_1_5) z3151_2 z3151_3 z3151_4 z3151_5,r3152)=>(ab9 k (ach k m) o name fr flag r6 ix s2 r3119 r3152 l9 l10 z3151_0 z3151_1_0 z3151_1_1 z3151_1_2 z3151_1_3 z3151_1_4 z3151_1_5 z3151_2 z3151_3 z3151_4 z3151_5))) →
        RR P p (.mk f0 f1 f2 f3 f4 f5) lo er3 nm vis (eb3 (uB p f2 f3 lo nm vis l7) fun nm1 _ b7=>eb3 (uB p f2 f3 lo nm1 vis l8) fun nm2 _ b8=>.ok (nm2,vis,.mk o name s2 fr ix flag r6 b7 b8 l9 l10)) (szEs l6 + szSs l7 + szSs l8 + szSs l9 + szCs l10 + 1):=by
       rintro _ rfl;refine RR.le (RB.bind (n2:=szSs l8 + 0) (ihb l7 (a + 1) (by omega) hg7 0 0 rfl nm vis lo er3 hv (by omega) (by omega) (by omega)) fun nm1 er1 y hp1 hok1 hl1=>?_) (by omega);exact RB.bind (ihb l8 (a + 1) (by omega) hg8 0 0 rfl nm1 vis lo er1 hok1 (by omega) (by omega) (by omega)) fun nm2 er2 z hp2 hok2 hl2=>RR.done hok2 _ _
      rcases hoe with rfl | rfl | rfl | rfl | rfl | rfl | rfl | rfl | rfl | rfl | rfl | rfl <;> unfold adP afX <;> simp only [Int.reduceBEq,Bool.or_false,Bool.or_true,Bool.true_or,Bool.false_or,cond_false,cond_true,aho,Option.bind_some,amW]
      ·
       have hn:=hnode;unfold acx at hn;rw [show shp 17=some (0,false,0,1,false,0) from rfl] at hn;simp only [Bool.and_eq_true,decide_eq_true_eq] at hn;by_cases he3:er3=0
       ·have hl:=hlen2 he3;rw [show (decide (r6.length > 0))=((r6.length:Int) == 1) by rw [Bool.eq_iff_iff]; simp; omega];exact RR.fail (by decide) (RR.done hv _ _)
       ·exact RR.any (RR.fail (u:=.ok (nm,vis,_)) (by decide) (RR.done hv _ _)) he3
      ·exact RR.fail (by decide) (RR.done hv _ _)
      ·exact RR.fail (by decide) (RR.done hv _ _)
      ·exact blocks _ rfl
      ·refine RR.le (RB.bind (n2:=0) (ihb l7 (a + 1) (by omega) hg7 1 1 rfl nm vis lo er3 hv (by omega) (by omega) (by omega)) fun nm1 er1 y hp1 hok1 hl1=>RR.done hok1 _ _) (by omega)
      ·exact blocks _ rfl
      ·exact blocks _ rfl
      ·
       have hn:=hnode;unfold acx at hn;rw [show shp 24=some (2,false,0,0,true,3) from rfl] at hn;simp only [Bool.and_eq_true,aig,Int.reduceBEq,cond_true,cond_false,Bool.false_and,Bool.true_and,Bool.false_or] at hn;obtain ⟨_,⟨_,⟨⟨hn8,_⟩,_,hnf⟩⟩,_⟩:=hn;refine RR.le (RB.bind (n2:=szSs l8 + 1 + (szSs l9 + 0)) (ihb l7 (a + 1) (by omega) hg7 0 0 rfl nm vis lo er3 hv (by omega) (by omega) (by omega)) fun nm1 er1 y hp1 hok1 hl1=>?_) (by omega);unfold ai2;cases hf:(flag.tmod 2 == 1) with
       | true =>
        rw [hf] at hnf;simp only [cond_true];refine RB.bind (K:=fun nm2 vb=>eb3 (uB p f2 f3 lo nm2 vis l9) fun nm3 _ b9=>.ok (nm3,vis,aaf.mk 24 name vb.1 fr ix flag r6 y vb.2 b9 l10)) (ihi l8 (a + 1) (by omega) hg8 name s2 (by simpa using hnf) 0 0 rfl nm1 vis lo er1 hok1 (by omega) (by omega) (by omega)) fun nm2 er2 z hp2 hok2 hl2=>?_
        obtain ⟨v,b⟩:=z;exact RB.bind (ihb l9 (a + 1) (by omega) hg9 0 0 rfl nm2 vis lo er2 hok2 (by omega) (by omega) (by omega)) fun nm3 er3 w hp3 hok3 hl3=>RR.done hok3 _ _
       | false =>
        rw [hf] at hnf hn8;obtain rfl:l8=[]:=by simpa using hn8
        have hne:seq name ⟨#[]⟩=true:=by simpa using hnf
        simp only [cond_false];rw [uI,hne];simp only [cond_true,eb3];exact RR.le (RB.bind (n2:=0) (ihb l9 (a + 1) (by omega) hg9 0 0 rfl nm1 vis lo er1 hok1 (by omega) (by omega) (by omega)) fun nm3 er3 w hp3 hok3 hl3=>RR.done hok3 _ _) (by omega)
      ·
       have hn:=hnode;unfold acx at hn;rw [show shp 25=some (1,false,1,1,true,0) from rfl] at hn;simp only [Bool.and_eq_true,akw,Int.reduceBEq,Bool.false_and,Bool.true_and,Bool.false_or,Bool.or_false] at hn;refine RR.le (RB.bind (n2:=0) (K:=fun nm1 vb=>.ok (nm1,vis,aaf.mk 25 name vb.1 fr ix flag r6 vb.2 l8 l9 l10)) (ihi l7 (a + 1) (by omega) hg7 name s2 (aiW hn.2.1.1.1.1) 0 0 rfl nm vis lo er3 hv (by omega) (by omega) (by omega)) fun nm2 er2 z hp2 hok2 hl2=>?_) (by omega);obtain ⟨v,b⟩:=z;exact RR.done hok2 _ _
      ·exact blocks _ rfl
      ·
       have hn:=hnode;unfold acx at hn;rw [show shp 28=some (1,true,0,600,true,66) from rfl] at hn;simp only [Bool.and_eq_true,akw,Int.reduceBEq,Bool.false_and,Bool.true_and,Bool.false_or,Bool.or_false] at hn;refine RR.le (RB.bind (n2:=0) (K:=fun nm1 vb=>.ok (nm1,vis,aaf.mk 28 name vb.1 fr ix flag r6 vb.2 l8 l9 l10)) (ihi l7 (a + 1) (by omega) hg7 name s2 (aiW hn.2.1.1.1.1) 1 1 rfl nm vis lo er3 hv (by omega) (by omega) (by omega)) fun nm2 er2 z hp2 hok2 hl2=>?_) (by omega);obtain ⟨v,b⟩:=z;exact RR.done hok2 _ _
      ·exact RR.fail (by decide) (RR.done hv _ _)
     by_cases hge:17≤op
     ·have hmk0:(op == 1 || op == 3 || op == 4 || op == 5 || op == 6 || op == 7 || op == 8 || op == 9)=false:=by
       rw [← Bool.not_eq_true]; simp; omega
      rw [hmk0];exact rest op rfl hge
     ·obtain ⟨hn7,hn8,hnm'⟩:=ape hnode hrange.1 (by omega) h2';obtain rfl:l7=[]:=by simpa using hn7
      obtain rfl:l8=[]:=by simpa using hn8
      have e : ∀ c:Int,17≤c→(op == c)=false:=fun c hc=>by simp; omega
      have e2:(op == 2)=false:=by simpa using h2'
      simp only [e 18 (by decide),e 19 (by decide),e 29 (by decide),e 17 (by decide),e 21 (by decide),e 28 (by decide),e 25 (by decide),e 24 (by decide),e 20 (by decide),e 22 (by decide),e 23 (by decide),e 26 (by decide),Bool.or_false,cond_false];have fin : ∀ (nm1:List ByteArray) (vis1:List Nat) (er1 v:Int),okV nm1 vis1→nm1.length≤nm.length + 1→vis1.length≤vis.length + 1→RR (adP k (ach k m) op name fr flag [] [] l9 l10 r6 ix p f0 f1 f2 f3 f4 f5 nm1 (vI vis1) lo er1 v) p (.mk f0 f1 f2 f3 f4 f5) lo er1 nm1 vis1
        (uD (op != 6 || flag == 0 || decide (lo > 0)) 22 (.ok (nm1,vis1,.mk op name v fr ix flag r6 [] [] l9 l10))) 0:=by
       intro nm1 vis1 er1 v hok1 hl1 hl2;unfold adP afX ab9;simp only [e2,e 18 (by decide),e 19 (by decide),e 29 (by decide),e 17 (by decide),e 21 (by decide),e 28 (by decide),e 25 (by decide),e 24 (by decide),e 27 (by decide),cond_false,aho,Option.bind_some,amW];cases h6:(op == 6) with
       | true =>
        have:(op != 6)=false:=by simp [bne,h6]
        rw [this,Bool.false_or];cases hfl:(flag == 0) with
        | true=>exact RR.fail (b:=true) (by decide) (RR.done hok1 _ _)
        | false=>exact RR.fail (by decide) (RR.done hok1 _ _)
       | false =>
        have:(op != 6)=true:=by simp [bne,h6]
        rw [this,Bool.true_or,Bool.true_or];simp only [cond_false];obtain ⟨nm2,er2,y,hr2,hp2,hok2,hl3,he2,h02⟩:=ihb [] (a + 1) (by simp only [szSs]; omega) rfl 0 0 rfl nm1 vis1 lo er1 hok1 (by simp only [szSs]; omega) (by simp only [szSs]; omega) (by simp only [szSs]; omega);rw [hr2];simp only [Option.bind_some];obtain ⟨nm3,er3,z,hr3,hp3,hok3,hl3',he3,h03⟩:=ihb [] (a + 1) (by simp only [szSs]; omega) rfl 0 0 rfl nm2 vis1 lo er2 hok2 (by simp only [szSs] at hl3 ⊢; omega) (by simp only [szSs]; omega) (by simp only [szSs]; omega);rw [hr3];simp only [Option.bind_some];simp only [szSs] at hl3 hl3';refine ⟨nm3,vis1,er3,_,rfl,hp2.trans hp3,List.prefix_refl _,hok3,by omega,by omega,fun h=>?_,fun h=>?_⟩
        ·rw [he3 (by rw [he2 h]; exact h),he2 h]
        ·obtain ⟨rfl,rfl,rfl⟩:=h02 h;obtain ⟨rfl,rfl,rfl⟩:=h03 rfl;exact ⟨rfl,rfl,rfl,rfl⟩
      cases hne:seq name ⟨#[]⟩ with
      | true =>
       simp only [Bool.not_true,cond_false,cond_true,eb3];have:=fin nm vis er3 s2 hv (by omega) (by omega);cases (op == 1 || op == 3 || op == 4 || op == 5 || op == 6 || op == 7 || op == 8 || op == 9) <;> exact RR.le this (by omega)
      | false =>
       rw [hne] at hnm';rw [hnm'.resolve_right (by simp)];simp only [Bool.not_false,cond_true,cond_false];refine RR.le (RR.bind (n2:=0) (aj8 k p (.mk f0 f1 f2 f3 f4 f5) lo er3 hv name (by omega) (by omega)) fun nm1 vis1 er1 v hp1 hv1 hok1 hl1 hl2=>?_) (by omega);exact fin nm1 vis1 er1 v hok1 hl1 hl2
  ·intro l a hm hg lp ln hlp nm vis0 lo er hv0 hnm hvis hlo;subst hlp;show RB (arF k (ach k m) (.mk p (.mk f0 f1 f2 f3 f4 f5) nm (vI vis0) lo er) l ln) p _ lo er nm vis0 _ _;unfold arF;simp only;rw [abk (x:=(lo:Int) + (ln:Int)) (n:=lo + ln) (by omega) (by omega),amz];have loop : ∀ (l:List aaf) (i:Nat) (xs:List aaf) (nm:List ByteArray) (vis:List Nat) (er:Int),4 * szSs l≤m→gSs false l a=true→vis0 <+: vis→okV nm vis→xs.length + szSs l≤100000→nm.length + szSs l≤100000→vis.length + szSs l≤100000→lo + ln + szSs l≤100000 →
     ∃ nm' er' y,ahk k (ach k m) (vI vis0) (ln:Int) l i p f0 f1 f2 f3 f4 f5 nm (vI vis) ((lo + ln:Nat):Int) er xs=some (.mk p (.mk f0 f1 f2 f3 f4 f5) nm' (vI vis0) lo er',y)∧nm <+: nm'∧okV nm' vis0∧nm'.length≤nm.length + szSs l∧(er ≠ 0→er'=er) ∧
      (er=0→match uSs p f2 f3 (lo + ln) nm vis l with | .error c=>er'=c∧c ≠ 0 | .ok (b,_,x)=>er'=0∧nm'=b∧y=xs ++ x):=by
    intro l;induction l with
    | nil =>
     intro i xs nm vis er _ _ hp hv _ _ _ _;unfold ahk;have hle:vis0.length≤vis.length:=hp.length_le;rw [show aaP (decide (0≤((vI vis0).length:Int)∧((vI vis0).length:Int)≤((vI vis).length:Int)))=fun (x:Option (aas × List aaf))=>x from by
      rw [decide_eq_true (by rw [amj,amj]; omega)]; rfl]
     simp only;rw [arv vis0 vis hp,abk (x:=((lo + ln:Nat):Int) - (ln:Int)) (n:=lo) (by omega) (by omega)];exact ⟨nm,er,xs,rfl,List.prefix_refl _,fun v hv'=>hv v (hp.subset hv'),by omega,fun _=>rfl,fun h=>by rw [uSs]; exact ⟨h,rfl,by simp⟩⟩
    | cons s l ih =>
     intro i xs nm vis er hm hg hp hv hxs hnm hvis hlo;obtain ⟨e0,e1,e2,e3,e4,e5,e6,e7,e8,e9,e10⟩:=s;simp only [szSs] at hm hxs hnm hvis hlo ⊢;simp only [gSs,Bool.and_eq_true] at hg;have hp0:=acl (.mk e0 e1 e2 e3 e4 e5 e6 e7 e8 e9 e10);unfold ahk;rw [uSs];obtain ⟨nm1,vis1,er1,y,hr,hp1,hv1,hok1,hl1,hl2,he,h0⟩:=ihs (.mk e0 e1 e2 e3 e4 e5 e6 e7 e8 e9 e10) a (by omega) hg.1 nm vis (lo + ln) er hv (by omega) (by omega) (by omega);rw [hr];obtain ⟨r0,r1,r2,r3,r4,r5,r6,r7,r8,r9,r10⟩:=y;simp only [Option.bind_some];rw [aaQ (by unfold maxB; omega)];obtain ⟨nm2,er2,z,hr2,hp2,hok2,hl3,he2,h02⟩:=ih (i + 1) (xs ++ [.mk r0 r1 r2 r3 r4 r5 r6 r7 r8 r9 r10]) nm1 vis1 er1 (by omega) hg.2 (hp.trans hv1) hok1 (by rw [abi]; omega) (by omega) (by omega) (by omega);refine ⟨nm2,er2,z,hr2,hp1.trans hp2,hok2,by omega,fun h=>?_,fun h=>?_⟩
     ·rw [he2 (by rw [he h]; exact h),he h]
     ·have h0:=h0 h;revert h0;cases uS p f2 f3 (lo + ln) nm vis (.mk e0 e1 e2 e3 e4 e5 e6 e7 e8 e9 e10) with
      | error c =>
       rintro ⟨rfl,hc⟩;exact ⟨he2 hc,hc⟩
      | ok x =>
       obtain ⟨b,v,x⟩:=x;rintro ⟨rfl,rfl,rfl,rfl⟩;have h02:=h02 rfl;revert h02;simp only [eb3];cases uSs p f2 f3 (lo + ln) nm1 vis1 l with
       | error c=>exact id
       | ok x =>
        obtain ⟨b,v,x⟩:=x;rintro ⟨rfl,rfl,rfl⟩;exact ⟨rfl,rfl,by simp⟩
   obtain ⟨nm',er',y,hr,hp,hok,hl,he,h0⟩:=loop l 0 [] nm vis0 er (by omega) hg (List.prefix_refl _) hv0 (by simp; omega) hnm hvis hlo;refine ⟨nm',er',y,hr,hp,hok,hl,he,fun h=>?_⟩;have h0:=h0 h;revert h0;cases uSs p f2 f3 (lo + ln) nm vis0 l with
   | error c=>exact id
   | ok x =>
    obtain ⟨b,v,x⟩:=x;rintro ⟨rfl,rfl,rfl⟩;exact ⟨rfl,rfl,rfl⟩
  ·intro l a hm hg name s2 hname lp ln hlp nm vis lo er hv hnm hvis hlo;show RB (amg k (ach k m) (.mk p (.mk f0 f1 f2 f3 f4 f5) nm (vI vis) lo er) name l lp) p _ lo er nm vis _ _;unfold amg;simp only;rw [ajm,hname];simp only [cond_false];obtain ⟨nm1,vis1,er1,v,hr,hp1,hv1,hok1,hl1,hl2,he,h0⟩:=aj8 k p (.mk f0 f1 f2 f3 f4 f5) lo er hv name (by omega) (by omega);rw [hr];simp only [Option.bind_some];obtain ⟨nm2,er2,y,hr2,hp2,hok2,hl3,he2,h02⟩:=ihb l a (by omega) hg lp ln hlp nm1 vis1 lo er1 hok1 (by omega) (by omega) (by omega);rw [hr2];simp only [Option.bind_some];have hle:vis.length≤vis1.length:=hv1.length_le;rw [show aaP (decide (0≤((vI vis).length:Int)∧((vI vis).length:Int)≤((vI vis1).length:Int)))=fun (x:Option (aas × Int × List aaf))=>x from by
    rw [decide_eq_true (by rw [amj,amj]; omega)]; rfl]
   simp only;rw [arv vis vis1 hv1];refine ⟨nm2,er2,(v,y),rfl,hp1.trans hp2,fun w hw=>hok2 w (hv1.subset hw),by omega,fun h=>?_,fun h=>?_⟩
   ·rw [he2 (by rw [he h]; exact h),he h]
   ·have h0:=h0 h;revert h0;cases uMk nm vis name with
    | error c =>
     rintro ⟨rfl,hc⟩;exact ⟨he2 hc,hc⟩
    | ok x =>
     obtain ⟨b,w,x⟩:=x;rintro ⟨rfl,rfl,rfl,rfl⟩;have h02:=h02 rfl;revert h02;simp only [eb3];rw [amz];cases uSs p f2 f3 (lo + ln) nm1 vis1 l with
     | error c=>exact id
     | ok x =>
      obtain ⟨b,v,x⟩:=x;rintro ⟨rfl,rfl,rfl⟩;exact ⟨rfl,rfl,rfl⟩
  ·intro c a hm hg nm vis lo er hv hnm hvis hlo;obtain ⟨kind,name,slot,es,b⟩:=c;simp only [szC] at hm hnm hvis hlo ⊢;simp only [gC,Bool.and_eq_true,Bool.false_or] at hg;obtain ⟨⟨⟨_,hslot⟩,hnode⟩,hges,hgb⟩:=hg;show RB (amo k (ach k m) (.mk p (.mk f0 f1 f2 f3 f4 f5) nm (vI vis) lo er) (.mk kind name slot es b)) p _ lo er nm vis _ _;unfold amo;simp only;rw [uC];obtain ⟨l',h1,h2⟩:=arn k p (.mk f0 f1 f2 f3 f4 f5) lo er hv es (a + 1) (by omega) (by omega) hges;rw [h1];simp only [Option.bind_some];have hen:er ≠ 0→errI er (uEs nm vis es)=er:=fun h=>by unfold errI; rw [show (er == 0)=false by simpa using h]; rfl
   simp only [ai1,Bool.and_eq_true] at hnode;have hnm1:=hnode.2;have key : ∀ (r:Option (aas × aaz)) (g:Int × List aaf→aaz),RB r p (.mk f0 f1 f2 f3 f4 f5) lo (errI er (uEs nm vis es)) nm vis (eb3 (uI p f2 f3 lo nm vis name slot b) fun nm1 _ vb=>.ok (nm1,vis,.mk kind name vb.1 l' vb.2)) (szEs es + szSs b + 1) →
     RB r p (.mk f0 f1 f2 f3 f4 f5) lo er nm vis (eb (uEs nm vis es) fun r=>eb3 (uI p f2 f3 lo nm vis name slot b) fun nm1 _ vb=>.ok (nm1,vis,.mk kind name vb.1 r vb.2)) (szEs es + szSs b + 1):=by
    rintro r g ⟨nm2,er2,y,hr2,hp2,hok2,hl3,he2,h02⟩;refine ⟨nm2,er2,y,hr2,hp2,hok2,hl3,fun h=>?_,fun h=>?_⟩
    ·rw [he2 (by rw [hen h]; exact h),hen h]
    ·subst h;cases hu:uEs nm vis es with
     | error c =>
      obtain rfl:=aoS hu;rw [hu] at he2;exact ⟨he2 (by unfold errI; decide),by decide⟩
     | ok x =>
      rw [hu] at h02;obtain rfl:=h2 x hu;exact h02 rfl
   generalize errI er (uEs nm vis es)=er1 at key ⊢;cases hk:(kind == 1) with
   | true =>
    simp only [cond_true];rw [hk] at hnm1;obtain ⟨nm2,er2,y,hr2,hp2,hok2,hl3,he2,h02⟩:=ihi b (a + 1) (by omega) hgb name slot (aiW hnm1) 0 0 rfl nm vis lo er1 hv (by omega) (by omega) (by omega);refine key _ (fun vb=>.mk kind name vb.1 l' vb.2) ?_;rw [hr2];obtain ⟨v,y⟩:=y;refine ⟨nm2,er2,_,rfl,hp2,hok2,by omega,he2,fun h=>?_⟩;have h02:=h02 h;revert h02;rw [Nat.add_zero];cases uI p f2 f3 lo nm vis name slot b with
    | error c=>exact id
    | ok x =>
     obtain ⟨b,w,x⟩:=x;rintro ⟨rfl,rfl,rfl⟩;exact ⟨rfl,rfl,rfl⟩
   | false =>
    simp only [cond_false];rw [hk] at hnm1;obtain ⟨nm2,er2,y,hr2,hp2,hok2,hl3,he2,h02⟩:=ihb b (a + 1) (by omega) hgb 0 0 rfl nm vis lo er1 hv (by omega) (by omega) (by omega);refine key _ (fun vb=>.mk kind name vb.1 l' vb.2) ?_;rw [hr2];refine ⟨nm2,er2,_,rfl,hp2,hok2,by omega,he2,fun h=>?_⟩;have h02:=h02 h;revert h02;rw [Nat.add_zero,amz,ajm,show seq name ⟨#[]⟩=true from hnm1];simp only [cond_true,eb3];cases uSs p f2 f3 lo nm vis b with
    | error c=>exact id
    | ok x =>
     obtain ⟨b,w,x⟩:=x;rintro ⟨rfl,rfl,rfl⟩;exact ⟨rfl,rfl,rfl⟩
def uPs:List ByteArray→List Nat→List aaL→Ex (List ByteArray × List Nat × Unit)
 | nm,vis,[]=>.ok (nm,vis,())
 | nm,vis,.mk a _ :: l=>eb3 (uMk nm vis a) fun nm1 vis1 _=>uPs nm1 vis1 l
def uF (fs:List aac):aac→Ex (aac × List ByteArray)
 | .mk n ps res fl _ b=>eb3 (uPs [] [] ps) fun nm vis _=>eb3 (uSs fs res fl 0 nm vis b) fun nm1 _ b'=>uD (decide (nm1.length≤32)) 5 (.ok (.mk n ps res fl (nm1.length:Int) b',nm1))
def uFs (fs:List aac):List aac→Ex (List aac × List (List ByteArray))
 | []=>.ok ([],[])
 | f :: l=>eb (uF fs f) fun x=>eb (uFs fs l) fun y=>.ok (x.1 :: y.1,x.2 :: y.2)
def agj:aac→ByteArray | .mk n _ _ _ _ _=>n
def hasF (a:ByteArray):List aac→Bool
 | []=>false
 | f :: l=>seq (agj f) a || hasF a l
def dupF:List aac→List aac→Bool
 | _,[]=>false
 | pre,f :: l=>hasF (agj f) pre || dupF (pre ++ [f]) l
def uP:aaa→Ex (aaa × List (List ByteArray))
 | .mk fs=>uD (wf false (.mk fs)) 2 (uD (!dupF [] fs) 21 (uD (decide (ab7 fs=0)) (ab7 fs) (eb (uFs fs fs) fun x=>.ok (.mk x.1,x.2))))
theorem afb {z:Bool} : ∀ {l:List aac} {f:aac},f ∈ l→cnFs l≤600→gFs z l=true→(match f with | .mk n ps res fl v b=>szSs b≤600∧ps.length≤4∧gSs z b 1=true)
 | .mk n ps res fl v b :: l,f,hf,hc,hg=>by
  simp only [cnFs,cnF] at hc;simp only [gFs,aij,Bool.and_eq_true,decide_eq_true_eq] at hg;rcases List.mem_cons.1 hf with rfl | h
  ·exact ⟨by omega,hg.1.1.1.1.1.2,hg.2.2.1⟩
  ·exact afb h (by omega) hg.2.2.2
theorem aj2 (k:Nat) (p:List aac) (n:ByteArray) (ps0:List aaL) (res:Int) (fl:Bool) (v:Int) (b0 b:List aaf) (g1:List aaL) : ∀ (ps:List aaL) (i:Nat) (nm:List ByteArray) (vis:List Nat) (d:List (ByteArray × Int)),nm.length + ps.length≤1000→Rel ([] ++ [d]) vis nm →
  match uPs nm vis ps with
  | .error c=>acB k n g1 res fl b ps i p n ps0 res fl v b0 nm ([] ++ [d]) 0=some (.error c)
  | .ok (nm',vis',_)=>∃ d' j,acB k n g1 res fl b ps i p n ps0 res fl v b0 nm ([] ++ [d]) 0=acB k n g1 res fl b [] j p n ps0 res fl v b0 nm' ([] ++ [d']) 0∧Rel ([] ++ [d']) vis' nm'∧nm'.length≤nm.length + ps.length
 | [],i,nm,vis,d,hn,R=>⟨d,i,rfl,R,by simp⟩
 | .mk a kd :: ps,i,nm,vis,d,hn,R=>by
  simp only [List.length_cons] at hn;have h:=ahB k p (.mk n ps0 res fl v b0) 0 R a (by omega) (by simp);unfold uPs;revert h;cases uMk nm vis a with
  | error c =>
   intro h;simp only [NN] at h;unfold acB;simp only [eb3];rw [show f133 k (.mk (.mk p) (.mk n ps0 res fl v b0) nm ([] ++ [d]) 0) a=some (.error c) from h];rfl
  | ok x =>
   obtain ⟨nm1,vis1,w⟩:=x;rintro ⟨d1,h,R1,hp,hl⟩;simp only [eb3];have ih:=aj2 k p n ps0 res fl v b0 b g1 ps (i + 1) nm1 vis1 d1 (by omega) R1;have e:acB k n g1 res fl b (.mk a kd :: ps) i p n ps0 res fl v b0 nm ([] ++ [d]) 0=acB k n g1 res fl b ps (i + 1) p n ps0 res fl v b0 nm1 ([] ++ [d1]) 0:=by
    conv=>lhs; unfold acB
    rw [show f133 k (.mk (.mk p) (.mk n ps0 res fl v b0) nm ([] ++ [d]) 0) a=some (.ok (.mk (.mk p) (.mk n ps0 res fl v b0) nm1 ([] ++ [d1]) 0,w)) from h];rfl
   revert ih;cases uPs nm1 vis1 ps with
   | error c=>intro ih; rw [e]; exact ih
   | ok x =>
    obtain ⟨nm2,vis2,u⟩:=x;rintro ⟨d2,j,h2,R2,hl2⟩;exact ⟨d2,j,by rw [e]; exact h2,R2,by simp only [List.length_cons]; omega⟩
theorem ajV (k:Nat) (p:List aac) (n:ByteArray) (ps0:List aaL) (res:Int) (fl:Bool) (v:Int) (b0:List aaf) (g1:List aaL) : ∀ (l:List aaf) (i:Nat) (xs:List aaf) (nm:List ByteArray) (vis:List Nat) (d:List (ByteArray × Int)),4 * szSs l≤k→xs.length + szSs l≤100000→nm.length + szSs l≤100000→Rel ([] ++ [d]) vis nm →
  aeJ k n res fl g1 l i p n ps0 res fl v b0 nm ([] ++ [d]) 0 xs=some (eb3 (uSs p res fl 0 nm vis l) fun nm1 _ b'=>uD (decide (nm1.length≤32)) 5 (.ok (.mk n g1 res fl (nm1.length:Int) (xs ++ b'),nm1)))
 | [],i,xs,nm,vis,d,hm,hx,hn,R=>by
  unfold aeJ ak6;rw [uSs];have e:decide ((nm.length:Int)≤32)=decide (nm.length≤32):=by rw [decide_eq_decide]; omega
  simp only [aec,Option.bind_some,eb3,e,uD,List.append_nil];cases decide (nm.length≤32) <;> rfl
 | s :: l,i,xs,nm,vis,d,hm,hx,hn,R=>by
  simp only [szSs] at hm hx hn;have hp0:=acl s;obtain ⟨e0,e1,e2,e3,e4,e5,e6,e7,e8,e9,e10⟩:=s;unfold aeJ;rw [uSs];have h:=(nR k p n ps0 res fl v b0 k (Nat.le_refl k)).1 (.mk e0 e1 e2 e3 e4 e5 e6 e7 e8 e9 e10) (by omega) nm vis [] d 0 (by omega) (by simp; omega) (by omega) R;rw [show (aa0 k k).f134=f134 k from rfl,show (((0:Nat):Int))=0 from rfl] at h;revert h;cases uS p res fl 0 nm vis (.mk e0 e1 e2 e3 e4 e5 e6 e7 e8 e9 e10) with
  | error c=>intro h; simp only [NN] at h; rw [h]; rfl
  | ok x =>
   obtain ⟨nm1,vis1,s'⟩:=x;rintro ⟨d1,h,R1,hp,hl⟩;rw [h];obtain ⟨r0,r1,r2,r3,r4,r5,r6,r7,r8,r9,r10⟩:=s';simp only [Option.bind_some,eb3];rw [aaQ (by unfold maxB; omega)];refine (ajV k p n ps0 res fl v b0 g1 l (i + 1) (xs ++ [.mk r0 r1 r2 r3 r4 r5 r6 r7 r8 r9 r10]) nm1 vis1 d1 (by omega) (by rw [abi]; omega) (by omega) R1).trans ?_;cases uSs p res fl 0 nm1 vis1 l with
   | error c=>rfl
   | ok x=>simp [eb3]
theorem awQ (k:Nat) (p:List aac) (f:aac) (h:match f with | .mk n ps res fl v b=>szSs b≤600∧ps.length≤4∧gSs false b 1=true) (hk:4 * 600≤k):f104 k (.mk p) f=some (uF p f):=by
 obtain ⟨n,ps,res,fl,v,b⟩:=f;obtain ⟨h1,h2,h3⟩:=h;unfold f104 aov uF;simp only;have R0:Rel ([] ++ [[]]) [] []:=⟨fun a=>rfl,fun v hv=>by cases hv⟩;have h:=aj2 k p n ps res fl v b b ps ps 0 [] [] [] (by simp; omega) R0;revert h;cases uPs [] [] ps with
 | error c=>intro h; exact h
 | ok x =>
  obtain ⟨nm,vis,u⟩:=x;rintro ⟨d,j,h,R,hl⟩;refine (h:acB k n ps res fl b ps 0 p n ps res fl v b [] [[]] 0=_).trans ?_;unfold acB f129;rw [aaQ (by unfold maxB; omega)];simp only [Option.bind_some,eb3];exact ajV k p n ps res fl v b ps b 0 [] nm vis d (by omega) (by simp; omega) (by simp at hl; omega) R
theorem ana (k:Nat) (l:List aac) (f:aac):af8 k l f=some (hasF (agj f) l):=by
 obtain ⟨n,ps,res,fl,v,b⟩:=f;have h : ∀ (l:List aac) (i:Nat),(acu k n ps res fl v b l i).bind (fun r=>some (decide (r ≥ 0)))=some (hasF n l):=by
  intro l;induction l with
  | nil=>intro i; rfl
  | cons e l ih =>
   intro i;obtain ⟨e0,e1,e2,e3,e4,e5⟩:=e;unfold acu akv afd hasF;simp only [Option.bind_some,agj];rw [ahI n e0];cases seq e0 n with
   | true=>simp
   | false=>simpa using ih (i + 1)
 unfold af8 afk alb aff;exact h l 0
theorem amv (k:Nat) : ∀ (rest pre:List aac),ahe k (pre ++ rest) rest pre.length=some (cond (dupF pre rest) (.error 21) (.ok ()))
 | [],pre=>rfl
 | f :: rest,pre=>by
  unfold ahe dupF;have e:(pre ++ f :: rest).take pre.length=pre:=by simp
  rw [e,ana];simp only [Option.bind_some,aec];cases hasF (agj f) pre with
  | true=>rfl
  | false =>
   have ih:=amv k rest (pre ++ [f]);rw [abi,List.append_assoc,List.singleton_append] at ih;simpa using ih
theorem alV (k:Nat) (p:List aac) (hk:4 * 600≤k) : ∀ (rest:List aac) (out:List aac) (names:List (List ByteArray)),(∀ f ∈ rest,match f with | .mk n ps res fl v b=>szSs b≤600∧ps.length≤4∧gSs false b 1=true) →
  agi k (.mk p) rest out names=some (eb (uFs p rest) fun x=>.ok (.mk (out ++ x.1),names ++ x.2))
 | [],out,names,h=>by simp [agi,uFs,eb]
 | f :: rest,out,names,h=>by
  unfold agi uFs;rw [awQ k p f (h f (by simp)) hk];cases uF p f with
  | error c=>rfl
  | ok x =>
   simp only [Option.bind_some,eb];rw [alV k p hk rest (out ++ [x.1]) (names ++ [x.2]) (fun g hg=>h g (by simp [hg]))];cases uFs p rest with
   | error c=>rfl
   | ok y=>simp [eb]
theorem ayZ (k:Nat) (p:aaa) (hk:2 * szP p + 1≤k) (hk2:4 * 600≤k):f72 k p=some (uP p):=by
 have h78:=auE k p false hk;obtain ⟨fs⟩:=p;unfold f72 uP;simp only [h78,Option.bind_some,aec];cases hw:wf false (.mk fs) with
 | false=>rfl
 | true =>
  simp only [wf,Bool.and_eq_true,decide_eq_true_eq] at hw;have h1:=amv k fs [];simp only [List.nil_append,List.length_nil] at h1;simp only [cond_true,h1,Option.bind_some,uD];cases dupF [] fs with
  | true=>rfl
  | false =>
   simp only [cond_false,cond_true,Bool.not_false,aec,Option.bind_some];cases decide (ab7 fs=0) with
   | false=>rfl
   | true =>
    simp only [cond_true];rw [alV k fs hk2 fs [] [] (fun f hf=>afb hf hw.2 hw.1.2)];rfl
theorem amx (k:Nat) (p:List aac) (n:ByteArray) (ps0:List aaL) (res:Int) (fl:Bool) (v:Int) (b0 b:List aaf) (g1:List aaL) : ∀ (ps:List aaL) (i:Nat) (nm:List ByteArray) (vis:List Nat) (er:Int),nm.length + ps.length≤1000→vis.length + ps.length≤1000→okV nm vis →
  ∃ nm' vis' er' j,afE k n g1 res fl b ps i p n ps0 res fl v b0 nm (vI vis) 0 er=afE k n g1 res fl b [] j p n ps0 res fl v b0 nm' (vI vis') 0 er'∧okV nm' vis'∧nm'.length≤nm.length + ps.length∧vis'.length≤vis.length + ps.length∧(er ≠ 0→er'=er) ∧
   (er=0→match uPs nm vis ps with | .error c=>er'=c∧c ≠ 0 | .ok (a,b,_)=>er'=0∧nm'=a∧vis'=b)
 | [],i,nm,vis,er,hn,hn2,hv=>⟨nm,vis,er,i,rfl,hv,by simp,by simp,fun _=>rfl,fun h=>⟨h,rfl,rfl⟩⟩
 | .mk a kd :: ps,i,nm,vis,er,hn,hn2,hv=>by
  simp only [List.length_cons] at hn hn2;obtain ⟨nm1,vis1,er1,w,hr,hp1,hv1,hok1,hl1,hl2,he,h0⟩:=aj8 k p (.mk n ps0 res fl v b0) 0 er hv a (by omega) (by omega);obtain ⟨nm2,vis2,er2,j,hr2,hok2,hl3,hl4,he2,h02⟩:=amx k p n ps0 res fl v b0 b g1 ps (i + 1) nm1 vis1 er1 (by omega) (by omega) hok1;refine ⟨nm2,vis2,er2,j,?_,hok2,by simp only [List.length_cons]; omega,by simp only [List.length_cons]; omega,fun h=>?_,fun h=>?_⟩
  ·rw [← hr2]
   conv=>lhs; unfold afE
   rw [show f86 k (.mk p (.mk n ps0 res fl v b0) nm (vI vis) 0 er) a=_ from hr];rfl
  ·rw [he2 (by rw [he h]; exact h),he h]
  ·have h0:=h0 h;unfold uPs;revert h0;cases uMk nm vis a with
   | error c =>
    rintro ⟨rfl,hc⟩;exact ⟨he2 hc,hc⟩
   | ok x =>
    obtain ⟨b,v,x⟩:=x;rintro ⟨rfl,rfl,rfl,rfl⟩;have h02:=h02 rfl;simp only [eb3];revert h02;cases uPs nm1 vis1 ps with
    | error c=>exact id
    | ok x=>obtain ⟨b,v,x⟩:=x; exact id
theorem ayO (k:Nat) (p:List aac) (f:aac) (h:match f with | .mk n ps res fl v b=>szSs b≤600∧ps.length≤4∧gSs false b 1=true) (hk:4 * 600 + 1≤k) :
  ∃ nm vis er y z,f61 k p f=some (.mk p z nm vis 0 er,y)∧match uF p f with | .error c=>er=c∧c ≠ 0 | .ok (g,l)=>er=0∧y=g∧nm=l:=by
 obtain ⟨n,ps,res,fl,v,b⟩:=f;obtain ⟨h1,h2,h3⟩:=h;unfold f61 as6;simp only;obtain ⟨nm1,vis1,er1,j,hr,hok1,hl1,hl2,he,h0⟩:=amx k p n ps res fl v b b ps ps 0 [] [] 0 (by simp; omega) (by simp; omega) (fun v hv=>by cases hv);have h0:=h0 rfl;rw [show afE k n ps res fl b ps 0 p n ps res fl v b [] [] 0 0=_ from hr];unfold afE;simp only [List.length_nil,Nat.zero_add] at hl1 hl2;obtain ⟨nm2,er2,z,hr2,hp2,hok2,hl3,he2,h02⟩:=(rRS k p n ps res fl v b k (Nat.le_refl k)).2.1 b 1 (by omega) h3 0 0 rfl nm1 vis1 0 er1 hok1 (by omega) (by omega) (by omega);rw [show (ach k k).f87=f87 k from rfl] at hr2;rw [show f87 k (.mk p (.mk n ps res fl v b) nm1 (vI vis1) 0 er1) b 0=_ from hr2];simp only [Option.bind_some,aho];unfold aoR;refine ⟨nm2,_,_,_,_,rfl,?_⟩;simp only [uF];revert h0;cases uPs [] [] ps with
 | error c =>
  rintro ⟨rfl,hc⟩;have:=he2 hc;refine ⟨?_,hc⟩;unfold agn;rw [this,show (er1 == 0)=false by simpa using hc,Bool.and_false]; rfl
 | ok x =>
  obtain ⟨b',v',x⟩:=x;rintro ⟨rfl,rfl,rfl⟩;have h02:=h02 rfl;simp only [eb3];rw [amz,Nat.add_zero] at h02;revert h02;cases uSs p res fl 0 nm1 vis1 b with
  | error c =>
   rintro ⟨rfl,hc⟩;refine ⟨?_,hc⟩;unfold agn;rw [show (er2 == 0)=false by simpa using hc,Bool.and_false]; rfl
  | ok x =>
   obtain ⟨b',v',x⟩:=x;rintro ⟨rfl,rfl,rfl⟩;have e:decide ((nm2.length:Int)≤32)=decide (nm2.length≤32):=by rw [decide_eq_decide]; omega
   rw [e];simp only [uD];cases decide (nm2.length≤32) with
   | true=>exact ⟨rfl,rfl,rfl⟩
   | false=>exact ⟨rfl,by decide⟩
theorem asl (k:Nat) (a:ByteArray) (f:aac) (hf:seq (agj f) a=true) (rest:List aac) : ∀ (pre:List aac) (i:Nat),∃ r,ad0 k a (pre ++ f :: rest) i=some r∧decide (r < ((i + pre.length:Nat):Int))=hasF a pre
 | [],i=>by
  obtain ⟨n,ps,res,fl,v,b⟩:=f;simp only [agj] at hf;refine ⟨i,?_,by simp [hasF]⟩;simp only [List.nil_append];unfold ad0;rw [hf]; rfl
 | .mk n ps res fl v b :: pre,i=>by
  simp only [List.cons_append];unfold ad0 hasF;simp only [agj];cases seq n a with
  | true=>exact ⟨i,rfl,by simp; omega⟩
  | false =>
   obtain ⟨r,h1,h2⟩:=asl k a f hf rest pre (i + 1);exact ⟨r,h1,by rw [← h2,Bool.false_or]; simp only [List.length_cons]; rw [decide_eq_decide]; omega⟩
theorem aqP (f:aac):seq (agj f) (agj f)=true:=aoU _
theorem amM (k:Nat) (fs:List aac) : ∀ (rest pre:List aac),fs=pre ++ rest→af6 k fs rest pre.length=cond (dupF pre rest) (some (.mk [],21)) (af6 k fs [] 0)
 | [],pre,h=>rfl
 | f :: rest,pre,h=>by
  obtain ⟨r,h1,h2⟩:=asl k (agj f) f (aqP f) rest pre 0;rw [← h] at h1;rw [Nat.zero_add] at h2
  conv=>lhs; unfold af6
  unfold dupF;obtain ⟨n,ps,res,fl,v,b⟩:=f;simp only [agj] at h1 h2 ⊢;unfold f60 aph;rw [h1];simp only [Option.bind_some,h2];cases hasF n pre with
  | true=>rfl
  | false =>
   have ih:=amM k fs rest (pre ++ [.mk n ps res fl v b]) (by rw [h]; simp);rw [abi] at ih;simpa using ih
theorem arg (k:Nat) (F:Option (aaa × Int)) : ∀ (l pre:List aac),∃ r,ad0 k ⟨#[109,97,105,110]⟩ l pre.length=some r ∧
  (cond (decide (r < 0)) (some (aaa.mk [],(20:Int))) ((idxO (pre ++ l) r).bind fun q_=>match q_ with | .mk _ e1 _ e3 _ _=>cond e3 (some (aaa.mk [],25)) (cond (decide ((e1.length:Int) > 0)) (some (aaa.mk [],24)) F))) =
   cond (decide (ab7 l=0)) F (some (.mk [],ab7 l))
 | [],pre=>⟨-1,rfl,rfl⟩
 | .mk n ps res fl v b :: l,pre=>by
  unfold ad0 ab7;cases hs:seq n ⟨#[109,97,105,110]⟩ with
  | true =>
   refine ⟨pre.length,rfl,?_⟩;have hj:decide ((pre.length:Int) < 0)=false:=by simp
   rw [alC pre (.mk n ps res fl v b) l _ rfl,hj];simp only [cond_false,cond_true,Option.bind_some,Bool.not_true];cases fl <;> cases decide ((ps.length:Int) > 0) <;> simp
  | false =>
   obtain ⟨r,h1,h2⟩:=arg k F l (pre ++ [.mk n ps res fl v b]);rw [abi] at h1;rw [List.append_assoc,List.singleton_append] at h2;exact ⟨r,h1,h2⟩
theorem amJ (k:Nat) (p:List aac) (hk:4 * 600 + 1≤k) : ∀ (rest:List aac) (i:Nat) (out:List aac),out.length + rest.length≤1000→(∀ f ∈ rest,match f with | .mk n ps res fl v b=>szSs b≤600∧ps.length≤4∧gSs false b 1=true) →
  afC k p rest i out=some (match uFs p rest with | .error c=>(.mk [],c) | .ok x=>(.mk (out ++ x.1),0))
 | [],i,out,hn,h=>by simp [afC,uFs]
 | f :: rest,i,out,hn,h=>by
  simp only [List.length_cons] at hn;obtain ⟨nm,vis,er,y,z,h1,h2⟩:=ayO k p f (h f (by simp)) hk;have ih:=fun o ho=>amJ k p hk rest (i + 1) o ho (fun g hg=>h g (by simp [hg]))
  obtain ⟨e0,e1,e2,e3,e4,e5⟩:=f;obtain ⟨g0,g1,g2,g3,g4,g5⟩:=y;obtain ⟨z0,z1,z2,z3,z4,z5⟩:=z;unfold afC uFs;rw [h1];simp only [Option.bind_some];unfold aoA aol;revert h2;cases uF p (.mk e0 e1 e2 e3 e4 e5) with
  | error c =>
   rintro ⟨rfl,hc⟩;rw [show (er != 0)=true by simpa using hc];rfl
  | ok x =>
   obtain ⟨g,l⟩:=x;rintro ⟨rfl,rfl,rfl⟩;rw [show ((0:Int) != 0)=false from rfl];simp only [cond_false,eb];rw [aaQ (by unfold maxB; omega),ih _ (by rw [abi]; omega)];cases uFs p rest with
   | error c=>rfl
   | ok y=>simp
theorem axU (k:Nat) (p:aaa) (hk:2 * szP p + 1≤k) (hk2:4 * 600 + 1≤k):f38 k p=some (match uP p with | .error c=>(.mk [],c) | .ok x=>(x.1,0)):=by
 have h20:=auH k p hk;obtain ⟨fs⟩:=p;unfold f38 atA uP;simp only [h20,Option.bind_some];cases hw:wf false (.mk fs) with
 | false=>rfl
 | true =>
  simp only [wf,Bool.and_eq_true,decide_eq_true_eq] at hw;simp only [Bool.not_true,cond_false,uD,cond_true];have h1:=amM k fs fs [] rfl;rw [List.length_nil] at h1;rw [h1];cases dupF [] fs with
  | true=>rfl
  | false =>
   simp only [cond_false,Bool.not_false,cond_true];obtain ⟨r,h2,h3⟩:=arg k (afC k fs fs 0 []) fs [];rw [List.length_nil] at h2
   conv=>lhs; unfold af6 f60 aph
   rw [h2];simp only [Option.bind_some];refine Eq.trans h3 ?_;cases decide (ab7 fs=0) with
   | false=>rfl
   | true =>
    simp only [cond_true];rw [amJ k fs hk2 fs 0 [] (by simp; omega) (fun f hf=>afb hf hw.2 hw.1.2)];cases uFs fs fs <;> rfl
theorem axm (k:Nat) (p:aaa) (hk:2 * szP p + 1≤k) (hk2:4 * 600 + 1≤k):f47 k p=some (match uP p with | .error c=>(.mk [],c) | .ok x=>(x.1,0)):=by
 have h:=ayZ k p hk (by omega);obtain ⟨fs⟩:=p;unfold f47 ato ahx ahz afi;simp only [h,Option.bind_some];cases uP (.mk fs) with
 | error c=>rfl
 | ok x=>obtain ⟨⟨q⟩,l⟩:=x; rfl
theorem aj4 {α β:Type} {u:Ex α} {f:α→Ex β} {y:β} (h:eb u f=.ok y) : ∃ x,u=.ok x∧f x=.ok y:=by
 cases u with
 | error c=>cases h
 | ok x=>exact ⟨x,rfl,h⟩
theorem aaO {α β:Type} {u:Ex (List ByteArray × List Nat × α)} {f:List ByteArray→List Nat→α→Ex β} {y:β} (h:eb3 u f=.ok y) : ∃ a b x,u=.ok (a,b,x)∧f a b x=.ok y:=by
 cases u with
 | error c=>cases h
 | ok x=>exact ⟨x.1,x.2.1,x.2.2,rfl,h⟩
theorem agU {α:Type} {b:Bool} {c:Int} {x:Ex α} {y:α} (h:uD b c x=.ok y):b=true∧x=.ok y:=by
 cases b with
 | false=>cases h
 | true=>exact ⟨rfl,h⟩
mutual
theorem ayt : ∀ e a,gE false e a=true→stE e=e
 | .mk op num txt slot l,a,h=>by
  simp only [gE,Bool.and_eq_true,Bool.false_or,beq_iff_eq] at h;simp only [stE,ahW l _ h.2,h.1.1.2]
theorem ahW : ∀ l a,gEs false l a=true→stEs l=l
 | [],a,h=>rfl
 | e :: l,a,h=>by
  simp only [gEs,Bool.and_eq_true] at h;simp only [stEs,ayt e a h.1,ahW l a h.2]
end
mutual
theorem azc : ∀ s a,gS false s a=true→stS s=s
 | .mk op name s2 fr s4 flag l6 l7 l8 l9 l10,a,h=>by
  simp only [gS,Bool.and_eq_true,Bool.false_or,beq_iff_eq] at h;obtain ⟨⟨⟨_,h2,h4⟩,_⟩,h6,h7,h8,h9,h10⟩:=h;simp only [stS,ahW l6 _ h6,aeO l7 _ h7,aeO l8 _ h8,aeO l9 _ h9,anE l10 _ h10,h2,h4]
theorem aeO : ∀ l a,gSs false l a=true→stSs l=l
 | [],a,h=>rfl
 | e :: l,a,h=>by
  simp only [gSs,Bool.and_eq_true] at h;simp only [stSs,azc e a h.1,aeO l a h.2]
theorem axe : ∀ c a,gC false c a=true→stC c=c
 | .mk kind name slot es b,a,h=>by
  simp only [gC,Bool.and_eq_true,Bool.false_or,beq_iff_eq] at h;obtain ⟨⟨⟨_,h2⟩,_⟩,h6,h7⟩:=h;simp only [stC,ahW es _ h6,aeO b _ h7,h2]
theorem anE : ∀ l a,gCs false l a=true→stCs l=l
 | [],a,h=>rfl
 | .mk k nm s es b :: l,a,h=>by
  simp only [gCs,Bool.and_eq_true] at h;simp only [stCs,axe _ a h.1.2,anE l a h.2]
end
mutual
theorem az7 {nm:List ByteArray} {vis:List Nat} : ∀ e a e',gE false e a=true→uE nm vis e=.ok e'→stE e'=e
 | .mk op num txt slot l,a,e',h,hu=>by
  simp only [gE,Bool.and_eq_true,Bool.false_or,beq_iff_eq] at h;obtain ⟨⟨⟨_,rfl⟩,_⟩,hl⟩:=h;unfold uE at hu;revert hu;cases h1:uEs nm vis l with
  | error c=>intro hu; cases hu
  | ok l' =>
   have h2:=aon l _ l' hl h1;cases op == 4 with
   | false=>intro hu; cases hu; simp only [stE,h2]
   | true =>
    cases abh nm vis txt with
    | none=>intro hu; cases hu
    | some v=>intro hu; cases hu; simp only [stE,h2]
theorem aon {nm:List ByteArray} {vis:List Nat} : ∀ l a l',gEs false l a=true→uEs nm vis l=.ok l'→stEs l'=l
 | [],a,l',h,hu=>by cases hu; rfl
 | e :: l,a,l',h,hu=>by
  simp only [gEs,Bool.and_eq_true] at h;unfold uEs at hu;revert hu;cases h1:uE nm vis e with
  | error c=>intro hu; cases hu
  | ok e1 =>
   cases h2:uEs nm vis l with
   | error c=>intro hu; cases hu
   | ok l1=>intro hu; cases hu; simp only [stEs,az7 e a e1 h.1 h1,aon l a l1 h.2 h2]
end
section
variable (fs:List aac) (f2:Int) (f3:Bool)
theorem ayw : ∀ n:Nat,
  (∀ s,szS s≤n→∀ a lo nm vis r,gS false s a=true→uS fs f2 f3 lo nm vis s=.ok r→stS r.2.2=s) ∧
  (∀ l,szSs l≤n→∀ a lo nm vis r,gSs false l a=true→uSs fs f2 f3 lo nm vis l=.ok r→stSs r.2.2=l) ∧
  (∀ c,szC c≤n→∀ a lo nm vis r,gC false c a=true→uC fs f2 f3 lo nm vis c=.ok r→stC r.2.2=c) ∧
  (∀ l,szCs l≤n→∀ a lo nm vis r,gCs false l a=true→uCs fs f2 f3 lo nm vis l=.ok r→stCs r.2.2=l)
 | 0=>by
  refine ⟨fun s h=>?_,fun l h=>?_,fun c h=>?_,fun l h=>?_⟩
  ·have:=acl s; omega
  ·cases l with
   | nil=>intro a lo nm vis r _ h; simp only [uSs] at h; cases h; rfl
   | cons s l=>have:=acl s; simp only [szSs] at h; omega
  ·have:=adq c; omega
  ·cases l with
   | nil=>intro a lo nm vis r _ h; simp only [uCs] at h; cases h; rfl
   | cons s l=>have:=adq s; simp only [szCs] at h; omega
 | n + 1=>by
  obtain ⟨i1,i2,i3,i4⟩:=ayw n;have a1 : ∀ s,szS s≤n + 1→∀ a lo nm vis r,gS false s a=true→uS fs f2 f3 lo nm vis s=.ok r→stS r.2.2=s:=by
   rintro ⟨op,name,s2,fr,s4,flag,l6,l7,l8,l9,l10⟩ h a lo nm vis r hg hu;simp only [szS] at h;simp only [gS,Bool.and_eq_true,Bool.false_or,beq_iff_eq] at hg;obtain ⟨⟨⟨_,rfl,rfl⟩,_⟩,g6,g7,g8,g9,g10⟩:=hg;have d6:=ahW l6 _ g6;have d7:=aeO l7 _ g7;have d8:=aeO l8 _ g8;have d9:=aeO l9 _ g9;have d10:=anE l10 _ g10;have h7:=fun lo nm vis r=>i2 l7 (by omega) _ lo nm vis r g7
   have h8:=fun lo nm vis r=>i2 l8 (by omega) _ lo nm vis r g8
   have h9:=fun lo nm vis r=>i2 l9 (by omega) _ lo nm vis r g9
   have h10:=fun lo nm vis r=>i4 l10 (by omega) _ lo nm vis r g10
   simp only [uS,amz,ajm] at hu;obtain ⟨r6,h6,hu⟩:=aj4 hu;have e6:=aon l6 _ r6 g6 h6;clear i1 i2 i3 i4;revert hu;cases op == 27 with
   | true =>
    intro hu;obtain ⟨nm1,v1,cs,h1,hu⟩:=aaO hu;cases hu;simp only [stS,e6,d7,d8,d9,h10 _ _ _ _ h1]
   | false =>
   intro hu;obtain ⟨ix,_,hu⟩:=aj4 hu;revert hu;cases op == 2 with
   | true =>
    cases abh nm vis name with
    | none=>intro hu; cases hu
    | some v=>intro hu; cases hu; simp only [stS,e6,d7,d8,d9,d10]
   | false =>
   cases op == 18 || op == 19 with
   | true=>intro hu; obtain ⟨_,hu⟩:=agU hu; cases hu; simp only [stS,e6,d7,d8,d9,d10]
   | false =>
   cases op == 29 with
   | true=>intro hu; obtain ⟨_,hu⟩:=agU hu; cases hu; simp only [stS,e6,d7,d8,d9,d10]
   | false =>
   cases op == 17 with
   | true=>intro hu; obtain ⟨_,hu⟩:=agU hu; cases hu; simp only [stS,e6,d7,d8,d9,d10]
   | false =>
   cases op == 21 with
   | true =>
    intro hu;obtain ⟨nm1,v1,b,h1,hu⟩:=aaO hu;cases hu;obtain ⟨nm2,v2,b2,h2,h1⟩:=aaO h1;cases h1;simp only [stS,e6,h7 _ _ _ _ h2,d8,d9,d10]
   | false =>
   cases op == 28 with
   | true =>
    intro hu;obtain ⟨nm1,v1,b,h1,hu⟩:=aaO hu;cases hu;obtain ⟨nm2,v2,b2,h2,h1⟩:=aaO h1;obtain ⟨nm3,v3,b3,h3,h1⟩:=aaO h1;cases h1;simp only [stS,e6,h7 _ _ _ _ h3,d8,d9,d10]
   | false =>
   cases op == 25 with
   | true =>
    intro hu;obtain ⟨nm1,v1,b,h1,hu⟩:=aaO hu;cases hu;obtain ⟨nm2,v2,b2,h2,h1⟩:=aaO h1;obtain ⟨nm3,v3,b3,h3,h1⟩:=aaO h1;cases h1;simp only [stS,e6,h7 _ _ _ _ h3,d8,d9,d10]
   | false =>
   cases op == 24 with
   | true =>
    intro hu;obtain ⟨nm1,v1,b,h1,hu⟩:=aaO hu;obtain ⟨nm2,v2,b2,h2,h1⟩:=aaO h1;cases h1;obtain ⟨nm1,v1,b,h1,hu⟩:=aaO hu;obtain ⟨nm2,v2,b3,h4,h1⟩:=aaO h1;obtain ⟨nm3,v3,b4,h3,h1⟩:=aaO h1;cases h1;obtain ⟨nm1,v1,b,h1,hu⟩:=aaO hu;obtain ⟨nm2,v2,b5,h5,h1⟩:=aaO h1;cases h1;cases hu;simp only [stS,e6,h7 _ _ _ _ h2,h8 _ _ _ _ h3,h9 _ _ _ _ h5,d10]
   | false =>
   cases op == 20 || op == 22 || op == 23 || op == 26 with
   | true =>
    intro hu;obtain ⟨nm1,v1,b,h1,hu⟩:=aaO hu;obtain ⟨nm2,v2,b2,h2,h1⟩:=aaO h1;cases h1;obtain ⟨nm1,v1,b,h1,hu⟩:=aaO hu;obtain ⟨nm2,v2,b3,h4,h1⟩:=aaO h1;cases h1;cases hu;simp only [stS,e6,h7 _ _ _ _ h2,h8 _ _ _ _ h4,d9,d10]
   | false =>
    intro hu;obtain ⟨nm1,v1,b,h1,hu⟩:=aaO hu;obtain ⟨_,hu⟩:=agU hu;cases hu;simp only [stS,e6,d7,d8,d9,d10]
  have a3 : ∀ c,szC c≤n + 1→∀ a lo nm vis r,gC false c a=true→uC fs f2 f3 lo nm vis c=.ok r→stC r.2.2=c:=by
   rintro ⟨kind,name,slot,es,b⟩ h a lo nm vis r hg hu;simp only [szC] at h;simp only [gC,Bool.and_eq_true,Bool.false_or,beq_iff_eq] at hg;obtain ⟨⟨⟨_,rfl⟩,_⟩,g6,g7⟩:=hg;simp only [uC,ajm] at hu;obtain ⟨r6,h6,hu⟩:=aj4 hu;obtain ⟨nm1,v1,vb,h1,hu⟩:=aaO hu;obtain ⟨nm2,v2,b2,h2,h1⟩:=aaO h1;obtain ⟨nm3,v3,b3,h3,h1⟩:=aaO h1;cases h1;cases hu;simp only [stC,aon es _ r6 g6 h6,i2 b (by omega) _ _ _ _ _ g7 h3]
  have a2 : ∀ l,szSs l≤n + 1→∀ a lo nm vis r,gSs false l a=true→uSs fs f2 f3 lo nm vis l=.ok r→stSs r.2.2=l:=by
   intro l;induction l with
   | nil=>intro h a lo nm vis r _ hu; simp only [uSs] at hu; cases hu; rfl
   | cons s l ih =>
    intro h a lo nm vis r hg hu;simp only [szSs] at h;simp only [gSs,Bool.and_eq_true] at hg;simp only [uSs] at hu;obtain ⟨nm1,v1,x,h1,hu⟩:=aaO hu;obtain ⟨nm2,v2,y,h2,hu⟩:=aaO hu;cases hu;simp only [stSs,a1 s (by omega) _ _ _ _ _ hg.1 h1,ih (by omega) _ _ _ _ _ hg.2 h2]
  have a4 : ∀ l,szCs l≤n + 1→∀ a lo nm vis r,gCs false l a=true→uCs fs f2 f3 lo nm vis l=.ok r→stCs r.2.2=l:=by
   intro l;induction l with
   | nil=>intro h a lo nm vis r _ hu; simp only [uCs] at hu; cases hu; rfl
   | cons s l ih =>
    intro h a lo nm vis r hg hu;obtain ⟨kind,name,slot,es,b⟩:=s;simp only [szCs] at h;simp only [gCs,Bool.and_eq_true] at hg;simp only [uCs] at hu;obtain ⟨nm1,v1,x,h1,hu⟩:=aaO hu;obtain ⟨nm2,v2,y,h2,hu⟩:=aaO hu;cases hu;simp only [stCs,a3 _ (by omega) _ _ _ _ _ hg.1.2 h1,ih (by omega) _ _ _ _ _ hg.2 h2]
  exact ⟨a1,a2,a3,a4⟩
end
theorem aAh {fs:List aac} {q:aaa} {nl:List (List ByteArray)} (h:uP (.mk fs)=.ok (q,nl)):wf false (.mk fs)=true∧dupF [] fs=false∧ab7 fs=0∧∃ x,q=.mk x∧uFs fs fs=.ok (x,nl):=by
 unfold uP at h;obtain ⟨h1,h⟩:=agU h;obtain ⟨h2,h⟩:=agU h;obtain ⟨h3,h⟩:=agU h;obtain ⟨x,h4,h⟩:=aj4 h;cases h;exact ⟨h1,by simpa using h2,by simpa using h3,x.1,rfl,h4⟩
end Go.Proofs.YtphdlngnegjgcaaGreatDoor
namespace Go.Proofs.YtphdlngnegjgcaaGreatDoor
open Go
def Nz {α:Type} (u:Ex α):Prop:=∀ c,u=.error c→c ≠ 0
theorem Nz.ok {α:Type} (x:α):Nz (.ok x:Ex α):=fun c h=>by cases h
theorem Nz.er {α:Type} {c:Int} (h:c ≠ 0):Nz (.error c:Ex α):=fun c' h'=>by cases h'; exact h
theorem Nz.eb {α β:Type} {u:Ex α} {f:α→Ex β} (h:Nz u) (hf : ∀ x,Nz (f x)):Nz (eb u f):=by
 cases u with
 | error c=>intro c' h'; cases h'; exact h c rfl
 | ok x=>exact hf x
theorem Nz.eb3 {α β:Type} {u:Ex (List ByteArray × List Nat × α)} {f:List ByteArray→List Nat→α→Ex β} (h:Nz u) (hf : ∀ a b x,Nz (f a b x)):Nz (eb3 u f):=by
 cases u with
 | error c=>intro c' h'; cases h'; exact h c rfl
 | ok x=>exact hf x.1 x.2.1 x.2.2
theorem Nz.uD {α:Type} {b:Bool} {c:Int} {x:Ex α} (hc:c ≠ 0) (h:Nz x):Nz (uD b c x):=by
 cases b with
 | false=>exact .er hc
 | true=>exact h
theorem Nz.cond {α:Type} {b:Bool} {u v:Ex α} (h:Nz u) (h' : Nz v):Nz (cond b u v):=by
 cases b
 ·exact h'
 ·exact h
theorem Nz.uMk {nm:List ByteArray} {vis:List Nat} {a:ByteArray}:Nz (uMk nm vis a):=by
 unfold Go.Proofs.YtphdlngnegjgcaaGreatDoor.uMk;cases abh nm vis a with
 | none=>exact .ok _
 | some v=>exact .er (by decide)
theorem Nz.uCall {op:Int} {fr:ByteArray} {na:Nat} : ∀ {l:List aac} {i:Nat},Nz (uCall op fr na l i)
 | [],i=>.er (by decide)
 | .mk nm ps r fl v b :: l,i=>by
  unfold Go.Proofs.YtphdlngnegjgcaaGreatDoor.uCall;exact .cond (.cond (.cond (.ok _) (.er (by decide))) (.er (by decide))) .uCall
theorem Nz.uEs {nm:List ByteArray} {vis:List Nat} {l:List aam}:Nz (uEs nm vis l):=fun c h=>by rw [aoS h]; decide
section
variable (fs:List aac) (f2:Int) (f3:Bool)
theorem axt : ∀ n:Nat,
  (∀ s,szS s≤n→∀ lo nm vis,Nz (uS fs f2 f3 lo nm vis s)) ∧
  (∀ l,szSs l≤n→∀ lo nm vis,Nz (uSs fs f2 f3 lo nm vis l)) ∧
  (∀ c,szC c≤n→∀ lo nm vis,Nz (uC fs f2 f3 lo nm vis c)) ∧
  (∀ l,szCs l≤n→∀ lo nm vis,Nz (uCs fs f2 f3 lo nm vis l))
 | 0=>by
  refine ⟨fun s h=>?_,fun l h=>?_,fun c h=>?_,fun l h=>?_⟩
  ·have:=acl s; omega
  ·cases l with
   | nil=>intro lo nm vis; simp only [uSs]; exact .ok _
   | cons s l=>have:=acl s; simp only [szSs] at h; omega
  ·have:=adq c; omega
  ·cases l with
   | nil=>intro lo nm vis; simp only [uCs]; exact .ok _
   | cons s l=>have:=adq s; simp only [szCs] at h; omega
 | n + 1=>by
  obtain ⟨i1,i2,i3,i4⟩:=axt n;have a1 : ∀ s,szS s≤n + 1→∀ lo nm vis,Nz (uS fs f2 f3 lo nm vis s):=by
   rintro ⟨op,name,s2,fr,s4,flag,l6,l7,l8,l9,l10⟩ h lo nm vis;simp only [szS] at h;have h7:=i2 l7 (by omega);have h8:=i2 l8 (by omega);have h9:=i2 l9 (by omega);have h10:=i4 l10 (by omega);simp only [uS,amz,ajm];have hmk : ∀ nm vis,Nz (cond (seq name ⟨#[]⟩) (.ok (nm,vis,s2)) (uMk nm vis name):Ex (List ByteArray × List Nat × Int)):=fun nm vis=>.cond (.ok _) .uMk
   refine .eb .uEs fun r6=>.cond (.eb3 (h10 _ _ _) fun _ _ _=>.ok _) (.eb (.cond (.ok _) .uCall) fun ix=>?_)
   refine .cond ?_ (.cond (.uD (by decide) (.ok _)) (.cond (.uD (by decide) (.ok _)) (.cond (.uD (by decide) (.ok _)) (.cond (.eb3 (.eb3 (h7 _ _ _) fun _ _ _=>.ok _) fun _ _ _=>.ok _) ?_))))
   ·cases abh nm vis name with
    | none=>exact .er (by decide)
    | some v=>exact .ok _
   refine .cond (.eb3 (.eb3 (hmk _ _) fun _ _ _=>.eb3 (h7 _ _ _) fun _ _ _=>.ok _) fun _ _ _=>.ok _) ?_;refine .cond (.eb3 (.eb3 (hmk _ _) fun _ _ _=>.eb3 (h7 _ _ _) fun _ _ _=>.ok _) fun _ _ _=>.ok _) ?_;refine .cond (.eb3 (.eb3 (h7 _ _ _) fun _ _ _=>.ok _) fun _ _ _=>.eb3 (.eb3 (hmk _ _) fun _ _ _=>.eb3 (h8 _ _ _) fun _ _ _=>.ok _) fun _ _ _=>.eb3 (.eb3 (h9 _ _ _) fun _ _ _=>.ok _) fun _ _ _=>.ok _) ?_;exact .cond (.eb3 (.eb3 (h7 _ _ _) fun _ _ _=>.ok _) fun _ _ _=>.eb3 (.eb3 (h8 _ _ _) fun _ _ _=>.ok _) fun _ _ _=>.ok _) (.eb3 (hmk _ _) fun _ _ _=>.uD (by decide) (.ok _))
  have a3 : ∀ c,szC c≤n + 1→∀ lo nm vis,Nz (uC fs f2 f3 lo nm vis c):=by
   rintro ⟨kind,name,slot,es,b⟩ h lo nm vis;simp only [szC] at h;simp only [uC,ajm];exact .eb .uEs fun _=>.eb3 (.eb3 (.cond (.ok _) .uMk) fun _ _ _=>.eb3 (i2 b (by omega) _ _ _) fun _ _ _=>.ok _) fun _ _ _=>.ok _
  have a2 : ∀ l,szSs l≤n + 1→∀ lo nm vis,Nz (uSs fs f2 f3 lo nm vis l):=by
   intro l;induction l with
   | nil=>intro h lo nm vis; simp only [uSs]; exact .ok _
   | cons s l ih =>
    intro h lo nm vis;simp only [szSs] at h;simp only [uSs];exact .eb3 (a1 s (by omega) _ _ _) fun _ _ _=>.eb3 (ih (by omega) _ _ _) fun _ _ _=>.ok _
  have a4 : ∀ l,szCs l≤n + 1→∀ lo nm vis,Nz (uCs fs f2 f3 lo nm vis l):=by
   intro l;induction l with
   | nil=>intro h lo nm vis; simp only [uCs]; exact .ok _
   | cons s l ih =>
    intro h lo nm vis;simp only [szCs] at h;simp only [uCs];exact .eb3 (a3 s (by omega) _ _ _) fun _ _ _=>.eb3 (ih (by omega) _ _ _) fun _ _ _=>.ok _
  exact ⟨a1,a2,a3,a4⟩
end
theorem auI : ∀ (l:List aaL) (nm:List ByteArray) (vis:List Nat),Nz (uPs nm vis l)
 | [],nm,vis=>.ok _
 | .mk a kd :: l,nm,vis=>by
  unfold uPs;exact .eb3 .uMk fun _ _ _=>auI l _ _
theorem auP (fs:List aac) : ∀ l,Nz (uFs fs l)
 | []=>.ok _
 | .mk n ps res fl v b :: l=>by
  unfold uFs uF;exact .eb (.eb3 (auI _ _ _) fun _ _ _=>.eb3 ((axt fs res fl (szSs b)).2.1 b (Nat.le_refl _) _ _ _) fun _ _ _=>.uD (by decide) (.ok _)) fun _=>.eb (auP fs l) fun _=>.ok _
theorem auk {p:aaa} {c:Int} (h:uP p=.error c):c ≠ 0:=by
 obtain ⟨fs⟩:=p;refine (show Nz (uD (wf false (.mk fs)) 2 (uD (!dupF [] fs) 21 (uD (decide (ab7 fs=0)) (ab7 fs) (eb (uFs fs fs) fun x=>.ok (aaa.mk x.1,x.2))))) from .uD (by decide) (.uD (by decide) ?_)) c h;cases hb:decide (ab7 fs=0) with
 | false=>exact .er (of_decide_eq_false hb)
 | true=>exact .eb (auP fs fs) fun _=>.ok _
def opsL:List (Int × aaH):=(f56 0).getD []
theorem aw8 (k:Nat):f56 k=some opsL:=rfl
theorem amr (k:Nat) (a:Int) : ∀ (l:List Int) (i:Nat),∃ r,aiv k a l i=some r∧decide (r ≥ 0)=l.any (a == ·)
 | [],i=>⟨-1,rfl,rfl⟩
 | e :: l,i=>by
  unfold aiv;cases h:a == e
  ·obtain ⟨r,h1,h2⟩:=amr k a l (i + 1);exact ⟨r,h1,by simp [h,h2]⟩
  ·exact ⟨(i:Int),rfl,by simp [h]⟩
theorem axv (k:Nat) (l:List Int) (a:Int):f57 k l a=some (l.any (a == ·)):=by
 unfold f57 atU f83 asQ;obtain ⟨r,h1,h2⟩:=amr k a l 0;simp [h1,h2]
def kV (op a:Int):Int:=cond (op == 9 || op == 10) 2 (cond (op == 15) (cond (a != 1 && a != 3) (-1) a) (afw (mget qI op opsL) (-1) (fun x=>match x with | .mk ks v=>cond (ks.any (a == ·)) v (-1))))
def kO (op:Int):List Int→Int
 | []=>-1
 | [a]=>cond (a == -1) (-1) (kV op a)
 | a :: b :: _=>cond (a == -1) (-1) (cond (b != a) (-1) (kV op a))
mutual
def kT (vs:List Int):aam→Int
 | .mk op _ _ slot l=>cond (op == 1) 1 (cond (op == 2) 2 (cond (op == 3) 3 (cond (op == 4) (vs[slot.toNat]?.getD 0) (kO op (kTs vs l)))))
def kTs (vs:List Int):List aam→List Int
 | []=>[]
 | e :: l=>kT vs e :: kTs vs l
end
mutual
def wvE (m:Nat):aam→Bool
 | .mk op _ _ slot l=>cond (op == 1 || op == 2 || op == 3) true (cond (op == 4) (decide (0≤slot) && decide (slot < (m:Int))) (l.length == 1 || l.length == 2)) && wvEs m l
def wvEs (m:Nat):List aam→Bool
 | []=>true
 | e :: l=>wvE m e && wvEs m l
end
theorem aqG {vs:List Int} {s:Int} (h0:0≤s) (h1:s < (vs.length:Int)):idxO vs s=some (vs[s.toNat]?.getD 0):=by
 unfold idxO;rw [if_pos h0];have h:s.toNat < vs.length:=by omega
 rw [List.getElem?_eq_getElem h];rfl
theorem aqT (k:Nat) (F:alZ) (op a:Int) (q:Bool):ai9 k F op a q=some (cond q (-1) (kV op a)):=by
 unfold ai9 alX alU amE kV;simp only [aw8,axv,Option.bind_some,List.any_nil];cases q with
 | true=>rfl
 | false =>
  cases h9:op == 9 <;> cases h10:op == 10 <;> simp only [cond_true,cond_false,Bool.or_false,Bool.false_or,Bool.or_true]
  cases h15:op == 15
  ·simp only [cond_false];cases mget qI op opsL with
   | none=>rfl
   | some x =>
    obtain ⟨ks,v⟩:=x;simp only [afw];cases ks.any (a == ·) <;> rfl
  ·simp only [cond_true];cases a != 1 <;> cases a != 3 <;> rfl
theorem aqm (k:Nat) : ∀ (n:Nat) (e:aam) (vs:List Int),szE e≤n→wvE vs.length e=true→(ao9 k n).f33 e vs=some (kT vs e)
 | 0,.mk op num txt slot l,vs,hn,_=>by simp only [szE] at hn; omega
 | n + 1,.mk op num txt slot l,vs,hn,hv=>by
  have ih:=aqm k n;simp only [szE] at hn;unfold wvE at hv;rw [Bool.and_eq_true] at hv;obtain ⟨hv,hl⟩:=hv;show ap5 k (ao9 k n) (.mk op num txt slot l) vs=_;unfold ap5 kT;simp only;cases h1:op == 1 with
  | true=>rfl
  | false =>
   cases h2:op == 2 with
   | true=>rfl
   | false =>
    cases h3:op == 3 with
    | true=>rfl
    | false =>
     simp only [h1,h2,h3,Bool.or_false,cond_false] at hv;cases h4:op == 4 with
     | true =>
      rw [h4,cond_true,Bool.and_eq_true,decide_eq_true_eq,decide_eq_true_eq] at hv;simp only [cond_false,cond_true,aqG hv.1 hv.2,Option.bind_some]
     | false =>
      rw [h4,cond_false] at hv;simp only [cond_false];rcases l with _ | ⟨e0,l⟩
      ·simp at hv
      ·simp only [wvEs,Bool.and_eq_true] at hl;simp only [szEs] at hn;have i0:idxO (e0 :: l) 0=some e0:=rfl;have g0:=ih e0 vs (by omega) hl.1;obtain ⟨b0,b1,b2,b3,b4⟩:=e0;simp only [i0,Option.bind_some,g0,aqT,kTs];rcases l with _ | ⟨e1,l⟩
       ·simp only [kTs,kO];cases kT vs (.mk b0 b1 b2 b3 b4) == -1 <;> rfl
       ·obtain rfl:l=[]:=by
         cases l with
         | nil=>rfl
         | cons a l=>simp at hv
        simp only [wvEs,Bool.and_eq_true,Bool.and_true] at hl;simp only [szEs] at hn;have i1:idxO [aam.mk b0 b1 b2 b3 b4,e1] 1=some e1:=rfl;have g1:=ih e1 vs (by omega) hl.2;obtain ⟨c0,c1,c2,c3,c4⟩:=e1;simp only [i1,Option.bind_some,g1,kTs,kO];cases kT vs (.mk b0 b1 b2 b3 b4) == -1 <;> rfl
theorem aup (k:Nat) (e:aam) (vs:List Int) (hk:szE e≤k) (hv:wvE vs.length e=true):f33 k e vs=some (kT vs e):=aqm k k e vs hk hv
def areK (vs:List Int):List aam→List Int→Bool
 | [],_=>true
 | e :: l,ks=>(kT vs e == ks.headD 0) && areK vs l ks.tail
theorem ajY (k:Nat) (vs ks:List Int) : ∀ (l:List aam) (i:Nat),i + l.length≤ks.length→szEs l≤k→wvEs vs.length l=true→afQ k vs ks l i=some (areK vs l (ks.drop i))
 | [],i,_,_,_=>rfl
 | .mk b0 b1 b2 b3 b4 :: l,i,hi,hk,hv=>by
  simp only [wvEs,Bool.and_eq_true] at hv;simp only [szEs] at hk;simp only [List.length_cons] at hi;have hlt:i < ks.length:=by omega
  obtain ⟨x,hx⟩ : ∃ x,ks[i]?=some x:=⟨_,List.getElem?_eq_getElem hlt⟩;have hd:ks.drop i=x :: ks.drop (i + 1):=by
   rw [List.drop_eq_getElem_cons hlt];rw [List.getElem?_eq_getElem hlt] at hx;rw [Option.some.inj hx]
  unfold afQ;have hi0:idxO ks (i:Int)=some x:=by unfold idxO; rw [if_pos (by omega)]; exact hx
  simp only [hi0,Option.bind_some,aup k _ vs (by omega) hv.1,ajY k vs ks l (i + 1) (by omega) (by omega) hv.2,hd,areK,List.headD_cons,List.tail_cons];rw [bne];cases kT vs (.mk b0 b1 b2 b3 b4) == x <;> rfl
theorem akm (k:Nat) (fs:List aac) (a0:ByteArray) (a1:List aaL) (a2:Int) (a3:Bool) (a4:Int) (a5:List aaf) (vs:List Int) (l:List aam) (ks:List Int) (hl:l.length≤ks.length) (hk:szEs l≤k) (hv:wvEs vs.length l=true) :
  f105 k (.mk (.mk fs) (.mk a0 a1 a2 a3 a4 a5) vs) l ks=some (areK vs l ks):=by
 unfold f105 aou;have:=ajY k vs ks l 0 (by omega) hk hv;simpa using this
def ahh:List (Int × List Int):=(f106 0).getD []
theorem avH (k:Nat):f106 k=some ahh:=rfl
def afF:List (Int × List Int):=mput qI 3 [1] (mput qI 2 [4,1] (mput qI 1 [4] ([]:List (Int × (List Int)))))
def aeZ (m:Nat) (s:Int):Bool:=decide (0≤s) && decide (s < (m:Int))
def ad5:List aaL→List Int
 | []=>[]
 | .mk _ k :: l=>k :: ad5 l
theorem afh : ∀ l,(ad5 l).length=l.length
 | []=>rfl
 | .mk _ k :: l=>by simp [ad5,afh l]
theorem am1 (k:Nat) : ∀ (l:List aaL) (i:Nat) (xs:List Int),(xs.length + l.length) * 8≤140737488355328→ag9 k l i xs=some (xs ++ ad5 l)
 | [],i,xs,_=>by simp [ag9,ad5]
 | .mk a b :: l,i,xs,h=>by
  simp only [List.length_cons] at h;unfold ag9;rw [show ∀ (z:Option (List Int)),aaP (decide ((xs.length + 1) * 8≤140737488355328)) z=z from fun z=>by unfold aaP; rw [decide_eq_true (by omega)]; rfl];rw [am1 k l (i + 1) (xs ++ [b]) (by simp only [List.length_append,List.length_cons,List.length_nil]; omega)];simp [ad5]
theorem aui (k:Nat) (a0:ByteArray) (ps:List aaL) (a2:Int) (a3:Bool) (a4:Int) (a5:List aaf) (h:ps.length≤1000):f42 k (.mk a0 ps a2 a3 a4 a5)=some (ad5 ps):=by
 unfold f42 atu;have:=am1 k ps 0 [] (by simp; omega);simpa using this
def parF:aac→List aaL | .mk _ ps _ _ _ _=>ps
def anz : aac→Int | .mk _ _ r _ _ _=>r
def aqk (fs:List aac) (vs:List Int) (op:Int) (name:ByteArray) (ix:Int) (l6:List aam):Option Int :=
 cond (op == 1) (cond ((kTs vs l6).headD 0 == -1) none (some ((kTs vs l6).headD 0)))
 (cond (op == 14) (cond ((kTs vs l6).headD 0 == -1) none (some 1))
 (cond (op == 3 || op == 4 || op == 28)
  (match fs[ix.toNat]? with
   | none=>none
   | some f=>cond (!areK vs l6 (ad5 (parF f)) || (op == 3 && (!seq name ⟨#[]⟩ && anz f == 0))) none (cond (op == 4) (cond (anz f != 1 && anz f != 0) none (some 5)) (cond (op == 28) (some 1) (some (anz f)))))
 (cond (op == 7) (some 4) (cond (op == 8) (some 6) (cond (op == 24) (some 3) (some 1))))))
def al9 (vs:List Int) (op:Int) (l6:List aam):Bool:=match mget qI op ahh with | none=>true | some ws=>areK vs l6 ws
mutual
def yS (fs:List aac) (res:Int):List Int→aaf→Option (List Int)
 | vs,.mk op name slot fr ix flag l6 l7 l8 l9 l10 =>
  cond (op == 2) (cond ((kTs vs l6).headD 0 == (vs[slot.toNat]?.getD 0)) (some vs) none)
  (cond (op == 17) (cond (areK vs l6 [res]) (some vs) none)
  (match aqk fs vs op name ix l6 with
   | none=>none
   | some made=>cond (al9 vs op l6) ((yCs fs res (cond (seq name ⟨#[]⟩) vs (vs.set slot.toNat made)) l10).bind fun v=>(ySs fs res v l7).bind fun v=>(ySs fs res v l8).bind fun v=>ySs fs res v l9) none))
def ySs (fs:List aac) (res:Int):List Int→List aaf→Option (List Int)
 | vs,[]=>some vs
 | vs,s :: l=>(yS fs res vs s).bind fun v=>ySs fs res v l
def yCs (fs:List aac) (res:Int):List Int→List aaz→Option (List Int)
 | vs,[]=>some vs
 | vs,.mk kind name slot es b :: l=>cond (areK vs es ((mget qI kind afF).getD [])) ((ySs fs res (cond (seq name ⟨#[]⟩) vs (vs.set slot.toNat 1)) b).bind fun v=>yCs fs res v l) none
end
mutual
def wvS (fs:List aac) (m:Nat):aaf→Bool
 | .mk op name slot fr ix flag l6 l7 l8 l9 l10=>wvEs m l6 && ((op != 1 && op != 14 && op != 2 || decide (1≤l6.length)) && ((op != 17 || decide (l6.length≤1)) && ((op != 2 && seq name ⟨#[]⟩ || aeZ m slot) &&
  (cond (op == 3 || op == 4 || op == 28) (decide (0≤ix) && (match fs[ix.toNat]? with | none=>false | some f=>decide (l6.length≤(parF f).length) && decide ((parF f).length≤1000))) true &&
  ((match mget qI op ahh with | none=>true | some ws=>decide (l6.length≤ws.length)) && (vSs fs m l7 && (vSs fs m l8 && (vSs fs m l9 && vCs fs m l10))))))))
def vSs (fs:List aac) (m:Nat):List aaf→Bool
 | []=>true
 | s :: l=>wvS fs m s && vSs fs m l
def vCs (fs:List aac) (m:Nat):List aaz→Bool
 | []=>true
 | .mk kind name slot es b :: l=>wvEs m es && (decide (es.length≤((mget qI kind afF).getD []).length) && ((seq name ⟨#[]⟩ || aeZ m slot) && (vSs fs m b && vCs fs m l)))
end
section
variable (fs:List aac) (a0:ByteArray) (a1:List aaL) (a2:Int) (a3:Bool) (a4:Int) (a5:List aaf)
abbrev Stt (vs:List Int):aaq:=.mk (.mk fs) (.mk a0 a1 a2 a3 a4 a5) vs
def Rs (r:Option (aaq × Bool)) (u:Option (List Int)) (m:Nat):Prop:=match u with
 | none=>∃ vs',vs'.length=m∧r=some (Stt fs a0 a1 a2 a3 a4 a5 vs',false)
 | some w=>w.length=m∧r=some (Stt fs a0 a1 a2 a3 a4 a5 w,true)
variable {fs a0 a1 a2 a3 a4 a5}
theorem akF {vs:List Int} {s:Int} (h:aeZ vs.length s=true):idxO vs s=some (vs[s.toNat]?.getD 0):=by
 unfold aeZ at h;rw [Bool.and_eq_true,decide_eq_true_eq,decide_eq_true_eq] at h;exact aqG h.1 h.2
variable {k:Nat} {F:adR} {N:Nat} (HB : ∀ (l:List aaf) (vs:List Int),szSs l≤N→vSs fs vs.length l=true→Rs fs a0 a1 a2 a3 a4 a5 (F.f48 (Stt fs a0 a1 a2 a3 a4 a5 vs) l) (ySs fs a2 vs l) vs.length)
include HB
theorem avX {l7 l8 l9:List aaf} {vs:List Int} (h7:szSs l7≤N) (h8:szSs l8≤N) (h9:szSs l9≤N) (v7:vSs fs vs.length l7=true) (v8:vSs fs vs.length l8=true) (v9:vSs fs vs.length l9=true) (i:Nat) :
  Rs fs a0 a1 a2 a3 a4 a5 (acV k F l7 l8 l9 [] i fs a0 a1 a2 a3 a4 a5 vs) ((ySs fs a2 vs l7).bind fun v=>(ySs fs a2 v l8).bind fun v=>ySs fs a2 v l9) vs.length:=by
 unfold acV ajx;have g7:=HB l7 vs h7 v7;cases e7:ySs fs a2 vs l7 with
 | none =>
  rw [e7] at g7;obtain ⟨w,hw,hr⟩:=g7;simp only [hr,Option.bind_some,cond_false];exact ⟨w,hw,rfl⟩
 | some w7 =>
  rw [e7] at g7;obtain ⟨hw7,hr⟩:=g7;simp only [hr,Option.bind_some,cond_true];have g8:=HB l8 w7 h8 (by rw [hw7]; exact v8);cases e8:ySs fs a2 w7 l8 with
  | none =>
   rw [e8] at g8;obtain ⟨w,hw,hr⟩:=g8;simp only [hr,Option.bind_some,cond_false];exact ⟨w,by omega,rfl⟩
  | some w8 =>
   rw [e8] at g8;obtain ⟨hw8,hr⟩:=g8;simp only [hr,Option.bind_some,cond_true];have g9:=HB l9 w8 h9 (by rw [hw8,hw7]; exact v9);cases e9:ySs fs a2 w8 l9 with
   | none =>
    rw [e9] at g9;obtain ⟨w,hw,hr⟩:=g9;simp only [hr,Option.bind_some];exact ⟨w,by omega,rfl⟩
   | some w9 =>
    rw [e9] at g9;obtain ⟨hw9,hr⟩:=g9;simp only [hr,Option.bind_some];exact ⟨by omega,rfl⟩
theorem aop {l7 l8 l9:List aaf} (h7:szSs l7≤N) (h8:szSs l8≤N) (h9:szSs l9≤N) : ∀ (l10:List aaz) (i:Nat) (vs:List Int),szCs l10≤N→szCs l10≤k→vSs fs vs.length l7=true→vSs fs vs.length l8=true→vSs fs vs.length l9=true→vCs fs vs.length l10=true →
  Rs fs a0 a1 a2 a3 a4 a5 (acV k F l7 l8 l9 l10 i fs a0 a1 a2 a3 a4 a5 vs) ((yCs fs a2 vs l10).bind fun v=>(ySs fs a2 v l7).bind fun v=>(ySs fs a2 v l8).bind fun v=>ySs fs a2 v l9) vs.length
 | [],i,vs,_,_,v7,v8,v9,_=>by simpa only [yCs,Option.bind_some] using avX HB h7 h8 h9 v7 v8 v9 i
 | .mk kind name slot es b :: l,i,vs,hn,hk,v7,v8,v9,hv=>by
  have ih:=aop h7 h8 h9 l (i + 1);simp only [szCs,szC] at hn hk;simp only [vCs,Bool.and_eq_true,decide_eq_true_eq] at hv;obtain ⟨q1,q2,q3,q4,q5⟩:=hv;have hA:=akm k fs a0 a1 a2 a3 a4 a5 vs es ((mget qI kind afF).getD []) q2 (by omega) q1;have key : ∀ vs1:List Int,vs1.length=vs.length→Rs fs a0 a1 a2 a3 a4 a5 (ajT k F fs a0 a1 a2 a3 a4 a5 i b vs1 (acV k F l7 l8 l9 l)) (((ySs fs a2 vs1 b).bind fun v=>yCs fs a2 v l).bind fun v=>(ySs fs a2 v l7).bind fun v=>(ySs fs a2 v l8).bind fun v=>ySs fs a2 v l9) vs.length:=by
   intro vs1 hl;unfold ajT;have gb:=HB b vs1 (by omega) (by rw [hl]; exact q4);cases eb:ySs fs a2 vs1 b with
   | none =>
    rw [eb] at gb;obtain ⟨w,hw,hr⟩:=gb;simp only [hr,Option.bind_some,Bool.not_false,cond_true];exact ⟨w,by omega,rfl⟩
   | some w =>
    rw [eb] at gb;obtain ⟨hw,hr⟩:=gb;simp only [hr,Option.bind_some,Bool.not_true,cond_false];have hwl:w.length=vs.length:=by omega
    have:=ih w (by omega) (by omega) (by rw [hwl]; exact v7) (by rw [hwl]; exact v8) (by rw [hwl]; exact v9) (by rw [hwl]; exact q5);rw [hwl] at this;exact this
  have key6:Rs fs a0 a1 a2 a3 a4 a5 (ahR k F fs a0 a1 a2 a3 a4 a5 vs i name slot b (acV k F l7 l8 l9 l)) (((ySs fs a2 (cond (seq name ⟨#[]⟩) vs (vs.set slot.toNat 1)) b).bind fun v=>yCs fs a2 v l).bind fun v=>(ySs fs a2 v l7).bind fun v=>(ySs fs a2 v l8).bind fun v=>ySs fs a2 v l9) vs.length:=by
   unfold ahR;cases hs:seq name ⟨#[]⟩ with
   | true =>
    simp only [Bool.not_true,cond_false,cond_true];exact key vs rfl
   | false =>
    rw [hs,Bool.false_or] at q3;simp only [Bool.not_false,cond_false,cond_true,akF q3,Option.bind_some];exact key _ (List.length_set ..)
  have goal : ∀ ks:List Int,ks=(mget qI kind afF).getD []→Rs fs a0 a1 a2 a3 a4 a5 ((f105 k (Stt fs a0 a1 a2 a3 a4 a5 vs) es ks).bind fun r=>cond (!r) (some (Stt fs a0 a1 a2 a3 a4 a5 vs,false)) (ahR k F fs a0 a1 a2 a3 a4 a5 vs i name slot b (acV k F l7 l8 l9 l))) ((yCs fs a2 vs (.mk kind name slot es b :: l)).bind fun v=>(ySs fs a2 v l7).bind fun v=>(ySs fs a2 v l8).bind fun v=>ySs fs a2 v l9) vs.length:=by
   intro ks hks;subst hks;rw [hA];simp only [yCs,Option.bind_some];cases areK vs es ((mget qI kind afF).getD []) with
   | true=>simpa only [Bool.not_true,cond_false,cond_true] using key6
   | false=>exact ⟨vs,rfl,rfl⟩
  unfold acV;cases hg:mget qI kind afF with
  | none =>
   have:=goal [] (by rw [hg]; rfl);have hg' : mget qI kind (mput qI 3 [1] (mput qI 2 [4,1] (mput qI 1 [4] ([]:List (Int × (List Int))))))=none:=hg;rw [hg'];exact this
  | some ws =>
   have:=goal ws (by rw [hg]; rfl);have hg' : mget qI kind (mput qI 3 [1] (mput qI 2 [4,1] (mput qI 1 [4] ([]:List (Int × (List Int))))))=some ws:=hg;rw [hg'];exact this
end
end Go.Proofs.YtphdlngnegjgcaaGreatDoor
namespace Go.Proofs.YtphdlngnegjgcaaGreatDoor
open Go
section
variable {fs:List aac} {a0:ByteArray} {a1:List aaL} {a2:Int} {a3:Bool} {a4:Int} {a5:List aaf} {k:Nat} {F:adR}
variable {op:Int} {name:ByteArray} {slot:Int} {fr:ByteArray} {ix flag:Int} {l6:List aam} {l7 l8 l9:List aaf} {l10:List aaz} {vs:List Int}
def amI (fs:List aac) (res:Int) (vs:List Int) (name:ByteArray) (slot made:Int) (l7 l8 l9:List aaf) (l10:List aaz):Option (List Int) :=
 (yCs fs res (cond (seq name ⟨#[]⟩) vs (vs.set slot.toNat made)) l10).bind fun v=>(ySs fs res v l7).bind fun v=>(ySs fs res v l8).bind fun v=>ySs fs res v l9
theorem aez (m:Nat) (h:vs.length=m):Rs fs a0 a1 a2 a3 a4 a5 (some (Stt fs a0 a1 a2 a3 a4 a5 vs,false)) none m:=⟨vs,h,rfl⟩
variable (HJ : ∀ (i:Nat) (v:List Int),v.length=vs.length→Rs fs a0 a1 a2 a3 a4 a5 (acV k F l7 l8 l9 l10 i fs a0 a1 a2 a3 a4 a5 v) ((yCs fs a2 v l10).bind fun v=>(ySs fs a2 v l7).bind fun v=>(ySs fs a2 v l8).bind fun v=>ySs fs a2 v l9) vs.length)
variable (hs:(op != 2 && seq name ⟨#[]⟩ || aeZ vs.length slot)=true) (h2:(op == 2)=false) (hv:wvEs vs.length l6=true) (hk:szEs l6≤k) (hw:(match mget qI op ahh with | none=>true | some ws=>decide (l6.length≤ws.length))=true)
include HJ hs h2
theorem azo (made:Int):Rs fs a0 a1 a2 a3 a4 a5 (aiS k F fs a0 a1 a2 a3 a4 a5 vs name slot l7 l8 l9 l10 made false) (amI fs a2 vs name slot made l7 l8 l9 l10) vs.length:=by
 unfold aiS amk amI;simp only [cond_false];have hb:(op != 2)=true:=by rw [bne,h2]; rfl
 rw [hb,Bool.true_and] at hs;cases hn:seq name ⟨#[]⟩ with
 | true =>
  simp only [Bool.not_true,cond_false,cond_true];exact HJ 0 vs rfl
 | false =>
  rw [hn,Bool.false_or] at hs;simp only [Bool.not_false,cond_true,cond_false,akF hs,Option.bind_some];exact HJ 0 _ (List.length_set ..)
include hv hk hw
theorem atw (made:Int):Rs fs a0 a1 a2 a3 a4 a5 (aeE k F fs a0 a1 a2 a3 a4 a5 vs op name slot l6 l7 l8 l9 l10 made) (cond (al9 vs op l6) (amI fs a2 vs name slot made l7 l8 l9 l10) none) vs.length:=by
 have h3:=azo HJ hs h2 made;unfold aeE amH al9;simp only [avH,Option.bind_some];cases hg:mget qI op ahh with
 | none =>
  simp only [afw,cond_false,cond_true];exact h3
 | some ws =>
  rw [hg] at hw;simp only [afw,cond_true,akm k fs a0 a1 a2 a3 a4 a5 vs l6 ws (of_decide_eq_true hw) hk hv,Option.bind_some];cases areK vs l6 ws with
  | true=>simpa only [Bool.not_true,cond_true] using h3
  | false =>
   unfold aiS;simp only [Bool.not_false,cond_true,cond_false];exact aez _ rfl
theorem ayY (made:Int):Rs fs a0 a1 a2 a3 a4 a5 (agH k F fs a0 a1 a2 a3 a4 a5 vs op name slot l6 l7 l8 l9 l10 made) (cond (al9 vs op l6) (amI fs a2 vs name slot (cond (op == 28) 1 made) l7 l8 l9 l10) none) vs.length:=by
 have h1:=fun made=>atw HJ hs h2 hv hk hw made
 unfold agH;cases op == 28 with
 | true=>exact h1 1
 | false=>exact h1 made
theorem aAw (res:Int) (q:Bool):Rs fs a0 a1 a2 a3 a4 a5 (aha k F fs a0 a1 a2 a3 a4 a5 vs op name slot l6 l7 l8 l9 l10 res q)
  (match (cond q none (cond (op == 4) (cond (res != 1 && res != 0) none (some 5)) (cond (op == 28) (some 1) (some res))):Option Int) with | none=>none | some made=>cond (al9 vs op l6) (amI fs a2 vs name slot made l7 l8 l9 l10) none) vs.length:=by
 have h10:=fun made=>ayY HJ hs h2 hv hk hw made
 unfold aha;cases q with
 | true=>exact aez _ rfl
 | false =>
  simp only [cond_false];cases h4:op == 4 with
  | true =>
   have h28:(op == 28)=false:=by
    obtain rfl:op=4:=by simpa using h4
    rfl
   have h5:=h10 5;rw [h28] at h5;unfold aiy;cases e1:res != 1 with
   | true =>
    simp only [cond_true,Bool.true_and];cases e0:res != 0 with
    | true=>exact aez _ rfl
    | false=>simpa only [cond_false] using h5
   | false=>simpa only [cond_true,cond_false,Bool.false_and] using h5
  | false =>
   have h5:=h10 res;simp only [cond_false];cases h28:op == 28 with
   | true=>rw [h28] at h5; simpa only [cond_true] using h5
   | false=>rw [h28] at h5; simpa only [cond_false] using h5
theorem az1 (hc:(cond (op == 3 || op == 4 || op == 28) (decide (0≤ix) && (match fs[ix.toNat]? with | none=>false | some f=>decide (l6.length≤(parF f).length) && decide ((parF f).length≤1000))) true)=true) (h1:(op == 1)=false) (h14:(op == 14)=false) :
  Rs fs a0 a1 a2 a3 a4 a5 (aeR k F fs a0 a1 a2 a3 a4 a5 vs op name slot ix l6 l7 l8 l9 l10 (op == 3 || op == 4 || op == 28))
   (match aqk fs vs op name ix l6 with | none=>none | some made=>cond (al9 vs op l6) (amI fs a2 vs name slot made l7 l8 l9 l10) none) vs.length:=by
 have g1:=fun made=>atw HJ hs h2 hv hk hw made
 have g9:=fun res q=>aAw HJ hs h2 hv hk hw res q
 unfold aeR aqk;simp only [h1,h14,cond_false];cases hq:(op == 3 || op == 4 || op == 28) with
 | true =>
  rw [hq,cond_true,Bool.and_eq_true,decide_eq_true_eq] at hc;obtain ⟨hx,hc⟩:=hc;cases hf:fs[ix.toNat]? with
  | none=>rw [hf] at hc; simp at hc
  | some f =>
   rw [hf] at hc;simp only [Bool.and_eq_true,decide_eq_true_eq] at hc;have hi:idxO fs ix=some f:=by unfold idxO; rw [if_pos hx]; exact hf
   obtain ⟨b0,b1,b2,b3,b4,b5⟩:=f;have hlen:l6.length≤(ad5 b1).length:=by rw [afh]; exact hc.1
   simp only [cond_true,hi,Option.bind_some,aui k b0 b1 b2 b3 b4 b5 hc.2,akm k fs a0 a1 a2 a3 a4 a5 vs l6 (ad5 b1) hlen hk hv,parF,anz];cases areK vs l6 (ad5 b1) with
   | false =>
    simp only [Bool.not_false,cond_true,Bool.true_or];exact g9 b2 true
   | true =>
    simp only [Bool.not_true,cond_false,Bool.false_or];cases h3:op == 3 with
    | true =>
     cases hn:seq name ⟨#[]⟩ with
     | true =>
      simp only [Bool.not_true,cond_true,cond_false,Bool.false_and,Bool.true_and];exact g9 b2 false
     | false =>
      simp only [Bool.not_false,cond_true,Bool.true_and];exact g9 b2 (b2 == 0)
    | false =>
     simp only [cond_false,Bool.false_and];exact g9 b2 false
 | false =>
  simp only [cond_false];cases op == 7 with
  | true=>exact g1 4
  | false =>
   cases op == 8 with
   | true=>exact g1 6
   | false =>
    cases op == 24 with
    | true=>exact g1 3
    | false=>exact g1 1
end
section
variable {fs:List aac} {a0:ByteArray} {a1:List aaL} {a2:Int} {a3:Bool} {a4:Int} {a5:List aaf} {k:Nat} {F:adR} {N:Nat}
variable (HB : ∀ (l:List aaf) (vs:List Int),szSs l≤N→vSs fs vs.length l=true→Rs fs a0 a1 a2 a3 a4 a5 (F.f48 (Stt fs a0 a1 a2 a3 a4 a5 vs) l) (ySs fs a2 vs l) vs.length)
include HB
theorem avy (s:aaf) (vs:List Int) (hn:szS s≤N + 1) (hk:szS s≤k) (h:wvS fs vs.length s=true):Rs fs a0 a1 a2 a3 a4 a5 (apa k F (Stt fs a0 a1 a2 a3 a4 a5 vs) s) (yS fs a2 vs s) vs.length:=by
 obtain ⟨op,name,slot,fr,ix,flag,l6,l7,l8,l9,l10⟩:=s;simp only [szS] at hn hk;simp only [wvS,Bool.and_eq_true] at h;obtain ⟨hv,ha,hr,hs,hc,hw,v7,v8,v9,v10⟩:=h;have HJ : ∀ (i:Nat) (v:List Int),v.length=vs.length→Rs fs a0 a1 a2 a3 a4 a5 (acV k F l7 l8 l9 l10 i fs a0 a1 a2 a3 a4 a5 v) ((yCs fs a2 v l10).bind fun v=>(ySs fs a2 v l7).bind fun v=>(ySs fs a2 v l8).bind fun v=>ySs fs a2 v l9) vs.length:=by
  intro i v hl;have:=aop HB (l7:=l7) (l8:=l8) (l9:=l9) (k:=k) (by omega) (by omega) (by omega) l10 i v (by omega) (by omega) (by rw [hl]; exact v7) (by rw [hl]; exact v8) (by rw [hl]; exact v9) (by rw [hl]; exact v10);rw [hl] at this;exact this
 have hk6:szEs l6≤k:=by omega
 unfold apa yS;simp only;have first:1≤l6.length→∃ e,idxO l6 0=some e∧f33 k e vs=some ((kTs vs l6).headD 0):=by
  intro hl;cases l6 with
  | nil=>simp at hl
  | cons e l =>
   simp only [wvEs,Bool.and_eq_true] at hv;simp only [szEs] at hk6;exact ⟨e,rfl,aup k e vs (by omega) hv.1⟩
 cases h1:op == 1 with
 | true =>
  obtain rfl:op=1:=by simpa using h1
  obtain ⟨⟨b0,b1,b2,b3,b4⟩,e1,e2⟩:=first (by simpa using ha);have g1:=fun made=>atw (a2:=a2) HJ hs rfl hv hk6 hw made
  simp only [cond_true,e1,Option.bind_some,e2];unfold aqk;show Rs fs a0 a1 a2 a3 a4 a5 _ (match (cond ((kTs vs l6).headD 0 == -1) none (some ((kTs vs l6).headD 0)):Option Int) with | none=>none | some made=>cond (al9 vs 1 l6) (amI fs a2 vs name slot made l7 l8 l9 l10) none) vs.length;cases (kTs vs l6).headD 0 == -1 with
  | true=>exact aez _ rfl
  | false=>exact g1 _
 | false =>
  simp only [cond_false];cases h14:op == 14 with
  | true =>
   obtain rfl:op=14:=by simpa using h14
   obtain ⟨⟨b0,b1,b2,b3,b4⟩,e1,e2⟩:=first (by simpa using ha);have g1:=fun made=>atw (a2:=a2) HJ hs rfl hv hk6 hw made
   simp only [cond_true,e1,Option.bind_some,e2];unfold aqk;show Rs fs a0 a1 a2 a3 a4 a5 _ (match (cond ((kTs vs l6).headD 0 == -1) none (some 1):Option Int) with | none=>none | some made=>cond (al9 vs 14 l6) (amI fs a2 vs name slot made l7 l8 l9 l10) none) vs.length;cases (kTs vs l6).headD 0 == -1 with
   | true=>exact aez _ rfl
   | false=>exact g1 _
  | false =>
   simp only [cond_false];cases h2:op == 2 with
   | true =>
    obtain rfl:op=2:=by simpa using h2
    obtain ⟨⟨b0,b1,b2,b3,b4⟩,e1,e2⟩:=first (by simpa using ha);have hs' : aeZ vs.length slot=true:=by simpa using hs
    simp only [cond_true,e1,Option.bind_some,akF hs',e2];cases (kTs vs l6).headD 0 == vs[slot.toNat]?.getD 0 with
    | true=>exact ⟨rfl,rfl⟩
    | false=>exact aez _ rfl
   | false =>
    simp only [cond_false];cases h17:op == 17 with
    | true =>
     obtain rfl:op=17:=by simpa using h17
     have hr' : l6.length≤[a2].length:=by simpa using hr
     simp only [cond_true,akm k fs a0 a1 a2 a3 a4 a5 vs l6 [a2] hr' hk6 hv,Option.bind_some];cases areK vs l6 [a2] with
     | true=>exact ⟨rfl,rfl⟩
     | false=>exact aez _ rfl
    | false =>
     have g8:=az1 (a2:=a2) (ix:=ix) HJ hs h2 hv hk6 hw hc h1 h14;simp only [cond_false];have e : ∀ (x y z:Option (aaq × Bool)),(cond (op == 3) (aeR k F fs a0 a1 a2 a3 a4 a5 vs op name slot ix l6 l7 l8 l9 l10 (op == 3)) (cond (op == 4) (aeR k F fs a0 a1 a2 a3 a4 a5 vs op name slot ix l6 l7 l8 l9 l10 (op == 4)) (aeR k F fs a0 a1 a2 a3 a4 a5 vs op name slot ix l6 l7 l8 l9 l10 (op == 28))))=aeR k F fs a0 a1 a2 a3 a4 a5 vs op name slot ix l6 l7 l8 l9 l10 (op == 3 || op == 4 || op == 28):=by
      intro _ _ _;cases op == 3 <;> cases op == 4 <;> cases op == 28 <;> rfl
     have e':=e none none none;cases h3:op == 3 <;> cases h4:op == 4 <;> rw [h3,h4] at e' g8 <;> simp only [cond_true,cond_false,Bool.true_or,Bool.or_true,Bool.false_or,Bool.or_false] at e' g8 ⊢ <;> exact g8
omit HB in
theorem aot (hf57 : ∀ (s:aaf) (vs:List Int),szS s≤N→wvS fs vs.length s=true→Rs fs a0 a1 a2 a3 a4 a5 (F.f73 (Stt fs a0 a1 a2 a3 a4 a5 vs) s) (yS fs a2 vs s) vs.length) : ∀ (l:List aaf) (i:Nat) (vs:List Int),szSs l≤N→vSs fs vs.length l=true→Rs fs a0 a1 a2 a3 a4 a5 (ahj k F l i fs a0 a1 a2 a3 a4 a5 vs) (ySs fs a2 vs l) vs.length
 | [],i,vs,_,_=>⟨rfl,rfl⟩
 | .mk op name slot fr ix flag l6 l7 l8 l9 l10 :: l,i,vs,hn,hv=>by
  simp only [szSs] at hn;simp only [vSs,Bool.and_eq_true] at hv;have ih:=aot hf57 l (i + 1);have g:=hf57 (.mk op name slot fr ix flag l6 l7 l8 l9 l10) vs (by omega) hv.1;unfold ahj ySs;cases e:yS fs a2 vs (.mk op name slot fr ix flag l6 l7 l8 l9 l10) with
  | none =>
   rw [e] at g;obtain ⟨w,hw,hr⟩:=g;simp only [hr,Option.bind_some,Option.bind_none,Bool.not_false,cond_true];exact ⟨w,hw,rfl⟩
  | some w =>
   rw [e] at g;obtain ⟨hw,hr⟩:=g;simp only [hr,Option.bind_some,Bool.not_true,cond_false];have:=ih w (by omega) (by rw [hw]; exact hv.2);rw [hw] at this;exact this
end
def adX:aaz→List aaf | .mk _ _ _ _ b=>b
theorem ajt (k:Nat) : ∀ (l:List aaz) (i:Nat) (xs:List (List aaf)),xs.length + l.length≤1000000→ae5 k l i xs=some (xs ++ l.map adX)
 | [],i,xs,_=>by simp [ae5]
 | .mk a b c d e :: l,i,xs,h=>by
  simp only [List.length_cons] at h;unfold ae5;rw [show ∀ (z:Option (List (List aaf))),aaP (decide ((xs.length + 1) * 24≤140737488355328)) z=z from fun z=>by unfold aaP; rw [decide_eq_true (by omega)]; rfl];rw [ajt k l (i + 1) (xs ++ [e]) (by simp only [List.length_append,List.length_cons,List.length_nil]; omega)];simp [adX]
theorem auV (k:Nat) (op:Int) (name:ByteArray) (slot:Int) (fr:ByteArray) (ix flag:Int) (l6:List aam) (l7 l8 l9:List aaf) (l10:List aaz) (h:l10.length≤100000) :
  f124 k (.mk op name slot fr ix flag l6 l7 l8 l9 l10)=some (l7 :: l8 :: l9 :: l10.map adX):=by
 unfold f124 aoi;simp only;rw [ajt k l10 0 [l7,l8,l9] (by simp; omega)];rfl
mutual
def bkS:aaf→Bool
 | .mk op _ _ _ _ flag _ l7 l8 l9 l10=>cond (op == 21 || op == 28) false (op == 18 || (op == 6 && flag == 1) || (bkL l7 || (bkL l8 || (bkL l9 || bkC l10))))
def bkL:List aaf→Bool
 | []=>false
 | s :: l=>bkS s || bkL l
def bkC:List aaz→Bool
 | []=>false
 | .mk _ _ _ _ b :: l=>bkL b || bkC l
end
theorem aqL : ∀ l,bkC l=(l.map adX).any bkL
 | []=>rfl
 | .mk a b c d e :: l=>by simp [bkC,aqL l,adX]
theorem alP : ∀ (l:List aaz) (b:List aaf),b ∈ l.map adX→szSs b≤szCs l
 | [],b,h=>by simp at h
 | .mk a1 a2 a3 es e :: l,b,h=>by
  simp only [List.map_cons,adX,List.mem_cons] at h;simp only [szCs,szC];rcases h with rfl | h
  ·omega
  ·have:=alP l b h; omega
theorem amU {α:Type} {g:List α→Nat→Option Int} {h:α→Bool} (g0 : ∀ i,g [] i=some (-1)) (P:α→Prop) (g1 : ∀ e l i,P e→g (e :: l) i=cond (h e) (some (i:Int)) (g l (i + 1))) :
  ∀ (l:List α) (i:Nat),(∀ e ∈ l,P e)→∃ r,g l i=some r∧decide (r ≥ 0)=l.any h
 | [],i,_=>⟨-1,g0 i,rfl⟩
 | e :: l,i,hp=>by
  rw [g1 e l i (hp e (by simp))];cases he:h e with
  | true=>exact ⟨(i:Int),rfl,by simp [he]⟩
  | false =>
   obtain ⟨r,h1,h2⟩:=amU g0 P g1 l (i + 1) (fun x hx=>hp x (by simp [hx]));exact ⟨r,h1,by simp [he,h2]⟩
theorem asc : ∀ l,bkL l=l.any bkS
 | []=>rfl
 | s :: l=>by simp [bkL,asc l]
theorem aqU : ∀ (l:List aaf) (s:aaf),s ∈ l→szS s≤szSs l
 | [],s,h=>by simp at h
 | x :: l,s,h=>by
  simp only [szSs];rcases List.mem_cons.1 h with rfl | h
  ·omega
  ·have:=aqU l s h; omega
theorem avm (k:Nat) : ∀ N:Nat,(∀ (l:List aaf) (n:Nat),szSs l≤N→N≤100000→6 * szSs l + 3≤n→(ace k n).f92 l=some (bkL l))∧(∀ (s:aaf) (n:Nat),szS s≤N→N≤100000→6 * szS s≤n→(ace k n).f122 s=some (bkS s)):=by
 intro N;induction N with
 | zero =>
  refine ⟨fun l n h _ hn=>?_,fun s n h _ _=>?_⟩
  ·obtain rfl:l=[]:=by
    cases l with
    | nil=>rfl
    | cons s l=>obtain ⟨a0,a1,a2,a3,a4,a5,a6,a7,a8,a9,a10⟩:=s; simp only [szSs,szS] at h; omega
   obtain ⟨m,rfl⟩ : ∃ m,n=m + 3:=⟨n - 3,by omega⟩;rfl
  ·obtain ⟨a0,a1,a2,a3,a4,a5,a6,a7,a8,a9,a10⟩:=s;simp only [szS] at h;omega
 | succ N ih =>
  have hS : ∀ (s:aaf) (n:Nat),szS s≤N + 1→N + 1≤100000→6 * szS s≤n→(ace k n).f122 s=some (bkS s):=by
   intro s n h hN hn;obtain ⟨op,name,slot,fr,ix,flag,l6,l7,l8,l9,l10⟩:=s;simp only [szS] at h hn;obtain ⟨m,rfl⟩ : ∃ m,n=m + 3:=⟨n - 3,by omega⟩;have h10:l10.length≤100000:=Nat.le_trans (aod l10) (by omega);have hB:(ace k (m + 2)).f1012326 (l7 :: l8 :: l9 :: l10.map adX)=some (bkL l7 || (bkL l8 || (bkL l9 || bkC l10))):=by
    show ((acq k (ace k m) (l7 :: l8 :: l9 :: l10.map adX) 0).bind fun r0=>some (decide (r0 ≥ 0)))=_;obtain ⟨r,h1,h2⟩:=amU (g:=acq k (ace k m)) (h:=bkL) (fun _=>rfl) (fun b=>szSs b≤N∧6 * szSs b + 3≤m) (fun e l i he=>by
     show ((ace k m).f92 e).bind _=_;rw [ih.1 e m he.1 (by omega) he.2];rfl) (l7 :: l8 :: l9 :: l10.map adX) 0 (fun e he=>by
      simp only [List.mem_cons] at he;rcases he with rfl | rfl | rfl | he
      ·exact ⟨by omega,by omega⟩
      ·exact ⟨by omega,by omega⟩
      ·exact ⟨by omega,by omega⟩
      ·have:=alP l10 e he;exact ⟨by omega,by omega⟩)
    rw [h1,Option.bind_some,h2];simp [aqL]
   show amY k (ace k (m + 2)) (.mk op name slot fr ix flag l6 l7 l8 l9 l10)=_;unfold amY aji afN bkS;simp only [auV k op name slot fr ix flag l6 l7 l8 l9 l10 h10,Option.bind_some,hB];generalize (bkL l7 || (bkL l8 || (bkL l9 || bkC l10)))=q;cases op == 21 <;> cases op == 28 <;> cases op == 18 <;> cases op == 6 <;> cases flag == 1 <;> rfl
  refine ⟨fun l n h hN hn=>?_,hS⟩;obtain ⟨m,rfl⟩ : ∃ m,n=m + 3:=⟨n - 3,by omega⟩;show (((((acb k (ace k m) l 0).bind fun r0=>some (decide (r0 ≥ 0)))).bind fun r0=>some r0):Option Bool)=_;obtain ⟨r,h1,h2⟩:=amU (g:=acb k (ace k m)) (h:=bkS) (fun _=>rfl) (fun s=>szS s≤N + 1∧6 * szS s≤m) (fun e l i he=>by
   have:=hS e m he.1 hN he.2;obtain ⟨a0,a1,a2,a3,a4,a5,a6,a7,a8,a9,a10⟩:=e;rw [acb,this];rfl) l 0 (fun e he=>by
    have:=aqU l e he;exact ⟨by omega,by omega⟩)
  rw [h1,Option.bind_some,Option.bind_some,h2,asc]
theorem ayX (k:Nat) (l:List aaf) (h:szSs l≤100000) (hk:6 * szSs l + 3≤k):f92 k l=some (bkL l):=(avm k (szSs l)).1 l k (Nat.le_refl _) h hk
mutual
def oS:aaf→Bool
 | .mk op _ _ _ _ _ l6 l7 l8 l9 l10=>(op != 21 || decide (1≤l6.length)) && (oL l7 && (oL l8 && (oL l9 && oC l10)))
def oL:List aaf→Bool
 | []=>true
 | s :: l=>oS s && oL l
def oC:List aaz→Bool
 | []=>true
 | .mk _ _ _ _ b :: l=>oL b && oC l
end
def ayL:List aam→Bool
 | .mk op n _ _ _ :: _=>op == 2 && n == 1
 | []=>false
mutual
def edS:aaf→Bool
 | .mk op _ _ _ _ flag l6 l7 l8 l9 l10 =>
  cond (op == 17 || op == 15 || op == 18 || op == 19) true
  (cond (op == 20) (flag == 1 && (edL l7 && edL l8))
  (cond (op == 21) (ayL l6 && !bkL l7)
  (cond (op == 23 || op == 25 || op == 26) (edL l7)
  (cond (op == 24) (edL l9 || (edL l7 && ((IntKind.i64.wrap (BitVec.ofInt IntKind.i64.bits flag &&& BitVec.ofInt IntKind.i64.bits 1).toNat) == 0 || edL l8)))
  (cond (op == 27) (edC l10) false)))))
def edL:List aaf→Bool
 | []=>false
 | s :: l=>edS s || edL l
def edC:List aaz→Bool
 | []=>true
 | .mk _ _ _ _ b :: l=>edL b && edC l
end
theorem arr : ∀ l,edL l=l.any edS
 | []=>rfl
 | s :: l=>by simp [edL,arr l]
theorem aqj : ∀ l,edC l=!l.any (fun c=>!edL (adX c))
 | []=>rfl
 | .mk a b c d e :: l=>by simp [edC,aqj l,adX]
theorem aut : ∀ (l:List aaf) (s:aaf),oL l=true→s ∈ l→oS s=true
 | [],s,_,h=>by simp at h
 | x :: l,s,ho,h=>by
  simp only [oL,Bool.and_eq_true] at ho;rcases List.mem_cons.1 h with rfl | h
  ·exact ho.1
  ·exact aut l s ho.2 h
theorem aul : ∀ (l:List aaz) (c:aaz),oC l=true→c ∈ l→oL (adX c)=true∧szSs (adX c)≤szCs l
 | [],c,_,h=>by simp at h
 | .mk a1 a2 a3 es e :: l,c,ho,h=>by
  simp only [oC,Bool.and_eq_true] at ho;simp only [szCs,szC];rcases List.mem_cons.1 h with rfl | h
  ·exact ⟨ho.1,by simp only [adX]; omega⟩
  ·have:=aul l c ho.2 h;exact ⟨this.1,by omega⟩
theorem ava (k:Nat) : ∀ N:Nat,(∀ (l:List aaf) (n:Nat),szSs l≤N→N≤100000→6 * N + 3≤k→oL l=true→9 * szSs l + 3≤n→(abs k n).f40 l=some (edL l))∧(∀ (s:aaf) (n:Nat),szS s≤N→N≤100000→6 * N + 3≤k→oS s=true→9 * szS s≤n→(abs k n).f65 s=some (edS s)):=by
 intro N;induction N with
 | zero =>
  refine ⟨fun l n h _ _ _ hn=>?_,fun s n h _ _ _ _=>?_⟩
  ·obtain rfl:l=[]:=by
    cases l with
    | nil=>rfl
    | cons s l=>obtain ⟨a0,a1,a2,a3,a4,a5,a6,a7,a8,a9,a10⟩:=s; simp only [szSs,szS] at h; omega
   obtain ⟨m,rfl⟩ : ∃ m,n=m + 3:=⟨n - 3,by omega⟩;rfl
  ·obtain ⟨a0,a1,a2,a3,a4,a5,a6,a7,a8,a9,a10⟩:=s;simp only [szS] at h;omega
 | succ N ih =>
  have hS : ∀ (s:aaf) (n:Nat),szS s≤N + 1→N + 1≤100000→6 * (N + 1) + 3≤k→oS s=true→9 * szS s≤n→(abs k n).f65 s=some (edS s):=by
   intro s n h hN hk ho hn;obtain ⟨op,name,slot,fr,ix,flag,l6,l7,l8,l9,l10⟩:=s;simp only [szS] at h hn;simp only [oS,Bool.and_eq_true] at ho;obtain ⟨o6,o7,o8,o9,o10⟩:=ho;obtain ⟨m,rfl⟩ : ∃ m,n=m + 9:=⟨n - 9,by omega⟩;have g7:=ih.1 l7 (m + 8) (by omega) (by omega) (by omega) o7 (by omega);have g8:=ih.1 l8 (m + 8) (by omega) (by omega) (by omega) o8 (by omega);have g9:=ih.1 l9 (m + 8) (by omega) (by omega) (by omega) o9 (by omega);have gb:=ayX k l7 (by omega) (by omega);have hC:(abs k (m + 8)).f1009388 l10=some (edC l10):=by
    show ((((ab8 k (abs k (m + 5)) l10 0).bind fun r0=>some (decide (r0 ≥ 0))).bind fun r2=>some (!r2)):Option Bool)=_;obtain ⟨r,h1,h2⟩:=amU (g:=ab8 k (abs k (m + 5))) (h:=fun c=>!edL (adX c)) (fun _=>rfl) (fun c=>oL (adX c)=true∧szSs (adX c)≤N∧9 * szSs (adX c) + 3≤m + 3) (fun e l i he=>by
     obtain ⟨b0,b1,b2,b3,b4⟩:=e;simp only [adX] at he ⊢;have:=ih.1 b4 (m + 3) he.2.1 (by omega) (by omega) he.1 he.2.2;rw [ab8];show ((((((abs k (m + 3)).f40 b4).bind fun r9=>some r9).bind fun r9=>some (!r9)):Option Bool)).bind _=_;rw [this];rfl) l10 0 (fun c hc=>by
      have:=aul l10 c o10 hc;exact ⟨this.1,by omega,by omega⟩)
    rw [h1,Option.bind_some,Option.bind_some,h2,aqj]
   show aqQ k (abs k (m + 8)) (.mk op name slot fr ix flag l6 l7 l8 l9 l10)=_;unfold aqQ ahT aju aj1 ajL aja edS;simp only [g7,g8,g9,gb,hC,Option.bind_some];generalize edL l7=e7;generalize edL l8=e8;generalize edL l9=e9;generalize edC l10=e10;generalize (IntKind.i64.wrap (BitVec.ofInt IntKind.i64.bits flag &&& BitVec.ofInt IntKind.i64.bits 1).toNat == 0)=fb;cases op == 17 <;> cases op == 15 <;> cases op == 18 <;> cases op == 19 <;> try rfl
   simp only [cond_false,Bool.or_false];cases op == 20
   ·simp only [cond_false];cases h21:op == 21
    ·simp only [cond_false];cases op == 23 <;> cases op == 25 <;> cases op == 26 <;> cases op == 24 <;> cases op == 27 <;> cases e7 <;> cases e8 <;> cases e9 <;> cases fb <;> rfl
    ·have:(op != 21)=false:=by rw [bne,h21]; rfl
     rw [this,Bool.false_or,decide_eq_true_eq] at o6;cases l6 with
     | nil=>simp at o6
     | cons e l =>
      obtain ⟨b0,b1,b2,b3,b4⟩:=e;have hi:idxO (aam.mk b0 b1 b2 b3 b4 :: l) 0=some (.mk b0 b1 b2 b3 b4):=rfl;simp only [cond_true,hi,Option.bind_some,ayL];cases b0 == 2 <;> cases b1 == 1 <;> rfl
   ·cases flag == 1 <;> cases e7 <;> cases e8 <;> rfl
  refine ⟨fun l n h hN hk ho hn=>?_,hS⟩;obtain ⟨m,rfl⟩ : ∃ m,n=m + 3:=⟨n - 3,by omega⟩;show (((((ab1 k (abs k m) l 0).bind fun r0=>some (decide (r0 ≥ 0)))).bind fun r0=>some r0):Option Bool)=_;obtain ⟨r,h1,h2⟩:=amU (g:=ab1 k (abs k m)) (h:=edS) (fun _=>rfl) (fun s=>oS s=true∧szS s≤N + 1∧9 * szS s≤m) (fun e l i he=>by
   have:=hS e m he.2.1 hN hk he.1 he.2.2;obtain ⟨a0,a1,a2,a3,a4,a5,a6,a7,a8,a9,a10⟩:=e;rw [ab1,this];rfl) l 0 (fun e he=>by
    have:=aqU l e he;exact ⟨aut l e ho he,by omega,by omega⟩)
  rw [h1,Option.bind_some,Option.bind_some,h2,arr]
theorem axr (k:Nat) (l:List aaf) (h:szSs l≤100000) (ho:oL l=true) (hk:9 * szSs l + 3≤k):f40 k l=some (edL l):=(ava k (szSs l)).1 l k (Nat.le_refl _) h (by omega) ho hk
theorem avz {fs:List aac} {a0:ByteArray} {a1:List aaL} {a2:Int} {a3:Bool} {a4:Int} {a5:List aaf} (k:Nat) : ∀ n:Nat,
  (∀ (l:List aaf) (vs:List Int),2 * szSs l + 1≤n→szSs l≤k→vSs fs vs.length l=true→Rs fs a0 a1 a2 a3 a4 a5 ((ahr k n).f48 (Stt fs a0 a1 a2 a3 a4 a5 vs) l) (ySs fs a2 vs l) vs.length) ∧
  (∀ (s:aaf) (vs:List Int),2 * szS s≤n→szS s≤k→wvS fs vs.length s=true→Rs fs a0 a1 a2 a3 a4 a5 ((ahr k n).f73 (Stt fs a0 a1 a2 a3 a4 a5 vs) s) (yS fs a2 vs s) vs.length):=by
 intro n;induction n with
 | zero =>
  refine ⟨fun l vs h=>by omega,fun s vs h=>?_⟩;obtain ⟨b0,b1,b2,b3,b4,b5,b6,b7,b8,b9,b10⟩:=s;simp only [szS] at h;omega
 | succ n ih =>
  refine ⟨fun l vs h hk hv=>?_,fun s vs h hk hv=>?_⟩
  ·show Rs fs a0 a1 a2 a3 a4 a5 (ahj k (ahr k n) l 0 fs a0 a1 a2 a3 a4 a5 vs) _ _;exact aot (N:=szSs l) (fun s v hs hv=>ih.2 s v (by omega) (by omega) hv) l 0 vs (Nat.le_refl _) hv
  ·show Rs fs a0 a1 a2 a3 a4 a5 (apa k (ahr k n) (Stt fs a0 a1 a2 a3 a4 a5 vs) s) _ _;have hp:1≤szS s:=by obtain ⟨b0,b1,b2,b3,b4,b5,b6,b7,b8,b9,b10⟩:=s; simp only [szS]; omega
   exact avy (N:=szS s - 1) (fun l v hl hv=>ih.1 l v (by omega) (by omega) hv) s vs (by omega) hk hv
theorem ax7 {fs:List aac} {a0:ByteArray} {a1:List aaL} {a2:Int} {a3:Bool} {a4:Int} {a5:List aaf} (k:Nat) (l:List aaf) (vs:List Int) (h:2 * szSs l + 1≤k) (hv:vSs fs vs.length l=true) :
 Rs fs a0 a1 a2 a3 a4 a5 (f48 k (Stt fs a0 a1 a2 a3 a4 a5 vs) l) (ySs fs a2 vs l) vs.length:=(avz k k).1 l vs h (by omega) hv
def am6 (ps:List aaL) (v:Int):List Int:=ad5 ps ++ List.replicate (v - (ps.length:Int)).toNat (0:Int)
def kkF (fs:List aac):aac→Ex (List Int)
 | .mk _ ps res _ v b=>match ySs fs res (am6 ps v) b with
  | none=>.error 23
  | some w=>cond (res != 0 && !edL b) (.error 26) (.ok w)
def kFs (fs:List aac):List aac→Ex (List (List Int))
 | []=>.ok []
 | f :: l=>eb (kkF fs f) fun x=>eb (kFs fs l) fun y=>.ok (x :: y)
def funs:aaa→List aac | .mk fs=>fs
def uK (p:aaa):Ex (aaa × List (List Int)):=cond (wf true p) (eb (uP (stP p)) fun x=>eb (kFs (funs x.1) (funs x.1)) fun y=>.ok (x.1,y)) (.error 2)
def wvF (fs:List aac) (k:Nat):aac→Prop
 | .mk _ ps _ _ v b=>(ps.length:Int)≤v∧v≤1000∧vSs fs v.toNat b=true∧oL b=true∧szSs b≤100000∧9 * szSs b + 3≤k
theorem amC (k:Nat) (q:List aac) : ∀ (l:List aac) (i:Nat) (xs:List (List Int)),(∀ f ∈ l,wvF q k f)→xs.length + l.length≤100000 →
  aeW k q l i 0 xs=some (match kFs q l with | .error c=>(.mk [],[],c) | .ok y=>(.mk q,xs ++ y,0))
 | [],i,xs,_,_=>by simp [aeW,ajW,kFs]
 | .mk n ps res fl v b :: l,i,xs,hv,hl=>by
  obtain ⟨h1,h2,h3,h4,h5,h6⟩:=hv (.mk n ps res fl v b) (by simp);simp only [List.length_cons] at hl;have ih:=fun ys hy=>amC k q l (i + 1) ys (fun f hf=>hv f (by simp [hf])) hy
  have hw:w64 (v - (ps.length:Int))=v - (ps.length:Int):=by
   have:=abk (x:=v - (ps.length:Int)) (n:=(v - (ps.length:Int)).toNat) (by omega) (by omega);omega
  have hlen:(am6 ps v).length=v.toNat:=by
   unfold am6;rw [List.length_append,afh,List.length_replicate];omega
  have h36:=ax7 (fs:=q) (a0:=n) (a1:=ps) (a2:=res) (a3:=fl) (a4:=v) (a5:=b) k b (am6 ps v) (by omega) (by rw [hlen]; exact h3);have h24:=axr k b h5 h4 h6;unfold aeW kFs kkF an0 amO ajZ ajW;have hps:ps.length≤1000:=by omega
  simp only [aui k n ps res fl v b hps,Option.bind_some,hw];rw [show ∀ (z:Option (aaa × (List (List Int)) × Int)),aaP (decide (0≤v - (ps.length:Int)∧(((ad5 ps).length:Int) + (v - (ps.length:Int))) * ((8:Nat):Int)≤140737488355328)) z=z from fun z=>by
   unfold aaP; rw [decide_eq_true (by rw [afh]; omega)]; rfl]
  show (f48 k (Stt q n ps res fl v b (am6 ps v)) b).bind _=_;cases e:ySs q res (am6 ps v) b with
  | none =>
   rw [e] at h36;obtain ⟨w,hw,hr⟩:=h36;simp only [hr,Option.bind_some];rfl
  | some w =>
   rw [e] at h36;obtain ⟨hwl,hr⟩:=h36;have hg : ∀ (z:Option (aaa × (List (List Int)) × Int)),aaP (decide ((xs.length + 1) * 24≤140737488355328)) z=z:=fun z=>by unfold aaP; rw [decide_eq_true (by omega)]; rfl
   have i2:=ih (xs ++ [w]) (by simp only [List.length_append,List.length_cons,List.length_nil]; omega);simp only [hr,Option.bind_some,h24,Bool.not_true,cond_false,hg,i2];have fin:(some (match kFs q l with | .error c=>(aaa.mk [],[],c) | .ok y=>(aaa.mk q,(xs ++ [w]) ++ y,0)):Option (aaa × (List (List Int)) × Int))=some (match (eb (.ok w) fun x=>eb (kFs q l) fun y=>.ok (x :: y):Ex (List (List Int))) with | .error c=>(aaa.mk [],[],c) | .ok y=>(aaa.mk q,xs ++ y,0)):=by
    cases kFs q l with
    | error c=>rfl
    | ok y=>simp [eb]
   cases hres:res != 0 with
   | true =>
    cases edL b with
    | true=>exact fin
    | false=>rfl
   | false=>exact fin
theorem ayM (k:Nat) (p:aaa) (hk:2 * szP p + 1≤k) (hk2:4 * 600 + 1≤k) (hf:fitP p) (hv : ∀ x,wf true p=true→uP (stP p)=.ok x→(∀ f ∈ funs x.1,wvF (funs x.1) k f)∧(funs x.1).length≤16) :
  f26 k p=some (match uK p with | .error c=>(.mk [],[],c) | .ok x=>(x.1,x.2,0)):=by
 have h34:=ayS k p hk hf;have h35:=axm k (stP p) (by rw [aq9]; exact hk) hk2;obtain ⟨fs⟩:=p;unfold f26 atZ uK;simp only [h34,Option.bind_some];cases hw:wf true (.mk fs) with
 | false=>rfl
 | true =>
  simp only [stP] at h35 hv ⊢;simp only [cond_true,h35,Option.bind_some];cases hu:uP (.mk (stFs fs)) with
  | error c =>
   have hc:(c != 0)=true:=by simpa using auk hu
   simp only [bne_self_eq_false,cond_false,hc,cond_true];rfl
  | ok x =>
   obtain ⟨⟨q⟩,nl⟩:=x;obtain ⟨g1,g2⟩:=hv _ hw hu;simp only [funs] at g1 g2;simp only [bne_self_eq_false,cond_false,eb,funs,amC k q q 0 [] g1 (by simp; omega)];cases kFs q q with
   | error c=>rfl
   | ok y=>rfl
theorem avU {op:Int} {x:Int × Bool × Int × Int × Bool × Int} (h:shp op=some x) : ∃ n:Nat,n < 29∧op=((n + 1:Nat):Int):=by
 by_cases h1:op < 1∨op > 29
 ·rw [afl h1] at h; cases h
 ·exact ⟨(op - 1).toNat,by omega,by omega⟩
def akK (op:Int):Option Nat:=(mget qI op ahh).map List.length
def ak3 (op:Int) (n6:Nat):Bool:=(op != 1 && op != 14 && op != 2 || decide (1≤n6)) && ((op != 17 || decide (n6≤1)) && ((match akK op with | none=>true | some n=>decide (n6≤n)) && (op != 21 || decide (1≤n6))))
theorem avY:(List.range 29).all (fun n=>match shp ((n + 1:Nat):Int) with
 | none=>true
 | some (nm,fr,lo,hi,bd,fl)=>(fr == (((n + 1:Nat):Int) == 3 || ((n + 1:Nat):Int) == 4 || ((n + 1:Nat):Int) == 28)) && (decide (hi > 2) || (List.range 3).all (fun n6=>!(decide ((n6:Int) ≥ lo) && decide ((n6:Int)≤hi)) || ak3 ((n + 1:Nat):Int) n6))
  && (decide (hi≤2) || (akK ((n + 1:Nat):Int)).isNone && (((n + 1:Nat):Int) != 1 && ((n + 1:Nat):Int) != 14 && ((n + 1:Nat):Int) != 2 && ((n + 1:Nat):Int) != 17 && ((n + 1:Nat):Int) != 21)))=true:=by kernel_rfl
theorem atW {op flag:Int} {name fr:ByteArray} {n6 n7 n8 n9 n10:Nat} (h:acx op name fr flag n6 n7 n8 n9 n10=true):ak3 op n6=true∧seq fr ⟨#[]⟩=!(op == 3 || op == 4 || op == 28):=by
 unfold acx at h;cases hs:shp op with
 | none=>rw [hs] at h; cases h
 | some x =>
  rw [hs] at h;obtain ⟨n,hn,rfl⟩:=avU hs;have ha:=List.all_eq_true.1 avY n (List.mem_range.2 hn);rw [hs] at ha;obtain ⟨nm,fr0,lo,hi,bd,fl⟩:=x;simp only [Bool.and_eq_true,decide_eq_true_eq,beq_iff_eq] at h ha;obtain ⟨⟨⟨⟨h1,h2⟩,_⟩,_⟩,⟨⟨⟨_,h3⟩,_⟩,_⟩,_⟩:=h;obtain ⟨⟨hfr,h4⟩,h5⟩:=ha;refine ⟨?_,?_⟩
  ·by_cases hh:hi > 2
   ·simp only [Bool.or_eq_true,decide_eq_true_eq,Bool.and_eq_true] at h5;rcases h5 with h5 | ⟨h5,h6⟩
    ·omega
    ·unfold ak3;obtain ⟨⟨⟨⟨g1,g2⟩,g3⟩,g4⟩,g5⟩:=h6;rw [g1,g2,g3,g4,g5];cases hw:akK ((n + 1:Nat):Int) with
     | none=>rfl
     | some _=>rw [hw] at h5; cases h5
   ·simp only [Bool.or_eq_true,decide_eq_true_eq] at h4;rcases h4 with h4 | h4
    ·omega
    ·have:=List.all_eq_true.1 h4 n6 (List.mem_range.2 (by omega));rw [decide_eq_true h1,decide_eq_true h2] at this;simpa using this
  ·rw [← hfr];unfold alh at h3;cases fr0 with
   | true=>simp only [cond_true] at h3; exact aiW h3
   | false=>simpa using h3
theorem arV {op:Int} {n6:Nat} (h:ak3 op n6=true):(match mget qI op ahh with | none=>true | some ws=>decide (n6≤ws.length))=true:=by
 unfold ak3 akK at h;simp only [Bool.and_eq_true] at h;obtain ⟨_,_,h,_⟩:=h;cases hm:mget qI op ahh with
 | none=>rfl
 | some ws=>rw [hm] at h; exact h
theorem uE_v {nm:List ByteArray} {vis:List Nat} (hv:okV nm vis) {m:Nat} (hm:nm.length≤m) : ∀ N:Nat,(∀ e a e',szE e≤N→gE false e a=true→uE nm vis e=.ok e'→wvE m e'=true)∧(∀ l a l',szEs l≤N→gEs false l a=true→uEs nm vis l=.ok l'→wvEs m l'=true∧l'.length=l.length):=by
 intro N;induction N with
 | zero =>
  refine ⟨fun e a e' h=>?_,fun l a l' h _ hu=>?_⟩
  ·obtain ⟨b0,b1,b2,b3,b4⟩:=e; simp only [szE] at h; omega
  ·cases l with
   | nil=>simp only [uEs] at hu; cases hu; exact ⟨rfl,rfl⟩
   | cons e l=>obtain ⟨b0,b1,b2,b3,b4⟩:=e; simp only [szEs,szE] at h; omega
 | succ N ih =>
  have hE : ∀ e a e',szE e≤N + 1→gE false e a=true→uE nm vis e=.ok e'→wvE m e'=true:=by
   rintro ⟨op,num,txt,slot,l⟩ a e' h hg hu;simp only [szE] at h;simp only [gE,Bool.and_eq_true] at hg;obtain ⟨⟨_,hn⟩,hl⟩:=hg;unfold uE at hu;cases hx:uEs nm vis l with
   | error c=>rw [hx] at hu; cases hu
   | ok l' =>
    obtain ⟨g1,g2⟩:=ih.2 l (a + 1) l' (by omega) hl hx;rw [hx] at hu;have ar:(op == 1 || op == 2 || op == 3)=false→(op == 4)=false→(l'.length == 1 || l'.length == 2)=true:=by
     intro h1 h4;simp only [Bool.or_eq_false_iff] at h1;obtain ⟨⟨h1,h2⟩,h3⟩:=h1;unfold ahv at hn;rw [h1,h2,h3,h4] at hn;simp only [cond_false] at hn;rw [g2];cases h56:(op == 5 || op == 6) with
     | true=>rw [h56] at hn; simp at hn; simp; omega
     | false=>rw [h56] at hn; simp at hn; simp; omega
    revert hu;cases h4:op == 4 with
    | true =>
     simp only [cond_true];cases hs:abh nm vis txt with
     | none=>intro hu; cases hu
     | some v =>
      intro hu;cases hu;have:=hv v (List.mem_of_find?_eq_some hs);unfold wvE;rw [h4,g1,cond_true];cases (op == 1 || op == 2 || op == 3) with
      | true=>rfl
      | false=>simp; omega
    | false =>
     intro hu;cases hu;unfold wvE;rw [h4,g1];cases h1:(op == 1 || op == 2 || op == 3) with
     | true=>rfl
     | false=>simpa using ar h1 h4
  refine ⟨hE,?_⟩;intro l;induction l with
  | nil=>intro a l' _ _ hu; simp only [uEs] at hu; cases hu; exact ⟨rfl,rfl⟩
  | cons e l il =>
   intro a l' h hg hu;simp only [szEs] at h;simp only [gEs,Bool.and_eq_true] at hg;unfold uEs at hu;cases h1:uE nm vis e with
   | error c=>rw [h1] at hu; cases hu
   | ok e1 =>
    rw [h1] at hu;cases h2:uEs nm vis l with
    | error c=>rw [h2] at hu; cases hu
    | ok l1 =>
     rw [h2] at hu;cases hu;have g1:=hE e a e1 (by omega) hg.1 h1;obtain ⟨g2,g3⟩:=il a l1 (by omega) hg.2 h2;exact ⟨by simp only [wvEs,g1,g2,Bool.and_self],by simp [g3]⟩
theorem afG {nm nm' : List ByteArray} {vis:List Nat} (h:okV nm vis) (hl:nm.length≤nm'.length):okV nm' vis:=fun v hv=>Nat.lt_of_lt_of_le (h v hv) hl
theorem awH {op flag:Int} {name fr:ByteArray} {n6 n7 n8 n9 n10:Nat} (h:acx op name fr flag n6 n7 n8 n9 n10=true) :
  (op ≠ 27→n10=0)∧((op=27∨op=17∨op=18∨op=19∨op=20∨op=21∨op=22∨op=23∨op=26∨op=29)→seq name ⟨#[]⟩=true) ∧
   (op ≠ 20→op ≠ 21→op ≠ 22→op ≠ 23→op ≠ 24→op ≠ 25→op ≠ 26→op ≠ 28→n7=0)∧(op ≠ 20→op ≠ 24→n8=0):=by
 unfold acx aig akw aeC alh at h;by_cases hop:op < 1∨op > 29
 ·rw [afl hop] at h; cases h
 generalize isN name=x1 at h;generalize isN fr=x2 at h;generalize seq name ⟨#[]⟩=x3 at h ⊢;generalize seq fr ⟨#[]⟩=x4 at h;generalize flag.tmod 2=t2 at h;generalize flag.tmod 4=t4 at h;rcases (by omega:op=1∨op=2∨op=3∨op=4∨op=5∨op=6∨op=7∨op=8∨op=9∨op=10∨op=11∨op=12∨op=13∨op=14∨op=15∨op=16∨op=17∨op=18∨op=19∨op=20∨op=21∨op=22∨op=23∨op=24∨op=25∨op=26∨op=27∨op=28∨op=29) with rfl | rfl | rfl | rfl | rfl | rfl | rfl | rfl | rfl | rfl | rfl | rfl | rfl | rfl | rfl | rfl | rfl | rfl | rfl | rfl | rfl | rfl | rfl | rfl | rfl | rfl | rfl | rfl | rfl <;>
  simp [shp] at h ⊢ <;> grind
theorem awT {op flag:Int} {name fr:ByteArray} {n6 n7 n8 n9 n10:Nat} (h:acx op name fr flag n6 n7 n8 n9 n10=true) (h24:op ≠ 24):n9=0:=by
 unfold acx at h;cases hs:shp op with
 | none=>rw [hs] at h; cases h
 | some x =>
  rw [hs] at h;obtain ⟨nm,fr0,lo,hi,bd,fl⟩:=x;simp only [Bool.and_eq_true] at h;obtain ⟨_,⟨_,hf⟩,_⟩:=h;unfold aig at hf;simp only [Bool.and_eq_true,Bool.or_eq_true,beq_iff_eq] at hf;obtain ⟨⟨_,h9⟩,_⟩:=hf;rcases h9 with h9 | ⟨h9,_⟩
  ·omega
  ·exact absurd h9 h24
theorem afM {α:Type} {l:List α} (h:l.length=0):l=[]:=List.eq_nil_of_length_eq_zero h
structure VG (nm nm1:List ByteArray) (vis1:List Nat) (b:Nat→Bool) (o:Bool):Prop where
 le:nm.length≤nm1.length
 ok:okV nm1 vis1
 v : ∀ m:Nat,nm1.length≤m→b m=true
 o:o=true
theorem aof {nm:List ByteArray} {vis:List Nat} {name:ByteArray} {r:List ByteArray × List Nat × Int} (h:(cond (seq name ⟨#[]⟩) (.ok (nm,vis,0)) (uMk nm vis name):Ex (List ByteArray × List Nat × Int))=.ok r) (hv:okV nm vis) :
  nm.length≤r.1.length∧okV r.1 r.2.1∧∀ m,r.1.length≤m→(seq name ⟨#[]⟩ || aeZ m r.2.2)=true:=by
 revert h;cases seq name ⟨#[]⟩ with
 | true=>intro h; cases h; exact ⟨Nat.le_refl _,hv,fun m _=>rfl⟩
 | false =>
  unfold uMk;simp only [cond_false];cases abh nm vis name with
  | some v=>intro h; cases h
  | none =>
   intro h;cases h;refine ⟨by simp,fun v hv'=>?_,fun m hm=>?_⟩
   ·rw [List.mem_append,List.mem_singleton] at hv';rw [List.length_append,List.length_singleton];rcases hv' with h | rfl
    ·have:=hv v h; omega
    ·omega
   ·rw [List.length_append,List.length_singleton] at hm;unfold aeZ;simp;omega
theorem ats (q:List aac) (m:Nat) (c:aaz) (l:List aaz):vCs q m (c :: l)=(vCs q m [c] && vCs q m l):=by
 obtain ⟨a,b,c,d,e⟩:=c;simp [vCs,Bool.and_assoc]
theorem awL (c:aaz) (l:List aaz):oC (c :: l)=(oC [c] && oC l):=by
 obtain ⟨a,b,c,d,e⟩:=c;simp [oC]
section
variable (fs:List aac) (f2:Int) (f3:Bool) (q:List aac)
def HQ:Prop:=∀ (op:Int) (fr:ByteArray) (n:Nat) (ix:Int),uCall op fr n fs 0=.ok ix→0≤ix∧∃ f,q[ix.toNat]?=some f∧(parF f).length=n∧(parF f).length≤1000
variable {fs f2 f3 q}
theorem anO {op:Int} {name:ByteArray} {slot:Int} {fr:ByteArray} {ix flag:Int} {r6:List aam} {b7 b8 b9:List aaf} {b10:List aaz} {m:Nat} (h6:wvEs m r6=true) (hc:ak3 op r6.length=true) (hs:(op != 2 && seq name ⟨#[]⟩ || aeZ m slot)=true)
  (hq:(cond (op == 3 || op == 4 || op == 28) (decide (0≤ix) && (match q[ix.toNat]? with | none=>false | some f=>decide (r6.length≤(parF f).length) && decide ((parF f).length≤1000))) true)=true)
  (h7:vSs q m b7=true) (h8:vSs q m b8=true) (h9:vSs q m b9=true) (h10:vCs q m b10=true):wvS q m (.mk op name slot fr ix flag r6 b7 b8 b9 b10)=true:=by
 have hw:=arV hc;unfold ak3 at hc;simp only [Bool.and_eq_true] at hc;obtain ⟨c1,c2,_,_⟩:=hc;simp only [wvS,Bool.and_eq_true];exact ⟨h6,c1,c2,hs,hq,hw,h7,h8,h9,h10⟩
theorem anY {op:Int} {name:ByteArray} {slot:Int} {fr:ByteArray} {ix flag:Int} {r6:List aam} {b7 b8 b9:List aaf} {b10:List aaz} (hc:ak3 op r6.length=true) (h7:oL b7=true) (h8:oL b8=true) (h9:oL b9=true) (h10:oC b10=true):oS (.mk op name slot fr ix flag r6 b7 b8 b9 b10)=true:=by
 unfold ak3 at hc;simp only [Bool.and_eq_true] at hc;obtain ⟨_,_,_,c⟩:=hc;unfold oS;rw [c,h7,h8,h9,h10];rfl
variable (H:HQ fs q)
include H
theorem uS_v : ∀ n:Nat,
  (∀ s,szS s≤n→∀ a lo nm vis r,gS false s a=true→okV nm vis→uS fs f2 f3 lo nm vis s=.ok r→VG nm r.1 r.2.1 (fun m=>wvS q m r.2.2) (oS r.2.2)) ∧
  (∀ l,szSs l≤n→∀ a lo nm vis r,gSs false l a=true→okV nm vis→uSs fs f2 f3 lo nm vis l=.ok r→VG nm r.1 r.2.1 (fun m=>vSs q m r.2.2) (oL r.2.2)) ∧
  (∀ c,szC c≤n→∀ a lo nm vis r,gC false c a=true→okV nm vis→uC fs f2 f3 lo nm vis c=.ok r→VG nm r.1 vis (fun m=>vCs q m [r.2.2]) (oC [r.2.2])) ∧
  (∀ l,szCs l≤n→∀ a lo nm vis r,gCs false l a=true→okV nm vis→uCs fs f2 f3 lo nm vis l=.ok r→VG nm r.1 vis (fun m=>vCs q m r.2.2) (oC r.2.2))
 | 0=>by
  refine ⟨fun s h=>?_,fun l h=>?_,fun c h=>?_,fun l h=>?_⟩
  ·have:=acl s; omega
  ·cases l with
   | nil=>intro a lo nm vis r _ hv h; simp only [uSs] at h; cases h; exact ⟨Nat.le_refl _,hv,fun _ _=>rfl,rfl⟩
   | cons s l=>have:=acl s; simp only [szSs] at h; omega
  ·have:=adq c; omega
  ·cases l with
   | nil=>intro a lo nm vis r _ hv h; simp only [uCs] at h; cases h; exact ⟨Nat.le_refl _,hv,fun _ _=>rfl,rfl⟩
   | cons s l=>have:=adq s; simp only [szCs] at h; omega
 | n + 1=>by
  obtain ⟨i1,i2,i3,i4⟩:=uS_v n;have a1 : ∀ s,szS s≤n + 1→∀ a lo nm vis r,gS false s a=true→okV nm vis→uS fs f2 f3 lo nm vis s=.ok r→VG nm r.1 r.2.1 (fun m=>wvS q m r.2.2) (oS r.2.2):=by
   rintro ⟨op,name,s2,fr,s4,flag,l6,l7,l8,l9,l10⟩ h a lo nm vis r hg hv hu;simp only [szS] at h;simp only [gS,Bool.and_eq_true,Bool.false_or,beq_iff_eq] at hg;obtain ⟨⟨⟨_,rfl,rfl⟩,hnode⟩,g6,g7,g8,g9,g10⟩:=hg;obtain ⟨n1,n2,n3,n4⟩:=awH hnode;have n9:=awT hnode;obtain ⟨hcnt,hfr⟩:=atW hnode;have h7:=fun lo nm vis r=>i2 l7 (by omega) _ lo nm vis r g7
   have h8:=fun lo nm vis r=>i2 l8 (by omega) _ lo nm vis r g8
   have h9:=fun lo nm vis r=>i2 l9 (by omega) _ lo nm vis r g9
   have h10:=fun lo nm vis r=>i4 l10 (by omega) _ lo nm vis r g10
   simp only [uS,amz,ajm] at hu;obtain ⟨r6,h6,hu⟩:=aj4 hu;have e6 : ∀ m:Nat,nm.length≤m→wvEs m r6=true:=fun m hm=>((uE_v hv hm (szEs l6)).2 l6 _ r6 (Nat.le_refl _) g6 h6).1
   have l6e:r6.length=l6.length:=((uE_v hv (Nat.le_refl _) (szEs l6)).2 l6 _ r6 (Nat.le_refl _) g6 h6).2;rw [← l6e] at hcnt;clear i1 i2 i3 i4;revert hu;cases ho:op == 27 with
   | true =>
    intro hu;obtain rfl:op=27:=by simpa using ho
    obtain ⟨nm1,v1,cs,q1,hu⟩:=aaO hu;cases hu;have z7:=afM (n3 (by omega) (by omega) (by omega) (by omega) (by omega) (by omega) (by omega) (by omega));have z8:=afM (n4 (by omega) (by omega));have z9:=afM (n9 (by omega));subst z7 z8 z9;have G:=h10 _ _ _ _ hv q1;exact ⟨G.le,G.ok,fun m hm=>anO (e6 m (Nat.le_trans G.le hm)) hcnt (by rw [n2 (by omega)]; rfl) rfl rfl rfl rfl (G.v m hm),anY hcnt rfl rfl rfl G.o⟩
   | false =>
   have c27:op ≠ 27:=by simpa using ho
   have z10:=afM (n1 c27);subst z10;intro hu;obtain ⟨ix,hix,hu⟩:=aj4 hu;have hq:(cond (op == 3 || op == 4 || op == 28) (decide (0≤ix) && (match q[ix.toNat]? with | none=>false | some f=>decide (r6.length≤(parF f).length) && decide ((parF f).length≤1000))) true)=true:=by
    cases hcl:(op == 3 || op == 4 || op == 28) with
    | false=>rfl
    | true =>
     rw [hcl] at hfr;rw [hfr] at hix;obtain ⟨k1,f,k2,k3,k4⟩:=H op fr r6.length ix hix;rw [k2];simp only [cond_true,Bool.and_eq_true,decide_eq_true_eq];exact ⟨k1,by omega,k4⟩
   have none_ : ∀ {v:Int},(op=2∧(∃ w:Nat,v=(w:Int)∧w < nm.length)∨(op=18∨op=19∨op=29∨op=17))→VG nm nm vis (fun m=>wvS q m (.mk op name v fr ix flag r6 l7 l8 l9 [])) (oS (.mk op name v fr ix flag r6 l7 l8 l9 [])):=by
    intro v ho;have z7:=afM (n3 (by omega) (by omega) (by omega) (by omega) (by omega) (by omega) (by omega) (by omega));have z8:=afM (n4 (by omega) (by omega));have z9:=afM (n9 (by omega));subst z7 z8 z9;refine ⟨Nat.le_refl _,hv,fun m hm=>anO (e6 m hm) hcnt ?_ hq rfl rfl rfl rfl,anY hcnt rfl rfl rfl rfl⟩;rcases ho with ⟨_,w,rfl,hw⟩ | ho
    ·have:aeZ m (w:Int)=true:=by unfold aeZ; simp; omega
     rw [this,Bool.or_true]
    ·rw [n2 (by omega)];have:(op != 2)=true:=by simp; omega
     rw [this];rfl
   revert hu;cases ho:op == 2 with
   | true =>
    have c:op=2:=by simpa using ho
    cases hs:abh nm vis name with
    | none=>intro hu; cases hu
    | some v=>intro hu; cases hu; exact none_ (.inl ⟨c,v,rfl,hv v (List.mem_of_find?_eq_some hs)⟩)
   | false =>
   have c2:op ≠ 2:=by simpa using ho
   have c2' : (op != 2)=true:=by simpa using c2
   cases ho:op == 18 || op == 19 with
   | true=>intro hu; obtain ⟨_,hu⟩:=agU hu; cases hu; simp at ho; exact none_ (.inr (by omega))
   | false =>
   cases ho29:op == 29 with
   | true=>intro hu; obtain ⟨_,hu⟩:=agU hu; cases hu; simp at ho29; exact none_ (.inr (by omega))
   | false =>
   cases ho17:op == 17 with
   | true=>intro hu; obtain ⟨_,hu⟩:=agU hu; cases hu; simp at ho17; exact none_ (.inr (by omega))
   | false =>
   simp at ho ho29 ho17;cases ho:op == 21 with
   | true =>
    intro hu;obtain rfl:op=21:=by simpa using ho
    obtain ⟨nm1,v1,b,q1,hu⟩:=aaO hu;cases hu;obtain ⟨nm2,v2,b2,q2,q1⟩:=aaO q1;cases q1;have z8:=afM (n4 (by omega) (by omega));have z9:=afM (n9 (by omega));subst z8 z9;have G:=h7 _ _ _ _ hv q2;exact ⟨G.le,afG hv G.le,fun m hm=>anO (e6 m (Nat.le_trans G.le hm)) hcnt (by rw [n2 (by omega)]; rfl) hq (G.v m hm) rfl rfl rfl,anY hcnt G.o rfl rfl rfl⟩
   | false =>
   have in_ : ∀ {lo' : Nat} {nm1:List ByteArray} {v1:List Nat} {vb:Int × List aaf},op ≠ 24→op ≠ 20 →
     (eb3 (cond (seq name ⟨#[]⟩) (.ok (nm,vis,0)) (uMk nm vis name)) fun nm1 vis1 v=>eb3 (uSs fs f2 f3 lo' nm1 vis1 l7) fun nm2 _ l'=>.ok (nm2,vis,(v,l')):Ex (List ByteArray × List Nat × (Int × List aaf)))=.ok (nm1,v1,vb) →
     VG nm nm1 vis (fun m=>wvS q m (.mk op name vb.1 fr ix flag r6 vb.2 l8 l9 [])) (oS (.mk op name vb.1 fr ix flag r6 vb.2 l8 l9 [])):=by
    intro lo' nm1 v1 vb c24 c20 q1;obtain ⟨na,va,x,q2,q1⟩:=aaO q1;obtain ⟨nb,vb',y,q3,q1⟩:=aaO q1;cases q1;have z8:=afM (n4 c20 c24);have z9:=afM (n9 c24);subst z8 z9;obtain ⟨k1,k2,k3⟩:=aof q2 hv;have G2:=h7 _ _ _ _ k2 q3;exact ⟨Nat.le_trans k1 G2.le,afG hv (Nat.le_trans k1 G2.le),fun m hm=>anO (e6 m (Nat.le_trans (Nat.le_trans k1 G2.le) hm)) hcnt (by rw [c2']; exact k3 m (Nat.le_trans G2.le hm)) hq (G2.v m hm) rfl rfl rfl,anY hcnt G2.o rfl rfl rfl⟩
   cases ho28:op == 28 with
   | true =>
    intro hu;have c:op=28:=by simpa using ho28
    obtain ⟨nm1,v1,vb,q1,hu⟩:=aaO hu;cases hu;exact in_ (by omega) (by omega) q1
   | false =>
   cases ho25:op == 25 with
   | true =>
    intro hu;have c:op=25:=by simpa using ho25
    obtain ⟨nm1,v1,vb,q1,hu⟩:=aaO hu;cases hu;exact in_ (by omega) (by omega) q1
   | false =>
   cases ho24:op == 24 with
   | true =>
    intro hu;obtain ⟨nm1,v1,b,q1,hu⟩:=aaO hu;obtain ⟨nm2,v2,b7,q7,q1⟩:=aaO q1;cases q1;obtain ⟨nm3,v3,b,q1,hu⟩:=aaO hu;obtain ⟨nm4,v4,x,qn,q1⟩:=aaO q1;obtain ⟨nm5,v5,b8,q8,q1⟩:=aaO q1;cases q1;obtain ⟨nm6,v6,b,q1,hu⟩:=aaO hu;obtain ⟨nm7,v7,b9,q9,q1⟩:=aaO q1;cases q1;cases hu;have G7:=h7 _ _ _ _ hv q7;obtain ⟨k1,k2,k3⟩:=aof qn (afG hv G7.le);have G8:=h8 _ _ _ _ k2 q8;have le8:=Nat.le_trans G7.le (Nat.le_trans k1 G8.le);have G9:=h9 _ _ _ _ (afG hv le8) q9;refine ⟨Nat.le_trans le8 G9.le,afG hv (Nat.le_trans le8 G9.le),fun m hm=>?_,anY hcnt G7.o G8.o G9.o rfl⟩;have m8:=Nat.le_trans G9.le hm;have mn:=Nat.le_trans G8.le m8;have m7:=Nat.le_trans k1 mn;exact anO (e6 m (Nat.le_trans G7.le m7)) hcnt (by rw [c2']; exact k3 m mn) hq (G7.v m m7) (G8.v m m8) (G9.v m hm) rfl
   | false =>
   cases ho26:op == 20 || op == 22 || op == 23 || op == 26 with
   | true =>
    intro hu;have c:op=20∨op=22∨op=23∨op=26:=by simp at ho26; omega
    obtain ⟨nm1,v1,b,q1,hu⟩:=aaO hu;obtain ⟨nm2,v2,b7,q7,q1⟩:=aaO q1;cases q1;obtain ⟨nm3,v3,b,q1,hu⟩:=aaO hu;obtain ⟨nm4,v4,b8,q8,q1⟩:=aaO q1;cases q1;cases hu;have z9:=afM (n9 (by omega));subst z9;have G7:=h7 _ _ _ _ hv q7;have G8:=h8 _ _ _ _ (afG hv G7.le) q8;refine ⟨Nat.le_trans G7.le G8.le,afG hv (Nat.le_trans G7.le G8.le),fun m hm=>?_,anY hcnt G7.o G8.o rfl rfl⟩;have m7:=Nat.le_trans G8.le hm;exact anO (e6 m (Nat.le_trans G7.le m7)) hcnt (by rw [c2',n2 (by omega)]; rfl) hq (G7.v m m7) (G8.v m hm) rfl rfl
   | false =>
    intro hu;simp at ho28 ho25 ho24 ho26;have ho21:op ≠ 21:=by simpa using ho
    obtain ⟨nm1,v1,x,q1,hu⟩:=aaO hu;obtain ⟨_,hu⟩:=agU hu;cases hu;have z7:=afM (n3 (by omega) (by omega) (by omega) (by omega) (by omega) (by omega) (by omega) (by omega));have z8:=afM (n4 (by omega) (by omega));have z9:=afM (n9 (by omega));subst z7 z8 z9;obtain ⟨k1,k2,k3⟩:=aof q1 hv;exact ⟨k1,k2,fun m hm=>anO (e6 m (Nat.le_trans k1 hm)) hcnt (by rw [c2']; exact k3 m hm) hq rfl rfl rfl rfl,anY hcnt rfl rfl rfl rfl⟩
  have a3 : ∀ c,szC c≤n + 1→∀ a lo nm vis r,gC false c a=true→okV nm vis→uC fs f2 f3 lo nm vis c=.ok r→VG nm r.1 vis (fun m=>vCs q m [r.2.2]) (oC [r.2.2]):=by
   rintro ⟨kind,name,slot,es,b⟩ h a lo nm vis r hg hv hu;simp only [szC] at h;simp only [gC,Bool.and_eq_true,Bool.false_or,beq_iff_eq] at hg;obtain ⟨⟨⟨_,rfl⟩,hnode⟩,g6,g7⟩:=hg;simp only [uC,ajm] at hu;obtain ⟨r6,h6,hu⟩:=aj4 hu;obtain ⟨nm1,v1,vb,q1,hu⟩:=aaO hu;obtain ⟨nm2,v2,x,qn,q1⟩:=aaO q1;obtain ⟨nm3,v3,b3,q3,q1⟩:=aaO q1;cases q1;cases hu;obtain ⟨k1,k2,k3⟩:=aof qn hv;have G2:=i2 b (by omega) _ _ _ _ _ g7 k2 q3;have hE:=fun (m:Nat) (hm:nm.length≤m)=>(uE_v hv hm (szEs es)).2 es _ r6 (Nat.le_refl _) g6 h6
   refine ⟨Nat.le_trans k1 G2.le,afG hv (Nat.le_trans k1 G2.le),fun m hm=>?_,by simp only [oC,G2.o,Bool.and_self]⟩;have m2:=Nat.le_trans G2.le hm;have he:=hE m (Nat.le_trans k1 m2);have hc:(decide (r6.length≤((mget qI kind afF).getD []).length))=true:=by
    rw [he.2];unfold ai1 at hnode;simp only [Bool.and_eq_true,decide_eq_true_eq,beq_iff_eq] at hnode;obtain ⟨⟨⟨c1,c4⟩,hl⟩,_⟩:=hnode;rcases (by omega:kind=1∨kind=2∨kind=3∨kind=4) with rfl | rfl | rfl | rfl
    ·have hl:(es.length:Int)=1:=hl;have:((mget qI 1 afF).getD []).length=1:=by kernel_rfl
     rw [this]; simp; omega
    ·have hl:(es.length:Int)=2:=hl;have:((mget qI 2 afF).getD []).length=2:=by kernel_rfl
     rw [this]; simp; omega
    ·have hl:(es.length:Int)=1:=hl;have:((mget qI 3 afF).getD []).length=1:=by kernel_rfl
     rw [this]; simp; omega
    ·have hl:(es.length:Int)=0:=hl;simp; omega
   simp only [vCs,he.1,hc,k3 m m2,G2.v m hm,Bool.and_self]
  have a2 : ∀ l,szSs l≤n + 1→∀ a lo nm vis r,gSs false l a=true→okV nm vis→uSs fs f2 f3 lo nm vis l=.ok r→VG nm r.1 r.2.1 (fun m=>vSs q m r.2.2) (oL r.2.2):=by
   intro l;induction l with
   | nil=>intro h a lo nm vis r _ hv hu; simp only [uSs] at hu; cases hu; exact ⟨Nat.le_refl _,hv,fun _ _=>rfl,rfl⟩
   | cons s l ih =>
    intro h a lo nm vis r hg hv hu;simp only [szSs] at h;simp only [gSs,Bool.and_eq_true] at hg;simp only [uSs] at hu;obtain ⟨nm1,v1,x,q1,hu⟩:=aaO hu;obtain ⟨nm2,v2,y,q2,hu⟩:=aaO hu;cases hu;have G1:=a1 s (by omega) _ _ _ _ _ hg.1 hv q1;have G2:=ih (by omega) _ _ _ _ _ hg.2 G1.ok q2;exact ⟨Nat.le_trans G1.le G2.le,G2.ok,fun m hm=>by simp only [vSs,G1.v m (Nat.le_trans G2.le hm),G2.v m hm,Bool.and_self],by simp only [oL,G1.o,G2.o,Bool.and_self]⟩
  have a4 : ∀ l,szCs l≤n + 1→∀ a lo nm vis r,gCs false l a=true→okV nm vis→uCs fs f2 f3 lo nm vis l=.ok r→VG nm r.1 vis (fun m=>vCs q m r.2.2) (oC r.2.2):=by
   intro l;induction l with
   | nil=>intro h a lo nm vis r _ hv hu; simp only [uCs] at hu; cases hu; exact ⟨Nat.le_refl _,hv,fun _ _=>rfl,rfl⟩
   | cons s l ih =>
    intro h a lo nm vis r hg hv hu;obtain ⟨kind,name,slot,es,b⟩:=s;simp only [szCs] at h;simp only [gCs,Bool.and_eq_true] at hg;simp only [uCs] at hu;obtain ⟨nm1,v1,x,q1,hu⟩:=aaO hu;obtain ⟨nm2,v2,y,q2,hu⟩:=aaO hu;cases hu;have G1:=a3 _ (by omega) _ _ _ _ _ hg.1.2 hv q1;have G2:=ih (by omega) _ _ _ _ _ hg.2 (afG hv G1.le) q2;exact ⟨Nat.le_trans G1.le G2.le,afG hv (Nat.le_trans G1.le G2.le),fun m hm=>by rw [ats,G1.v m (Nat.le_trans G2.le hm),G2.v m hm]; rfl,by rw [awL,G1.o,G2.o]; rfl⟩
  exact ⟨a1,a2,a3,a4⟩
end
end Go.Proofs.YtphdlngnegjgcaaGreatDoor
namespace Go.Proofs.YtphdlngnegjgcaaGreatDoor
open Go
theorem ayC : ∀ (ps:List aaL) (nm:List ByteArray) (vis:List Nat) (r:List ByteArray × List Nat × Unit),uPs nm vis ps=.ok r→okV nm vis→r.1.length=nm.length + ps.length∧okV r.1 r.2.1
 | [],nm,vis,r,h,hv=>by cases h; exact ⟨by simp,hv⟩
 | .mk a kd :: ps,nm,vis,r,h,hv=>by
  simp only [uPs] at h;obtain ⟨nm1,v1,x,h1,h2⟩:=aaO h;unfold uMk at h1;cases hs:abh nm vis a with
  | some v=>rw [hs] at h1; cases h1
  | none =>
   rw [hs] at h1;cases h1;obtain ⟨g1,g2⟩:=ayC ps _ _ r h2 (by
    intro v hv';rw [List.mem_append,List.mem_singleton] at hv';rw [List.length_append,List.length_singleton];rcases hv' with h | rfl
    ·have:=hv v h; omega
    ·omega)
   rw [List.length_append,List.length_singleton] at g1;exact ⟨by rw [g1,List.length_cons]; omega,g2⟩
theorem awO {gs:List aac} {f:aac} {x:aac × List ByteArray} (h:uF gs f=.ok x):parF x.1=parF f∧anz x.1=anz f∧agj x.1=agj f:=by
 obtain ⟨n,ps,res,fl,v,b⟩:=f;unfold uF at h;obtain ⟨nm,vis,_,h3,h⟩:=aaO h;obtain ⟨nm1,vis1,b',h4,h⟩:=aaO h;obtain ⟨_,h⟩:=agU h;cases h;exact ⟨rfl,rfl,rfl⟩
theorem ako (gs:List aac) : ∀ (l q:List aac) (nl:List (List ByteArray)),uFs gs l=.ok (q,nl)→q.length=l.length∧∀ (n:Nat) (f:aac),l[n]?=some f→∃ g m,uF gs f=.ok (g,m)∧q[n]?=some g
 | [],q,nl,h=>by cases h; exact ⟨rfl,fun n f h=>by simp at h⟩
 | x :: l,q,nl,h=>by
  unfold uFs at h;obtain ⟨y,h1,h⟩:=aj4 h;obtain ⟨z,h2,h⟩:=aj4 h;cases h;obtain ⟨h3,h4⟩:=ako gs l z.1 z.2 h2;refine ⟨by simp [h3],fun n f hf=>?_⟩;cases n with
  | zero =>
   obtain rfl:x=f:=by simpa using hf
   exact ⟨y.1,y.2,h1,rfl⟩
  | succ n=>simpa using h4 n f (by simpa using hf)
theorem avC (gs:List aac) {l q:List aac} {nl:List (List ByteArray)} (h:uFs gs l=.ok (q,nl)) {g:aac} (hg:g ∈ q) : ∃ f ∈ l,∃ m,uF gs f=.ok (g,m):=by
 obtain ⟨h1,h2⟩:=ako gs l q nl h;obtain ⟨n,hn,rfl⟩:=List.getElem_of_mem hg;obtain ⟨g',m,h3,h4⟩:=h2 n l[n] (List.getElem?_eq_getElem (by omega));rw [List.getElem?_eq_getElem hn] at h4;cases h4;exact ⟨_,List.getElem_mem _,m,h3⟩
theorem aob {op:Int} {fr:ByteArray} {n:Nat} {ix:Int} : ∀ (l:List aac) (i:Nat),uCall op fr n l i=.ok ix→∃ (j:Nat) (f:aac),l[j]?=some f∧(parF f).length=n∧ix=((i + j:Nat):Int)
 | [],i,h=>by cases h
 | .mk nm ps r fl v b :: l,i,h=>by
  simp only [uCall] at h;cases h1:seq nm fr with
  | false =>
   rw [h1] at h;obtain ⟨j,f,g1,g2,g3⟩:=aob l (i + 1) h;exact ⟨j + 1,f,by simpa using g1,g2,by rw [g3]; congr 1; omega⟩
  | true =>
   rw [h1] at h;simp only [cond_true] at h;cases h2:fl == (op == 28) with
   | false=>rw [h2] at h; cases h
   | true =>
    rw [h2] at h;simp only [cond_true] at h;cases h3:(ps.length:Int) == (n:Int) with
    | false=>rw [h3] at h; cases h
    | true =>
     rw [h3] at h;cases h;exact ⟨0,_,rfl,by simp only [beq_iff_eq] at h3; simp only [parF]; omega,by simp⟩
theorem arx {z:Bool} : ∀ {l:List aac} {f:aac},f ∈ l→gFs z l=true→(parF f).length≤4
 | .mk n ps res fl v b :: l,f,hf,hg=>by
  simp only [gFs,aij,Bool.and_eq_true,decide_eq_true_eq] at hg;rcases List.mem_cons.1 hf with rfl | h
  ·exact hg.1.1.1.1.1.2
  ·exact arx h hg.2.2.2
theorem HQ_u {fs q:List aac} {nl:List (List ByteArray)} (h:uFs fs fs=.ok (q,nl)) (hg:gFs false fs=true):HQ fs q:=by
 intro op fr n ix hu;obtain ⟨j,f,h1,h2,h3⟩:=aob fs 0 hu;obtain ⟨g,m,h4,h5⟩:=(ako fs fs q nl h).2 j f h1;subst h3;have hp:=(awO h4).1;simp only at hp;refine ⟨by omega,g,by rw [show ((0 + j:Nat):Int).toNat=j by omega]; exact h5,by rw [hp]; exact h2,?_⟩;rw [hp];have:=arx (List.mem_of_getElem? h1) hg;omega
theorem vF_u {k:Nat} {fs q:List aac} {nl:List (List ByteArray)} (h:uP (.mk fs)=.ok (.mk q,nl)) (hk:6000≤k):(∀ f ∈ q,wvF q k f)∧q.length≤16:=by
 obtain ⟨hw,_,_,x,hx,hu⟩:=aAh h;cases hx;have hw':=hw;simp only [wf,Bool.and_eq_true,decide_eq_true_eq] at hw';obtain ⟨⟨⟨_,h16⟩,hg⟩,hc⟩:=hw';have H:=HQ_u hu hg;refine ⟨fun f hf=>?_,by rw [(ako _ _ _ _ hu).1]; exact h16⟩;obtain ⟨f0,h0,m,hF⟩:=avC fs hu hf;have hb:=afb h0 hc hg;obtain ⟨n,ps,res,fl,v,b⟩:=f0;simp only at hb;obtain ⟨b1,b2,b3⟩:=hb;unfold uF at hF;obtain ⟨nm,vis,_,h3,hF⟩:=aaO hF;obtain ⟨nm1,vis1,b',h4,hF⟩:=aaO hF;obtain ⟨h5,hF⟩:=agU hF;cases hF;have hp:=ayC ps [] [] _ h3 (fun v hv=>by simp at hv);simp only [List.length_nil,Nat.zero_add] at hp;have G:=(uS_v H (f2:=res) (f3:=fl) (szSs b)).2.1 b (Nat.le_refl _) 1 0 nm vis _ b3 hp.2 h4;have e1:=(ayw fs res fl (szSs b)).2.1 b (Nat.le_refl _) 1 0 nm vis _ b3 h4;have hsz:szSs b'=szSs b:=by
  have:=aeS b';simp only at e1;rw [e1] at this;exact this.symm
 have hle:nm.length≤m.length:=G.le;have h32:=of_decide_eq_true h5;refine ⟨by omega,by omega,?_,G.o,by omega,by omega⟩;exact G.v _ (by rw [Int.toNat_natCast]; exact Nat.le_refl _)
theorem ayH (k:Nat) (p:aaa) (hk:2 * szP p + 1≤k) (hk2:6000≤k) (hf:fitP p) :
  f26 k p=some (match uK p with | .error c=>(.mk [],[],c) | .ok x=>(x.1,x.2,0)):=by
 refine ayM k p hk (by omega) hf fun x _ hu=>?_
 obtain ⟨fs⟩:=p;obtain ⟨⟨q⟩,nl⟩:=x;exact vF_u hu hk2
theorem azb (k:Nat) (p:aaa) (hk:2 * szP p + 1≤k) (hk2:6000≤k) (hf:fitP p):f10 k p=some (match uK p with | .error c=>(.mk [],c) | .ok x=>(x.1,0)):=by
 have h:=ayH k p hk hk2 hf;obtain ⟨fs⟩:=p;unfold f10 at9;simp only [h,Option.bind_some];cases hu:uK (.mk fs) with
 | error c=>rfl
 | ok x=>obtain ⟨⟨q⟩,y⟩:=x; rfl
theorem axP (k:Nat) (p:aaa) (hk:2 * szP p + 1≤k) : ∃ b,f8 k p=some b:=by
 obtain ⟨fs⟩:=p;simp only [szP] at hk;have loop : ∀ (l:List aac) (i:Nat) (n:Int),szFs l + 1≤k→∃ r,ann k l i n=some r:=by
  intro l;induction l with
  | nil=>intro i n _; exact ⟨_,rfl⟩
  | cons e l ih =>
   intro i n hk;obtain ⟨e0,e1,e2,e3,e4,e5⟩:=e;simp only [szFs,szF] at hk;unfold ann f24;cases decide (n≤2000)
   ·exact ⟨_,rfl⟩
   ·obtain ⟨r,hr⟩:=aix k k e5 0 (by omega) (by omega);rw [hr];exact ih _ _ (by omega)
 obtain ⟨r,hr⟩:=loop fs 0 0 (by omega);exact ⟨r,by unfold f8 f8_b; simp [hr]⟩
theorem aAm (k:Nat):f9 (k + 100)=some true:=by kernel_rfl
def uFr (p:aaa):Ex (aaa × List (List ByteArray)):=cond (wf true p) (uP (stP p)) (.error 2)
theorem awq {p:aaa} {c:Int} (h:uFr p=.error c):c ≠ 0:=by
 unfold uFr at h;cases hw:wf true p with
 | false=>rw [hw] at h; cases h; decide
 | true=>rw [hw] at h; exact auk h
theorem axc (k:Nat) (p:aaa) (hk:2 * szP p + 1≤k) (hk2:4 * 600 + 1≤k) (hf:fitP p):f16 k p=some (match uFr p with | .error c=>(.mk [],c) | .ok x=>(x.1,0)):=by
 have h23:=ayG k p hk hf;have h24:=auD k p hk hf;have h16:=axU k (stP p) (by rw [aq9]; exact hk) hk2;obtain ⟨fs⟩:=p;unfold f16 aty uFr;simp only [h23,Option.bind_some];cases wf true (.mk fs) with
 | false=>rfl
 | true =>
  simp only [Bool.not_true,cond_false,cond_true,h24,Option.bind_some];simp only [stP] at h16 ⊢;rw [h16];cases uP (.mk (stFs fs)) with
  | error c=>rfl
  | ok x=>obtain ⟨⟨q⟩,l⟩:=x; rfl
theorem azI (p:aaa):uK p=eb (uFr p) fun x=>eb (kFs (funs x.1) (funs x.1)) fun y=>.ok (x.1,y):=by
 unfold uK uFr;cases wf true p <;> rfl
theorem aq6 {q:List aac} : ∀ {l:List aac} {c:Int},kFs q l=.error c→c=23∨c=26
 | [],c,h=>by cases h
 | .mk n ps res fl v b :: l,c,h=>by
  simp only [kFs,kkF] at h;cases hy:ySs q res (am6 ps v) b with
  | none=>rw [hy] at h; cases h; exact .inl rfl
  | some w =>
   rw [hy] at h;revert h;cases res != 0 && !edL b with
   | true=>intro h; cases h; exact .inr rfl
   | false =>
    intro h;simp only [cond_false,eb] at h;cases hl:kFs q l with
    | error e=>rw [hl] at h; cases h; exact aq6 hl
    | ok y=>rw [hl] at h; cases h
theorem azJ (k:Nat) (p:aaa) (hk:2 * szP p + 6500≤k) (hf:fitP p):f5 (k + 100) p=some true:=by
 obtain ⟨b,hb⟩:=axP (k + 100) p (by omega);have h9:=aAm k;have h10:=azb (k + 100) p (by omega) (by omega) hf;have h16:=axc (k + 100) p (by omega) (by omega) hf;rw [azI] at h10;obtain ⟨fs⟩:=p;unfold f5 f5_b;simp only [hb,Option.bind_some];cases b with
 | false=>simp only [Bool.not_false,cond_true,h9,Option.bind_some]
 | true =>
  simp only [Bool.not_true,cond_false,h10,h16,Option.bind_some];cases hu:uFr (.mk fs) with
  | error c =>
   have hc:(c != 0)=true:=by simpa using awq hu
   simp only [eb,Option.bind_some,hc,cond_true,beq_self_eq_true,h9,aqM]
  | ok x =>
   obtain ⟨⟨q⟩,nl⟩:=x;simp only [eb,funs,Option.bind_some,bne_self_eq_false,cond_false];cases hx:kFs q q with
   | error c =>
    simp only [Option.bind_some];rcases aq6 hx with rfl | rfl <;> simp [h9,alQ]
   | ok y=>simp only [Option.bind_some,beq_self_eq_true,cond_true,h9,alQ]
end Go.Proofs.YtphdlngnegjgcaaGreatDoor
