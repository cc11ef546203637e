/- Words of the proof, part 7; nothing is claimed here. -/
import Derived.Test.YtphdlngnegjgcaaGreatDoorV6
set_option linter.unusedVariables false
set_option linter.unusedSimpArgs false
set_option linter.unusedSectionVars false
namespace Go.Proofs.YtphdlngnegjgcaaGreatDoor
open Go
theorem f8_tot(k:Nat)(p:aaa)(hk:2*szP p+1<=k) : ∃b,f8 k p=some b:=by
 obtain⟨fs⟩:=p;simp only[szP] at hk;have loop : ∀(l:List aab) (i:Nat) (n:Int),szFs l+1<=k->∃r,avb k l i n=some r:=by
  intro l;induction l with
  | nil=>intro i n _;exact⟨_,rfl⟩
  | cons e l ih =>
   intro i n hk;obtain⟨e0,e1,e2,e3,e4,e5⟩:=e;simp only[szFs,szF] at hk;unfold avb f24;cases decide (n<=2000)
   ·exact⟨_,rfl⟩
   ·obtain⟨r,hr⟩:=ajS k k e5 0 (by omega) (by omega);rw[hr];exact ih _ _ (by omega)
 obtain⟨r,hr⟩:=loop fs 0 0 (by omega);exact⟨r,by unfold f8;simp[hr]⟩
theorem f9_eq(k:Nat):f9 (k+100)=some true:=by kernel_rfl
def uFr(p:aaa):Ex (aaa×List (List ByteArray)):=cond (wf true p) (uP (stP p)) (.error 2)
theorem uFr_err{p:aaa}{c:Int}(h:uFr p=.error c):c≠0:=by
 unfold uFr at h;cases hw:wf true p with
 | false=>rw[hw] at h;cases h;decide
 | true=>rw[hw] at h;exact atY h
theorem f16_eq(k:Nat)(p:aaa)(hk:2*szP p+1<=k)(hk2:4*600+1<=k)(hf:fitP p):f16 k p=some (match uFr p with | .error c=>(.mk [],c) | .ok x=>(x.1,0)):=by
 have h23:=ayW k p hk hf;have h24:=axJ k p hk hf;have h16:=ayY k (stP p) (by rw[at1];exact hk) hk2;obtain⟨fs⟩:=p;unfold f16 uFr;simp only[h23,Option.bind_some];cases wf true (.mk fs) with
 | false=>rfl
 | true =>
  simp only[Bool.not_true,cond_false,cond_true,h24,Option.bind_some];simp only[stP] at h16 ⊢;rw[h16];cases uP (.mk (stFs fs)) with
  | error c=>rfl
  | ok x=>obtain⟨⟨q⟩,l⟩:=x;rfl
theorem uK_fr(p:aaa):uK p=eb (uFr p) λx=>eb (kFs (funs x.1) (funs x.1)) λy=>.ok (x.1,y):=by
 unfold uK uFr;cases wf true p<;>rfl
section
variable {fs:List aab}{a0:ByteArray}{a1:List aat}{a2:Int}{a3:Bool}{a4:Int}{a5:List aae}{k:Nat}{F:acy}
theorem Rq.bind{m:Nat}{r:Option aao}{u:Option (List Int)}{g:aao->Option aao}{f:List Int->Option (List Int)}(h:Rq fs a0 a1 a2 a3 a4 a5 r u m)
  (hf : ∀w,w.length=m->Rq fs a0 a1 a2 a3 a4 a5 (g (LK fs a0 a1 a2 a3 a4 a5 w false)) (f w) m) (hw : ∀w,w.length=m->∃v,v.length=m/\g (LK fs a0 a1 a2 a3 a4 a5 w true)=some (LK fs a0 a1 a2 a3 a4 a5 v true)) :
  Rq fs a0 a1 a2 a3 a4 a5 (r.bind g) (u.bind f) m:=by
 cases u with
 | none =>
  obtain⟨v,hv,rfl⟩:=h;exact hw v hv
 | some w =>
  obtain⟨hl,rfl⟩:=h;exact hf w hl
variable {op:Int}{name:ByteArray}{slot:Int}{fr:ByteArray}{ix flag:Int}{l6:List aah}{l7 l8 l9:List aae}{l10:List aap}{vs:List Int}{m:Nat}
def HWr(fs:List aab)(a0:ByteArray)(a1:List aat)(a2:Int)(a3:Bool)(a4:Int)(a5:List aae)(F:acy):Prop:=∀(l:List aae) (w:List Int),F.f50 (LK fs a0 a1 a2 a3 a4 a5 w true) l=some (LK fs a0 a1 a2 a3 a4 a5 w true)
variable (HW:HWr fs a0 a1 a2 a3 a4 a5 F)
theorem l2_w(i:Nat)(w:List Int):ah7 k F l10 i fs a0 a1 a2 a3 a4 a5 w true=some (LK fs a0 a1 a2 a3 a4 a5 w true):=by
 cases l10 with
 | nil=>rfl
 | cons c l=>obtain⟨b0,b1,b2,b3,b4⟩:=c;rfl
include HW
theorem j4_w(w:List Int):ahv k F l8 l9 l10 fs a0 a1 a2 a3 a4 a5 w true=some (LK fs a0 a1 a2 a3 a4 a5 w true):=by
 have h:=HW;unfold HWr at h;unfold ahv;simp only[h,Option.bind_some,l2_w]
theorem j3_w(w:List Int):agG k F op l7 l8 l9 l10 fs a0 a1 a2 a3 a4 a5 w true=some (LK fs a0 a1 a2 a3 a4 a5 w true):=by
 have h:=HW;unfold HWr at h;unfold agG;cases op != 24 with
 | true=>simp only[cond_true,h,Option.bind_some,j4_w HW]
 | false=>simp only[cond_false,j4_w HW]
variable (HC : ∀(i:Nat) (v:List Int),v.length=m->Rq fs a0 a1 a2 a3 a4 a5 (ah7 k F l10 i fs a0 a1 a2 a3 a4 a5 v false) (qkC fs a2 v l10) m)
variable (H7 : ∀v:List Int,v.length=m->Rq fs a0 a1 a2 a3 a4 a5 (F.f50 (LK fs a0 a1 a2 a3 a4 a5 v false) l7) (qkL fs a2 v l7) m)
variable (H8 : ∀v:List Int,v.length=m->Rq fs a0 a1 a2 a3 a4 a5 (F.f50 (LK fs a0 a1 a2 a3 a4 a5 v false) l8) (qkL fs a2 v l8) m)
variable (H9 : ∀v:List Int,v.length=m->Rq fs a0 a1 a2 a3 a4 a5 (F.f50 (LK fs a0 a1 a2 a3 a4 a5 v false) l9) (qkL fs a2 v l9) m)
include HC H8 H9
theorem j4_q(v:List Int)(hv:v.length=m):Rq fs a0 a1 a2 a3 a4 a5 (ahv k F l8 l9 l10 fs a0 a1 a2 a3 a4 a5 v false) ((qkL fs a2 v l8).bind λv=>(qkL fs a2 v l9).bind λv=>qkC fs a2 v l10) m:=by
 have h:=HW;unfold HWr at h;unfold ahv;refine (H8 v hv).bind (λw hw=>?_) (λw hw=>⟨w,hw,?_⟩)
 ·refine (H9 w hw).bind (λx hx=>HC 0 x hx) (λx hx=>⟨x,hx,l2_w 0 x⟩)
 ·simp only[h,Option.bind_some,l2_w]
include H7
theorem j3_q(v:List Int)(hv:v.length=m):Rq fs a0 a1 a2 a3 a4 a5 (agG k F op l7 l8 l9 l10 fs a0 a1 a2 a3 a4 a5 v false)
  ((cond (op==24) (some v) (qkL fs a2 v l7)).bind λv=>(qkL fs a2 v l8).bind λv=>(qkL fs a2 v l9).bind λv=>qkC fs a2 v l10) m:=by
 unfold agG;cases e:op==24 with
 | true =>
  rw[show (op != 24)=false by rw[bne,e];rfl];exact j4_q HW HC H8 H9 v hv
 | false =>
  rw[show (op != 24)=true by rw[bne,e];rfl];exact (H7 v hv).bind (λw hw=>j4_q HW HC H8 H9 w hw) (λw hw=>⟨w,hw,j4_w HW w⟩)
variable (hk:szEs l6<=k)(hv6:wvEs m l6=true)(ho:oEs l6=true)(h1:(op != 1||decide (1<=l6.length))=true)(h3:op=3->0<=ix/\∃f,fs[ix.toNat]?=some f)(hs:(op != 2&&seq name ⟨#[]⟩||abm m slot)=true)
include hk hv6 ho h1 h3 hs
theorem j2_q(v:List Int)(hv:v.length=m):Rq fs a0 a1 a2 a3 a4 a5 (ahF k F op name slot fr ix flag l6 l7 l8 l9 l10 fs a0 a1 a2 a3 a4 a5 v false)
  ((rSet fs v op name slot ix l6).bind λv=>(cond (op==24) (some v) (qkL fs a2 v l7)).bind λv=>(qkL fs a2 v l8).bind λv=>(qkL fs a2 v l9).bind λv=>qkC fs a2 v l10) m:=by
 have h9:=λ(w:List Int) (b:Bool) (hw:w.length=m)=>apv (fs:=fs) (a0:=a0) (a1:=a1) (a2:=a2) (a3:=a3) (a4:=a4) (a5:=a5) k (vs:=w) (w:=b) (name:=name) (slot:=slot) (fr:=fr) (flag:=flag) (l7:=l7) (l8:=l8) (l9:=l9) (l10:=l10) hk (by rw[hw];exact hv6) ho h1 h3
 have j3:=j3_q (op:=op) HW HC H7 H8 H9;unfold ahF rSet;cases hn:seq name ⟨#[]⟩ with
 | true=>exact j3 v hv
 | false =>
  rw[hn] at hs;cases h2:op != 2 with
  | false=>exact j3 v hv
  | true =>
   have hsl:abm m slot=true:=by simpa using hs
   have h49:=am9 (fs:=fs) (a0:=a0) (a1:=a1) (a2:=a2) (a3:=a3) (a4:=a4) (a5:=a5) k (vs:=v) (w:=false) (s:=slot) (x:=abh fs v op ix l6) (by rw[hv];exact hsl);have hl:(v.set slot.toNat (abh fs v op ix l6)).length=m:=by rw[List.length_set,hv]
   unfold ak6;simp only[Bool.not_false,cond_true,Bool.true_and];rw[show f109 k (aao.mk fs (aab.mk a0 a1 a2 a3 a4 a5) v false) (aae.mk op name slot fr ix flag l6 l7 l8 l9 l10)=_ from h9 v false hv];simp only[Option.bind_some];rw[show f49 k (aao.mk fs (aab.mk a0 a1 a2 a3 a4 a5) v false) slot (abh fs v op ix l6)=_ from h49];simp only[Option.bind_some];unfold an0;rw[show f109 k (aao.mk fs (aab.mk a0 a1 a2 a3 a4 a5) (v.set slot.toNat (abh fs v op ix l6)) false) (aae.mk op name slot fr ix flag l6 l7 l8 l9 l10)=_ from h9 _ false hl];simp only[Option.bind_some];cases abh fs (v.set slot.toNat (abh fs v op ix l6)) op ix l6==0 with
   | true=>exact⟨_,hl,j3_w HW _⟩
   | false=>exact j3 _ hl
theorem j2_w(v:List Int)(hv:v.length=m) : ∃w,w.length=m/\ahF k F op name slot fr ix flag l6 l7 l8 l9 l10 fs a0 a1 a2 a3 a4 a5 v true=some (LK fs a0 a1 a2 a3 a4 a5 w true):=by
 have h9:=λ(w:List Int) (b:Bool) (hw:w.length=m)=>apv (fs:=fs) (a0:=a0) (a1:=a1) (a2:=a2) (a3:=a3) (a4:=a4) (a5:=a5) k (vs:=w) (w:=b) (name:=name) (slot:=slot) (fr:=fr) (flag:=flag) (l7:=l7) (l8:=l8) (l9:=l9) (l10:=l10) hk (by rw[hw];exact hv6) ho h1 h3
 have j3:=λw=>j3_w (k:=k) (op:=op) (l7:=l7) (l8:=l8) (l9:=l9) (l10:=l10) HW w
 unfold ahF;cases hn:seq name ⟨#[]⟩ with
 | true=>exact⟨v,hv,j3 v⟩
 | false =>
  rw[hn] at hs;cases h2:op != 2 with
  | false=>exact⟨v,hv,j3 v⟩
  | true =>
   have hsl:abm m slot=true:=by simpa[h2] using hs
   have h49:=am9 (fs:=fs) (a0:=a0) (a1:=a1) (a2:=a2) (a3:=a3) (a4:=a4) (a5:=a5) k (vs:=v) (w:=true) (s:=slot) (x:=abh fs v op ix l6) (by rw[hv];exact hsl);have hl:(v.set slot.toNat (abh fs v op ix l6)).length=m:=by rw[List.length_set,hv]
   refine⟨v.set slot.toNat (abh fs v op ix l6),hl,?_⟩;unfold ak6;simp only[Bool.not_false,cond_true];rw[show f109 k (aao.mk fs (aab.mk a0 a1 a2 a3 a4 a5) v true) (aae.mk op name slot fr ix flag l6 l7 l8 l9 l10)=_ from h9 v true hv];simp only[Option.bind_some];rw[show f49 k (aao.mk fs (aab.mk a0 a1 a2 a3 a4 a5) v true) slot (abh fs v op ix l6)=_ from h49];simp only[Option.bind_some];unfold an0;rw[show f109 k (aao.mk fs (aab.mk a0 a1 a2 a3 a4 a5) (v.set slot.toNat (abh fs v op ix l6)) true) (aae.mk op name slot fr ix flag l6 l7 l8 l9 l10)=_ from h9 _ true hl];simp only[Option.bind_some];cases abh fs (v.set slot.toNat (abh fs v op ix l6)) op ix l6==0<;>exact j3 _
theorem j1_q(v:List Int)(hv:v.length=m)(q:Bool):Rq fs a0 a1 a2 a3 a4 a5 (alH k F op name slot fr ix flag l6 l7 l8 l9 l10 fs a0 a1 a2 a3 a4 a5 v q)
  (cond q none ((cond (op==24) (qkL fs a2 v l7) (some v)).bind λv=>(rSet fs v op name slot ix l6).bind λv=>(cond (op==24) (some v) (qkL fs a2 v l7)).bind λv=>(qkL fs a2 v l8).bind λv=>(qkL fs a2 v l9).bind λv=>qkC fs a2 v l10)) m:=by
 have j2:=j2_q (fr:=fr) (flag:=flag) HW HC H7 H8 H9 hk hv6 ho h1 h3 hs;have j2w:=j2_w (fr:=fr) (flag:=flag) HW HC H7 H8 H9 hk hv6 ho h1 h3 hs;unfold alH;cases q with
 | true=>exact⟨v,hv,rfl⟩
 | false =>
  simp only[cond_false];cases e:op==24 with
  | true =>
   rw[e] at j2;simp only[cond_true] at j2 ⊢;exact (H7 v hv).bind (λw hw=>j2 w hw) (λw hw=>j2w w hw)
  | false =>
   rw[e] at j2;simp only[cond_false,Option.bind_some] at j2 ⊢;exact j2 v hv
theorem j7_q(v:List Int)(hv:v.length=m)(q q' : Bool):Rq fs a0 a1 a2 a3 a4 a5 (ali k F op name slot fr ix flag l6 l7 l8 l9 l10 fs a0 a1 a2 a3 a4 a5 v q q')
  (cond (q||q') none ((cond (op==24) (qkL fs a2 v l7) (some v)).bind λv=>(rSet fs v op name slot ix l6).bind λv=>(cond (op==24) (some v) (qkL fs a2 v l7)).bind λv=>(qkL fs a2 v l8).bind λv=>(qkL fs a2 v l9).bind λv=>qkC fs a2 v l10)) m:=by
 have j1:=λb=>j1_q (fr:=fr) (flag:=flag) HW HC H7 H8 H9 hk hv6 ho h1 h3 hs v hv b
 unfold ali;cases q' with
 | true=>rw[Bool.or_true];exact j1 true
 | false=>rw[Bool.or_false];exact j1 q
variable (h4:(op==4)=true->0<=ix/\∃f,fs[ix.toNat]?=some f)
include h4
theorem atZ(v:List Int)(hv:v.length=m)(q:Bool)(i:Nat)(ks:List Int)(b:Bool):Rq fs a0 a1 a2 a3 a4 a5 (ad3 k F op name slot fr ix flag l6 l7 l8 l9 l10 ks b [] i fs a0 a1 a2 a3 a4 a5 v q)
  (cond (q||acJ fs op ix) none ((cond (op==24) (qkL fs a2 v l7) (some v)).bind λv=>(rSet fs v op name slot ix l6).bind λv=>(cond (op==24) (some v) (qkL fs a2 v l7)).bind λv=>(qkL fs a2 v l8).bind λv=>(qkL fs a2 v l9).bind λv=>qkC fs a2 v l10)) m:=by
 have j7:=λb=>j7_q (fr:=fr) (flag:=flag) HW HC H7 H8 H9 hk hv6 ho h1 h3 hs v hv q b
 unfold ad3 acJ;cases e:op==4 with
 | true =>
  obtain⟨g0,f,hf⟩:=h4 e;have hi:idxO fs ix=some f:=by unfold idxO;rw[if_pos g0];exact hf
  have g:=j7 (decide (ac2 f>1));obtain⟨b0,b1,b2,b3,b4,b5⟩:=f;rw[hf];simp only[cond_true,hi,Option.bind_some,Bool.true_and];exact g
 | false=>exact j7 false
theorem avT(v:List Int)(hv:v.length=m)(ks:List Int) : ∀(l:List aah) (i:Nat) (q:Bool),i+l.length<=ks.length->szEs l<=k->wvEs m l=true->oEs l=true->Rq fs a0 a1 a2 a3 a4 a5 (ad3 k F op name slot fr ix flag l6 l7 l8 l9 l10 ks true l i fs a0 a1 a2 a3 a4 a5 v q)
  (cond ((q||!areK v l (ks.drop i))||acJ fs op ix) none ((cond (op==24) (qkL fs a2 v l7) (some v)).bind λv=>(rSet fs v op name slot ix l6).bind λv=>(cond (op==24) (some v) (qkL fs a2 v l7)).bind λv=>(qkL fs a2 v l8).bind λv=>(qkL fs a2 v l9).bind λv=>qkC fs a2 v l10)) m:=by
 intro l;induction l with
 | nil =>
  intro i q _ _ _ _;simp only[areK,Bool.not_true,Bool.or_false];exact atZ (fr:=fr) (flag:=flag) HW HC H7 H8 H9 hk hv6 ho h1 h3 hs h4 v hv q i ks true
 | cons e l ih =>
  intro i q hi hk' hv' ho';simp only[List.length_cons] at hi;simp only[szEs] at hk';simp only[wvEs,Bool.and_eq_true] at hv';simp only[oEs,Bool.and_eq_true] at ho';have hlt:i<ks.length:=by omega
  obtain⟨x,hx⟩ : ∃x,ks[i]?=some x:=⟨_,List.getElem?_eq_getElem hlt⟩;have hd:ks.drop i=x::ks.drop (i+1):=by
   rw[List.drop_eq_getElem_cons hlt];rw[List.getElem?_eq_getElem hlt] at hx;rw[Option.some.inj hx]
  have hi0:idxO ks (i:Int)=some x:=by unfold idxO;rw[if_pos (by omega)];exact hx
  have h8:=apg (fs:=fs) (a0:=a0) (a1:=a1) (a2:=a2) (a3:=a3) (a4:=a4) (a5:=a5) k (vs:=v) (w:=q) (e:=e) (x:=x) (by omega) (by rw[hv];exact hv'.1) ho'.1;have g:=ih (i+1) (q||kT v e != x) (by omega) (by omega) hv'.2 ho'.2;rw[hd];simp only[areK,List.headD_cons,List.tail_cons];have hb:(q||!(kT v e==x&&areK v l (ks.drop (i+1))))=((q||kT v e != x)||!areK v l (ks.drop (i+1))):=by
   rw[bne];cases q<;>cases kT v e==x<;>cases areK v l (ks.drop (i+1))<;>rfl
  rw[hb];obtain⟨b0,b1,b2,b3,b4⟩:=e;unfold ad3;simp only[cond_true,hi0,Option.bind_some];rw[show f108 k (aao.mk fs (aab.mk a0 a1 a2 a3 a4 a5) v q) (aah.mk b0 b1 b2 b3 b4) x=_ from h8];exact g
theorem awD(v:List Int)(hv:v.length=m)(ks:List Int) : ∀(l:List aah) (i:Nat) (q:Bool),szEs l<=k->wvEs m l=true->oEs l=true->Rq fs a0 a1 a2 a3 a4 a5 (ad3 k F op name slot fr ix flag l6 l7 l8 l9 l10 ks false l i fs a0 a1 a2 a3 a4 a5 v q)
  (cond ((q||!allK v l)||acJ fs op ix) none ((cond (op==24) (qkL fs a2 v l7) (some v)).bind λv=>(rSet fs v op name slot ix l6).bind λv=>(cond (op==24) (some v) (qkL fs a2 v l7)).bind λv=>(qkL fs a2 v l8).bind λv=>(qkL fs a2 v l9).bind λv=>qkC fs a2 v l10)) m:=by
 intro l;induction l with
 | nil =>
  intro i q _ _ _;simp only[allK,List.all_nil,Bool.not_true,Bool.or_false];exact atZ (fr:=fr) (flag:=flag) HW HC H7 H8 H9 hk hv6 ho h1 h3 hs h4 v hv q i ks false
 | cons e l ih =>
  intro i q hk' hv' ho';simp only[szEs] at hk';simp only[wvEs,Bool.and_eq_true] at hv';simp only[oEs,Bool.and_eq_true] at ho';have h15:=apH k e v (by omega) (by rw[hv];exact hv'.1) ho'.1;have hb:(q||!allK v (e::l))=((q||kT v e==-1)||!allK v l):=by
   unfold allK;rw[List.all_cons,bne];cases q<;>cases kT v e==-1<;>cases l.all (λe=>kT v e != -1)<;>rfl
  have g:=λb=>ih (i+1) b (by omega) hv'.2 ho'.2
  rw[hb];obtain⟨b0,b1,b2,b3,b4⟩:=e;unfold ad3;simp only[cond_false,h15,Option.bind_some];cases kT v (.mk b0 b1 b2 b3 b4)==-1 with
  | true=>rw[Bool.or_true];exact g true
  | false=>rw[Bool.or_false];exact g q
end
section
variable {fs:List aab}{a0:ByteArray}{a1:List aat}{a2:Int}{a3:Bool}{a4:Int}{a5:List aae}{k:Nat}{F:acy}{N:Nat}
variable (HW:HWr fs a0 a1 a2 a3 a4 a5 F)
variable (HB : ∀(l:List aae) (v:List Int),szSs l<=N->vSs fs v.length l=true->tkL l=true->Rq fs a0 a1 a2 a3 a4 a5 (F.f50 (LK fs a0 a1 a2 a3 a4 a5 v false) l) (qkL fs a2 v l) v.length)
include HW HB
theorem arY{kind:Int}{name:ByteArray}{slot:Int}{es:List aah}{b:List aae}(v:List Int)(hn:szSs b<=N)(hk:szEs es<=k)(hv:vCs fs v.length [.mk kind name slot es b]=true)(ht:tkC [.mk kind name slot es b]=true) :
  Rq fs a0 a1 a2 a3 a4 a5 (alg k F (LK fs a0 a1 a2 a3 a4 a5 v false) (.mk kind name slot es b)) (qkC fs a2 v [.mk kind name slot es b]) v.length:=by
 simp only[vCs,Bool.and_eq_true,Bool.and_true] at hv;obtain⟨g1,g2,g3,g4⟩:=hv;simp only[tkC,Bool.and_eq_true,Bool.and_true] at ht;obtain⟨t1,t2,t3⟩:=ht;have j2 : ∀w:List Int,w.length=v.length->Rq fs a0 a1 a2 a3 a4 a5 (aeV k F b fs a0 a1 a2 a3 a4 a5 w false) (qkL fs a2 w b) v.length:=by
  intro w hw;have h:=HB b w hn (by rw[hw];exact g4) t3;rw[hw] at h;unfold aeV;have e:(qkL fs a2 w b).bind some=qkL fs a2 w b:=Option.bind_fun_some _;rw[<-e];exact h.bind (λx hx=>⟨hx,rfl⟩) (λx hx=>⟨x,hx,rfl⟩)
 have j2w : ∀w:List Int,aeV k F b fs a0 a1 a2 a3 a4 a5 w true=some (LK fs a0 a1 a2 a3 a4 a5 w true):=by
  intro w;have h:=HW;unfold HWr at h;unfold aeV;simp only[h,Option.bind_some]
 have nil : ∀(q:Bool) (i:Nat) (ks:List Int),Rq fs a0 a1 a2 a3 a4 a5 (aeY k F kind slot b ks [] i fs a0 a1 a2 a3 a4 a5 v q) (cond q none (qkL fs a2 (cond (kind==1) (v.set slot.toNat 1) v) b)) v.length:=by
  intro q i ks;unfold aeY;cases h1:kind==1 with
  | true =>
   have hsl:abm v.length slot=true:=by
    rw[bne,h1] at t1;simp only[Bool.not_true,Bool.false_or] at t1;cases hs:seq name ⟨#[]⟩ with
    | true=>rw[hs] at t1;cases t1
    | false=>rw[hs,Bool.false_or] at g3;exact g3
   have h49:=am9 (fs:=fs) (a0:=a0) (a1:=a1) (a2:=a2) (a3:=a3) (a4:=a4) (a5:=a5) k (vs:=v) (w:=q) (s:=slot) (x:=1) hsl;simp only[cond_true];rw[show f49 k (aao.mk fs (aab.mk a0 a1 a2 a3 a4 a5) v q) slot 1=_ from h49];simp only[Option.bind_some];cases q with
   | true=>exact⟨_,List.length_set ..,j2w _⟩
   | false=>exact j2 _ (List.length_set ..)
  | false =>
   cases q with
   | true=>exact⟨_,rfl,j2w _⟩
   | false=>exact j2 _ rfl
 have loop : ∀(ks:List Int) (l:List aah) (i:Nat) (q:Bool),i+l.length<=ks.length->szEs l<=k->wvEs v.length l=true->oEs l=true ->
   Rq fs a0 a1 a2 a3 a4 a5 (aeY k F kind slot b ks l i fs a0 a1 a2 a3 a4 a5 v q) (cond (q||!areK v l (ks.drop i)) none (qkL fs a2 (cond (kind==1) (v.set slot.toNat 1) v) b)) v.length:=by
  intro ks l;induction l with
  | nil =>
   intro i q _ _ _ _;simp only[areK,Bool.not_true,Bool.or_false];exact nil q i ks
  | cons e l ih =>
   intro i q hi hk' hv' ho';simp only[List.length_cons] at hi;simp only[szEs] at hk';simp only[wvEs,Bool.and_eq_true] at hv';simp only[oEs,Bool.and_eq_true] at ho';have hlt:i<ks.length:=by omega
   obtain⟨x,hx⟩ : ∃x,ks[i]?=some x:=⟨_,List.getElem?_eq_getElem hlt⟩;have hd:ks.drop i=x::ks.drop (i+1):=by
    rw[List.drop_eq_getElem_cons hlt];rw[List.getElem?_eq_getElem hlt] at hx;rw[Option.some.inj hx]
   have hi0:idxO ks (i:Int)=some x:=by unfold idxO;rw[if_pos (by omega)];exact hx
   have h8:=apg (fs:=fs) (a0:=a0) (a1:=a1) (a2:=a2) (a3:=a3) (a4:=a4) (a5:=a5) k (vs:=v) (w:=q) (e:=e) (x:=x) (by omega) hv'.1 ho'.1;have g:=ih (i+1) (q||kT v e != x) (by omega) (by omega) hv'.2 ho'.2;rw[hd];simp only[areK,List.headD_cons,List.tail_cons];have hb:(q||!(kT v e==x&&areK v l (ks.drop (i+1))))=((q||kT v e != x)||!areK v l (ks.drop (i+1))):=by
    rw[bne];cases q<;>cases kT v e==x<;>cases areK v l (ks.drop (i+1))<;>rfl
   rw[hb];obtain⟨b0,b1,b2,b3,b4⟩:=e;unfold aeY;simp only[hi0,Option.bind_some];rw[show f108 k (aao.mk fs (aab.mk a0 a1 a2 a3 a4 a5) v q) (aah.mk b0 b1 b2 b3 b4) x=_ from h8];exact g
 have hlen:es.length<=(cond (kind==3) [1] [4,1]:List Int).length:=by
  have g2:=of_decide_eq_true g2;have hc:((mget qI kind ab8).getD []).length<=(cond (kind==3) [1] [4,1]:List Int).length:=by
   have e1:ab8=[(1,[4]),(2,[4,1]),(3,[1])]:=by kernel_rfl
   rw[e1];cases h1:kind==1 with
   | true=>
    have c:kind=1:=by simpa using h1
    subst c;decide
   | false =>
    cases h2:kind==2 with
    | true=>
     have c:kind=2:=by simpa using h2
     subst c;decide
    | false =>
     cases h3:kind==3 with
     | true=>
      have c:kind=3:=by simpa using h3
      subst c;decide
     | false=>simp[mget,qI,h1,h2,h3]
  omega
 have g:=loop (cond (kind==3) [1] [4,1]) es 0 false (by omega) hk g1 t2;simp only[List.drop_zero,Bool.false_or] at g;simp only[qkC,Option.bind_fun_some];have hcond : ∀(u:Bool) (z:Option (List Int)),cond (!u) none z=cond u z none:=by intro u z;cases u<;>rfl
 rw[hcond] at g;unfold alg aj2;simp only;cases h3:kind==3 with
 | true=>rw[h3] at g;exact g
 | false=>rw[h3] at g;exact g
theorem axL(HC : ∀(c:aap) (v:List Int),szC c<=N->szC c<=k->vCs fs v.length [c]=true->tkC [c]=true->Rq fs a0 a1 a2 a3 a4 a5 (F.f110 (LK fs a0 a1 a2 a3 a4 a5 v false) c) (qkC fs a2 v [c]) v.length)
  (s:aae) (vs:List Int) (hn:szS s<=N+1) (hk:szS s<=k) (hk2:1001<=k) (h:wvS fs vs.length s=true) (ht:tkS s=true) :
  Rq fs a0 a1 a2 a3 a4 a5 (aq1 k F (LK fs a0 a1 a2 a3 a4 a5 vs false) s) (qkS fs a2 vs s) vs.length:=by
 obtain⟨op,name,slot,fr,ix,flag,l6,l7,l8,l9,l10⟩:=s;simp only[szS] at hn hk;simp only[wvS,Bool.and_eq_true] at h;obtain⟨h6,c1,c2,hs,hq,hw,h7,h8,h9,h10⟩:=h;simp only[tkS,Bool.and_eq_true] at ht;obtain⟨t0,t2,t6,t7,t8,t9,t10⟩:=ht;have B7 : ∀v:List Int,v.length=vs.length->Rq fs a0 a1 a2 a3 a4 a5 (F.f50 (LK fs a0 a1 a2 a3 a4 a5 v false) l7) (qkL fs a2 v l7) vs.length:=λv hv=>by
  have h:=HB l7 v (by omega) (by rw[hv];exact h7) t7;rw[hv] at h;exact h
 have B8 : ∀v:List Int,v.length=vs.length->Rq fs a0 a1 a2 a3 a4 a5 (F.f50 (LK fs a0 a1 a2 a3 a4 a5 v false) l8) (qkL fs a2 v l8) vs.length:=λv hv=>by
  have h:=HB l8 v (by omega) (by rw[hv];exact h8) t8;rw[hv] at h;exact h
 have B9 : ∀v:List Int,v.length=vs.length->Rq fs a0 a1 a2 a3 a4 a5 (F.f50 (LK fs a0 a1 a2 a3 a4 a5 v false) l9) (qkL fs a2 v l9) vs.length:=λv hv=>by
  have h:=HB l9 v (by omega) (by rw[hv];exact h9) t9;rw[hv] at h;exact h
 have BC : ∀(l:List aap),szCs l<=N->szCs l<=k->vCs fs vs.length l=true->tkC l=true->∀(i:Nat) (v:List Int),v.length=vs.length->Rq fs a0 a1 a2 a3 a4 a5 (ah7 k F l i fs a0 a1 a2 a3 a4 a5 v false) (qkC fs a2 v l) vs.length:=by
  intro l;induction l with
  | nil=>intro _ _ _ _ i v hv;exact⟨hv,rfl⟩
  | cons c l ih =>
   intro hn' hk' hv' ht' i v hv;obtain⟨kind,nm,sl,es,b⟩:=c;simp only[szCs] at hn' hk';rw[anc,Bool.and_eq_true] at hv';have ht2:tkC [.mk kind nm sl es b]=true/\tkC l=true:=by
    simp only[tkC,Bool.and_eq_true,Bool.and_true] at ht' ⊢;exact⟨⟨ht'.1,ht'.2.1,ht'.2.2.1⟩,ht'.2.2.2⟩
   have hc:=HC (.mk kind nm sl es b) v (by omega) (by omega) (by rw[hv];exact hv'.1) ht2.1;have e:qkC fs a2 v (.mk kind nm sl es b::l)=(qkC fs a2 v [.mk kind nm sl es b]).bind λv=>qkC fs a2 v l:=by
    simp only[qkC,Option.bind_fun_some];cases areK v es (cond (kind==3) [1] [4,1])<;>rfl
   rw[e];rw[hv] at hc;unfold ah7;exact hc.bind (λw hw=>ih (by omega) (by omega) hv'.2 ht2.2 (i+1) w hw) (λw hw=>⟨w,hw,l2_w (i+1) w⟩)
 have BC':=BC l10 (by omega) (by omega) h10 t10;have hq3:(op==3||op==4||op==28)=true->0<=ix/\∃f,fs[ix.toNat]?=some f/\l6.length<=(parF f).length/\(parF f).length<=1000:=by
  intro hc;rw[hc,cond_true,Bool.and_eq_true,decide_eq_true_eq] at hq;obtain⟨q1,q2⟩:=hq;cases hf:fs[ix.toNat]? with
  | none=>rw[hf] at q2;cases q2
  | some f =>
   rw[hf] at q2;simp only[Bool.and_eq_true,decide_eq_true_eq] at q2;exact⟨q1,f,rfl,q2.1,q2.2⟩
 have e2:op=2->abm vs.length slot=true:=by
  intro e;subst e;simpa using hs
 have e1:(op != 1||decide (1<=l6.length))=true:=by
  cases h1:op==1 with
  | false=>rw[bne,h1];rfl
  | true =>
   have c:op=1:=by simpa using h1
   subst c;simpa using c1
 have e3:op=3->0<=ix/\∃f,fs[ix.toNat]?=some f:=by
  intro e;subst e;obtain⟨q1,f,q2,_⟩:=hq3 rfl;exact⟨q1,f,q2⟩
 have e4:(op==4)=true->0<=ix/\∃f,fs[ix.toNat]?=some f:=by
  intro e;have c:op=4:=by simpa using e
  subst c;obtain⟨q1,f,q2,_⟩:=hq3 rfl;exact⟨q1,f,q2⟩
 have h107:=avB (fs:=fs) (a0:=a0) (a1:=a1) (a2:=a2) (a3:=a3) (a4:=a4) (a5:=a5) k (vs:=vs) (w:=false) (op:=op) (name:=name) (slot:=slot) (fr:=fr) (ix:=ix) (flag:=flag) (l6:=l6) (l7:=l7) (l8:=l8) (l9:=l9) (l10:=l10) hk2 e2
  (λhc=>by obtain⟨q1,f,q2,_,q3⟩:=hq3 hc;exact⟨q1,f,q2,q3⟩)
 have want:=λks hl=>avT (k:=k) (name:=name) (slot:=slot) (fr:=fr) (flag:=flag) (F:=F) HW BC' B7 B8 B9 (by omega) h6 t6 e1 e3 hs e4 vs rfl ks l6 0 false hl (by omega) h6 t6
 have any:=λks=>awD (k:=k) (name:=name) (slot:=slot) (fr:=fr) (flag:=flag) (F:=F) HW BC' B7 B8 B9 (by omega) h6 t6 e1 e3 hs e4 vs rfl ks l6 0 false (by omega) h6 t6
 have hcond : ∀(u p:Bool) (z:Option (List Int)),cond (!u||p) none z=cond u (cond p none z) none:=by intro u p z;cases u<;>cases p<;>rfl
 simp only[List.drop_zero,Bool.false_or,hcond] at want any;unfold aq1;simp only;rw[show f107 k (aao.mk fs (aab.mk a0 a1 a2 a3 a4 a5) vs false) (aae.mk op name slot fr ix flag l6 l7 l8 l9 l10)=_ from h107];simp only[Option.bind_some,qkS,aew];cases hr:refW fs a2 vs op slot ix with
 | none=>exact any []
 | some ws =>
  refine want ws ?_;unfold refW at hr;revert hr;cases g2:op==2 with
  | true =>
   intro hr;cases hr;have c:op=2:=by simpa using g2
   subst c;have:l6.length=1:=by simpa using t2
   simp[this]
  | false =>
   simp only[cond_false];cases gc:(op==3||op==4||op==28) with
   | true =>
    obtain⟨q1,f,q2,q3,_⟩:=hq3 gc;rw[q2];intro hr;cases hr;rw[ab9];omega
   | false =>
    simp only[cond_false];cases g17:op==17 with
    | true =>
     intro hr;cases hr;have c:op=17:=by simpa using g17
     subst c;have:l6.length<=1:=by simpa using c2
     simpa using this
    | false =>
     simp only[cond_false];intro hr;rw[hr] at hw;have:=of_decide_eq_true hw;omega
end
section
variable {fs:List aab}{a0:ByteArray}{a1:List aat}{a2:Int}{a3:Bool}{a4:Int}{a5:List aae}{k:Nat}
theorem l1_w{F:acy}(l:List aae)(i:Nat)(w:List Int):aiF k F l i fs a0 a1 a2 a3 a4 a5 w true=some (LK fs a0 a1 a2 a3 a4 a5 w true):=by
 cases l with
 | nil=>rfl
 | cons c l=>obtain⟨b0,b1,b2,b3,b4,b5,b6,b7,b8,b9,b10⟩:=c;rfl
theorem hwr(n:Nat):HWr fs a0 a1 a2 a3 a4 a5 (acT k (n+1)):=λl w=>l1_w (F:=acT k n) l 0 w
theorem aqR{F:acy}{N:Nat}(HS : ∀(s:aae) (v:List Int),szS s<=N->wvS fs v.length s=true->tkS s=true->Rq fs a0 a1 a2 a3 a4 a5 (F.f74 (LK fs a0 a1 a2 a3 a4 a5 v false) s) (qkS fs a2 v s) v.length) :
  ∀(l:List aae) (i:Nat) (v:List Int),szSs l<=N->vSs fs v.length l=true->tkL l=true->Rq fs a0 a1 a2 a3 a4 a5 (aiF k F l i fs a0 a1 a2 a3 a4 a5 v false) (qkL fs a2 v l) v.length
 | [],i,v,_,_,_=>⟨rfl,rfl⟩
 | s::l,i,v,hn,hv,ht=>by
  simp only[szSs] at hn;simp only[vSs,Bool.and_eq_true] at hv;simp only[tkL,Bool.and_eq_true] at ht;have h:=HS s v (by omega) hv.1 ht.1;obtain⟨b0,b1,b2,b3,b4,b5,b6,b7,b8,b9,b10⟩:=s;simp only[qkL];unfold aiF;exact h.bind (λw hw=>by
   have:=aqR HS l (i+1) w (by omega) (by rw[hw];exact hv.2) ht.2;rw[hw] at this;exact this) (λw hw=>⟨w,hw,l1_w l (i+1) w⟩)
theorem awn(hk2:1001<=k) : ∀n:Nat,
  (∀(l:List aae) (v:List Int),2*szSs l+1<=n->szSs l<=k->vSs fs v.length l=true->tkL l=true->Rq fs a0 a1 a2 a3 a4 a5 ((acT k n).f50 (LK fs a0 a1 a2 a3 a4 a5 v false) l) (qkL fs a2 v l) v.length) /\
  (∀(s:aae) (v:List Int),2*szS s<=n->szS s<=k->wvS fs v.length s=true->tkS s=true->Rq fs a0 a1 a2 a3 a4 a5 ((acT k n).f74 (LK fs a0 a1 a2 a3 a4 a5 v false) s) (qkS fs a2 v s) v.length) /\
  (∀(c:aap) (v:List Int),2*szC c<=n->szC c<=k->vCs fs v.length [c]=true->tkC [c]=true->Rq fs a0 a1 a2 a3 a4 a5 ((acT k n).f110 (LK fs a0 a1 a2 a3 a4 a5 v false) c) (qkC fs a2 v [c]) v.length):=by
 intro n;induction n with
 | zero =>
  refine⟨λl v h=>by omega,λs v h=>?_,λc v h=>?_⟩
  ·have:=aaP s;omega
  ·have:=abt c;omega
 | succ n ih =>
  obtain⟨i1,i2,i3⟩:=ih;refine⟨λl v h hk hv ht=>?_,λs v h hk hv ht=>?_,λc v h hk hv ht=>?_⟩
  ·exact aqR (F:=acT k n) (N:=szSs l) (λs v hs hv ht=>i2 s v (by omega) (by omega) hv ht) l 0 v (Nat.le_refl _) hv ht
  ·have hp:=aaP s;obtain⟨n',rfl⟩ : ∃n',n=n'+1:=⟨n - 1,by omega⟩;exact axL (F:=acT k (n'+1)) (N:=szS s - 1) (hwr n') (λl v hl hv ht=>i1 l v (by omega) (by omega) hv ht) (λc v hc hk hv ht=>i3 c v (by omega) hk hv ht) s v (by omega) hk hk2 hv ht
  ·have hp:=abt c;obtain⟨n',rfl⟩ : ∃n',n=n'+1:=⟨n - 1,by omega⟩;obtain⟨kind,nm,sl,es,b⟩:=c;simp only[szC] at h hk;exact arY (F:=acT k (n'+1)) (N:=szSs b) (hwr n') (λl v hl hv ht=>i1 l v (by omega) (by omega) hv ht) v (Nat.le_refl _) (by omega) hv ht
theorem avk(hk2:1001<=k)(l:List aae)(v:List Int)(h:2*szSs l+1<=k)(hv:vSs fs v.length l=true)(ht:tkL l=true):Rq fs a0 a1 a2 a3 a4 a5 (f50 k (LK fs a0 a1 a2 a3 a4 a5 v false) l) (qkL fs a2 v l) v.length:=(awn hk2 k).1 l v h (by omega) hv ht
end
section
variable {k:Nat}
theorem akV{F:ahY}{N:Nat}(H : ∀b,szSs b<=N->F.f66 b=some (bkL b))(i:Nat)(nx:Nat->Option Bool) : ∀(l:List aap) (j:Nat),szCs l<=N->alQ k F i nx l j=cond (bkC l) (some true) (nx (i+1))
 | [],j,_=>rfl
 | .mk a b c d e::l,j,h=>by
  simp only[szCs,szC] at h;unfold alQ;rw[H e (by omega)];simp only[Option.bind_some,akV H i nx l (j+1) (by omega),bkC];cases bkL e<;>rfl
theorem alw{F:ahY}{N:Nat}(H : ∀b,szSs b<=N->F.f66 b=some (bkL b)) : ∀(l:List aae) (i:Nat),szSs l<=N+1->acI k F l i=some (bkL l)
 | [],i,_=>rfl
 | .mk op name slot fr ix flag l6 l7 l8 l9 l10::l,i,h=>by
  simp only[szSs,szS] at h;have ih:=alw H l (i+1) (by omega);have j4 : ∀q,aiS k F i l10 q (acI k F l)=some ((q||bkC l10)||bkL l):=by
   intro q;unfold aiS;cases q with
   | true=>simp
   | false =>
    simp only[cond_false,akV H i _ l10 0 (by omega),ih,Bool.false_or];cases bkC l10<;>rfl
  have j3 : ∀q,alT k F i l7 l8 l9 l10 q (acI k F l)=some (cond q (bkL l) ((bkL l7||(bkL l8||(bkL l9||bkC l10)))||bkL l)):=by
   intro q;unfold alT an5;cases q with
   | true=>simp only[cond_true,ih]
   | false =>
    simp only[cond_false,H l7 (by omega),H l8 (by omega),H l9 (by omega),Option.bind_some,j4];cases bkL l7<;>cases bkL l8<;>simp
  have j2 : ∀q,aiJ k F i op l7 l8 l9 l10 q (acI k F l)=some (q||(cond (op==21||op==28) (bkL l) ((bkL l7||(bkL l8||(bkL l9||bkC l10)))||bkL l))):=by
   intro q;unfold aiJ;cases q with
   | true=>rfl
   | false =>
    simp only[cond_false,j3,Bool.false_or];cases op==21<;>simp
  unfold acI;simp only[j2,bkL,bkS];cases e18:op==18 with
  | true =>
   have c:op=18:=by simpa using e18
   subst c;rfl
  | false =>
   cases e6:op==6 with
   | true =>
    have c:op=6:=by simpa using e6
    subst c;cases flag==1<;>simp
   | false =>
    simp only[cond_false,Bool.false_or,Bool.false_and];cases op==21||op==28<;>simp
theorem aqD : ∀(n:Nat) (l:List aae),szSs l+1<=n->(amh k n).f66 l=some (bkL l)
 | 0,l,h=>by omega
 | n+1,l,h=>by
  show acI k (amh k n) l 0=_;cases n with
  | zero =>
   cases l with
   | nil=>rfl
   | cons s l=>have:=aaP s;simp only[szSs] at h;omega
  | succ n=>exact alw (N:=n) (λb hb=>aqD (n+1) b (by omega)) l 0 (by omega)
theorem aww(l:List aae)(h:szSs l+1<=k):f66 k l=some (bkL l):=aqD k l h
theorem alL{F:afc}{N:Nat}(H : ∀b,szSs b<=N->oL b=true->F.f21 b=some (rdL b)) : ∀(l:List aap) (i:Nat),szCs l<=N->oC l=true->aly k F l i=some (rdC l)
 | [],i,_,_=>by simp only[rdC];rfl
 | .mk a b c d e::l,i,h,ho=>by
  simp only[szCs,szC] at h;simp only[oC,Bool.and_eq_true] at ho;unfold aly;simp only[H e (by omega) ho.1,Option.bind_some,alL H l (i+1) (by omega) ho.2,rdC];cases rdL e<;>rfl
theorem atn{F:afc}{N:Nat}(H : ∀b,szSs b<=N->oL b=true->F.f21 b=some (rdL b))(s:aae)(h:szS s<=N+1)(hk:szS s<=k)(ho:oS s=true):apI k F s=some (rdS s):=by
 obtain⟨op,name,slot,fr,ix,flag,l6,l7,l8,l9,l10⟩:=s;simp only[szS] at h hk;simp only[oS,Bool.and_eq_true] at ho;obtain⟨o0,o7,o8,o9,o10⟩:=ho;have h7:=H l7 (by omega) o7;have h8:=H l8 (by omega) o8;have h9:=H l9 (by omega) o9;have h10:=alL (k:=k) H l10 0 (by omega) o10;have j4 : ∀q,aif k F op flag l7 l8 l9 l10 q=some (cond q (rdL l7) (cond (op==24) ((decide (flag>=2)&&rdL l9)||(rdL l7&&(flag.tmod 2==0||rdL l8))) (cond (op==27) (rdC l10) false))):=by
  intro q;unfold aif afo;simp only[h7,h8,h9,h10,Option.bind_some];cases q with
  | true=>rfl
  | false =>
   simp only[cond_false];cases op==24 with
   | true =>
    simp only[cond_true];cases decide (flag>=2)<;>cases rdL l9<;>cases rdL l7<;>cases flag.tmod 2==0<;>rfl
   | false =>
    simp only[cond_false];cases op==27<;>rfl
 have hw:op=21->∃e l,l6=e::l:=by
  intro e;subst e;rcases l6 with _|⟨e,l⟩
  ·simp at o0
  ·exact⟨e,l,rfl⟩
 have h66:=aww (k:=k) l7 (by omega);have j1 : ∀q,ah8 k F op flag l6 l7 l8 l9 l10 q=some (cond q true (cond (op==20) (flag==1&&(rdL l7&&rdL l8))
  (cond (op==21) (arD l6&&!bkL l7)
  (cond (op==23||op==25||op==26) (rdL l7)
  (cond (op==24) ((decide (flag>=2)&&rdL l9)||(rdL l7&&(flag.tmod 2==0||rdL l8)))
  (cond (op==27) (rdC l10) false)))))):=by
  intro q;unfold ah8;simp only[j4];cases q with
  | true=>rfl
  | false =>
   simp only[cond_false];cases e20:op==20 with
   | true =>
    simp only[cond_true,h7,h8,Option.bind_some,ak0];cases flag==1<;>cases rdL l7<;>rfl
   | false =>
    simp only[cond_false];cases e21:op==21 with
    | true =>
     obtain⟨e,l,rfl⟩:=hw (by simpa using e21);have i0:idxO (e::l) 0=some e:=rfl;obtain⟨b0,b1,b2,b3,b4⟩:=e;simp only[cond_true,i0,Option.bind_some,h66,akL,arD];cases b0==2<;>cases b1==1<;>rfl
    | false =>
     simp only[cond_false];cases e23:op==23 with
     | true=>rfl
     | false =>
      cases e25:op==25 with
      | true=>rfl
      | false=>cases e26:op==26<;>rfl
 unfold apI;simp only[j1,rdS];cases op==17<;>cases op==15<;>cases op==18<;>rfl
theorem ama{F:afc} : ∀(l:List aae) (i:Nat),(∀s∈l,F.f41 s=some (rdS s))->akN k F l i=some (rdL l)
 | [],i,_=>by simp only[rdL];rfl
 | s::l,i,h=>by
  have hs:=h s (by simp);obtain⟨b0,b1,b2,b3,b4,b5,b6,b7,b8,b9,b10⟩:=s;unfold akN;simp only[hs,Option.bind_some,ama l (i+1) (λs hs=>h s (by simp[hs])),rdL];cases rdS (.mk b0 b1 b2 b3 b4 b5 b6 b7 b8 b9 b10)<;>rfl
theorem ave : ∀n:Nat,(∀l,2*szSs l+1<=n->szSs l<=k->oL l=true->(afp k n).f21 l=some (rdL l))/\(∀s,2*szS s<=n->szS s<=k->oS s=true->(afp k n).f41 s=some (rdS s)):=by
 intro n;induction n with
 | zero=>exact⟨λl h=>by omega,λs h=>by have:=aaP s;omega⟩
 | succ n ih =>
  refine⟨λl h hk ho=>?_,λs h hk ho=>?_⟩
  ·exact ama (F:=afp k n) l 0 (λs hs=>by
    have:=ano l s hs;exact ih.2 s (by omega) (by omega) (apM l s ho hs))
  ·have hp:=aaP s;exact atn (F:=afp k n) (N:=szS s - 1) (λb hb ho=>ih.1 b (by omega) (by omega) ho) s (by omega) hk ho
theorem ap3(l:List aae)(h:2*szSs l+1<=k)(ho:oL l=true):f21 k l=some (rdL l):=(ave k).1 l h (by omega) ho
end
theorem alm(k:Nat)(q:List aab)(a0:ByteArray)(a1:List aat)(res:Int)(fl:Bool)(v:Int)(b:List aae) : ∀(l:List aat) (i:Nat) (vs:List Int),i+l.length<=vs.length ->
  ah5 k res b l i q a0 a1 res fl v b vs false=ah5 k res b [] (i+l.length) q a0 a1 res fl v b (vs.take i++(abi l++vs.drop (i+l.length))) false
 | [],i,vs,h=>by
  simp only[List.length_nil,Nat.add_zero,abi,List.nil_append,List.take_append_drop]
 | .mk a kd::l,i,vs,h=>by
  simp only[List.length_cons] at h;have hs:abm vs.length (i:Int)=true:=by unfold abm;simp;omega
  have h49:=am9 (fs:=q) (a0:=a0) (a1:=a1) (a2:=res) (a3:=fl) (a4:=v) (a5:=b) k (vs:=vs) (w:=false) (s:=(i:Int)) (x:=kd) hs
  conv=>lhs;unfold ah5
  rw[show f49 k (aao.mk q (aab.mk a0 a1 res fl v b) vs false) (i:Int) kd=_ from h49];simp only[Option.bind_some,Int.toNat_natCast];rw[alm k q a0 a1 res fl v b l (i+1) (vs.set i kd) (by rw[List.length_set];omega)];have e1:(vs.set i kd).take (i+1)=vs.take i++[kd]:=by
   rw[List.take_add_one,List.take_set_of_le (Nat.le_refl _),List.getElem?_set_self (by omega)];rfl
  have e2:(vs.set i kd).drop (i+1+l.length)=vs.drop (i+1+l.length):=by rw[List.drop_set_of_lt (by omega)]
  rw[e1,e2,List.length_cons,abi,show i+(l.length+1)=i+1+l.length by omega,List.append_assoc];rfl
theorem atM(k:Nat)(q:List aab)(f:aab)(hk:1001<=k)(hv:wvF q k f)(ht : ∀n ps res fl v b,f=.mk n ps res fl v b->tkL b=true) :
  f27 k q f=some (match qkF q f with | .error c=>([],c) | .ok w=>(w,0)):=by
 obtain⟨n,ps,res,fl,v,b⟩:=f;obtain⟨h1,h2,h3,h4,h5,h6⟩:=hv;have ht:=ht n ps res fl v b rfl;unfold f27;simp only;have hg : ∀(z:Option ((List Int)×Int)),aaC (decide (0<=v/\v*(8:Nat)<=140737488355328)) z=z:=λz=>by unfold aaC;rw[decide_eq_true (by omega)];rfl
 rw[hg,alm k q n ps res fl v b ps 0 _ (by rw[List.length_replicate];omega)];have e:(List.replicate v.toNat (0:Int)).take 0++(abi ps++(List.replicate v.toNat (0:Int)).drop (0+ps.length))=adg ps v:=by
  unfold adg;rw[List.take_zero,List.nil_append,List.drop_replicate];congr 2;omega
 rw[e];have hlen:(adg ps v).length=v.toNat:=by
  unfold adg;rw[List.length_append,ab9,List.length_replicate];omega
 have h50:=avk (fs:=q) (a0:=n) (a1:=ps) (a2:=res) (a3:=fl) (a4:=v) (a5:=b) (k:=k) hk b (adg ps v) (by omega) (by rw[hlen];exact h3) ht;have h21:=ap3 (k:=k) b (by omega) h4;unfold ah5;simp only[qkF];cases hy:qkL q res (adg ps v) b with
 | none =>
  rw[hy] at h50;obtain⟨w,_,hr⟩:=h50;rw[show f50 k (aao.mk q (aab.mk n ps res fl v b) (adg ps v) false) b=_ from hr];rfl
 | some w =>
  rw[hy] at h50;obtain⟨_,hr⟩:=h50;rw[show f50 k (aao.mk q (aab.mk n ps res fl v b) (adg ps v) false) b=_ from hr];simp only[Option.bind_some,cond_false,h21,anJ];cases res != 0<;>cases rdL b<;>rfl
theorem tk_u{fs q:List aab}{nl:List (List ByteArray)}(h:uP (.mk fs)=.ok (.mk q,nl)) : ∀f∈q,∀n ps res fl v b,f=.mk n ps res fl v b->tkL b=true:=by
 obtain⟨hw,_,_,x,hx,hu⟩:=ar2 h;cases hx;simp only[wf,Bool.and_eq_true,decide_eq_true_eq] at hw;obtain⟨⟨⟨_,h16⟩,hg⟩,hc⟩:=hw;intro f hf n' ps' res' fl' v' b' he;subst he;obtain⟨f0,h0,m,hF⟩:=aju fs hu hf;have hb:=acN h0 hc hg;obtain⟨n,ps,res,fl,v,b⟩:=f0;simp only at hb;obtain⟨b1,b2,b3⟩:=hb;unfold uF at hF;obtain⟨nm,vis,_,h3,hF⟩:=aas hF;obtain⟨nm1,vis1,b'',h4,hF⟩:=aas hF;obtain⟨h5,hF⟩:=adX hF;cases hF;have e1:=(asq fs res' fl' (szSs b)).2.1 b (Nat.le_refl _) 1 0 nm vis _ b3 h4
 try simp only at e1
 rw[<-(au8 (szSs b')).2.1 b' (Nat.le_refl _),e1];exact (aun (szSs b)).2.1 b _ (Nat.le_refl _) b3
theorem alv(k:Nat)(q:List aab)(hk:1001<=k) : ∀(l:List aab) (i:Nat),(∀f∈l,wvF q k f/\∀n ps res fl v b,f=.mk n ps res fl v b->tkL b=true) ->
  ak4 k q l i=some (match qkFs q l with | .error c=>(.mk [],c) | .ok y=>(.mk q,0))
 | [],i,_=>rfl
 | f::l,i,h=>by
  have hf:=h f (by simp);have h27:=atM k q f hk hf.1 hf.2;have ih:=alv k q hk l (i+1) (λg hg=>h g (by simp[hg]));simp only[qkFs];obtain⟨b0,b1,b2,b3,b4,b5⟩:=f;unfold ak4;simp only[h27,Option.bind_some];cases hq:qkF q (.mk b0 b1 b2 b3 b4 b5) with
  | error c =>
   have hc:(c != 0)=true:=by
    simp only[qkF] at hq;revert hq;cases qkL q b2 (adg b1 b4) b5 with
    | none=>intro hq;cases hq;rfl
    | some w =>
     simp only;cases b2 != 0&&!rdL b5 with
     | true=>intro hq;cases hq;rfl
     | false=>intro hq;cases hq
   simp only[hc,cond_true,eb]
  | ok w =>
   simp only[bne_self_eq_false,cond_false,ih,eb];cases qkFs q l<;>rfl
theorem axN(k:Nat)(p:aaa)(hk:2*szP p+1<=k)(hk2:6000<=k)(hf:fitP p):f11 k p=some (match uK p with | .error c=>(.mk [],c) | .ok x=>(x.1,0)):=by
 have h16:=f16_eq k p hk (by omega) hf;rw[uK_fr];obtain⟨fs⟩:=p;unfold f11;simp only[h16,Option.bind_some];cases hu:uFr (.mk fs) with
 | error c =>
  have hc:(c != 0)=true:=by simpa using uFr_err hu
  simp only[hc,cond_true,eb]
 | ok x =>
  obtain⟨⟨q⟩,nl⟩:=x;have hP:uP (.mk (stFs fs))=.ok (.mk q,nl):=by
   unfold uFr at hu;cases hw:wf true (.mk fs) with
   | false=>rw[hw] at hu;cases hu
   | true=>rw[hw] at hu;exact hu
  have hv:=(vF_u hP hk2).1;have ht:=tk_u hP;have h:=alv k q (by omega) q 0 (λf hf=>⟨hv f hf,ht f hf⟩);rw[aro q (aty hP)] at h;simp only[bne_self_eq_false,cond_false,h,eb,funs];cases kFs q q<;>rfl
theorem ap5{α:Type}{l:List α}{n:Nat}{x:α}(h:l[n]?=some x):idxO l (n:Int)=some x:=by
 unfold idxO;rw[if_pos (by omega)];simpa using h
theorem awY(k:Nat) : ∀(l pre:List Int),alE k (pre++l) l pre.length=some true
 | [],pre=>rfl
 | e::l,pre=>by
  have ih:=awY k l (pre++[e]);rw[List.length_append,List.length_singleton,List.append_assoc,List.singleton_append] at ih;unfold alE;rw[ap5 (n:=pre.length) (x:=e) (by simp)];simp only[Option.bind_some,bne_self_eq_false,cond_false,ih]
theorem awx(k:Nat)(l:List Int):f19 k l l=some true:=by
 unfold f19;simp only[bne_self_eq_false,cond_false];exact awY k l []
theorem aru{q:List aab} : ∀{l:List aab} {y:List (List Int)},kFs q l=.ok y->y.length=l.length/\∀(i:Nat) (f:aab),l[i]?=some f->∃w,kkF q f=.ok w/\y[i]?=some w
 | [],y,h=>by cases h;exact⟨rfl,λi f hf=>by simp at hf⟩
 | g::l,y,h=>by
  simp only[kFs] at h;obtain⟨w,h1,h⟩:=aeO h;obtain⟨z,h2,h⟩:=aeO h;cases h;obtain⟨e1,e2⟩:=aru h2;refine⟨by simp[e1],λi f hf=>?_⟩;cases i with
  | zero =>
   obtain rfl:g=f:=by simpa using hf
   exact⟨w,h1,rfl⟩
  | succ i=>simpa using e2 i f (by simpa using hf)
theorem ax6(k:Nat)(p:aaa)(a:Int)(hk:2*szP p+6500<=k)(hf:fitP p):f6 (k+100) p a=some true:=by
 obtain⟨b,hb⟩:=f8_tot (k+100) p (by omega);have h9:=f9_eq k;have h26:=axA (k+100) p (by omega) (by omega) hf;have h11:=axN (k+100) p (by omega) (by omega) hf;have hne:=λc=>awH (p:=p) (c:=c)
 obtain⟨fs⟩:=p;unfold f6;simp only[hb,Option.bind_some];cases b with
 | false=>simp only[Bool.not_false,cond_true,h9,Option.bind_some]
 | true =>
  simp only[Bool.not_true,cond_false,h11];have h17:f17 (k+100) (.mk fs) a=_:=rfl;have h18:f18 (k+100) (.mk fs) a=_:=rfl;cases hu:uK (.mk fs) with
  | error c =>
   rw[hu] at h26;have h0:=hne c hu;have hc:(c==0)=false:=by simpa using h0
   have hc' : (c != 0)=true:=by simpa using h0
   have e17:f17 (k+100) (.mk fs) a=some ([],c):=by
    unfold f17;simp only[h26,Option.bind_some,hc,cond_false,aig,alA,hc',cond_true]
   have e18:f18 (k+100) (.mk fs) a=some (false,c):=by
    unfold f18;simp only[h26,Option.bind_some,hc,cond_false,aiE,alf,hc',cond_true]
   have hl:(((([]:List Int).length:Nat):Int)==0)=true:=rfl;simp only[e17,e18,Option.bind_some,hc,cond_false,akX,aoh,hc',cond_true,hl,beq_self_eq_true,Bool.not_false,h9,alK]
  | ok x =>
   rw[hu] at h26;obtain⟨q,nl,_,hP,hx,hy⟩:=ayq hu;obtain⟨x1,y⟩:=x;simp only at hx hy;subst hx;obtain⟨hyl,hget⟩:=aru hy;obtain⟨_,_,_,x',hx',huF⟩:=ar2 hP;cases hx';have hql:q.length=fs.length:=by
    rw[(ah6 _ _ _ _ huF).1];have : ∀l:List aab,(stFs l).length=l.length:=by
     intro l;induction l with
     | nil=>rfl
     | cons f l ih=>simp[stFs,ih]
    exact this fs
   simp only at h26;by_cases hr:0<=a/\a<(fs.length:Int)
   ·obtain⟨n,rfl⟩ : ∃n:Nat,a=(n:Int):=⟨a.toNat,by omega⟩;obtain⟨g,hg⟩ : ∃g,q[n]?=some g:=⟨_,List.getElem?_eq_getElem (by omega)⟩;obtain⟨w,hw,hyw⟩:=hget n g hg;have hm:=List.mem_of_getElem? hg;have hv:=(vF_u hP (k:=k+100) (by omega)).1 g hm;have ht:=tk_u hP g hm;have h27:=atM (k+100) q g (by omega) hv ht;rw[aty hP g hm,hw] at h27;obtain⟨g0,g1,g2,g3,g4,g5⟩:=g;have ht:=ht _ _ _ _ _ _ rfl;obtain⟨_,_,_,v4,v5,v6⟩:=hv;have h40:=atX (k+100) g5 v5 v4 v6;have h21:=ap3 (k:=k+100) g5 (by omega) v4;rw[(aqw (szSs g5)).2.1 g5 (Nat.le_refl _) ht] at h21;have e1:decide ((n:Int)<0)=false:=decide_eq_false (by omega);have e2:decide ((n:Int)>=(y.length:Int))=false:=decide_eq_false (by omega);have e3:decide ((n:Int)>=(q.length:Int))=false:=decide_eq_false (by omega);have e4:decide ((n:Int)>=(fs.length:Int))=false:=decide_eq_false (by omega);have e17:f17 (k+100) (.mk fs) (n:Int)=some (w,0):=by
     unfold f17;simp only[h26,Option.bind_some,beq_self_eq_true,cond_true,e1,e2,cond_false,aig,alA,bne_self_eq_false,ap5 hyw]
    have e18:f18 (k+100) (.mk fs) (n:Int)=some (edL g5,0):=by
     unfold f18;simp only[h26,Option.bind_some,beq_self_eq_true,cond_true,e1,e3,cond_false,aiE,alf,bne_self_eq_false,ap5 hg,h40]
    have e20:f20 (k+100) (.mk q) (n:Int)=some w:=by
     unfold f20;simp only[ap5 hg,Option.bind_some,h27]
    simp only[e17,e18,Option.bind_some,beq_self_eq_true,cond_true,e1,e4,cond_false,akX,aoh,bne_self_eq_false,e20,awx,ap5 hg,h21,h9,amx]
   ·have e17:f17 (k+100) (.mk fs) a=some ([],2):=by
     unfold f17;simp only[h26,Option.bind_some,beq_self_eq_true,cond_true];cases h0:decide (a<0) with
     | true=>rfl
     | false =>
      have:=of_decide_eq_false h0;rw[decide_eq_true (by omega:a>=(y.length:Int))];rfl
    have e18:f18 (k+100) (.mk fs) a=some (false,2):=by
     unfold f18;simp only[h26,Option.bind_some,beq_self_eq_true,cond_true];cases h0:decide (a<0) with
     | true=>rfl
     | false =>
      have:=of_decide_eq_false h0;rw[decide_eq_true (by omega:a>=(q.length:Int))];rfl
    have e6:akX (k+100) a [] 2 false 2 q 0 true=some true:=by
     unfold akX aoh alK;simp only[cond_true];rw[show ((2:Int) != 0)=true from rfl,show (((([]:List Int).length:Nat):Int)==0)=true from rfl,h9];rfl
    simp only[e17,e18,Option.bind_some,beq_self_eq_true,cond_true];cases h0:decide (a<0) with
    | true=>exact e6
    | false =>
     have:=of_decide_eq_false h0;rw[decide_eq_true (by omega:a>=(fs.length:Int))];exact e6
end Go.Proofs.YtphdlngnegjgcaaGreatDoor
