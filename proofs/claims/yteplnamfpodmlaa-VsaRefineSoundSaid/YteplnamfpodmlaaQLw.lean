/-
  Part of the proof.
-/
import Derived.Test.YteplnamfpodmlaaQB
import Derived.Test.YteplnamfpodmlaaQBits3
set_option linter.unusedVariables false
set_option linter.unusedSimpArgs false
set_option maxRecDepth 100000
open Go.ChangeShapes Go.WideShapes Go.ChangeAt Go.RowKit
section
namespace Go.Proofs.Yteplnamfpodmlaa.T2
def inP(s:Nat→Qd)(x:Nat→Int):Prop:=∀r,r < 8→Qz (s r) (x r)=true
def Kc(i:Ins)(x:Nat→Int):Int:=if i.form=0 then x i.b.toNat else i.imm
def Kr(x:Nat→Int)(r:Int)(v:Int):Nat→Int:=fun k=>if r=(k:Int)then v else x k
def ZG(i:Ins)(x:Nat→Int)(n:Int):Nat→Int:=
 if i.op=5 then Kr x i.a (Kc i x)
 else if 6≤i.op∧i.op≤14 then Kr x i.a (XI (opL i.op - 3).toNat (x i.a.toNat) (Kc i x))
 else if i.op=16 then Kr x i.a (Kd n i.width)
 else if i.op=17 then Kr x i.a (QaA n i.width)
 else if i.op=26 then Kr x i.a n
 else if i.op=19 then Kr x i.a ((x i.b.toNat+i.imm) % 4294967296)
 else if i.op=25 then Kr x i.a (n % 2)
 else if i.op=3 then Kr x 7 ((x 7 - 4) % 4294967296)
 else if i.op=4 then Kr (Kr x 7 ((x 7+4) % 4294967296)) i.a n
 else if i.op=2 then Kr x 7 ((x 7+4) % 4294967296)
 else x
theorem QbM(x:Int):Qz Qy x=true:=by
 unfold Qz;rw [Zm (show Qq Qy=true from rfl)];rfl
theorem QbL(n:Int):Qz (X2 n) n=true:=by
 unfold Qz;rw [Zm (JZ n)];exact(QcQ n n).2 rfl
theorem Qa7{lo hi st x:Int}(hl:Q5 lo)(hh:Q5 hi)(ht:Q5 st)(hx:Q5 x):Qz (Qs lo hi st) x=true↔lo≤x∧x≤hi∧st∣x - lo:=by
 unfold Qz
 rw [Zm (Zo lo hi st hl.1 hh.2 ht.1)]
 exact ZX lo hi st x ht.1 hx.1 hx.2
theorem Ju{lo hi x:Int}(hl:Q5 lo)(hh:Q5 hi)(hx:Q5 x)(h1:lo≤x)(h2:x≤hi):Qz (Qs lo hi 1) x=true:=
 (Qa7 hl hh YU hx).2 ⟨h1,h2,Int.one_dvd _⟩
theorem W3{op:Int}(o1:3≤op)(o2:op≤15){a b:Qd}(wa:a.wf)(wb:b.wf){x y:Int}(hx:Q5 x)(hy:Q5 y)(ha:Qz a x=true)(hb:Qz b y=true):Qz (JW op a b) (XI (op - 3).toNat x y)=true:=by
 unfold Qz
 rw [Zm (KC op wa wb).2]
 exact QnV op o1 o2 (QJ wa) (QJ wb) (Q2 a) (Q2 b) x y hx.1 hx.2 hy.1 hy.2 ha hb
theorem Qbh{a b:Qd}(wa:a.wf)(wb:b.wf){x:Int}(hx:Q5 x)(ha:Qz a x=true)(hb:Qz b x=true):Qz (WF a b) x=true:=by
 unfold Qz
 rw [Zm (YI wa wb).2]
 exact Qrv (QJ wa) (QJ wb) (Q2 a) (Q2 b) x hx.1 hx.2 ha hb
theorem QnX{a b:Qd}(wb:b.wf){x:Int}(h:ZF a b=true)(ha:Qz a x=true):Qz b x=true:=
 Qbb (QJ wb) (Q2 a) (Q2 b) h x ha
theorem QbF{a b:Qd}(wa:a.wf)(wb:b.wf):ZF a (Va a b)=true∧ZF b (Va a b)=true:=by
 unfold ZF
 rw [Zm (Qh9 wa wb).2]
 exact Qc7 (QJ wa) (QJ wb) (Q2 a) (Q2 b)
theorem Qa1{a b:Qd}(wa:a.wf)(wb:b.wf):ZF a (JH a b)=true∧ZF b (JH a b)=true:=by
 unfold ZF
 rw [Zm (Qcu wa wb).2]
 exact⟨(QbE (QJ wa) (QJ wb) (Q2 a) (Q2 b)).2.1,(QbE (QJ wa) (QJ wb) (Q2 a) (Q2 b)).2.2⟩
theorem QbG{a:Qd}(wa:a.wf):ZF a a=true:=Qiz (QJ wa) (Q2 a)
theorem Qe8{a b c:Qd}(wa:a.wf)(wb:b.wf)(wc:c.wf)(h1:ZF a b=true)(h2:ZF b c=true):ZF a c=true:=
 Wv (QJ wa) (QJ wb) (QJ wc) (Q2 a) (Q2 b) (Q2 c) h1 h2
def Xi(a b:Nat→Qd):Prop:=∀r,r < 8→ZF (a r) (b r)=true
theorem Qiw{a b:Nat→Qd}:Vy a b=true↔Xi a b:=by
 unfold Vy Xi
 simp only [Bool.and_eq_true]
 constructor
 ·intro h r hr
  obtain⟨⟨⟨⟨⟨⟨⟨h0,h1⟩,h2⟩,h3⟩,h4⟩,h5⟩,h6⟩,h7⟩:=h
  match r,hr with
  |0,_=>exact h0
  |1,_=>exact h1
  |2,_=>exact h2
  |3,_=>exact h3
  |4,_=>exact h4
  |5,_=>exact h5
  |6,_=>exact h6
  |7,_=>exact h7
 ·intro h
  exact⟨⟨⟨⟨⟨⟨⟨h 0 (by decide),h 1 (by decide)⟩,h 2 (by decide)⟩,h 3 (by decide)⟩,h 4 (by decide)⟩,h 5 (by decide)⟩,h 6 (by decide)⟩,h 7 (by decide)⟩
theorem Qd3{a b:Nat→Qd}{x:Nat→Int}(wb:∀k,(b k).wf)(h:Xi a b)(hx:inP a x):inP b x:=fun r hr=>QnX (wb r) (h r hr) (hx r hr)
theorem Xi.trans{a b c:Nat→Qd}(wa:∀k,(a k).wf)(wb:∀k,(b k).wf)(wc:∀k,(c k).wf)(h1:Xi a b)(h2:Xi b c):Xi a c:=fun r hr=>Qe8 (wa r) (wb r) (wc r) (h1 r hr) (h2 r hr)
theorem Xi.refl{a:Nat→Qd}(wa:∀k,(a k).wf):Xi a a:=fun r _=>QbG (wa r)
theorem JS{s:Nat→Qd}{x:Nat→Int}{r:Int}{V:Qd}{v:Int}(h:inP s x)(hv:Qz V v=true):inP (Ks s r V) (Kr x r v):=fun k hk=>by
 unfold Ks Kr
 split
 ·exact hv
 ·exact h k hk
theorem QqZ{s:Nat→Qd}{x:Nat→Int}{r:Int}{V:Qd}(h:inP s x)(hv:Qz V (x r.toNat)=true):inP (Ks s r V) x:=fun k hk=>by
 unfold Ks
 split
 ·rename_i e;subst e;exact hv
 ·exact h k hk
theorem Qn4{i:Ins}{s:Nat→Qd}{x:Nat→Int}(hb:0≤i.b∧i.b < 8)(h:inP s x):Qz (WT i s) (Kc i x)=true:=by
 unfold WT Kc
 split
 ·exact h _ (by omega)
 ·exact QbL _
theorem Qcq{i:Ins}{x:Nat→Int}(hi:i.wf)(hx:∀k,Q5 (x k)):Q5 (Kc i x):=by
 unfold Kc
 split
 ·exact hx _
 ·exact hi.2.1
theorem Qq9{a:Qd}{x n:Int}(wa:a.wf)(hx:Q5 x)(hn:Q5 n)(h:Qz a x=true):Qz (Wn a n) ((x+n) % 4294967296)=true:=by
 unfold Wn
 have h1:=hn.1
 have h2:=hn.2
 split
 ·exact W3 (op:=3) (by decide) (by decide) wa (ZR hn) hx hn h (QbL n)
 ·have e:(x+n) % 4294967296=XI (4 - 3:Int).toNat x (IntKind.u32.wrap (0 - n)):=by
   show _=(x - IntKind.u32.wrap (0 - n)) % 4294967296
   rw [IntKind.wrap_u32];omega
  rw [e]
  exact W3 (op:=4) (by decide) (by decide) wa (ZR (QR _)) hx (QR _) h (QbL _)
theorem Qfp(x:Int):Q5 (x % 4294967296):=⟨Int.emod_nonneg _ (by decide),Int.emod_lt_of_pos _ (by decide)⟩
theorem QbB{n k:Int}(hn:Q5 n):Q5 (Kd n k):=by
 have h1:=hn.1
 have h2:=hn.2
 unfold Kd Q5
 (repeat' split) <;> omega
theorem Qvf{n k:Int}(hn:Q5 n):Q5 (QaA n k):=by
 unfold QaA
 (repeat' split)
 ·exact Qfp _
 ·exact Qfp _
 ·exact hn
theorem VV{x:Nat→Int}{r v:Int}(hx:∀k,Q5 (x k))(hv:Q5 v):∀k,Q5 (Kr x r v k):=fun k=>by
 unfold Kr
 split
 ·exact hv
 ·exact hx k
theorem Qq4(k:Nat){a b:Int}(ha:Q5 a)(hb:Q5 b):Q5 (XI k a b):=KB k a b ha.1 ha.2 hb.1 hb.2
theorem Qb1{i:Ins}{x:Nat→Int}{n:Int}(hi:i.wf)(hx:∀k,Q5 (x k))(hn:Q5 n):∀k,Q5 (ZG i x n k):=by
 have hn1:=hn.1
 have hn2:=hn.2
 unfold ZG
 split
 ·exact VV hx (Qcq hi hx)
 split
 ·exact VV hx (Qq4 _ (hx _) (Qcq hi hx))
 split
 ·exact VV hx (QbB hn)
 split
 ·exact VV hx (Qvf hn)
 split
 ·exact VV hx hn
 split
 ·exact VV hx (Qfp _)
 split
 ·exact VV hx (by unfold Q5;omega)
 split
 ·exact VV hx (Qfp _)
 split
 ·exact VV (VV hx (Qfp _)) hn
 split
 ·exact VV hx (Qfp _)
 ·exact hx
theorem Qpb{i:Ins}(h:i.width=1):YW i=255:=by unfold YW;rw [h];decide
theorem Qpc{i:Ins}(h:i.width=2):YW i=65535:=by unfold YW;rw [h];decide
theorem QtW{op:Int}(h1:6≤op)(h2:op≤14):3≤opL op∧opL op≤15:=by
 rcases (by omega:op=6∨op=7∨op=8∨op=9∨op=10∨op=11∨op=12∨op=13∨op=14)with rfl|rfl|rfl|rfl|rfl|rfl|rfl|rfl|rfl <;> decide
theorem VU{i:Ins}{s:Nat→Qd}{x:Nat→Int}{n:Int}(hi:i.wf)(hv:Qj i=true)(hs:∀k,(s k).wf)(hx:∀k,Q5 (x k))(hn:Q5 n)(h:inP s x):inP (Qw i s) (ZG i x n):=by
 obtain⟨a0,a8,b0,b8,w16,w17⟩:=QN hv
 have h7:Qz (s 7) (x 7)=true:=h 7 (by decide)
 have u4:Q5 4:=⟨by decide,by decide⟩
 have hn1:=hn.1
 have hn2:=hn.2
 have p7:Qz (JW 3 (s 7) (X2 4)) ((x 7+4) % 4294967296)=true:=W3 (op:=3) (by decide) (by decide) (hs 7) (ZR u4) (hx 7) u4 h7 (QbL 4)
 have m7:Qz (JW 4 (s 7) (X2 4)) ((x 7 - 4) % 4294967296)=true:=W3 (op:=4) (by decide) (by decide) (hs 7) (ZR u4) (hx 7) u4 h7 (QbL 4)
 unfold Qw
 rw [if_neg (by rw [hv];decide)]
 unfold ZG
 by_cases c5:i.op=5
 ·rw [if_pos c5,if_pos c5]
  exact JS h (Qn4 ⟨b0,b8⟩ h)
 rw [if_neg c5,if_neg c5]
 by_cases c6:6≤i.op∧i.op≤14
 ·rw [if_pos c6,if_pos c6]
  have o:=QtW c6.1 c6.2
  exact JS h (W3 o.1 o.2 (hs _) (QcV hi hs) (hx _) (Qcq hi hx) (h _ (by omega)) (Qn4 ⟨b0,b8⟩ h))
 rw [if_neg c6,if_neg c6]
 by_cases c16:i.op=16
 ·rw [if_pos c16]
  by_cases cw:i.width < 4
  ·rw [if_pos ⟨c16,cw⟩]
   refine JS h ?_
   rcases w16 c16 with e|e|e
   ·rw [Qpb e]
    exact Ju K9 ⟨by decide,by decide⟩ (QbB hn) (QbB hn).1 (by unfold Kd;rw [if_pos e];omega)
   ·rw [Qpc e]
    exact Ju K9 ⟨by decide,by decide⟩ (QbB hn) (QbB hn).1 (by unfold Kd;rw [if_neg (by omega),if_pos e];omega)
   ·omega
  ·rw [if_neg (by omega),if_pos (Or.inl c16)]
   exact JS h (QbM _)
 rw [if_neg (show ¬(i.op=16∧i.width < 4)from fun q=>c16 q.1),if_neg c16]
 by_cases c17:i.op=17
 ·rw [if_pos (Or.inr (Or.inl c17)),if_pos c17]
  exact JS h (QbM _)
 rw [if_neg c17]
 by_cases c26:i.op=26
 ·rw [if_pos (Or.inr (Or.inr c26)),if_pos c26]
  exact JS h (QbM _)
 rw [if_neg (by omega),if_neg c26]
 by_cases c19:i.op=19
 ·rw [if_pos c19,if_pos c19]
  exact JS h (Qq9 (hs _) (hx _) hi.2.1 (h _ (by omega)))
 rw [if_neg c19,if_neg c19]
 by_cases c25:i.op=25
 ·rw [if_pos c25,if_pos c25]
  exact JS h (Ju K9 YU (by unfold Q5;omega) (by omega) (by omega))
 rw [if_neg c25,if_neg c25]
 by_cases c3:i.op=3
 ·rw [if_pos c3,if_pos c3]
  exact JS h m7
 rw [if_neg c3,if_neg c3]
 by_cases c4:i.op=4
 ·rw [if_pos c4,if_pos c4]
  exact JS (JS h p7) (QbM _)
 rw [if_neg c4,if_neg c4]
 by_cases c2:i.op=2
 ·rw [if_pos c2,if_pos c2]
  exact JS h p7
 rw [if_neg c2,if_neg c2]
 split
 ·exact fun r _=>QbM _
 ·exact h
def Qau(c a n:Int):Bool:=KI c (QaV a n) (Go.Proofs.Yteplnamfpodmlaa.subN a n) (Qe6 a n) (subV a n)
theorem Qsn{a b:Int}(ha:Q5 a)(hb:Q5 b):QaV a b=decide (a=b):=by
 have h1:=ha.1;have h2:=ha.2;have h3:=hb.1;have h4:=hb.2
 unfold QaV;rw [Bool.eq_iff_iff,beq_iff_eq,decide_eq_true_eq];omega
theorem Qsm{a b:Int}(ha:Q5 a)(hb:Q5 b):(Go.Proofs.Yteplnamfpodmlaa.subN a b != subV a b)=decide (wrap32 a < wrap32 b):=by
 have h1:=ha.1;have h2:=ha.2;have h3:=hb.1;have h4:=hb.2
 have e:∀x y:Bool,(x != y)=decide (¬(x=true↔y=true)):=by intro x y;cases x <;> cases y <;> rfl
 rw [e,decide_eq_decide]
 unfold Go.Proofs.Yteplnamfpodmlaa.subN subV
 simp only [sg,wrap32,Bool.and_eq_true,bne_iff_ne,ne_eq,decide_eq_decide,decide_eq_true_eq]
 omega
theorem Qku{c a n:Int}(ha:Q5 a)(hn:Q5 n)(h:Qau c a n=true) :
 (c=1→a=n)∧(c=2→a≠n)∧(c=3→wrap32 a < wrap32 n)∧(c=4→wrap32 n≤wrap32 a)∧(c=5→wrap32 a≤wrap32 n)∧(c=6→wrap32 n < wrap32 a)∧(c=7→a < n)∧(c=8→n≤a)∧(c=9→a≤n)∧(c=10→n < a):=by
 have ez:=Qsn ha hn
 have el:=Qsm ha hn
 have h1:=ha.1;have h2:=ha.2;have h3:=hn.1;have h4:=hn.2
 unfold Qau at h
 refine⟨?_,?_,?_,?_,?_,?_,?_,?_,?_,?_⟩ <;> rintro rfl
 ·change QaV a n=true at h;rw [ez]at h;exact of_decide_eq_true h
 ·change (!QaV a n)=true at h;rw [ez]at h;simpa using h
 ·change (Go.Proofs.Yteplnamfpodmlaa.subN a n != subV a n)=true at h;rw [el]at h;exact of_decide_eq_true h
 ·change (!(Go.Proofs.Yteplnamfpodmlaa.subN a n != subV a n))=true at h;rw [el]at h;simp only [Bool.not_eq_true',decide_eq_false_iff_not]at h;omega
 ·change (QaV a n || Go.Proofs.Yteplnamfpodmlaa.subN a n != subV a n)=true at h;rw [el,ez]at h;simp only [Bool.or_eq_true,decide_eq_true_eq]at h;unfold wrap32 at h ⊢;omega
 ·change (!QaV a n && !(Go.Proofs.Yteplnamfpodmlaa.subN a n != subV a n))=true at h;rw [el,ez]at h;simp only [Bool.and_eq_true,Bool.not_eq_true',decide_eq_false_iff_not]at h;unfold wrap32 at h ⊢;omega
 ·exact of_decide_eq_true h
 ·change (!(decide (a < n)))=true at h;simp only [Bool.not_eq_true',decide_eq_false_iff_not]at h;omega
 ·change (decide (a < n) || QaV a n)=true at h;rw [ez]at h;simp only [Bool.or_eq_true,decide_eq_true_eq]at h;omega
 ·change (!(decide (a < n)) && !QaV a n)=true at h;rw [ez]at h;simp only [Bool.and_eq_true,Bool.not_eq_true',decide_eq_false_iff_not]at h;omega
theorem Qoj{c:Int}(h1:1≤c)(h2:c < 15)(z n k v:Bool):KI (Qe4 c) z n k v= !KI c z n k v:=by
 rcases (by omega:c=1∨c=2∨c=3∨c=4∨c=5∨c=6∨c=7∨c=8∨c=9∨c=10∨c=11∨c=12∨c=13∨c=14)with rfl|rfl|rfl|rfl|rfl|rfl|rfl|rfl|rfl|rfl|rfl|rfl|rfl|rfl <;>
  (cases z <;> cases n <;> cases k <;> cases v <;> rfl)
theorem QeS{s:Qd}(h:Vk s=true):Qq s=true∧reg s:=by
 unfold Vk at h
 simp only [Bool.and_eq_true,Bool.not_eq_true']at h
 rcases QQ h.1.1 with rfl|rfl|hr
 ·exact absurd h.1.2 (by decide)
 ·exact absurd h.2 (by decide)
 ·exact⟨h.1.1,hr⟩
theorem QqA{s:Qd}(hv:Qq s=true)(hr:reg s){x:Int}:Qz s x=true↔s.lo≤x∧x≤s.hi∧s.st∣x - s.lo:=by
 unfold Qz
 rw [Zm hv]
 exact QZ hr x
theorem Qdq{d a b:Int}(h0:0 < d)(h1:a < b)(h:d∣b - a):a+d≤b:=by
 obtain⟨k,hk⟩:=h
 have:0 < k:=by
  rcases Int.lt_or_le 0 k with h2|h2
  ·exact h2
  ·have:=Int.mul_le_mul_of_nonneg_left h2 (Int.le_of_lt h0)
   omega
 have:d * 1≤d * k:=Int.mul_le_mul_of_nonneg_left (by omega) (Int.le_of_lt h0)
 omega
theorem Qkm{s:Qd}{n x:Int}(ws:s.wf)(hn:Q5 n)(hx:Q5 x)(h:Qz s x=true)(hne:x≠n):Qz (JR s n) x=true:=by
 obtain⟨l0,l1,h0,h1,s0,s1⟩:=ws
 have hx1:=hx.1
 have hx2:=hx.2
 unfold JR
 by_cases hb:Vk s=false∨(n≠s.lo∧n≠s.hi)
 ·rw [if_pos hb];exact h
 rw [if_neg hb]
 have hb1:Vk s=true:=by
  cases e:Vk s
  ·exact absurd (Or.inl e) hb
  ·rfl
 obtain⟨hv,hr⟩:=QeS hb1
 have hc:=(QqA hv hr).1 h
 have hi:=Qhk hb1
 have hd:s.st∣s.hi - s.lo:=hr.2.2.2.1
 have hle:=hr.2.2.1
 by_cases ht:s.st=0
 ·exfalso
  have:=hi.1 ht
  have hnn:n=s.lo∨n=s.hi:=by
   rcases Decidable.em (n=s.lo)with e|e
   ·exact .inl e
   ·exact .inr (Decidable.byContradiction fun e2=>hb (.inr ⟨e,e2⟩))
  omega
 rw [if_neg ht]
 have hp:0 < s.st:=by omega
 by_cases hl:n=s.lo
 ·rw [if_pos hl]
  have g:s.lo+s.st≤x:=Qdq hp (by omega) hc.2.2
  have e:IntKind.u32.wrap (s.lo+s.st)=s.lo+s.st:=by rw [IntKind.wrap_u32];omega
  rw [e]
  refine(Qa7 ⟨by omega,by omega⟩ ⟨h0,h1⟩ ⟨s0,s1⟩ hx).2 ⟨g,hc.2.1,?_⟩
  have:=Int.dvd_sub hc.2.2 (Int.dvd_refl s.st)
  rwa [show x - (s.lo+s.st)=x - s.lo - s.st by omega]
 ·rw [if_neg hl]
  have hh:n=s.hi:=Decidable.byContradiction fun e2=>hb (.inr ⟨hl,e2⟩)
  have d2:s.st∣s.hi - x:=by
   have:=Int.dvd_sub hd hc.2.2
   rwa [show s.hi - s.lo - (x - s.lo)=s.hi - x by omega]at this
  have g:x+s.st≤s.hi:=Qdq hp (by omega) d2
  have e:IntKind.u32.wrap (s.hi - s.st)=s.hi - s.st:=by rw [IntKind.wrap_u32];omega
  rw [e]
  exact(Qa7 ⟨l0,l1⟩ ⟨by omega,by omega⟩ ⟨s0,s1⟩ hx).2 ⟨hc.1,by omega,hc.2.2⟩
theorem Qbi{c:Int}{a:Qd}{n x:Int}(wa:a.wf)(hn:Q5 n)(hx:Q5 x)(h:Qz a x=true)
 (hc:(c=1→x=n)∧(c=2→x≠n)∧(c=7→x < n)∧(c=8→n≤x)∧(c=9→x≤n)∧(c=10→n < x)):Qz (KL c a n) x=true:=by
 obtain⟨q1,q2,q7,q8,q9,q10⟩:=hc
 have hx1:=hx.1
 have hx2:=hx.2
 have hn1:=hn.1
 have hn2:=hn.2
 unfold KL
 by_cases c1:c=1
 ·rw [if_pos c1]
  refine Qbh wa (ZR hn) hx h ?_
  rw [q1 c1];exact QbL n
 rw [if_neg c1]
 by_cases c2:c=2
 ·rw [if_pos c2];exact Qkm wa hn hx h (q2 c2)
 rw [if_neg c2]
 by_cases c7:c=7
 ·rw [if_pos c7,if_neg (by have:=q7 c7;omega)]
  have e:IntKind.u32.wrap (n - 1)=n - 1:=by have:=q7 c7;rw [IntKind.wrap_u32];omega
  rw [e]
  have r:Q5 (n - 1):=⟨by have:=q7 c7;omega,by omega⟩
  exact Qbh wa (ZD K9 r YU) hx h (Ju K9 r hx hx1 (by have:=q7 c7;omega))
 rw [if_neg c7]
 by_cases c9:c=9
 ·rw [if_pos c9]
  exact Qbh wa (ZD K9 hn YU) hx h (Ju K9 hn hx hx1 (q9 c9))
 rw [if_neg c9]
 by_cases c8:c=8
 ·rw [if_pos c8]
  exact Qbh wa (ZD hn Qf4 YU) hx h (Ju hn Qf4 hx (q8 c8) (by omega))
 rw [if_neg c8]
 by_cases c10:c=10
 ·rw [if_pos c10,if_neg (by have:=q10 c10;omega)]
  have e:IntKind.u32.wrap (n+1)=n+1:=by have:=q10 c10;rw [IntKind.wrap_u32];omega
  rw [e]
  have r:Q5 (n+1):=⟨by omega,by have:=q10 c10;omega⟩
  exact Qbh wa (ZD r Qf4 YU) hx h (Ju r Qf4 hx (by have:=q10 c10;omega) (by omega))
 rw [if_neg c10]
 exact h
theorem Qhn{c:Int}{a:Qd}{n x:Int}(wa:a.wf)(hn:Q5 n)(hx:Q5 x)(h:Qz a x=true)(hc:1≤c→Qau c x n=true):Qz (YQ c a n) x=true:=by
 have hx1:=hx.1
 have hx2:=hx.2
 have hn1:=hn.1
 have hn2:=hn.2
 have hs:1≤c→_:=fun q=>Qku hx hn (hc q)
 unfold YQ
 split
 ·rename_i h3
  split
  ·rename_i hb
   obtain⟨hv,hr⟩:=QeS hb.1
   have hxh:=((QqA hv hr).1 h).2.1
   have wx:wrap32 x=x:=by unfold wrap32;omega
   have wn:wrap32 n=n:=by unfold wrap32;omega
   obtain⟨-, -,q3,q4,q5,q6, -⟩:=hs (by omega)
   rw [wx,wn]at q3 q4 q5 q6
   refine Qbi wa hn hx h ?_
   rcases (by omega:c=3∨c=4∨c=5∨c=6)with rfl|rfl|rfl|rfl
   ·rw [show QcK 3=7 from by decide]
    refine⟨fun e=>absurd e (by decide),fun e=>absurd e (by decide),fun _=>q3 rfl,fun e=>absurd e (by decide),fun e=>absurd e (by decide),fun e=>absurd e (by decide)⟩
   ·rw [show QcK 4=8 from by decide]
    refine⟨fun e=>absurd e (by decide),fun e=>absurd e (by decide),fun e=>absurd e (by decide),fun _=>q4 rfl,fun e=>absurd e (by decide),fun e=>absurd e (by decide)⟩
   ·rw [show QcK 5=9 from by decide]
    refine⟨fun e=>absurd e (by decide),fun e=>absurd e (by decide),fun e=>absurd e (by decide),fun e=>absurd e (by decide),fun _=>q5 rfl,fun e=>absurd e (by decide)⟩
   ·rw [show QcK 6=10 from by decide]
    refine⟨fun e=>absurd e (by decide),fun e=>absurd e (by decide),fun e=>absurd e (by decide),fun e=>absurd e (by decide),fun e=>absurd e (by decide),fun _=>q6 rfl⟩
  ·exact h
 ·refine Qbi wa hn hx h ⟨fun e=>(hs (by omega)).1 e,fun e=>(hs (by omega)).2.1 e,fun e=>(hs (by omega)).2.2.2.2.2.2.1 e,fun e=>(hs (by omega)).2.2.2.2.2.2.2.1 e,fun e=>(hs (by omega)).2.2.2.2.2.2.2.2.1 e,fun e=>(hs (by omega)).2.2.2.2.2.2.2.2.2 e⟩
theorem Qoc{cc a n:Int}(h:Qau cc a n=false)(h1:1≤Qe4 cc):Qau (Qe4 cc) a n=true:=by
 by_cases c:1≤cc∧cc < 15
 ·unfold Qau at h ⊢
  rw [Qoj c.1 c.2,h]
  rfl
 ·rw [Qr1 cc (by omega)]at h1
  omega
theorem Qb5{cc:Int}{i:Ins}{s:Nat→Qd}{x:Nat→Int}(hi:i.wf)(hs:∀k,(s k).wf)(hx:∀k,Q5 (x k))(h:inP s x):inP (X3 cc i s (Qau cc (x i.a.toNat) (Kc i x))) x:=by
 unfold X3
 split
 ·rename_i hc
  have hr:=Qbj hc
  have hf:i.form≠0:=by unfold Yt at hc;grind
  have hsx:Kc i x=i.imm:=by unfold Kc;rw [if_neg hf]
  rw [hsx]
  refine QqZ h (Qhn (hs _) hi.2.1 (hx _) (h _ (by omega)) fun h1=>?_)
  cases hfl:Qau cc (x i.a.toNat) i.imm
  ·rw [hfl,if_neg (by decide)]at h1
   rw [if_neg (by decide)]
   exact Qoc hfl h1
  ·rw [if_pos rfl];exact hfl
 ·exact h
end Go.Proofs.Yteplnamfpodmlaa.T2
end
section
namespace Go.Proofs.Yteplnamfpodmlaa
theorem Qew(s:Qd)(n:Int)(h:s.wf∧Q5 n)(w:World):Calls Try.prog 68 #[s.val,.int .u32 n] w (Ret (.bool (Qz s n)) w):=Kt s h.1 n h.2.1 h.2.2 w
def QaE:Con Try.prog:= .mk' ⟨68,[.a Qc,.l (some .u32)],.l none,true⟩
 (fun ads=>match ads with| [d1,d2]=>(Z4 d1).wf∧Q5 (Q8 d2)|_=>False)
 (fun ads=>match ads with| [d1,d2]=>fun _=>0|_=>fun _=>0)
 (fun ads=>match ads with| [d1,d2]=>fun _=>Qz (Z4 d1) (Q8 d2)|_=>fun _=>false)
 ⟨_,Try.func68,by kernel_rfl,by kernel_rfl⟩ (fun ads w hf hp=>by
   obtain⟨d1,_,rfl,f1,hf⟩:=Qf hf
   obtain⟨d2,_,rfl,f2,hf⟩:=Qf hf
   obtain rfl:=Qn hf
   show Calls _ _ #[d1.val,d2.val] w _
   rw [X0 f1,QH f2]
   exact Qew (Z4 d1) (Q8 d2) hp w)
def inB(x:Nat→Int)(s:Nat→Qd):Bool:=Qz (s 0) (x 0) && Qz (s 1) (x 1) && Qz (s 2) (x 2) && Qz (s 3) (x 3) && Qz (s 4) (x 4) && Qz (s 5) (x 5) && Qz (s 6) (x 6) && Qz (s 7) (x 7)
theorem Qbv{x:Nat→Int}{s:Nat→Qd}:inB x s=true↔T2.inP s x:=by
 unfold inB T2.inP
 simp only [Bool.and_eq_true]
 constructor
 ·intro h r hr
  obtain⟨⟨⟨⟨⟨⟨⟨h0,h1⟩,h2⟩,h3⟩,h4⟩,h5⟩,h6⟩,h7⟩:=h
  match r,hr with
  |0,_=>exact h0
  |1,_=>exact h1
  |2,_=>exact h2
  |3,_=>exact h3
  |4,_=>exact h4
  |5,_=>exact h5
  |6,_=>exact h6
  |7,_=>exact h7
 ·intro h
  exact⟨⟨⟨⟨⟨⟨⟨h 0 (by decide),h 1 (by decide)⟩,h 2 (by decide)⟩,h 3 (by decide)⟩,h 4 (by decide)⟩,h 5 (by decide)⟩,h 6 (by decide)⟩,h 7 (by decide)⟩
def Qva(x:Nat→Int)(s:Nat→Qd):Env:=⟨fun d=>match d with|0=>x|1=>ZH s|_=>fun _=>0,fun d=>match d with|1=>QU s|_=>fun _=>false,fun _=>0,fun _=>none⟩
def Qj6:List Sg:= [⟨68,[.a Qc,.l (some .u32)],.l none,true⟩]
def QeL:List PX:= [.a (Qa 0 0 Qu),.a (Qa 1 0 stK)]
def QgO:List Rw:= []
def QgM:Cfg:=⟨2,Qj6,[]⟩
def Qj4:List Lf:=
 let z0:VX:= .v (.l (.t (.b false)))
 [⟨[.c (.v 15 0) false,.f 15 0 [.a (Qa 1 0 Qc),.l (.n .u32 (.v 0 0))]],z0⟩,⟨[.c (.v 29 0) false,.f 29 0 [.a (Qa 1 5 Qc),.l (.n .u32 (.v 0 1))],.c (.v 15 0) true,.f 15 0 [.a (Qa 1 0 Qc),.l (.n .u32 (.v 0 0))]],z0⟩,⟨[.c (.v 43 0) false,.f 43 0 [.a (Qa 1 10 Qc),.l (.n .u32 (.v 0 2))],.c (.v 29 0) true,.f 29 0 [.a (Qa 1 5 Qc),.l (.n .u32 (.v 0 1))],.c (.v 15 0) true,.f 15 0 [.a (Qa 1 0 Qc),.l (.n .u32 (.v 0 0))]],z0⟩,⟨[.c (.v 57 0) false,.f 57 0 [.a (Qa 1 15 Qc),.l (.n .u32 (.v 0 3))],.c (.v 43 0) true,.f 43 0 [.a (Qa 1 10 Qc),.l (.n .u32 (.v 0 2))],.c (.v 29 0) true,.f 29 0 [.a (Qa 1 5 Qc),.l (.n .u32 (.v 0 1))],.c (.v 15 0) true,.f 15 0 [.a (Qa 1 0 Qc),.l (.n .u32 (.v 0 0))]],z0⟩,⟨[.c (.v 71 0) false,.f 71 0 [.a (Qa 1 20 Qc),.l (.n .u32 (.v 0 4))],.c (.v 57 0) true,.f 57 0 [.a (Qa 1 15 Qc),.l (.n .u32 (.v 0 3))],.c (.v 43 0) true,.f 43 0 [.a (Qa 1 10 Qc),.l (.n .u32 (.v 0 2))],.c (.v 29 0) true,.f 29 0 [.a (Qa 1 5 Qc),.l (.n .u32 (.v 0 1))],.c (.v 15 0) true,.f 15 0 [.a (Qa 1 0 Qc),.l (.n .u32 (.v 0 0))]],z0⟩,⟨[.c (.v 85 0) false,.f 85 0 [.a (Qa 1 25 Qc),.l (.n .u32 (.v 0 5))],.c (.v 71 0) true,.f 71 0 [.a (Qa 1 20 Qc),.l (.n .u32 (.v 0 4))],.c (.v 57 0) true,.f 57 0 [.a (Qa 1 15 Qc),.l (.n .u32 (.v 0 3))],.c (.v 43 0) true,.f 43 0 [.a (Qa 1 10 Qc),.l (.n .u32 (.v 0 2))],.c (.v 29 0) true,.f 29 0 [.a (Qa 1 5 Qc),.l (.n .u32 (.v 0 1))],.c (.v 15 0) true,.f 15 0 [.a (Qa 1 0 Qc),.l (.n .u32 (.v 0 0))]],z0⟩,⟨[.c (.v 99 0) false,.f 99 0 [.a (Qa 1 30 Qc),.l (.n .u32 (.v 0 6))],.c (.v 85 0) true,.f 85 0 [.a (Qa 1 25 Qc),.l (.n .u32 (.v 0 5))],.c (.v 71 0) true,.f 71 0 [.a (Qa 1 20 Qc),.l (.n .u32 (.v 0 4))],.c (.v 57 0) true,.f 57 0 [.a (Qa 1 15 Qc),.l (.n .u32 (.v 0 3))],.c (.v 43 0) true,.f 43 0 [.a (Qa 1 10 Qc),.l (.n .u32 (.v 0 2))],.c (.v 29 0) true,.f 29 0 [.a (Qa 1 5 Qc),.l (.n .u32 (.v 0 1))],.c (.v 15 0) true,.f 15 0 [.a (Qa 1 0 Qc),.l (.n .u32 (.v 0 0))]],z0⟩,⟨[.c (.v 113 0) false,.f 113 0 [.a (Qa 1 35 Qc),.l (.n .u32 (.v 0 7))],.c (.v 99 0) true,.f 99 0 [.a (Qa 1 30 Qc),.l (.n .u32 (.v 0 6))],.c (.v 85 0) true,.f 85 0 [.a (Qa 1 25 Qc),.l (.n .u32 (.v 0 5))],.c (.v 71 0) true,.f 71 0 [.a (Qa 1 20 Qc),.l (.n .u32 (.v 0 4))],.c (.v 57 0) true,.f 57 0 [.a (Qa 1 15 Qc),.l (.n .u32 (.v 0 3))],.c (.v 43 0) true,.f 43 0 [.a (Qa 1 10 Qc),.l (.n .u32 (.v 0 2))],.c (.v 29 0) true,.f 29 0 [.a (Qa 1 5 Qc),.l (.n .u32 (.v 0 1))],.c (.v 15 0) true,.f 15 0 [.a (Qa 1 0 Qc),.l (.n .u32 (.v 0 0))]],z0⟩,⟨[.c (.v 113 0) true,.f 113 0 [.a (Qa 1 35 Qc),.l (.n .u32 (.v 0 7))],.c (.v 99 0) true,.f 99 0 [.a (Qa 1 30 Qc),.l (.n .u32 (.v 0 6))],.c (.v 85 0) true,.f 85 0 [.a (Qa 1 25 Qc),.l (.n .u32 (.v 0 5))],.c (.v 71 0) true,.f 71 0 [.a (Qa 1 20 Qc),.l (.n .u32 (.v 0 4))],.c (.v 57 0) true,.f 57 0 [.a (Qa 1 15 Qc),.l (.n .u32 (.v 0 3))],.c (.v 43 0) true,.f 43 0 [.a (Qa 1 10 Qc),.l (.n .u32 (.v 0 2))],.c (.v 29 0) true,.f 29 0 [.a (Qa 1 5 Qc),.l (.n .u32 (.v 0 1))],.c (.v 15 0) true,.f 15 0 [.a (Qa 1 0 Qc),.l (.n .u32 (.v 0 0))]],.v (.l (.t (.b true)))⟩]
def Qj5:List Ob:=
 [.pre [] 0 [.a (Qa 1 0 Qc),.l (.n .u32 (.v 0 0))],.pre [.c (.v 15 0) true,.f 15 0 [.a (Qa 1 0 Qc),.l (.n .u32 (.v 0 0))]] 0 [.a (Qa 1 5 Qc),.l (.n .u32 (.v 0 1))],.pre [.c (.v 29 0) true,.f 29 0 [.a (Qa 1 5 Qc),.l (.n .u32 (.v 0 1))],.c (.v 15 0) true,.f 15 0 [.a (Qa 1 0 Qc),.l (.n .u32 (.v 0 0))]] 0 [.a (Qa 1 10 Qc),.l (.n .u32 (.v 0 2))],.pre [.c (.v 43 0) true,.f 43 0 [.a (Qa 1 10 Qc),.l (.n .u32 (.v 0 2))],.c (.v 29 0) true,.f 29 0 [.a (Qa 1 5 Qc),.l (.n .u32 (.v 0 1))],.c (.v 15 0) true,.f 15 0 [.a (Qa 1 0 Qc),.l (.n .u32 (.v 0 0))]] 0 [.a (Qa 1 15 Qc),.l (.n .u32 (.v 0 3))],.pre [.c (.v 57 0) true,.f 57 0 [.a (Qa 1 15 Qc),.l (.n .u32 (.v 0 3))],.c (.v 43 0) true,.f 43 0 [.a (Qa 1 10 Qc),.l (.n .u32 (.v 0 2))],.c (.v 29 0) true,.f 29 0 [.a (Qa 1 5 Qc),.l (.n .u32 (.v 0 1))],.c (.v 15 0) true,.f 15 0 [.a (Qa 1 0 Qc),.l (.n .u32 (.v 0 0))]] 0 [.a (Qa 1 20 Qc),.l (.n .u32 (.v 0 4))],.pre [.c (.v 71 0) true,.f 71 0 [.a (Qa 1 20 Qc),.l (.n .u32 (.v 0 4))],.c (.v 57 0) true,.f 57 0 [.a (Qa 1 15 Qc),.l (.n .u32 (.v 0 3))],.c (.v 43 0) true,.f 43 0 [.a (Qa 1 10 Qc),.l (.n .u32 (.v 0 2))],.c (.v 29 0) true,.f 29 0 [.a (Qa 1 5 Qc),.l (.n .u32 (.v 0 1))],.c (.v 15 0) true,.f 15 0 [.a (Qa 1 0 Qc),.l (.n .u32 (.v 0 0))]] 0 [.a (Qa 1 25 Qc),.l (.n .u32 (.v 0 5))],.pre [.c (.v 85 0) true,.f 85 0 [.a (Qa 1 25 Qc),.l (.n .u32 (.v 0 5))],.c (.v 71 0) true,.f 71 0 [.a (Qa 1 20 Qc),.l (.n .u32 (.v 0 4))],.c (.v 57 0) true,.f 57 0 [.a (Qa 1 15 Qc),.l (.n .u32 (.v 0 3))],.c (.v 43 0) true,.f 43 0 [.a (Qa 1 10 Qc),.l (.n .u32 (.v 0 2))],.c (.v 29 0) true,.f 29 0 [.a (Qa 1 5 Qc),.l (.n .u32 (.v 0 1))],.c (.v 15 0) true,.f 15 0 [.a (Qa 1 0 Qc),.l (.n .u32 (.v 0 0))]] 0 [.a (Qa 1 30 Qc),.l (.n .u32 (.v 0 6))],.pre [.c (.v 99 0) true,.f 99 0 [.a (Qa 1 30 Qc),.l (.n .u32 (.v 0 6))],.c (.v 85 0) true,.f 85 0 [.a (Qa 1 25 Qc),.l (.n .u32 (.v 0 5))],.c (.v 71 0) true,.f 71 0 [.a (Qa 1 20 Qc),.l (.n .u32 (.v 0 4))],.c (.v 57 0) true,.f 57 0 [.a (Qa 1 15 Qc),.l (.n .u32 (.v 0 3))],.c (.v 43 0) true,.f 43 0 [.a (Qa 1 10 Qc),.l (.n .u32 (.v 0 2))],.c (.v 29 0) true,.f 29 0 [.a (Qa 1 5 Qc),.l (.n .u32 (.v 0 1))],.c (.v 15 0) true,.f 15 0 [.a (Qa 1 0 Qc),.l (.n .u32 (.v 0 0))]] 0 [.a (Qa 1 35 Qc),.l (.n .u32 (.v 0 7))]]
theorem QgN:QP Try.prog QgM 2000 Try.f26 QeL QgO=some (Qj4,Qj5):=by kernel_rfl
set_option maxHeartbeats 2000000 in
theorem QhL(x:Nat→Int)(s:Nat→Qd)(h:(∀k,Q5 (x k))∧∀k,(s k).wf)(w:World):Calls Try.prog 26 #[WK x,ZT s] w (Ret (.bool (inB x s)) w):=by
 refine QG (C:= [QaE]) (I:= []) Qr rfl Try.func26 QgN (Qva x s) w rfl (fun r hr=>(List.not_mem_nil hr).elim) _ ?_ ?_
 ·refine⟨?_,?_,?_,?_,?_,?_,?_,?_,trivial⟩
  all_goals
   intro e he hc
   have h0:e.int 0=x:=(he 0 (by decide)).1
   have h1:=Qcs (he 1 (by decide)).1 (he 1 (by decide)).2.1
   clear he
   simp only [QC,Zb,Cd.holds,SX.den,cmI,PX.den,LX.den,VX.sat,List.map_cons,List.map_nil,List.append_nil,beq_iff_eq,bne_iff_ne,beq_eq_false_iff_ne,bne_eq_false_iff_eq,decide_eq_true_eq,decide_eq_false_iff_not,Bool.and_eq_true,Bool.and_eq_false_iff,ne_eq,List.getElem?_cons_zero,List.getElem?_cons_succ,Option.some.injEq,exists_eq_left',QI,QT,Q3,QS,QX,Xv,QB,QY,QaE,h0,h1]
   exact⟨h.2 _,h.1 _⟩
 refine⟨?_,?_,?_,?_,?_,?_,?_,?_,?_,trivial⟩
 all_goals
  intro e u he hc hs
  have h0:e.int 0=x:=(he 0 (by decide)).1
  have h1:=Qcs (he 1 (by decide)).1 (he 1 (by decide)).2.1
  simp only [QC,Zb,Cd.holds,SX.den,cmI,PX.den,LX.den,VX.sat,List.map_cons,List.map_nil,List.append_nil,beq_iff_eq,bne_iff_ne,beq_eq_false_iff_ne,bne_eq_false_iff_eq,decide_eq_true_eq,decide_eq_false_iff_not,Bool.and_eq_true,Bool.and_eq_false_iff,ne_eq,List.getElem?_cons_zero,List.getElem?_cons_succ,Option.some.injEq,exists_eq_left',QI,QT,Q3,QS,QX,Xv,QB,QY,QaE,h0,h1]at hc
  rw [VP hs]
  clear h0 h1 he hs h
  simp only [PX.den,LX.den,SX.den,inB]
  grind
def J5:Con Try.prog:= .mk' ⟨26,[.a Qu,.a stK],.l none,true⟩
 (fun ads=>match ads with| [d1,d2]=>(∀k,Q5 ((Xh d1) k))∧∀k,((stD d2) k).wf|_=>False)
 (fun ads=>match ads with| [d1,d2]=>fun _=>0|_=>fun _=>0)
 (fun ads=>match ads with| [d1,d2]=>fun _=>inB (Xh d1) (stD d2)|_=>fun _=>false)
 ⟨_,Try.func26,by kernel_rfl,by kernel_rfl⟩ (fun ads w hf hp=>by
   obtain⟨d1,_,rfl,f1,hf⟩:=Qf hf
   obtain⟨d2,_,rfl,f2,hf⟩:=Qf hf
   obtain rfl:=Qn hf
   show Calls _ _ #[d1.val,d2.val] w _
   rw [Qdx f1,Vq f2]
   exact QhL (Xh d1) (stD d2) hp w)
theorem Qif(a k:Int)(h:Q5 a)(w:World):Calls Try.prog 70 #[.int .u32 a,.int .i64 k] w (Ret (.int .u32 (Kd a k)) w):=Qay a k w h.1 h.2
def QdU:Con Try.prog:= .mk' ⟨70,[.l (some .u32),.l (some .i64)],.l (some .u32),true⟩
 (fun ads=>match ads with| [d1,d2]=>Q5 (Q8 d1)|_=>False)
 (fun ads=>match ads with| [d1,d2]=>fun _=>Kd (Q8 d1) (Q8 d2)|_=>fun _=>0)
 (fun ads=>match ads with| [d1,d2]=>fun _=>false|_=>fun _=>false)
 ⟨_,Try.func70,by kernel_rfl,by kernel_rfl⟩ (fun ads w hf hp=>by
   obtain⟨d1,_,rfl,f1,hf⟩:=Qf hf
   obtain⟨d2,_,rfl,f2,hf⟩:=Qf hf
   obtain rfl:=Qn hf
   show Calls _ _ #[d1.val,d2.val] w _
   rw [QH f1,QH f2]
   exact Qif (Q8 d1) (Q8 d2) hp w)
theorem QoN(a k:Int)(h:Q5 a)(w:World):Calls Try.prog 71 #[.int .u32 a,.int .i64 k] w (Ret (.int .u32 (QaA a k)) w):=Qic a k w h.1 h.2
def Qlb:Con Try.prog:= .mk' ⟨71,[.l (some .u32),.l (some .i64)],.l (some .u32),true⟩
 (fun ads=>match ads with| [d1,d2]=>Q5 (Q8 d1)|_=>False)
 (fun ads=>match ads with| [d1,d2]=>fun _=>QaA (Q8 d1) (Q8 d2)|_=>fun _=>0)
 (fun ads=>match ads with| [d1,d2]=>fun _=>false|_=>fun _=>false)
 ⟨_,Try.func71,by kernel_rfl,by kernel_rfl⟩ (fun ads w hf hp=>by
   obtain⟨d1,_,rfl,f1,hf⟩:=Qf hf
   obtain⟨d2,_,rfl,f2,hf⟩:=Qf hf
   obtain rfl:=Qn hf
   show Calls _ _ #[d1.val,d2.val] w _
   rw [QH f1,QH f2]
   exact QoN (Q8 d1) (Q8 d2) hp w)
theorem QfZ(op a b:Int)(h:3≤op∧op≤15∧Q5 a∧Q5 b)(w:World):Calls Try.prog 69 #[.int .i64 op,.int .u32 a,.int .u32 b] w (Ret (.tuple #[.int .u32 (XI (op - 3).toNat a b),.int .i64 0]) w):=
 QoJ op a b h.1 (by omega) h.2.2.1.1 h.2.2.1.2 h.2.2.2.1 h.2.2.2.2 w
def Qcl:Con Try.prog:= .mk' ⟨69,[.l (some .i64),.l (some .u32),.l (some .u32)],.tp [.inl (some .u32),.inl (some .i64)],true⟩
 (fun ads=>match ads with| [d1,d2,d3]=>3≤(Q8 d1)∧(Q8 d1)≤15∧Q5 (Q8 d2)∧Q5 (Q8 d3)|_=>False)
 (fun ads=>match ads with| [d1,d2,d3]=>fun j=>if j=0 then XI ((Q8 d1) - 3).toNat (Q8 d2) (Q8 d3)else 0|_=>fun _=>0)
 (fun ads=>match ads with| [d1,d2,d3]=>fun _=>false|_=>fun _=>false)
 ⟨_,Try.func69,by kernel_rfl,by kernel_rfl⟩ (fun ads w hf hp=>by
   obtain⟨d1,_,rfl,f1,hf⟩:=Qf hf
   obtain⟨d2,_,rfl,f2,hf⟩:=Qf hf
   obtain⟨d3,_,rfl,f3,hf⟩:=Qf hf
   obtain rfl:=Qn hf
   show Calls _ _ #[d1.val,d2.val,d3.val] w _
   rw [QH f1,QH f2,QH f3]
   exact QfZ (Q8 d1) (Q8 d2) (Q8 d3) hp w)
def QtR(f:Nat→Bool):Value:= .agg (ZB (fun _=>0) f 0 Ky).toArray
def flD(d:AD):Nat→Bool:=fun k=>Qbf (X7 d.val k)
theorem Qtp{w:World}{d:AD}(h:(SH.a Ky).fits w d):d.val=QtR (flD d):=(VB h).trans rfl
theorem Qid(k:Int)(f:Nat→Bool)(w:World):Calls Try.prog 32 #[.int .i64 k,QtR f] w (Ret (.bool (KI k (f 0) (f 1) (f 2) (f 3))) w):=QkZ k (f 0) (f 1) (f 2) (f 3) w
def QrK:Con Try.prog:= .mk' ⟨32,[.l (some .i64),.a Ky],.l none,true⟩
 (fun ads=>match ads with| [d1,d2]=>True|_=>False)
 (fun ads=>match ads with| [d1,d2]=>fun _=>0|_=>fun _=>0)
 (fun ads=>match ads with| [d1,d2]=>fun _=>KI (Q8 d1) ((flD d2) 0) ((flD d2) 1) ((flD d2) 2) ((flD d2) 3)|_=>fun _=>false)
 ⟨_,Try.func32,by kernel_rfl,by kernel_rfl⟩ (fun ads w hf hp=>by
   obtain⟨d1,_,rfl,f1,hf⟩:=Qf hf
   obtain⟨d2,_,rfl,f2,hf⟩:=Qf hf
   obtain rfl:=Qn hf
   show Calls _ _ #[d1.val,d2.val] w _
   rw [QH f1,Qtp f2]
   exact Qid (Q8 d1) (flD d2) w)
end Go.Proofs.Yteplnamfpodmlaa
namespace Go.Proofs.Yteplnamfpodmlaa.T2
def X5(int:Nat→Int)(o:Nat):Nat→Int:=fun k=>if k < 8 then int (o+k)else 0
def Qu9(int:Nat→Int)(o:Nat):Ins:=⟨int o,int (o+1),int (o+2),int (o+3),int (o+4),int (o+5),int (o+6),int (o+7),int (o+8)⟩
def stO(int:Nat→Int)(bool:Nat→Bool)(o:Nat):Nat→Qd:=fun k=>if k < 8 then⟨bool (o+5 * k),bool (o+(5 * k+1)),int (o+(5 * k+2)),int (o+(5 * k+3)),int (o+(5 * k+4))⟩else X2 0
section
variable(e:Env)(d c:Nat)
theorem Yy(o:Nat):Q0 (PX.dat e c (.a (Qa d o Qb)))=Qu9 (e.int d) o:=rfl
theorem Qb8(o:Nat):stD (PX.dat e c (.a (Qa d o stK)))=stO (e.int d) (e.bool d) o:=by
 funext k
 unfold stO
 split
 ·rename_i h
  match k,h with
  |0,_|1,_|2,_|3,_|4,_|5,_|6,_|7,_=>rfl
 ·exact Qb9 rfl (by omega)
theorem Z9(o:Nat):Xh (PX.dat e c (.a (Qa d o Qu)))=X5 (e.int d) o:=by
 funext k
 unfold X5
 split
 ·rename_i h
  match k,h with
  |0,_|1,_|2,_|3,_|4,_|5,_|6,_|7,_=>rfl
 ·rename_i h
  unfold Xh
  have:X7 (PX.dat e c (.a (Qa d o Qu))).val k=undef:=by
   rw [PX.dat_val]
   have hl:(Qa d o Qu).length=8:=rfl
   simp [X7,PX.den,hl,show 8≤k by omega]
  rw [this]
  rfl
end
theorem Qfg{x y:Nat→Int}{s t:Nat→Qd}(h1:∀k,k < 8→x k=y k)(h2:∀k,k < 8→s k=t k):inB x s=inB y t:=by
 unfold inB
 rw [h1 0 (by decide),h1 1 (by decide),h1 2 (by decide),h1 3 (by decide),h1 4 (by decide),h1 5 (by decide),h1 6 (by decide),h1 7 (by decide),h2 0 (by decide),h2 1 (by decide),h2 2 (by decide),h2 3 (by decide),h2 4 (by decide),h2 5 (by decide),h2 6 (by decide),h2 7 (by decide)]
theorem QnG{x:Nat→Int}{k:Nat}(h:k < 8):X5 x 0 k=x k:=by unfold X5;rw [if_pos h,Nat.zero_add]
theorem QdR{int:Nat→Int}{o:Nat}(h:∀k,k < 8→Q5 (int (o+k))):∀k,Q5 (X5 int o k):=fun k=>by
 unfold X5
 split
 ·exact h k (by assumption)
 ·exact K9
theorem QqM{a b c d a' b' c' d':Bool}(h1:a=a')(h2:b=b')(h3:c=c')(h4:d=d'):Value.agg #[.bool a,.bool b,.bool c,.bool d]=fl a' b' c' d':=by rw [h1,h2,h3,h4]
theorem QuR(x y z:Bool)(h:(x==y)=false):(!(z==x))=((x != y) && (x != z)):=by revert h;cases x <;> cases y <;> cases z <;> decide
theorem QuS(x y z:Bool)(h:(x==y)=true):false=((x != y) && (x != z)):=by revert h;cases x <;> cases y <;> cases z <;> decide
def Qtb:List Sg:= []
def Qnd:List PX:= [.l (.n .u32 (.v 0 0)),.l (.n .u32 (.v 1 0))]
def Qqv:List Rw:= []
def Qqt:Cfg:=⟨4,Qtb,[],[81],[]⟩
def QsZ:List Lf:=
 let z0:SX:= .o .sub .u32 (.v 0 0) (.v 1 0)
 [⟨[.c (.eq (.c .geq (.v 0 0) (.i 2147483648)) (.c .geq (.v 1 0) (.i 2147483648))) false],.tp [.l (.n .u32 z0),.a [.t (.c .eql z0 (.i 0)),.t (.c .geq z0 (.i 2147483648)),.t (.c .lss (.v 0 0) (.v 1 0)),.t (.no (.eq (.c .geq z0 (.i 2147483648)) (.c .geq (.v 0 0) (.i 2147483648))))]],[⟨8,.cells 66 [.t (.c .eql z0 (.i 0)),.t (.c .geq z0 (.i 2147483648)),.t (.c .lss (.v 0 0) (.v 1 0)),.t (.no (.eq (.c .geq z0 (.i 2147483648)) (.c .geq (.v 0 0) (.i 2147483648))))]⟩]⟩,⟨[.c (.eq (.c .geq (.v 0 0) (.i 2147483648)) (.c .geq (.v 1 0) (.i 2147483648))) true],.tp [.l (.n .u32 z0),.a [.t (.c .eql z0 (.i 0)),.t (.c .geq z0 (.i 2147483648)),.t (.c .lss (.v 0 0) (.v 1 0)),.t (.b false)]],[⟨8,.cells 66 [.t (.c .eql z0 (.i 0)),.t (.c .geq z0 (.i 2147483648)),.t (.c .lss (.v 0 0) (.v 1 0)),.t (.b false)]⟩]⟩]
def Qta:List Ob:= []
theorem Qqu:QP Try.prog Qqt 1000 4 30 Try.f30 Qnd Qqv=some (QsZ,Qta):=by kernel_rfl
theorem QrX(a b:Int)(h:Q5 a∧Q5 b)(w:World):Calls Try.prog 30 #[.int .u32 a,.int .u32 b] w (Ret (.tuple #[.int .u32 ((a - b) % 4294967296),fl (QaV a b) (Go.Proofs.Yteplnamfpodmlaa.subN a b) (Qe6 a b) (Go.Proofs.Yteplnamfpodmlaa.subV a b)]) w):=by
 refine ZK (C:= []) (I:= []) Qr rfl Try.func30 Qqu (Kh [nmN a,nmN b]) w rfl (fun r hr=>(List.not_mem_nil hr).elim) _ ?_ ?_
 ·refine trivial
  all_goals
   intro e he hc
   trivial
 ·refine⟨?_,?_,trivial⟩
  all_goals
   intro e u he hc hs
   have h0:e.nm 0=nmN a:=he 0 (by decide)
   have h1:e.nm 1=nmN b:=he 1 (by decide)
   have h2:=h.1.1;have h3:=h.1.2;have h4:=h.2.1;have h5:=h.2.2
   rw [show u=_ from hs]
   refine Qvq ?_ (QqM ?_ ?_ ?_ ?_)
   ·show Value.int .u32 (IntKind.u32.wrap ((e.nm 0).int 0 - (e.nm 1).int 0))=_
    rw [h0,h1,IntKind.wrap_u32]
    rfl
   all_goals
    simp only [SX.den,cmI,arI,Env.int,h0,h1,nmN,nmI,IntKind.wrap_u32]
   ·rfl
   ·rfl
   ·rfl
   ·have q:=hc.1
    simp only [Cd.holds,SX.den,cmI,Env.int,h0,h1,nmN,nmI]at q
    first
     |exact QuR _ _ _ q
     |exact QuS _ _ _ q
end Go.Proofs.Yteplnamfpodmlaa.T2
end
section
namespace Go.Proofs.Yteplnamfpodmlaa.T2
theorem Wh{P:Program}{C:List (Kon P)}{I:List (Nat→Env→Prop)}{e:Env}{d k:Nat}{args:List (PX×Nat)}{c:Kon P}(h:Cd.holds C I e (.f d k args))(hk:C[k]?=some c):c.post (args.map (Ji e)) (e.nm d) (e.nm (d+1)):=by
 obtain⟨c',h1,h2⟩:=h
 cases hk.symm.trans h1
 exact h2
theorem Qup{a0 a1 a2 a3 a4 a5 a6 a7:Int}{x:Nat→Int}(h0:a0=x 0)(h1:a1=x 1)(h2:a2=x 2)(h3:a3=x 3)(h4:a4=x 4)(h5:a5=x 5)(h6:a6=x 6)(h7:a7=x 7) :
 Value.agg #[.int .u32 a0,.int .u32 a1,.int .u32 a2,.int .u32 a3,.int .u32 a4,.int .u32 a5,.int .u32 a6,.int .u32 a7]=WK x:=by subst h0 h1 h2 h3 h4 h5 h6 h7;rfl
theorem W8{e:Env}{A V Y:SX}{a v:Int}{y:Nat→Int}(k:Nat)(hA:(A.den e).1=a)(hV:(V.den e).1=v)(hY:(Y.den e).1=y k):(SX.den e (.it (.c .eql A (.i k)) V Y)).1=Kr y a v k:=by
 unfold Kr
 rw [←hA,←hV,←hY]
 show(if(decide ((A.den e).1=(k:Int)))=true then V.den e else Y.den e).1=_
 by_cases h:(A.den e).1=(k:Int)
 ·rw [if_pos h,if_pos (decide_eq_true h)]
 ·rw [if_neg h,if_neg (by rw [decide_eq_true_eq];exact h)]
theorem Yk{e:Env}{A V Y0 Y1 Y2 Y3 Y4 Y5 Y6 Y7:SX}{a v:Int}{y:Nat→Int}(hA:(A.den e).1=a)(hV:(V.den e).1=v)(h0:(Y0.den e).1=y 0)(h1:(Y1.den e).1=y 1)(h2:(Y2.den e).1=y 2)(h3:(Y3.den e).1=y 3)(h4:(Y4.den e).1=y 4)(h5:(Y5.den e).1=y 5)(h6:(Y6.den e).1=y 6)(h7:(Y7.den e).1=y 7) :
 PX.den e (.a [.n .u32 (.it (.c .eql A (.i 0)) V Y0),.n .u32 (.it (.c .eql A (.i 1)) V Y1),.n .u32 (.it (.c .eql A (.i 2)) V Y2),.n .u32 (.it (.c .eql A (.i 3)) V Y3),.n .u32 (.it (.c .eql A (.i 4)) V Y4),.n .u32 (.it (.c .eql A (.i 5)) V Y5),.n .u32 (.it (.c .eql A (.i 6)) V Y6),.n .u32 (.it (.c .eql A (.i 7)) V Y7)])=WK (Kr y a v):=
 Qup (W8 0 hA hV h0) (W8 1 hA hV h1) (W8 2 hA hV h2) (W8 3 hA hV h3) (W8 4 hA hV h4) (W8 5 hA hV h5) (W8 6 hA hV h6) (W8 7 hA hV h7)
theorem QrJ{e:Env}{V Y0 Y1 Y2 Y3 Y4 Y5 Y6:SX}{v:Int}{y:Nat→Int}(hV:(V.den e).1=v)(h0:(Y0.den e).1=y 0)(h1:(Y1.den e).1=y 1)(h2:(Y2.den e).1=y 2)(h3:(Y3.den e).1=y 3)(h4:(Y4.den e).1=y 4)(h5:(Y5.den e).1=y 5)(h6:(Y6.den e).1=y 6) :
 PX.den e (.a [.n .u32 Y0,.n .u32 Y1,.n .u32 Y2,.n .u32 Y3,.n .u32 Y4,.n .u32 Y5,.n .u32 Y6,.n .u32 V])=WK (Kr y 7 v):=
 Qup h0 h1 h2 h3 h4 h5 h6 hV
def QtL:List Sg:= []
def Qqm:List PX:= [.a (Qa 0 0 Qb),.a (Qa 1 0 Qu)]
def QsV:List Rw:= []
def QsT:Cfg:=⟨4,QtL,[],[],[]⟩
def QtJ:List Lf:= [⟨[.c (.c .geq (.v 0 7) (.i 0)) true,.c (.c .lss (.v 0 7) (.i 8)) true,.c (.c .eql (.v 0 3) (.i 0)) true],.v (.l (.n .u32 (.r 1 1 0 (.v 0 7)))),[⟨4,.cells 39 (Qa 0 0 Qb)⟩,⟨8,.cells 48 (Qa 1 0 Qu)⟩]⟩,
 ⟨[.c (.c .eql (.v 0 3) (.i 0)) false],.v (.l (.n .u32 (.v 0 1))),[⟨4,.cells 39 (Qa 0 0 Qb)⟩,⟨8,.cells 48 (Qa 1 0 Qu)⟩]⟩]
def QtK:List Ob:= [.cl [.c (.c .eql (.v 0 3) (.i 0)) true] (.c .geq (.v 0 7) (.i 0)),
 .cl [.c (.c .eql (.v 0 3) (.i 0)) true] (.c .lss (.v 0 7) (.i 8))]
theorem QsU:QP Try.prog QsT 1000 4 31 Try.f31 Qqm QsV=some (QtJ,QtK):=by kernel_rfl
theorem QhK(i:Ins)(x:Nat→Int)(h:0≤i.b∧i.b < 8)(w:World):Calls Try.prog 31 #[i.val,WK x] w (Ret (.int .u32 (Kc i x)) w):=by
 refine ZK (C:= []) (I:= []) Qr rfl Try.func31 QsU (Kh [nmI (Q9 i),nmI x]) w rfl (fun r hr=>(List.not_mem_nil hr).elim) _ ?_ ?_
 ·refine⟨?_,?_,trivial⟩
  all_goals
   intro e he hc
   have h0:e.nm 0=nmI (Q9 i):=he 0 (by decide)
   simp only [QC,Zb,Cd.holds,dv1,dv2,di1,db2,dr1,dr2,dq1,dq2,do1,Z1,Z0,Zx,Zw,Zz,Zy,Zv,Zu,Zt,Zs,Z3,Z2,Xt,Xs,Xp,Xo,Xr,Xq,List.map_cons,List.map_nil,Nat.mul_one,Nat.add_zero,List.getElem?_cons_zero,List.getElem?_cons_succ,Option.some.injEq,exists_eq_left',and_true,and_assoc,Env.int,Env.bool,h0,nmI,Q9]
   omega
 ·refine⟨?_,?_,trivial⟩
  all_goals
   intro e u he hc hs
   have h0:e.nm 0=nmI (Q9 i):=he 0 (by decide)
   have h1:e.nm 1=nmI x:=he 1 (by decide)
   simp only [QC,Zb,Cd.holds,dv1,dv2,di1,db2,dr1,dr2,dq1,dq2,do1,Z1,Z0,Zx,Zw,Zz,Zy,Zv,Zu,Zt,Zs,Z3,Z2,Xt,Xs,Xp,Xo,Xr,Xq,List.map_cons,List.map_nil,Nat.mul_one,Nat.add_zero,List.getElem?_cons_zero,List.getElem?_cons_succ,Option.some.injEq,exists_eq_left',and_true,and_assoc,Env.int,Env.bool,h0,nmI,Q9]at hc
   rw [show u=_ from hs]
   refine congrArg (Value.int .u32) ?_
   unfold Kc
   first
    |(rw [if_pos (by(have hpq:=hc;(repeat (first|exact hpq|exact hpq.1|replace hpq:=hpq.2));done))];simp only [QC,Zb,Cd.holds,dv1,dv2,di1,db2,dr1,dr2,dq1,dq2,do1,Z1,Z0,Zx,Zw,Zz,Zy,Zv,Zu,Zt,Zs,Z3,Z2,Xt,Xs,Xp,Xo,Xr,Xq,List.map_cons,List.map_nil,Nat.mul_one,Nat.add_zero,List.getElem?_cons_zero,List.getElem?_cons_succ,Option.some.injEq,exists_eq_left',and_true,and_assoc,Env.int,Env.bool,h0,h1,nmI,Q9];done)
    |(rw [if_neg (by(have hpq:=hc;(repeat (first|exact hpq|exact hpq.1|replace hpq:=hpq.2));done))];simp only [QC,Zb,Cd.holds,dv1,dv2,di1,db2,dr1,dr2,dq1,dq2,do1,Z1,Z0,Zx,Zw,Zz,Zy,Zv,Zu,Zt,Zs,Z3,Z2,Xt,Xs,Xp,Xo,Xr,Xq,List.map_cons,List.map_nil,Nat.mul_one,Nat.add_zero,List.getElem?_cons_zero,List.getElem?_cons_succ,Option.some.injEq,exists_eq_left',and_true,and_assoc,Env.int,Env.bool,h0,h1,nmI,Q9];done)
end Go.Proofs.Yteplnamfpodmlaa.T2
namespace Go.Proofs.Yteplnamfpodmlaa
open Go.ChangeShapes Go.WideShapes Go.ChangeAt Go.RowKit T2
def Kj:Con Try.prog:= .mk' ⟨31,[.a Qb,.a Qu],.l (some .u32),true⟩
 (fun ads=>match ads with| [d1,d2]=>0≤(Q0 d1).b∧(Q0 d1).b < 8|_=>False)
 (fun ads=>match ads with| [d1,d2]=>fun _=>Kc (Q0 d1) (Xh d2)|_=>fun _=>0)
 (fun ads=>match ads with| [d1,d2]=>fun _=>false|_=>fun _=>false)
 ⟨_,Try.func31,by kernel_rfl,by kernel_rfl⟩ (fun ads w hf hp=>by
   obtain⟨d1,_,rfl,f1,hf⟩:=Qf hf
   obtain⟨d2,_,rfl,f2,hf⟩:=Qf hf
   obtain rfl:=Qn hf
   show Calls _ _ #[d1.val,d2.val] w _
   rw [Zc f1,Qdx f2]
   exact QhK (Q0 d1) (Xh d2) hp w)
end Go.Proofs.Yteplnamfpodmlaa
namespace Go.Proofs.Yteplnamfpodmlaa.T2
def QsS:List Sg:= [⟨31,[.a Qb,.a Qu],.b (.l (some .u32)),true,false⟩,⟨69,[.l (some .i64),.l (some .u32),.l (some .u32)],.b (.tp [.inl (some .u32),.inl (some .i64)]),true,false⟩,⟨61,[.l (some .i64)],.b (.l (some .i64)),true,false⟩,⟨70,[.l (some .u32),.l (some .i64)],.b (.l (some .u32)),true,false⟩,⟨71,[.l (some .u32),.l (some .i64)],.b (.l (some .u32)),true,false⟩]
def QmV:List PX:= [.a (Qa 0 0 Qb),.a (Qa 1 0 Qu),.l (.n .u32 (.v 2 0))]
def Qql:List Rw:= []
def Qqj:Cfg:=⟨6,QsS,[],[],[]⟩
def QsQ:List Lf:=
 let z0:Cd:= .c (.c .lss (.v 0 6) (.i 8)) true
 let z1:Cd:= .c (.c .geq (.v 0 6) (.i 0)) true
 let z2:SX:= .c .eql (.v 0 6) (.i 0)
 let z3:SX:= .c .eql (.v 0 6) (.i 1)
 let z4:SX:= .c .eql (.v 0 6) (.i 2)
 let z5:SX:= .c .eql (.v 0 6) (.i 3)
 let z6:SX:= .c .eql (.v 0 6) (.i 4)
 let z7:SX:= .c .eql (.v 0 6) (.i 5)
 let z8:SX:= .c .eql (.v 0 6) (.i 6)
 let z9:SX:= .c .eql (.v 0 6) (.i 7)
 let z10:List LX:= [.n .u32 (.it z2 (.v 50 0) (.v 1 0)),.n .u32 (.it z3 (.v 50 0) (.v 1 1)),.n .u32 (.it z4 (.v 50 0) (.v 1 2)),.n .u32 (.it z5 (.v 50 0) (.v 1 3)),.n .u32 (.it z6 (.v 50 0) (.v 1 4)),.n .u32 (.it z7 (.v 50 0) (.v 1 5)),.n .u32 (.it z8 (.v 50 0) (.v 1 6)),.n .u32 (.it z9 (.v 50 0) (.v 1 7))]
 let z11:List Cd:= [z1,.c (.c .eql (.v 0 2) (.i 5)) false]
 let z12:List LX:= [.n .u32 (.it z2 (.v 118 0) (.v 1 0)),.n .u32 (.it z3 (.v 118 0) (.v 1 1)),.n .u32 (.it z4 (.v 118 0) (.v 1 2)),.n .u32 (.it z5 (.v 118 0) (.v 1 3)),.n .u32 (.it z6 (.v 118 0) (.v 1 4)),.n .u32 (.it z7 (.v 118 0) (.v 1 5)),.n .u32 (.it z8 (.v 118 0) (.v 1 6)),.n .u32 (.it z9 (.v 118 0) (.v 1 7))]
 let z13:Cd:= .c (.an (.c .geq (.v 0 2) (.i 6)) (.c .leq (.v 0 2) (.i 14))) false
 let z14:List LX:= [.n .u32 (.it z2 (.v 106 0) (.v 1 0)),.n .u32 (.it z3 (.v 106 0) (.v 1 1)),.n .u32 (.it z4 (.v 106 0) (.v 1 2)),.n .u32 (.it z5 (.v 106 0) (.v 1 3)),.n .u32 (.it z6 (.v 106 0) (.v 1 4)),.n .u32 (.it z7 (.v 106 0) (.v 1 5)),.n .u32 (.it z8 (.v 106 0) (.v 1 6)),.n .u32 (.it z9 (.v 106 0) (.v 1 7))]
 let z15:Cd:= .c (.c .eql (.v 0 2) (.i 16)) false
 let z16:List LX:= [.n .u32 (.it z2 (.v 122 0) (.v 1 0)),.n .u32 (.it z3 (.v 122 0) (.v 1 1)),.n .u32 (.it z4 (.v 122 0) (.v 1 2)),.n .u32 (.it z5 (.v 122 0) (.v 1 3)),.n .u32 (.it z6 (.v 122 0) (.v 1 4)),.n .u32 (.it z7 (.v 122 0) (.v 1 5)),.n .u32 (.it z8 (.v 122 0) (.v 1 6)),.n .u32 (.it z9 (.v 122 0) (.v 1 7))]
 let z17:List LX:= [.n .u32 (.it z2 (.v 2 0) (.v 1 0)),.n .u32 (.it z3 (.v 2 0) (.v 1 1)),.n .u32 (.it z4 (.v 2 0) (.v 1 2)),.n .u32 (.it z5 (.v 2 0) (.v 1 3)),.n .u32 (.it z6 (.v 2 0) (.v 1 4)),.n .u32 (.it z7 (.v 2 0) (.v 1 5)),.n .u32 (.it z8 (.v 2 0) (.v 1 6)),.n .u32 (.it z9 (.v 2 0) (.v 1 7))]
 let z18:SX:= .o .add .u32 (.r 1 1 0 (.v 0 7)) (.v 0 1)
 let z19:List LX:= [.n .u32 (.it z2 z18 (.v 1 0)),.n .u32 (.it z3 z18 (.v 1 1)),.n .u32 (.it z4 z18 (.v 1 2)),.n .u32 (.it z5 z18 (.v 1 3)),.n .u32 (.it z6 z18 (.v 1 4)),.n .u32 (.it z7 z18 (.v 1 5)),.n .u32 (.it z8 z18 (.v 1 6)),.n .u32 (.it z9 z18 (.v 1 7))]
 let z20:SX:= .o .rem .u32 (.v 2 0) (.i 2)
 let z21:List LX:= [.n .u32 (.it z2 z20 (.v 1 0)),.n .u32 (.it z3 z20 (.v 1 1)),.n .u32 (.it z4 z20 (.v 1 2)),.n .u32 (.it z5 z20 (.v 1 3)),.n .u32 (.it z6 z20 (.v 1 4)),.n .u32 (.it z7 z20 (.v 1 5)),.n .u32 (.it z8 z20 (.v 1 6)),.n .u32 (.it z9 z20 (.v 1 7))]
 let z22:List LX:= [.n .u32 (.v 1 0),.n .u32 (.v 1 1),.n .u32 (.v 1 2),.n .u32 (.v 1 3),.n .u32 (.v 1 4),.n .u32 (.v 1 5),.n .u32 (.v 1 6),.n .u32 (.o .sub .u32 (.v 1 7) (.i 4))]
 let z23:SX:= .c .eql (.v 0 2) (.i 4)
 let z24:List LX:= [.n .u32 (.it z2 (.v 2 0) (.v 1 0)),.n .u32 (.it z3 (.v 2 0) (.v 1 1)),.n .u32 (.it z4 (.v 2 0) (.v 1 2)),.n .u32 (.it z5 (.v 2 0) (.v 1 3)),.n .u32 (.it z6 (.v 2 0) (.v 1 4)),.n .u32 (.it z7 (.v 2 0) (.v 1 5)),.n .u32 (.it z8 (.v 2 0) (.v 1 6)),.n .u32 (.it z9 (.v 2 0) (.o .add .u32 (.v 1 7) (.i 4)))]
 let z25:List LX:= [.n .u32 (.v 1 0),.n .u32 (.v 1 1),.n .u32 (.v 1 2),.n .u32 (.v 1 3),.n .u32 (.v 1 4),.n .u32 (.v 1 5),.n .u32 (.v 1 6),.n .u32 (.o .add .u32 (.v 1 7) (.i 4))]
 [⟨[.f 50 0 [(.a (Qa 0 0 Qb),0),(.a (Qa 1 0 Qu),0)],z0,z1,.c (.c .eql (.v 0 2) (.i 5)) true],.v (.a z10),[⟨6,.cells 39 (Qa 0 0 Qb)⟩,⟨10,.cells 48 z10⟩,⟨14,.cells 48 z10⟩]⟩,⟨(.f 118 1 [(.l (.n .i64 (.v 86 0)),0),(.l (.n .u32 (.r 1 1 0 (.v 0 6))),0),(.l (.n .u32 (.v 114 0)),0)] :: .f 114 0 [(.a (Qa 0 0 Qb),0),(.a (Qa 1 0 Qu),0)] :: .f 86 2 [(.l (.n .i64 (.v 0 2)),0)] :: .c (.c .leq (.v 0 2) (.i 14)) true :: z0 :: .c (.c .geq (.v 0 2) (.i 6)) true :: z11),.v (.a z12),[⟨6,.cells 39 (Qa 0 0 Qb)⟩,⟨10,.cells 48 z12⟩,⟨14,.cells 48 z12⟩]⟩,⟨(.f 106 3 [(.l (.n .u32 (.v 2 0)),0),(.l (.n .i64 (.v 0 4)),0)] :: z13 :: .c (.c .eql (.v 0 2) (.i 16)) true :: z0 :: z11),.v (.a z14),[⟨6,.cells 39 (Qa 0 0 Qb)⟩,⟨10,.cells 48 z14⟩,⟨14,.cells 48 z14⟩]⟩,⟨(.f 122 4 [(.l (.n .u32 (.v 2 0)),0),(.l (.n .i64 (.v 0 4)),0)] :: z13 :: .c (.c .eql (.v 0 2) (.i 17)) true :: z15 :: z0 :: z11),.v (.a z16),[⟨6,.cells 39 (Qa 0 0 Qb)⟩,⟨10,.cells 48 z16⟩,⟨14,.cells 48 z16⟩]⟩,⟨[z1,z0,.c (.c .eql (.v 0 2) (.i 26)) true,.c (.c .eql (.v 0 2) (.i 17)) false,z15,z13,.c (.c .eql (.v 0 2) (.i 5)) false],.v (.a z17),[⟨6,.cells 39 (Qa 0 0 Qb)⟩,⟨10,.cells 48 z17⟩,⟨14,.cells 48 z17⟩]⟩,⟨(z13 :: .c (.c .eql (.v 0 2) (.i 26)) false :: .c (.c .eql (.v 0 2) (.i 19)) true :: .c (.c .eql (.v 0 2) (.i 17)) false :: z15 :: .c (.c .lss (.v 0 7) (.i 8)) true :: z0 :: .c (.c .geq (.v 0 7) (.i 0)) true :: z11),.v (.a z19),[⟨6,.cells 39 (Qa 0 0 Qb)⟩,⟨10,.cells 48 z19⟩,⟨14,.cells 48 z19⟩]⟩,⟨[z1,z0,.c (.c .eql (.v 0 2) (.i 25)) true,.c (.c .eql (.v 0 2) (.i 19)) false,.c (.c .eql (.v 0 2) (.i 26)) false,.c (.c .eql (.v 0 2) (.i 17)) false,z15,z13,.c (.c .eql (.v 0 2) (.i 5)) false],.v (.a z21),[⟨6,.cells 39 (Qa 0 0 Qb)⟩,⟨10,.cells 48 z21⟩,⟨14,.cells 48 z21⟩]⟩,⟨[.c (.c .eql (.v 0 2) (.i 3)) true,.c (.c .eql (.v 0 2) (.i 25)) false,.c (.c .eql (.v 0 2) (.i 19)) false,.c (.c .eql (.v 0 2) (.i 26)) false,.c (.c .eql (.v 0 2) (.i 17)) false,z15,z13,.c (.c .eql (.v 0 2) (.i 5)) false],.v (.a z22),[⟨6,.cells 39 (Qa 0 0 Qb)⟩,⟨10,.cells 48 z22⟩,⟨14,.cells 48 z22⟩]⟩,⟨[z1,z0,.c z23 true,.c (.an (.no z23) (.no (.c .eql (.v 0 2) (.i 2)))) false,.c (.c .eql (.v 0 2) (.i 3)) false,.c (.c .eql (.v 0 2) (.i 25)) false,.c (.c .eql (.v 0 2) (.i 19)) false,.c (.c .eql (.v 0 2) (.i 26)) false,.c (.c .eql (.v 0 2) (.i 17)) false,z15,z13,.c (.c .eql (.v 0 2) (.i 5)) false],.v (.a z24),[⟨6,.cells 39 (Qa 0 0 Qb)⟩,⟨10,.cells 48 z24⟩,⟨14,.cells 48 z24⟩]⟩,⟨[.c z23 false,.c (.an (.no z23) (.no (.c .eql (.v 0 2) (.i 2)))) false,.c (.c .eql (.v 0 2) (.i 3)) false,.c (.c .eql (.v 0 2) (.i 25)) false,.c (.c .eql (.v 0 2) (.i 19)) false,.c (.c .eql (.v 0 2) (.i 26)) false,.c (.c .eql (.v 0 2) (.i 17)) false,z15,z13,.c (.c .eql (.v 0 2) (.i 5)) false],.v (.a z25),[⟨6,.cells 39 (Qa 0 0 Qb)⟩,⟨10,.cells 48 z25⟩,⟨14,.cells 48 z25⟩]⟩,⟨[.c z23 false,.c (.c .eql (.v 0 2) (.i 2)) false,.c (.c .eql (.v 0 2) (.i 3)) false,.c (.c .eql (.v 0 2) (.i 25)) false,.c (.c .eql (.v 0 2) (.i 19)) false,.c (.c .eql (.v 0 2) (.i 26)) false,.c (.c .eql (.v 0 2) (.i 17)) false,z15,z13,.c (.c .eql (.v 0 2) (.i 5)) false],.v (.a (Qa 1 0 Qu)),[⟨6,.cells 39 (Qa 0 0 Qb)⟩,⟨10,.cells 48 (Qa 1 0 Qu)⟩,⟨14,.cells 48 (Qa 1 0 Qu)⟩]⟩]
def QsR:List Ob:=
 let z0:PX:= .a (Qa 0 0 Qb)
 let z1:PX:= .a (Qa 1 0 Qu)
 let z2:SX:= .c .geq (.v 0 6) (.i 0)
 let z3:SX:= .c .lss (.v 0 6) (.i 8)
 let z4:List Cd:= [.c (.c .eql (.v 0 2) (.i 5)) false]
 let z5:List Cd:=(.c (.c .leq (.v 0 2) (.i 14)) true :: .c (.c .geq (.v 0 2) (.i 6)) true :: z4)
 let z6:List Cd:=(.f 86 2 [(.l (.n .i64 (.v 0 2)),0)] :: z5)
 let z7:Cd:= .c (.an (.c .geq (.v 0 2) (.i 6)) (.c .leq (.v 0 2) (.i 14))) false
 let z8:PX:= .l (.n .u32 (.v 2 0))
 let z9:PX:= .l (.n .i64 (.v 0 4))
 let z10:Cd:= .c (.c .eql (.v 0 2) (.i 16)) false
 let z11:Cd:= .c (.c .eql (.v 0 2) (.i 17)) false
 let z12:Cd:= .c (.c .eql (.v 0 2) (.i 26)) false
 [.pre [.c (.c .eql (.v 0 2) (.i 5)) true] 0 [(z0,0),(z1,0)],.cl [.f 50 0 [(z0,0),(z1,0)],.c (.c .eql (.v 0 2) (.i 5)) true] z2,.cl [.f 50 0 [(z0,0),(z1,0)],.c (.c .eql (.v 0 2) (.i 5)) true] z3,.pre z5 2 [(.l (.n .i64 (.v 0 2)),0)],.pre z6 0 [(z0,0),(z1,0)],.cl z5 z2,.cl z5 z3,.cl z6 z2,.cl z6 z3,.cl (.f 114 0 [(z0,0),(z1,0)] :: z6) z2,.cl (.f 114 0 [(z0,0),(z1,0)] :: z6) z3,.pre (.c (.c .leq (.v 0 2) (.i 14)) true :: .c z3 true :: .c (.c .geq (.v 0 2) (.i 6)) true :: .c z2 true :: z4) 2 [(.l (.n .i64 (.v 0 2)),0)],.pre (.f 86 2 [(.l (.n .i64 (.v 0 2)),0)] :: .c (.c .leq (.v 0 2) (.i 14)) true :: .c z3 true :: .c (.c .geq (.v 0 2) (.i 6)) true :: .c z2 true :: z4) 0 [(z0,0),(z1,0)],.pre (.f 114 0 [(z0,0),(z1,0)] :: .f 86 2 [(.l (.n .i64 (.v 0 2)),0)] :: .c (.c .leq (.v 0 2) (.i 14)) true :: .c z3 true :: .c (.c .geq (.v 0 2) (.i 6)) true :: .c z2 true :: z4) 1 [(.l (.n .i64 (.v 86 0)),0),(.l (.n .u32 (.r 1 1 0 (.v 0 6))),0),(.l (.n .u32 (.v 114 0)),0)],.pre (z7 :: .c (.c .eql (.v 0 2) (.i 16)) true :: z4) 3 [(z8,0),(z9,0)],.cl (.f 106 3 [(z8,0),(z9,0)] :: z7 :: .c (.c .eql (.v 0 2) (.i 16)) true :: z4) z2,.cl (.f 106 3 [(z8,0),(z9,0)] :: z7 :: .c (.c .eql (.v 0 2) (.i 16)) true :: z4) z3,.pre (z7 :: .c (.c .eql (.v 0 2) (.i 17)) true :: z10 :: z4) 4 [(z8,0),(z9,0)],.cl (.f 122 4 [(z8,0),(z9,0)] :: z7 :: .c (.c .eql (.v 0 2) (.i 17)) true :: z10 :: z4) z2,.cl (.f 122 4 [(z8,0),(z9,0)] :: z7 :: .c (.c .eql (.v 0 2) (.i 17)) true :: z10 :: z4) z3,.cl (.c (.c .eql (.v 0 2) (.i 26)) true :: z11 :: z10 :: z7 :: z4) z2,.cl (.c (.c .eql (.v 0 2) (.i 26)) true :: z11 :: z10 :: z7 :: z4) z3,.cl (z7 :: z12 :: .c (.c .eql (.v 0 2) (.i 19)) true :: z11 :: z10 :: z4) (.c .geq (.v 0 7) (.i 0)),.cl (z7 :: z12 :: .c (.c .eql (.v 0 2) (.i 19)) true :: z11 :: z10 :: z4) (.c .lss (.v 0 7) (.i 8)),.cl (z7 :: z12 :: .c (.c .eql (.v 0 2) (.i 19)) true :: z11 :: z10 :: .c (.c .lss (.v 0 7) (.i 8)) true :: .c (.c .geq (.v 0 7) (.i 0)) true :: z4) z2,.cl (z7 :: z12 :: .c (.c .eql (.v 0 2) (.i 19)) true :: z11 :: z10 :: .c (.c .lss (.v 0 7) (.i 8)) true :: .c (.c .geq (.v 0 7) (.i 0)) true :: z4) z3,.cl (.c (.c .eql (.v 0 2) (.i 25)) true :: .c (.c .eql (.v 0 2) (.i 19)) false :: z12 :: z11 :: z10 :: z7 :: z4) z2,.cl (.c (.c .eql (.v 0 2) (.i 25)) true :: .c (.c .eql (.v 0 2) (.i 19)) false :: z12 :: z11 :: z10 :: z7 :: z4) z3,.cl (.c (.c .eql (.v 0 2) (.i 4)) true :: .c (.an (.no (.c .eql (.v 0 2) (.i 4))) (.no (.c .eql (.v 0 2) (.i 2)))) false :: .c (.c .eql (.v 0 2) (.i 3)) false :: .c (.c .eql (.v 0 2) (.i 25)) false :: .c (.c .eql (.v 0 2) (.i 19)) false :: z12 :: z11 :: z10 :: z7 :: z4) z2,.cl (.c (.c .eql (.v 0 2) (.i 4)) true :: .c (.an (.no (.c .eql (.v 0 2) (.i 4))) (.no (.c .eql (.v 0 2) (.i 2)))) false :: .c (.c .eql (.v 0 2) (.i 3)) false :: .c (.c .eql (.v 0 2) (.i 25)) false :: .c (.c .eql (.v 0 2) (.i 19)) false :: z12 :: z11 :: z10 :: z7 :: z4) z3]
theorem Qqk:QP Try.prog Qqj 1000 4 27 Try.f27 QmV Qql=some (QsQ,QsR):=by kernel_rfl
def Qry:List (Kon Try.prog):= [Kj.kon,Qcl.kon,Qgg.kon,QdU.kon,Qlb.kon]
set_option maxHeartbeats 4000000 in
theorem Qrz(i:Ins)(x:Nat→Int)(n:Int)(h:(i.wf∧Qj i=true)∧(∀k,Q5 (x k))∧Q5 n)(w:World):Calls Try.prog 27 #[i.val,WK x,.int .u32 n] w (Ret (WK (ZG i x n)) w):=by
 have hv:=QN h.1.2
 have hsx:Kc i (X5 x 0)=Kc i x:=by
  unfold Kc
  split
  ·exact QnG (by omega)
  ·rfl
 refine ZK (C:=Qry) (I:= []) Qr rfl Try.func27 Qqk (Kh [nmI (Q9 i),nmI x,nmN n]) w rfl (fun r hr=>(List.not_mem_nil hr).elim) _ ?_ ?_
 ·refine⟨?_,?_,?_,?_,?_,?_,?_,?_,?_,?_,?_,?_,?_,?_,?_,?_,?_,?_,?_,?_,?_,?_,?_,?_,?_,?_,?_,?_,?_,?_,trivial⟩
  all_goals
   intro e he hc
   have h0:e.nm 0=nmI (Q9 i):=he 0 (by decide)
   have h1:e.nm 1=nmI x:=he 1 (by decide)
   have h2:e.nm 2=nmN n:=he 2 (by decide)
   have hi:QcI e 0=i:=ZE e 0 (show(e.nm 0).int=Q9 i by rw [h0];rfl)
   simp only [QC,Zb,Cd.holds,dv1,dv2,di1,db2,dr1,dr2,dq1,dq2,do1,Z1,Z0,Zx,Zw,Zz,Zy,Zv,Zu,Zt,Zs,Z3,Z2,Xt,Xs,Xp,Xo,Xr,Xq,List.map_cons,List.map_nil,Nat.mul_one,Nat.add_zero,List.getElem?_cons_zero,List.getElem?_cons_succ,Option.some.injEq,exists_eq_left',and_true,and_assoc,Env.int,Env.bool,Qry,Con.kon_post,Con.kon_pre,QI,QT,Kj,Qcl,Qgg,QdU,Qlb,Ji,QB,Q3,Z9,hi,hsx,h0,h1,h2,nmI,nmN,Q9]at hc ⊢
  all_goals
   first
    |omega
    |exact h.2.2
    |trivial
    |(have ho:=QtW (op:=i.op) (by omega) (by omega)
      refine⟨?_,?_,h.2.1 _,?_⟩
      all_goals
       simp only [hc]
       first
        |exact ho.1
        |exact ho.2
        |exact Qcq h.1.1 h.2.1)
 ·refine⟨?_,?_,?_,?_,?_,?_,?_,?_,?_,?_,?_,trivial⟩
  all_goals
   intro e u he hc hs
   have h0:e.nm 0=nmI (Q9 i):=he 0 (by decide)
   have h1:e.nm 1=nmI x:=he 1 (by decide)
   have h2:e.nm 2=nmN n:=he 2 (by decide)
   have hi:QcI e 0=i:=ZE e 0 (show(e.nm 0).int=Q9 i by rw [h0];rfl)
   have hx:∀k,(e.nm 1).int k=x k:=fun k=>by rw [h1];rfl
   have ha:(e.nm 0).int 6=i.a:=by rw [h0];rfl
   rw [show u=_ from hs]
   clear hs
   simp only [QC,Zb,Cd.holds,dv1,dv2,di1,db2,dr1,dr2,dq1,dq2,do1,Z1,Z0,Zx,Zw,Zz,Zy,Zv,Zu,Zt,Zs,Z3,Z2,Xt,Xs,Xp,Xo,Xr,Xq,List.map_cons,List.map_nil,Nat.mul_one,Nat.add_zero,List.getElem?_cons_zero,List.getElem?_cons_succ,Option.some.injEq,exists_eq_left',and_true,and_assoc,Env.int,Env.bool,Qry,Con.kon_post,Con.kon_pre,QI,QT,Kj,Qcl,Qgg,QdU,Qlb,Ji,QB,Q3,Z9,hi,h0,h1,h2,nmI,nmN,Q9,hsx]at hc
  ·have ho:i.op=5:=by(have hpq:=hc;(repeat (first|exact hpq|exact hpq.1|replace hpq:=hpq.2));done)
   rw [show ZG i x n=Kr x i.a (Kc i x)by unfold ZG;simp [ho]]
   exact Yk ha (congrFun hc.1 0) (hx 0) (hx 1) (hx 2) (hx 3) (hx 4) (hx 5) (hx 6) (hx 7)
  ·have h5:¬i.op=5:=by(have hpq:=hc;(repeat (first|exact hpq|exact hpq.1|replace hpq:=hpq.2));done)
   have h6:6≤i.op:=by(have hpq:=hc;(repeat (first|exact hpq|exact hpq.1|replace hpq:=hpq.2));done)
   have h7:i.op≤14:=by(have hpq:=hc;(repeat (first|exact hpq|exact hpq.1|replace hpq:=hpq.2));done)
   rw [show ZG i x n=Kr x i.a (XI (opL i.op - 3).toNat (x i.a.toNat) (Kc i x))by unfold ZG;rw [if_neg h5,if_pos ⟨h6,h7⟩]]
   refine Yk ha ?_ (hx 0) (hx 1) (hx 2) (hx 3) (hx 4) (hx 5) (hx 6) (hx 7)
   show(e.nm 118).int 0=_
   rw [hc.1,hc.2.2.1,hc.2.2.2.2.1]
   rfl
  ·have ho:i.op=16:=by(have hpq:=hc;(repeat (first|exact hpq|exact hpq.1|replace hpq:=hpq.2));done)
   rw [show ZG i x n=Kr x i.a (Kd n i.width)by unfold ZG;simp [ho]]
   exact Yk ha (congrFun hc.1 0) (hx 0) (hx 1) (hx 2) (hx 3) (hx 4) (hx 5) (hx 6) (hx 7)
  ·have ho:i.op=17:=by(have hpq:=hc;(repeat (first|exact hpq|exact hpq.1|replace hpq:=hpq.2));done)
   rw [show ZG i x n=Kr x i.a (QaA n i.width)by unfold ZG;simp [ho]]
   exact Yk ha (congrFun hc.1 0) (hx 0) (hx 1) (hx 2) (hx 3) (hx 4) (hx 5) (hx 6) (hx 7)
  ·have ho:i.op=26:=by(have hpq:=hc;(repeat (first|exact hpq|exact hpq.1|replace hpq:=hpq.2));done)
   rw [show ZG i x n=Kr x i.a n by unfold ZG;simp [ho]]
   exact Yk ha (show(e.nm 2).int 0=n by rw [h2];rfl) (hx 0) (hx 1) (hx 2) (hx 3) (hx 4) (hx 5) (hx 6) (hx 7)
  ·have ho:i.op=19:=by(have hpq:=hc;(repeat (first|exact hpq|exact hpq.1|replace hpq:=hpq.2));done)
   rw [show ZG i x n=Kr x i.a ((x i.b.toNat+i.imm) % 4294967296)by unfold ZG;simp [ho]]
   refine Yk ha ?_ (hx 0) (hx 1) (hx 2) (hx 3) (hx 4) (hx 5) (hx 6) (hx 7)
   simp only [QC,Zb,Cd.holds,dv1,dv2,di1,db2,dr1,dr2,dq1,dq2,do1,Z1,Z0,Zx,Zw,Zz,Zy,Zv,Zu,Zt,Zs,Z3,Z2,Xt,Xs,Xp,Xo,Xr,Xq,List.map_cons,List.map_nil,Nat.mul_one,Nat.add_zero,List.getElem?_cons_zero,List.getElem?_cons_succ,Option.some.injEq,exists_eq_left',and_true,and_assoc,Env.int,Env.bool,h0,h1,nmI,Q9,IntKind.wrap_u32]
  ·have ho:i.op=25:=by(have hpq:=hc;(repeat (first|exact hpq|exact hpq.1|replace hpq:=hpq.2));done)
   rw [show ZG i x n=Kr x i.a (n % 2)by unfold ZG;simp [ho]]
   refine Yk ha ?_ (hx 0) (hx 1) (hx 2) (hx 3) (hx 4) (hx 5) (hx 6) (hx 7)
   have hn:=h.2.2
   have hn1:=hn.1
   have hn2:=hn.2
   simp only [SX.den,arI,Env.int,h2,nmN,nmI,IntKind.wrap_u32]
   rw [Int.tmod_eq_emod_of_nonneg hn1]
  ·have ho:i.op=3:=by(have hpq:=hc;(repeat (first|exact hpq|exact hpq.1|replace hpq:=hpq.2));done)
   rw [show ZG i x n=Kr x 7 ((x 7 - 4) % 4294967296)by unfold ZG;simp [ho]]
   refine QrJ ?_ (hx 0) (hx 1) (hx 2) (hx 3) (hx 4) (hx 5) (hx 6)
   simp only [SX.den,arI,Env.int,h1,nmI,IntKind.wrap_u32]
  ·have ho:i.op=4:=by(have hpq:=hc;(repeat (first|exact hpq|exact hpq.1|replace hpq:=hpq.2));done)
   rw [show ZG i x n=Kr (Kr x 7 ((x 7+4) % 4294967296)) i.a n by unfold ZG;simp [ho]]
   refine Yk ha (show(e.nm 2).int 0=n by rw [h2];rfl) (hx 0) (hx 1) (hx 2) (hx 3) (hx 4) (hx 5) (hx 6) ?_
   simp only [QC,Zb,Cd.holds,dv1,dv2,di1,db2,dr1,dr2,dq1,dq2,do1,Z1,Z0,Zx,Zw,Zz,Zy,Zv,Zu,Zt,Zs,Z3,Z2,Xt,Xs,Xp,Xo,Xr,Xq,List.map_cons,List.map_nil,Nat.mul_one,Nat.add_zero,List.getElem?_cons_zero,List.getElem?_cons_succ,Option.some.injEq,exists_eq_left',and_true,and_assoc,Env.int,Env.bool,h1,nmI,IntKind.wrap_u32]
   rfl
  ·have ho:i.op=2:=by
    have h1:¬i.op=4:=by(have hpq:=hc;(repeat (first|exact hpq|exact hpq.1|replace hpq:=hpq.2));done)
    have h2:¬(¬i.op=4∧¬i.op=2):=by(have hpq:=hc;(repeat (first|exact hpq|exact hpq.1|replace hpq:=hpq.2));done)
    omega
   rw [show ZG i x n=Kr x 7 ((x 7+4) % 4294967296)by unfold ZG;simp [ho]]
   refine QrJ ?_ (hx 0) (hx 1) (hx 2) (hx 3) (hx 4) (hx 5) (hx 6)
   simp only [QC,Zb,Cd.holds,dv1,dv2,di1,db2,dr1,dr2,dq1,dq2,do1,Z1,Z0,Zx,Zw,Zz,Zy,Zv,Zu,Zt,Zs,Z3,Z2,Xt,Xs,Xp,Xo,Xr,Xq,List.map_cons,List.map_nil,Nat.mul_one,Nat.add_zero,List.getElem?_cons_zero,List.getElem?_cons_succ,Option.some.injEq,exists_eq_left',and_true,and_assoc,Env.int,Env.bool,h1,nmI,IntKind.wrap_u32]
  ·have hm:ZG i x n=x:=by
    have g1:¬i.op=5:=by(have hpq:=hc;(repeat (first|exact hpq|exact hpq.1|replace hpq:=hpq.2));done)
    have g2:¬(6≤i.op∧i.op≤14):=by(have hpq:=hc;(repeat (first|exact hpq|exact hpq.1|replace hpq:=hpq.2));done)
    have g3:¬i.op=16:=by(have hpq:=hc;(repeat (first|exact hpq|exact hpq.1|replace hpq:=hpq.2));done)
    have g4:¬i.op=17:=by(have hpq:=hc;(repeat (first|exact hpq|exact hpq.1|replace hpq:=hpq.2));done)
    have g5:¬i.op=26:=by(have hpq:=hc;(repeat (first|exact hpq|exact hpq.1|replace hpq:=hpq.2));done)
    have g6:¬i.op=19:=by(have hpq:=hc;(repeat (first|exact hpq|exact hpq.1|replace hpq:=hpq.2));done)
    have g7:¬i.op=25:=by(have hpq:=hc;(repeat (first|exact hpq|exact hpq.1|replace hpq:=hpq.2));done)
    have g8:¬i.op=3:=by(have hpq:=hc;(repeat (first|exact hpq|exact hpq.1|replace hpq:=hpq.2));done)
    have g9:¬i.op=4:=by(have hpq:=hc;(repeat (first|exact hpq|exact hpq.1|replace hpq:=hpq.2));done)
    have g10:¬i.op=2:=by(have hpq:=hc;(repeat (first|exact hpq|exact hpq.1|replace hpq:=hpq.2));done)
    unfold ZG
    rw [if_neg g1,if_neg g2,if_neg g3,if_neg g4,if_neg g5,if_neg g6,if_neg g7,if_neg g8,if_neg g9,if_neg g10]
   rw [hm]
   exact Qup (hx 0) (hx 1) (hx 2) (hx 3) (hx 4) (hx 5) (hx 6) (hx 7)
end Go.Proofs.Yteplnamfpodmlaa.T2
namespace Go.Proofs.Yteplnamfpodmlaa
open Go.ChangeShapes Go.WideShapes Go.ChangeAt Go.RowKit T2
def QbW:Con Try.prog:= .mk' ⟨27,[.a Qb,.a Qu,.l (some .u32)],.a Qu,true⟩
 (fun ads=>match ads with| [d1,d2,d3]=>((Q0 d1).wf∧Qj (Q0 d1)=true)∧(∀k,Q5 ((Xh d2) k))∧Q5 (Q8 d3)|_=>False)
 (fun ads=>match ads with| [d1,d2,d3]=>ZG (Q0 d1) (Xh d2) (Q8 d3)|_=>fun _=>0)
 (fun ads=>match ads with| [d1,d2,d3]=>fun _=>false|_=>fun _=>false)
 ⟨_,Try.func27,by kernel_rfl,by kernel_rfl⟩ (fun ads w hf hp=>by
   obtain⟨d1,_,rfl,f1,hf⟩:=Qf hf
   obtain⟨d2,_,rfl,f2,hf⟩:=Qf hf
   obtain⟨d3,_,rfl,f3,hf⟩:=Qf hf
   obtain rfl:=Qn hf
   show Calls _ _ #[d1.val,d2.val,d3.val] w _
   rw [Zc f1,Qdx f2,QH f3]
   exact Qrz (Q0 d1) (Xh d2) (Q8 d3) hp w)
theorem QoR(a b:Int)(h:Q5 a∧Q5 b)(w:World):Calls Try.prog 30 #[.int .u32 a,.int .u32 b] w (Ret (.tuple #[.int .u32 ((a - b) % 4294967296),fl (QaV a b) (subN a b) (Qe6 a b) (subV a b)]) w):=QrX a b h w
def QdT:Con Try.prog:= .mk' ⟨30,[.l (some .u32),.l (some .u32)],.tp [.inl (some .u32),.inr Ky],true⟩
 (fun ads=>match ads with| [d1,d2]=>Q5 (Q8 d1)∧Q5 (Q8 d2)|_=>False)
 (fun ads=>match ads with| [d1,d2]=>fun _=>((Q8 d1) - (Q8 d2)) % 4294967296|_=>fun _=>0)
 (fun ads=>match ads with| [d1,d2]=>fun j=>if j=1 then QaV (Q8 d1) (Q8 d2)else if j=2 then subN (Q8 d1) (Q8 d2)else if j=3 then Qe6 (Q8 d1) (Q8 d2)else subV (Q8 d1) (Q8 d2)|_=>fun _=>false)
 ⟨_,Try.func30,by kernel_rfl,by kernel_rfl⟩ (fun ads w hf hp=>by
   obtain⟨d1,_,rfl,f1,hf⟩:=Qf hf
   obtain⟨d2,_,rfl,f2,hf⟩:=Qf hf
   obtain rfl:=Qn hf
   show Calls _ _ #[d1.val,d2.val] w _
   rw [QH f1,QH f2]
   exact QoR (Q8 d1) (Q8 d2) hp w)
end Go.Proofs.Yteplnamfpodmlaa
end
