/-
  Part of the proof.
-/
import Derived.Test.YteplnamfpodmlaaGreatQKit
set_option linter.unusedVariables false
set_option linter.unusedSimpArgs false
set_option maxRecDepth 100000
open Go.ChangeShapes Go.WideShapes Go.ChangeAt Go.RowKit
section
namespace Go.Proofs.YteplnamfpodmlaaGreat
theorem Xy(w:World):Calls Tryz.prog 36 #[] w (Ret Qp.val w):=by
 go_enter Tryz.func36,Tryz.ntmps36
 go_wp2
 go_returns
 exact⟨rfl,by go_grown⟩
theorem JZ(w:World):Calls Tryz.prog 32 #[] w (Ret Qt.val w):=by
 go_enter Tryz.func32,Tryz.ntmps32
 go_wp2
 go_returns
 exact⟨rfl,by go_grown⟩
theorem WG(n:Int)(w:World):Calls Tryz.prog 29 #[.int .u32 n] w (Ret (Zs n).val w):=by
 go_enter Tryz.func29,Tryz.ntmps29
 go_wp2
 go_returns
 exact⟨rfl,by go_grown⟩
theorem Z1(w:World):Calls Tryz.prog 19 #[] w (Ret Qp.val w):=by
 go_enter Tryz.func19,Tryz.ntmps19
 go_wp2
 go_returns
 exact⟨rfl,by go_grown⟩
theorem KB(w:World):Calls Tryz.prog 18 #[] w (Ret Qt.val w):=by
 go_enter Tryz.func18,Tryz.ntmps18
 go_wp2
 go_returns
 exact⟨rfl,by go_grown⟩
theorem YV(n:Int)(w:World):Calls Tryz.prog 76 #[.int .u32 n] w (Ret (Zs n).val w):=by
 go_enter Tryz.func76,Tryz.ntmps76
 go_wp2
 go_returns
 exact⟨rfl,by go_grown⟩
def Qj(lo hi st:Int):Qd:=
 if hi < lo then Qt
 else if st=0 then Zs lo
 else if hi - lo < st then Zs lo
 else if lo=0∧hi=4294967295∧st=1 then Qp
 else⟨false,false,lo,hi - (hi - lo) % st,st⟩
set_option maxHeartbeats 1000000 in
theorem Z8(lo hi st:Int)(l0:0≤lo)(l1:lo < 4294967296)(h0:0≤hi)(h1:hi < 4294967296)(s0:0≤st)(s1:st < 4294967296)(w:World) :
 Calls Tryz.prog 31 #[.int .u32 lo,.int .u32 hi,.int .u32 st] w (Ret (Qj lo hi st).val w):=by
 by_cases c1:hi < lo
 ·have e:Qj lo hi st=Qt:=by unfold Qj;rw [if_pos c1]
  rw [e];clear e
  go_enter Tryz.func31,Tryz.ntmps31
  go_wp2
  go_returns
  exact⟨rfl,by go_grown⟩
 by_cases c2:st=0
 ·have e:Qj lo hi st=Zs lo:=by unfold Qj;rw [if_neg c1,if_pos c2]
  rw [e];clear e;subst c2
  go_enter Tryz.func31,Tryz.ntmps31
  go_wp2
  go_returns
  exact⟨rfl,by go_grown⟩
 have c3':(st==0)=false:=by rw [beq_eq_false_iff_ne];exact c2
 by_cases c3:hi - lo < st
 ·have e:Qj lo hi st=Zs lo:=by unfold Qj;rw [if_neg c1,if_neg c2,if_pos c3]
  rw [e];clear e
  go_enter Tryz.func31,Tryz.ntmps31
  go_wp2
  go_returns
  exact⟨rfl,by go_grown⟩
 by_cases c4:lo=0∧hi=4294967295∧st=1
 ·have e:Qj lo hi st=Qp:=by unfold Qj;rw [if_neg c1,if_neg c2,if_neg c3,if_pos c4]
  rw [e];clear e;obtain⟨rfl,rfl,rfl⟩:=c4
  go_enter Tryz.func31,Tryz.ntmps31
  go_wp2
  go_returns
  exact⟨rfl,by go_grown⟩
 have e:Qj lo hi st=⟨false,false,lo,hi - (hi - lo) % st,st⟩:=by unfold Qj;rw [if_neg c1,if_neg c2,if_neg c3,if_neg c4]
 rw [e];clear e;have m1:0≤(hi - lo) % st:=Int.emod_nonneg _ c2
 have m2:(hi - lo) % st≤hi - lo:=by
  have:=Int.emod_lt_of_pos (hi - lo) (by omega:0 < st)
  omega
 have m3:0≤hi - lo:=by omega
 have c5:(lo==0 && (hi==4294967295 && st==1))=false:=by
  rw [Bool.eq_false_iff];simp only [ne_eq,Bool.and_eq_true,beq_iff_eq];exact c4
 have c6:(lo==0)=false∨(lo==0)=true∧(hi==4294967295)=false∨(lo==0)=true∧(hi==4294967295)=true∧(st==1)=false:=by
  cases h1:(lo==0) <;> cases h2:(hi==4294967295) <;> cases h3:(st==1) <;> simp_all
 clear c4 c5;rcases c6 with d1|⟨d1,d2⟩|⟨d1,d2,d3⟩
 ·go_enter Tryz.func31,Tryz.ntmps31
  go_wp2
  go_returns
  exact⟨rfl,by go_grown⟩
 ·go_enter Tryz.func31,Tryz.ntmps31
  go_wp2
  go_returns
  exact⟨rfl,by go_grown⟩
 ·go_enter Tryz.func31,Tryz.ntmps31
  go_wp2
  go_returns
  exact⟨rfl,by go_grown⟩
end Go.Proofs.YteplnamfpodmlaaGreat
end
section
namespace Go.Proofs.YteplnamfpodmlaaGreat
def Zr(a b:Int):Int:=(Nat.gcd a.toNat b.toNat:Int)
theorem Ka(a:Int)(h:0≤a):Zr a 0=a:=by unfold Zr;simp;omega
theorem QeK(a b:Int)(ha:0≤a)(hb:0 < b):Zr b (a % b)=Zr a b:=by
 obtain⟨A,rfl⟩:=Int.eq_ofNat_of_zero_le ha;obtain⟨B,rfl⟩:=Int.eq_ofNat_of_zero_le (Int.le_of_lt hb);unfold Zr;have e:((A:Int) % (B:Int)).toNat=A % B:=by rw [←Int.natCast_emod,Int.toNat_natCast]
 rw [e,Int.toNat_natCast,Int.toNat_natCast,Nat.gcd_comm B,←Nat.gcd_rec,Nat.gcd_comm]
theorem QT(a b:Int):0≤Zr a b:=Int.natCast_nonneg _
theorem Jo(a b m:Int)(ha:0≤a)(hb:0≤b)(ha':a≤m)(hb':b≤m):Zr a b≤m:=by
 obtain⟨A,rfl⟩:=Int.eq_ofNat_of_zero_le ha;obtain⟨B,rfl⟩:=Int.eq_ofNat_of_zero_le hb;unfold Zr;simp only [Int.toNat_natCast];rcases Nat.eq_zero_or_pos A with h|h
 ·subst h;simp;exact hb'
 ·have:=Nat.gcd_le_left B h;omega
end Go.Proofs.YteplnamfpodmlaaGreat
end
section
namespace Go.Proofs.YteplnamfpodmlaaGreat
theorem QnG(e t:Bool)(lo hi st:Int)(h:((⟨e,t,lo,hi,st⟩:Qd)==Qp)=true):t=true:=by
 have:=of_decide_eq_true h;simp only [Qp,Qd.mk.injEq]at this;exact this.2.1
set_option maxHeartbeats 1000000 in
theorem Qr6(e t:Bool)(lo hi st:Int)(h:t=true∨e=true)(w:World):Calls Tryz.prog 51 #[.agg #[.bool e,.bool t,.int .u32 lo,.int .u32 hi,.int .u32 st]] w (Ret (.bool ((⟨e,t,lo,hi,st⟩:Qd)==Qp || (⟨e,t,lo,hi,st⟩:Qd)==Qt)) w):=by
 have q1:=Yb ⟨e,t,lo,hi,st⟩ Qp;have q2:=Yb ⟨e,t,lo,hi,st⟩ Qt;cases q:((⟨e,t,lo,hi,st⟩:Qd)==Qp)
 ·rw [q]at q1;cases t
  ·have e1:e=true:=by simpa using h
   subst e1;clear h
   go_enter Tryz.func51,Tryz.ntmps51
   go_wp2_with fail
   go_region_held3 (fun w'=>(∀o,w'.cell? ⟨w.heap.size,o,none⟩=(#[.bool true,.bool false,.int .u32 lo,.int .u32 hi,.int .u32 st]:Array Value)[o]?)∧w.heap.size < w'.heap.size∧Below w.heap.size w w')
    (first|exact⟨((Blk.new _ _ _).drew).walk.1,by simp,by go_grown⟩|(go_split_ands;exact⟨fun o=>((QnA hb2).1 _ _ (by assumption)).trans (by apply_assumption),by have:=hb2.size;omega,after (by assumption) hb2⟩))
    (first|(go_at_call 36;(with_reducible refine(Xy _).mono ?_);rintro e w2 ⟨rfl,hb2⟩)|(go_at_call 32;(with_reducible refine(JZ _).mono ?_);rintro e w2 ⟨rfl,hb2⟩))
   go_split_ands
   go_wp2
   go_returns
   exact⟨rfl,by assumption⟩
  ·clear h
   go_enter Tryz.func51,Tryz.ntmps51
   go_wp2_with fail
   go_region_held3 (fun w'=>(∀o,w'.cell? ⟨w.heap.size,o,none⟩=(#[.bool e,.bool true,.int .u32 lo,.int .u32 hi,.int .u32 st]:Array Value)[o]?)∧w.heap.size < w'.heap.size∧Below w.heap.size w w')
    (first|exact⟨((Blk.new _ _ _).drew).walk.1,by simp,by go_grown⟩|(go_split_ands;exact⟨fun o=>((QnA hb2).1 _ _ (by assumption)).trans (by apply_assumption),by have:=hb2.size;omega,after (by assumption) hb2⟩))
    (first|(go_at_call 36;(with_reducible refine(Xy _).mono ?_);rintro e w2 ⟨rfl,hb2⟩)|(go_at_call 32;(with_reducible refine(JZ _).mono ?_);rintro e w2 ⟨rfl,hb2⟩))
   go_split_ands
   go_wp2
   go_returns
   exact⟨rfl,by assumption⟩
 ·have e1:t=true:=QnG e t lo hi st q;subst e1;rw [q]at q1;clear h
  go_enter Tryz.func51,Tryz.ntmps51
  go_wp2_with fail
  go_region_with (first|(go_at_call 36;(with_reducible refine(Xy _).mono ?_);rintro e w2 ⟨rfl,hb2⟩;(have hg2:=after (w:=w) (by go_grown) hb2);(have hk2:=(((Blk.new _ _ _).drew).call hb2).walk.1)))
  all_goals (go_wp2;go_returns;exact⟨rfl,by assumption⟩)
theorem QbG(e t:Bool)(lo hi st:Int)(h:t=true∨e=true):Qx ⟨e,t,lo,hi,st⟩=((⟨e,t,lo,hi,st⟩:Qd)==Qp || (⟨e,t,lo,hi,st⟩:Qd)==Qt):=by
 unfold Qx;have:(t || e)=true:=by rcases h with rfl|rfl <;> simp
 simp only [this,if_true]
theorem Qbd(lo hi:Int):Qx ⟨false,false,lo,hi,0⟩=(lo==hi):=rfl
theorem Qbc(lo hi st:Int)(h:st≠0):Qx ⟨false,false,lo,hi,st⟩=(decide (lo < hi) && ((hi - lo) % st==0) && (decide (0 < lo) || decide (hi < 4294967295) || decide (1 < st))):=by
 unfold Qx;have:(st==0)=false:=by rw [beq_eq_false_iff_ne];exact h
 simp only [Bool.or_self,Bool.false_eq_true,if_false,this]
set_option maxHeartbeats 1000000 in
theorem Qfp(s:Qd)(hs:s.wf)(w:World):Calls Tryz.prog 51 #[s.val] w (Ret (.bool (Qx s)) w):=by
 obtain⟨e,t,lo,hi,st⟩:=s;by_cases h:t=true∨e=true
 ·rw [QbG e t lo hi st h];exact Qr6 e t lo hi st h w
 obtain⟨l0,l1,h0,h1,s0,s1⟩:=hs
 dsimp only at l0 l1 h0 h1 s0 s1
 obtain rfl:t=false:=by cases t <;> simp_all
 obtain rfl:e=false:=by cases e <;> simp_all
 clear h;by_cases c:st=0
 ·subst c;rw [Qbd];show Calls Tryz.prog 51 #[.agg #[.bool false,.bool false,.int .u32 lo,.int .u32 hi,.int .u32 0]] w _
  go_enter Tryz.func51,Tryz.ntmps51
  go_wp2
  go_returns
  exact⟨rfl,by go_grown⟩
 rw [Qbc lo hi st c];have c1:(st==0)=false:=by rw [beq_eq_false_iff_ne];exact c
 show Calls Tryz.prog 51 #[.agg #[.bool false,.bool false,.int .u32 lo,.int .u32 hi,.int .u32 st]] w _;by_cases d:lo < hi
 ·have d2:0≤hi - lo:=by omega
  rw [decide_eq_true d];cases m:((hi - lo) % st==0)
  ·show Calls Tryz.prog 51 _ _ (Ret (.bool false) w)
   go_enter Tryz.func51,Tryz.ntmps51
   go_wp2
   go_returns
   exact⟨rfl,by go_grown⟩
  ·by_cases x1:0 < lo
   ·rw [decide_eq_true x1];show Calls Tryz.prog 51 _ _ (Ret (.bool true) w)
    go_enter Tryz.func51,Tryz.ntmps51
    go_wp2
    go_returns
    exact⟨rfl,by go_grown⟩
   ·rw [decide_eq_false x1];by_cases x2:hi < 4294967295
    ·rw [decide_eq_true x2];show Calls Tryz.prog 51 _ _ (Ret (.bool true) w)
     go_enter Tryz.func51,Tryz.ntmps51
     go_wp2
     go_returns
     exact⟨rfl,by go_grown⟩
    ·rw [decide_eq_false x2];show Calls Tryz.prog 51 _ _ (Ret (.bool (decide (1 < st))) w)
     go_enter Tryz.func51,Tryz.ntmps51
     go_wp2
     go_returns
     exact⟨rfl,by go_grown⟩
 ·rw [decide_eq_false d];show Calls Tryz.prog 51 _ _ (Ret (.bool false) w)
  go_enter Tryz.func51,Tryz.ntmps51
  go_wp2
  go_returns
  exact⟨rfl,by go_grown⟩
theorem ZS(s:Qd)(hs:s.wf)(w:World):Calls Tryz.prog 52 #[s.val] w (Ret (Zb s).val w):=by
 have x:=Qfp s hs;unfold Zb;cases h:Qx s
 ·rw [h]at x
  go_enter Tryz.func52,Tryz.ntmps52
  go_wp2_with (first|(go_at_call 51;(with_reducible refine(x _).mono ?_);rintro e w1 ⟨rfl,hb1⟩;(have hR:=(Blk.new _ _ _).call hb1);simp only [World.size_alloc]at hR;obtain⟨hc,hf⟩:=hR.walk;(have hg:=after (w:=w) (by go_grown) hb1);(have hs1:=hg.size)))
  go_wp2_with (first|(go_at_call 36;(with_reducible refine(Xy _).mono ?_);rintro e w2 ⟨rfl,hb2⟩;(have hR2:=hR.call hb2);obtain⟨hc2,hf2⟩:=hR2.walk;(have hg2:=after hg hb2);(have hs2:=hg2.size)))
  exact bodyPost_ret (v:=Qp.val) (Qf rfl rfl (hR2.put (a:=⟨false,false,0,0,0⟩) Qp)) rfl ⟨rfl,Qe hg2 (by omega) _⟩
 ·rw [h]at x
  go_enter Tryz.func52,Tryz.ntmps52
  go_wp2_with (first|(go_at_call 51;(with_reducible refine(x _).mono ?_);rintro e w1 ⟨rfl,hb1⟩;(have hS:=((Blk.new _ _ _).alloc _).call hb1);(have hR:=(Blk.new _ _ _).call hb1);simp only [World.size_alloc]at hR;obtain⟨hc,hf⟩:=hR.walk;obtain⟨hc2,hf2⟩:=hS.walk;(have hg:=after (w:=w) (by go_grown) hb1);(have hs1:=hg.size)))
  exact bodyPost_ret (v:=s.val) (Qf rfl rfl (hR.put (a:=⟨false,false,0,0,0⟩) s)) rfl ⟨rfl,Qe hg (by omega) _⟩
set_option maxHeartbeats 1000000 in
theorem QoR(e t:Bool)(lo hi st:Int)(h:t=true∨e=true)(w:World):Calls Tryz.prog 103 #[.agg #[.bool e,.bool t,.int .u32 lo,.int .u32 hi,.int .u32 st]] w (Ret (.bool ((⟨e,t,lo,hi,st⟩:Qd)==Qp || (⟨e,t,lo,hi,st⟩:Qd)==Qt)) w):=by
 have q1:=Yb ⟨e,t,lo,hi,st⟩ Qp;have q2:=Yb ⟨e,t,lo,hi,st⟩ Qt;cases q:((⟨e,t,lo,hi,st⟩:Qd)==Qp)
 ·rw [q]at q1;cases t
  ·have e1:e=true:=by simpa using h
   subst e1;clear h
   go_enter Tryz.func103,Tryz.ntmps103
   go_wp2_with fail
   go_region_held3 (fun w'=>(∀o,w'.cell? ⟨w.heap.size,o,none⟩=(#[.bool true,.bool false,.int .u32 lo,.int .u32 hi,.int .u32 st]:Array Value)[o]?)∧w.heap.size < w'.heap.size∧Below w.heap.size w w')
    (first|exact⟨((Blk.new _ _ _).drew).walk.1,by simp,by go_grown⟩|(go_split_ands;exact⟨fun o=>((QnA hb2).1 _ _ (by assumption)).trans (by apply_assumption),by have:=hb2.size;omega,after (by assumption) hb2⟩))
    (first|(go_at_call 19;(with_reducible refine(Z1 _).mono ?_);rintro e w2 ⟨rfl,hb2⟩)|(go_at_call 18;(with_reducible refine(KB _).mono ?_);rintro e w2 ⟨rfl,hb2⟩))
   go_split_ands
   go_wp2
   go_returns
   exact⟨rfl,by assumption⟩
  ·clear h
   go_enter Tryz.func103,Tryz.ntmps103
   go_wp2_with fail
   go_region_held3 (fun w'=>(∀o,w'.cell? ⟨w.heap.size,o,none⟩=(#[.bool e,.bool true,.int .u32 lo,.int .u32 hi,.int .u32 st]:Array Value)[o]?)∧w.heap.size < w'.heap.size∧Below w.heap.size w w')
    (first|exact⟨((Blk.new _ _ _).drew).walk.1,by simp,by go_grown⟩|(go_split_ands;exact⟨fun o=>((QnA hb2).1 _ _ (by assumption)).trans (by apply_assumption),by have:=hb2.size;omega,after (by assumption) hb2⟩))
    (first|(go_at_call 19;(with_reducible refine(Z1 _).mono ?_);rintro e w2 ⟨rfl,hb2⟩)|(go_at_call 18;(with_reducible refine(KB _).mono ?_);rintro e w2 ⟨rfl,hb2⟩))
   go_split_ands
   go_wp2
   go_returns
   exact⟨rfl,by assumption⟩
 ·have e1:t=true:=QnG e t lo hi st q;subst e1;rw [q]at q1;clear h
  go_enter Tryz.func103,Tryz.ntmps103
  go_wp2_with fail
  go_region_with (first|(go_at_call 19;(with_reducible refine(Z1 _).mono ?_);rintro e w2 ⟨rfl,hb2⟩;(have hg2:=after (w:=w) (by go_grown) hb2);(have hk2:=(((Blk.new _ _ _).drew).call hb2).walk.1)))
  all_goals (go_wp2;go_returns;exact⟨rfl,by assumption⟩)
set_option maxHeartbeats 1000000 in
theorem Qdt(s:Qd)(hs:s.wf)(w:World):Calls Tryz.prog 103 #[s.val] w (Ret (.bool (Qx s)) w):=by
 obtain⟨e,t,lo,hi,st⟩:=s;by_cases h:t=true∨e=true
 ·rw [QbG e t lo hi st h];exact QoR e t lo hi st h w
 obtain⟨l0,l1,h0,h1,s0,s1⟩:=hs
 dsimp only at l0 l1 h0 h1 s0 s1
 obtain rfl:t=false:=by cases t <;> simp_all
 obtain rfl:e=false:=by cases e <;> simp_all
 clear h;show Calls Tryz.prog 103 #[.agg #[.bool false,.bool false,.int .u32 lo,.int .u32 hi,.int .u32 st]] w _;by_cases c:st=0
 ·subst c;rw [Qbd];by_cases d:lo < hi
  ·have E:(lo==hi)=false:=by rw [beq_eq_false_iff_ne];omega
   rw [E];clear E
   go_enter Tryz.func103,Tryz.ntmps103
   go_wp2
   go_returns
   exact⟨rfl,by go_grown⟩
  ·cases q:(lo==hi)
   ·go_enter Tryz.func103,Tryz.ntmps103
    go_wp2
    go_returns
    exact⟨rfl,by go_grown⟩
   ·go_enter Tryz.func103,Tryz.ntmps103
    go_wp2
    go_returns
    exact⟨rfl,by go_grown⟩
 rw [Qbc lo hi st c];have c1:(st==0)=false:=by rw [beq_eq_false_iff_ne];exact c
 have c2:0 < st:=by omega
 by_cases d:lo < hi
 ·have d2:0≤hi - lo:=by omega
  rw [decide_eq_true d];cases m:((hi - lo) % st==0)
  ·show Calls Tryz.prog 103 _ _ (Ret (.bool false) w)
   go_enter Tryz.func103,Tryz.ntmps103
   go_wp2
   go_returns
   exact⟨rfl,by go_grown⟩
  ·by_cases x1:0 < lo
   ·rw [decide_eq_true x1];have y1:(lo != 0)=true:=by simp;omega
    show Calls Tryz.prog 103 _ _ (Ret (.bool true) w)
    go_enter Tryz.func103,Tryz.ntmps103
    go_wp2
    go_returns
    exact⟨rfl,by go_grown⟩
   ·rw [decide_eq_false x1];have y1:lo=0:=by omega
    subst y1;rw [Int.sub_zero]at m;by_cases x2:hi < 4294967295
    ·rw [decide_eq_true x2];have y2:(hi != 4294967295)=true:=by simp;omega
     show Calls Tryz.prog 103 _ _ (Ret (.bool true) w)
     go_enter Tryz.func103,Tryz.ntmps103
     go_wp2
     go_returns
     exact⟨rfl,by go_grown⟩
    ·rw [decide_eq_false x2];have y2:hi=4294967295:=by omega
     subst y2;have y3:(st != 1)=decide (1 < st):=by rw [Bool.eq_iff_iff];simp;omega
     show Calls Tryz.prog 103 _ _ (Ret (.bool (decide (1 < st))) w);rw [←y3];clear y3
     go_enter Tryz.func103,Tryz.ntmps103
     go_wp2
     go_returns
     exact⟨rfl,by go_grown⟩
 ·rw [decide_eq_false d];have y:(lo==hi && st==0)=false:=by rw [c1,Bool.and_false]
  show Calls Tryz.prog 103 _ _ (Ret (.bool false) w);cases q:(lo==hi)
  ·go_enter Tryz.func103,Tryz.ntmps103
   go_wp2
   go_returns
   exact⟨rfl,by go_grown⟩
  ·go_enter Tryz.func103,Tryz.ntmps103
   go_wp2
   go_returns
   exact⟨rfl,by go_grown⟩
theorem Je(s:Qd)(hs:s.wf)(w:World):Calls Tryz.prog 71 #[s.val] w (Ret (Zb s).val w):=by
 have x:=Qdt s hs;unfold Zb;cases h:Qx s
 ·rw [h]at x
  go_enter Tryz.func71,Tryz.ntmps71
  go_wp2_with (first|(go_at_call 103;(with_reducible refine(x _).mono ?_);rintro e w1 ⟨rfl,hb1⟩;(have hR:=(Blk.new _ _ _).call hb1);simp only [World.size_alloc]at hR;obtain⟨hc,hf⟩:=hR.walk;(have hg:=after (w:=w) (by go_grown) hb1);(have hs1:=hg.size)))
  go_wp2_with (first|(go_at_call 19;(with_reducible refine(Z1 _).mono ?_);rintro e w2 ⟨rfl,hb2⟩;(have hR2:=hR.call hb2);obtain⟨hc2,hf2⟩:=hR2.walk;(have hg2:=after hg hb2);(have hs2:=hg2.size)))
  exact bodyPost_ret (v:=Qp.val) (Qf rfl rfl (hR2.put (a:=⟨false,false,0,0,0⟩) Qp)) rfl ⟨rfl,Qe hg2 (by omega) _⟩
 ·rw [h]at x
  go_enter Tryz.func71,Tryz.ntmps71
  go_wp2_with (first|(go_at_call 103;(with_reducible refine(x _).mono ?_);rintro e w1 ⟨rfl,hb1⟩;(have hS:=((Blk.new _ _ _).alloc _).call hb1);(have hR:=(Blk.new _ _ _).call hb1);simp only [World.size_alloc]at hR;obtain⟨hc,hf⟩:=hR.walk;obtain⟨hc2,hf2⟩:=hS.walk;(have hg:=after (w:=w) (by go_grown) hb1);(have hs1:=hg.size)))
  exact bodyPost_ret (v:=s.val) (Qf rfl rfl (hR.put (a:=⟨false,false,0,0,0⟩) s)) rfl ⟨rfl,Qe hg (by omega) _⟩
end Go.Proofs.YteplnamfpodmlaaGreat
end
