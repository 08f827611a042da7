/-
  Part of the proof.
-/
import Derived.Test.YteplnamfpodmlaaRKit
set_option linter.unusedVariables false
set_option linter.unusedSimpArgs false
set_option maxRecDepth 100000
open Go.ChangeShapes Go.WideShapes Go.ChangeAt Go.RowKit
section
namespace Go.Proofs.Yteplnamfpodmlaa
theorem XG(w:World):Calls Try.prog 52 #[] w (Ret Qy.val w):=by
 go_enter Try.func52,Try.ntmps52
 go_wp2
 go_returns
 exact⟨rfl,by go_grown⟩
theorem Kg(w:World):Calls Try.prog 77 #[] w (Ret Q4.val w):=by
 go_enter Try.func77,Try.ntmps77
 go_wp2
 go_returns
 exact⟨rfl,by go_grown⟩
theorem WY(n:Int)(w:World):Calls Try.prog 54 #[.int .u32 n] w (Ret (X2 n).val w):=by
 go_enter Try.func54,Try.ntmps54
 go_wp2
 go_returns
 exact⟨rfl,by go_grown⟩
theorem QdV(w:World):Calls Try.prog 63 #[] w (Ret Qy.val w):=by
 go_enter Try.func63,Try.ntmps63
 go_wp2
 go_returns
 exact⟨rfl,by go_grown⟩
theorem QdS(w:World):Calls Try.prog 82 #[] w (Ret Q4.val w):=by
 go_enter Try.func82,Try.ntmps82
 go_wp2
 go_returns
 exact⟨rfl,by go_grown⟩
theorem QvA(n:Int)(w:World):Calls Try.prog 58 #[.int .u32 n] w (Ret (X2 n).val w):=by
 go_enter Try.func58,Try.ntmps58
 go_wp2
 go_returns
 exact⟨rfl,by go_grown⟩
def Qs(lo hi st:Int):Qd:=
 if hi < lo then Q4
 else if st=0 then X2 lo
 else if hi - lo < st then X2 lo
 else if lo=0∧hi=4294967295∧st=1 then Qy
 else⟨false,false,lo,hi - (hi - lo) % st,st⟩
set_option maxHeartbeats 1000000 in
theorem ZI(lo hi st:Int)(l0:0≤lo)(l1:lo < 4294967296)(h0:0≤hi)(h1:hi < 4294967296)(s0:0≤st)(s1:st < 4294967296)(w:World) :
 Calls Try.prog 51 #[.int .u32 lo,.int .u32 hi,.int .u32 st] w (Ret (Qs lo hi st).val w):=by
 by_cases c1:hi < lo
 ·have e:Qs lo hi st=Q4:=by unfold Qs;rw [if_pos c1]
  rw [e];clear e
  go_enter Try.func51,Try.ntmps51
  go_wp2
  go_returns
  exact⟨rfl,by go_grown⟩
 by_cases c2:st=0
 ·have e:Qs lo hi st=X2 lo:=by unfold Qs;rw [if_neg c1,if_pos c2]
  rw [e];clear e
  subst c2
  go_enter Try.func51,Try.ntmps51
  go_wp2
  go_returns
  exact⟨rfl,by go_grown⟩
 have c3':(st==0)=false:=by rw [beq_eq_false_iff_ne];exact c2
 by_cases c3:hi - lo < st
 ·have e:Qs lo hi st=X2 lo:=by unfold Qs;rw [if_neg c1,if_neg c2,if_pos c3]
  rw [e];clear e
  go_enter Try.func51,Try.ntmps51
  go_wp2
  go_returns
  exact⟨rfl,by go_grown⟩
 by_cases c4:lo=0∧hi=4294967295∧st=1
 ·have e:Qs lo hi st=Qy:=by unfold Qs;rw [if_neg c1,if_neg c2,if_neg c3,if_pos c4]
  rw [e];clear e
  obtain⟨rfl,rfl,rfl⟩:=c4
  go_enter Try.func51,Try.ntmps51
  go_wp2
  go_returns
  exact⟨rfl,by go_grown⟩
 have e:Qs lo hi st=⟨false,false,lo,hi - (hi - lo) % st,st⟩:=by unfold Qs;rw [if_neg c1,if_neg c2,if_neg c3,if_neg c4]
 rw [e];clear e
 have m1:0≤(hi - lo) % st:=Int.emod_nonneg _ c2
 have m2:(hi - lo) % st≤hi - lo:=by
  have:=Int.emod_lt_of_pos (hi - lo) (by omega:0 < st)
  omega
 have m3:0≤hi - lo:=by omega
 have c5:(lo==0 && (hi==4294967295 && st==1))=false:=by
  rw [Bool.eq_false_iff]
  simp only [ne_eq,Bool.and_eq_true,beq_iff_eq]
  exact c4
 have c6:(lo==0)=false∨(lo==0)=true∧(hi==4294967295)=false∨(lo==0)=true∧(hi==4294967295)=true∧(st==1)=false:=by
  cases h1:(lo==0) <;> cases h2:(hi==4294967295) <;> cases h3:(st==1) <;> simp_all
 clear c4 c5
 rcases c6 with d1|⟨d1,d2⟩|⟨d1,d2,d3⟩
 ·go_enter Try.func51,Try.ntmps51
  go_wp2
  go_returns
  exact⟨rfl,by go_grown⟩
 ·go_enter Try.func51,Try.ntmps51
  go_wp2
  go_returns
  exact⟨rfl,by go_grown⟩
 ·go_enter Try.func51,Try.ntmps51
  go_wp2
  go_returns
  exact⟨rfl,by go_grown⟩
end Go.Proofs.Yteplnamfpodmlaa
end
section
namespace Go.Proofs.Yteplnamfpodmlaa
def Xg(a b:Int):Int:=(Nat.gcd a.toNat b.toNat:Int)
theorem Qof(a:Int)(h:0≤a):Xg a 0=a:=by unfold Xg;simp;omega
theorem Qoe(a b:Int)(ha:0≤a)(hb:0 < b):Xg b (a % b)=Xg a b:=by
 obtain⟨A,rfl⟩:=Int.eq_ofNat_of_zero_le ha
 obtain⟨B,rfl⟩:=Int.eq_ofNat_of_zero_le (Int.le_of_lt hb)
 unfold Xg
 have e:((A:Int) % (B:Int)).toNat=A % B:=by rw [←Int.natCast_emod,Int.toNat_natCast]
 rw [e,Int.toNat_natCast,Int.toNat_natCast,Nat.gcd_comm B,←Nat.gcd_rec,Nat.gcd_comm]
theorem Zd(a b:Int):0≤Xg a b:=Int.natCast_nonneg _
theorem Vr(a b m:Int)(ha:0≤a)(hb:0≤b)(ha':a≤m)(hb':b≤m):Xg a b≤m:=by
 obtain⟨A,rfl⟩:=Int.eq_ofNat_of_zero_le ha
 obtain⟨B,rfl⟩:=Int.eq_ofNat_of_zero_le hb
 unfold Xg
 simp only [Int.toNat_natCast]
 rcases Nat.eq_zero_or_pos A with h|h
 ·subst h;simp;exact hb'
 ·have:=Nat.gcd_le_left B h
  omega
end Go.Proofs.Yteplnamfpodmlaa
end
section
namespace Go.Proofs.Yteplnamfpodmlaa
theorem Qnx(e t:Bool)(lo hi st:Int)(h:((⟨e,t,lo,hi,st⟩:Qd)==Qy)=true):t=true:=by
 have:=of_decide_eq_true h
 simp only [Qy,Qd.mk.injEq]at this
 exact this.2.1
set_option maxHeartbeats 1000000 in
theorem Qst(e t:Bool)(lo hi st:Int)(h:t=true∨e=true)(w:World):Calls Try.prog 120 #[.agg #[.bool e,.bool t,.int .u32 lo,.int .u32 hi,.int .u32 st]] w (Ret (.bool ((⟨e,t,lo,hi,st⟩:Qd)==Qy || (⟨e,t,lo,hi,st⟩:Qd)==Q4)) w):=by
 have q1:=Yl ⟨e,t,lo,hi,st⟩ Qy
 have q2:=Yl ⟨e,t,lo,hi,st⟩ Q4
 cases q:((⟨e,t,lo,hi,st⟩:Qd)==Qy)
 ·rw [q]at q1
  cases t
  ·have e1:e=true:=by simpa using h
   subst e1
   clear h
   go_enter Try.func120,Try.ntmps120
   go_wp2_with fail
   go_region_held3 (fun w'=>(∀o,w'.cell? ⟨w.heap.size,o,none⟩=(#[.bool true,.bool false,.int .u32 lo,.int .u32 hi,.int .u32 st]:Array Value)[o]?)∧w.heap.size < w'.heap.size∧Below w.heap.size w w')
    (first|exact⟨((Blk.new _ _ _).drew).walk.1,by simp,by go_grown⟩|(go_split_ands;exact⟨fun o=>((Qnp hb2).1 _ _ (by assumption)).trans (by apply_assumption),by have:=hb2.size;omega,after (by assumption) hb2⟩))
    (first|(go_at_call 52;(with_reducible refine(XG _).mono ?_);rintro e w2 ⟨rfl,hb2⟩)|(go_at_call 77;(with_reducible refine(Kg _).mono ?_);rintro e w2 ⟨rfl,hb2⟩))
   go_split_ands
   go_wp2
   go_returns
   exact⟨rfl,by assumption⟩
  ·clear h
   go_enter Try.func120,Try.ntmps120
   go_wp2_with fail
   go_region_held3 (fun w'=>(∀o,w'.cell? ⟨w.heap.size,o,none⟩=(#[.bool e,.bool true,.int .u32 lo,.int .u32 hi,.int .u32 st]:Array Value)[o]?)∧w.heap.size < w'.heap.size∧Below w.heap.size w w')
    (first|exact⟨((Blk.new _ _ _).drew).walk.1,by simp,by go_grown⟩|(go_split_ands;exact⟨fun o=>((Qnp hb2).1 _ _ (by assumption)).trans (by apply_assumption),by have:=hb2.size;omega,after (by assumption) hb2⟩))
    (first|(go_at_call 52;(with_reducible refine(XG _).mono ?_);rintro e w2 ⟨rfl,hb2⟩)|(go_at_call 77;(with_reducible refine(Kg _).mono ?_);rintro e w2 ⟨rfl,hb2⟩))
   go_split_ands
   go_wp2
   go_returns
   exact⟨rfl,by assumption⟩
 ·have e1:t=true:=Qnx e t lo hi st q
  subst e1
  rw [q]at q1
  clear h
  go_enter Try.func120,Try.ntmps120
  go_wp2_with fail
  go_region_with (first|(go_at_call 52;(with_reducible refine(XG _).mono ?_);rintro e w2 ⟨rfl,hb2⟩;(have hg2:=after (w:=w) (by go_grown) hb2);(have hk2:=(((Blk.new _ _ _).drew).call hb2).walk.1)))
  all_goals (go_wp2;go_returns;exact⟨rfl,by assumption⟩)
theorem Qct(e t:Bool)(lo hi st:Int)(h:t=true∨e=true):Qq ⟨e,t,lo,hi,st⟩=((⟨e,t,lo,hi,st⟩:Qd)==Qy || (⟨e,t,lo,hi,st⟩:Qd)==Q4):=by
 unfold Qq
 have:(t || e)=true:=by rcases h with rfl|rfl <;> simp
 simp only [this,if_true]
theorem QbD(lo hi:Int):Qq ⟨false,false,lo,hi,0⟩=(lo==hi):=rfl
theorem QbC(lo hi st:Int)(h:st≠0):Qq ⟨false,false,lo,hi,st⟩=(decide (lo < hi) && ((hi - lo) % st==0) && (decide (0 < lo) || decide (hi < 4294967295) || decide (1 < st))):=by
 unfold Qq
 have:(st==0)=false:=by rw [beq_eq_false_iff_ne];exact h
 simp only [Bool.or_self,Bool.false_eq_true,if_false,this]
set_option maxHeartbeats 1000000 in
theorem Qf5(s:Qd)(hs:s.wf)(w:World):Calls Try.prog 120 #[s.val] w (Ret (.bool (Qq s)) w):=by
 obtain⟨e,t,lo,hi,st⟩:=s
 by_cases h:t=true∨e=true
 ·rw [Qct e t lo hi st h];exact Qst e t lo hi st h w
 obtain⟨l0,l1,h0,h1,s0,s1⟩:=hs
 dsimp only at l0 l1 h0 h1 s0 s1
 obtain rfl:t=false:=by cases t <;> simp_all
 obtain rfl:e=false:=by cases e <;> simp_all
 clear h
 by_cases c:st=0
 ·subst c
  rw [QbD]
  show Calls Try.prog 120 #[.agg #[.bool false,.bool false,.int .u32 lo,.int .u32 hi,.int .u32 0]] w _
  go_enter Try.func120,Try.ntmps120
  go_wp2
  go_returns
  exact⟨rfl,by go_grown⟩
 rw [QbC lo hi st c]
 have c1:(st==0)=false:=by rw [beq_eq_false_iff_ne];exact c
 show Calls Try.prog 120 #[.agg #[.bool false,.bool false,.int .u32 lo,.int .u32 hi,.int .u32 st]] w _
 by_cases d:lo < hi
 ·have d2:0≤hi - lo:=by omega
  rw [decide_eq_true d]
  cases m:((hi - lo) % st==0)
  ·show Calls Try.prog 120 _ _ (Ret (.bool false) w)
   go_enter Try.func120,Try.ntmps120
   go_wp2
   go_returns
   exact⟨rfl,by go_grown⟩
  ·by_cases x1:0 < lo
   ·rw [decide_eq_true x1]
    show Calls Try.prog 120 _ _ (Ret (.bool true) w)
    go_enter Try.func120,Try.ntmps120
    go_wp2
    go_returns
    exact⟨rfl,by go_grown⟩
   ·rw [decide_eq_false x1]
    by_cases x2:hi < 4294967295
    ·rw [decide_eq_true x2]
     show Calls Try.prog 120 _ _ (Ret (.bool true) w)
     go_enter Try.func120,Try.ntmps120
     go_wp2
     go_returns
     exact⟨rfl,by go_grown⟩
    ·rw [decide_eq_false x2]
     show Calls Try.prog 120 _ _ (Ret (.bool (decide (1 < st))) w)
     go_enter Try.func120,Try.ntmps120
     go_wp2
     go_returns
     exact⟨rfl,by go_grown⟩
 ·rw [decide_eq_false d]
  show Calls Try.prog 120 _ _ (Ret (.bool false) w)
  go_enter Try.func120,Try.ntmps120
  go_wp2
  go_returns
  exact⟨rfl,by go_grown⟩
theorem Xu(s:Qd)(hs:s.wf)(w:World):Calls Try.prog 87 #[s.val] w (Ret (ZO s).val w):=by
 have x:=Qf5 s hs
 unfold ZO
 cases h:Qq s
 ·rw [h]at x
  go_enter Try.func87,Try.ntmps87
  go_wp2_with (first|(go_at_call 120;(with_reducible refine(x _).mono ?_);rintro e w1 ⟨rfl,hb1⟩;(have hR:=(Blk.new _ _ _).call hb1);simp only [World.size_alloc]at hR;obtain⟨hc,hf⟩:=hR.walk;(have hg:=after (w:=w) (by go_grown) hb1);(have hs1:=hg.size)))
  go_wp2_with (first|(go_at_call 52;(with_reducible refine(XG _).mono ?_);rintro e w2 ⟨rfl,hb2⟩;(have hR2:=hR.call hb2);obtain⟨hc2,hf2⟩:=hR2.walk;(have hg2:=after hg hb2);(have hs2:=hg2.size)))
  exact bodyPost_ret (v:=Qy.val) (Qt rfl rfl (hR2.put (a:=⟨false,false,0,0,0⟩) Qy)) rfl ⟨rfl,Qh hg2 (by omega) _⟩
 ·rw [h]at x
  go_enter Try.func87,Try.ntmps87
  go_wp2_with (first|(go_at_call 120;(with_reducible refine(x _).mono ?_);rintro e w1 ⟨rfl,hb1⟩;(have hS:=((Blk.new _ _ _).alloc _).call hb1);(have hR:=(Blk.new _ _ _).call hb1);simp only [World.size_alloc]at hR;obtain⟨hc,hf⟩:=hR.walk;obtain⟨hc2,hf2⟩:=hS.walk;(have hg:=after (w:=w) (by go_grown) hb1);(have hs1:=hg.size)))
  exact bodyPost_ret (v:=s.val) (Qt rfl rfl (hR.put (a:=⟨false,false,0,0,0⟩) s)) rfl ⟨rfl,Qh hg (by omega) _⟩
set_option maxHeartbeats 1000000 in
theorem QoT(e t:Bool)(lo hi st:Int)(h:t=true∨e=true)(w:World):Calls Try.prog 33 #[.agg #[.bool e,.bool t,.int .u32 lo,.int .u32 hi,.int .u32 st]] w (Ret (.bool ((⟨e,t,lo,hi,st⟩:Qd)==Qy || (⟨e,t,lo,hi,st⟩:Qd)==Q4)) w):=by
 have q1:=Yl ⟨e,t,lo,hi,st⟩ Qy
 have q2:=Yl ⟨e,t,lo,hi,st⟩ Q4
 cases q:((⟨e,t,lo,hi,st⟩:Qd)==Qy)
 ·rw [q]at q1
  cases t
  ·have e1:e=true:=by simpa using h
   subst e1
   clear h
   go_enter Try.func33,Try.ntmps33
   go_wp2_with fail
   go_region_held3 (fun w'=>(∀o,w'.cell? ⟨w.heap.size,o,none⟩=(#[.bool true,.bool false,.int .u32 lo,.int .u32 hi,.int .u32 st]:Array Value)[o]?)∧w.heap.size < w'.heap.size∧Below w.heap.size w w')
    (first|exact⟨((Blk.new _ _ _).drew).walk.1,by simp,by go_grown⟩|(go_split_ands;exact⟨fun o=>((Qnp hb2).1 _ _ (by assumption)).trans (by apply_assumption),by have:=hb2.size;omega,after (by assumption) hb2⟩))
    (first|(go_at_call 63;(with_reducible refine(QdV _).mono ?_);rintro e w2 ⟨rfl,hb2⟩)|(go_at_call 82;(with_reducible refine(QdS _).mono ?_);rintro e w2 ⟨rfl,hb2⟩))
   go_split_ands
   go_wp2
   go_returns
   exact⟨rfl,by assumption⟩
  ·clear h
   go_enter Try.func33,Try.ntmps33
   go_wp2_with fail
   go_region_held3 (fun w'=>(∀o,w'.cell? ⟨w.heap.size,o,none⟩=(#[.bool e,.bool true,.int .u32 lo,.int .u32 hi,.int .u32 st]:Array Value)[o]?)∧w.heap.size < w'.heap.size∧Below w.heap.size w w')
    (first|exact⟨((Blk.new _ _ _).drew).walk.1,by simp,by go_grown⟩|(go_split_ands;exact⟨fun o=>((Qnp hb2).1 _ _ (by assumption)).trans (by apply_assumption),by have:=hb2.size;omega,after (by assumption) hb2⟩))
    (first|(go_at_call 63;(with_reducible refine(QdV _).mono ?_);rintro e w2 ⟨rfl,hb2⟩)|(go_at_call 82;(with_reducible refine(QdS _).mono ?_);rintro e w2 ⟨rfl,hb2⟩))
   go_split_ands
   go_wp2
   go_returns
   exact⟨rfl,by assumption⟩
 ·have e1:t=true:=Qnx e t lo hi st q
  subst e1
  rw [q]at q1
  clear h
  go_enter Try.func33,Try.ntmps33
  go_wp2_with fail
  go_region_with (first|(go_at_call 63;(with_reducible refine(QdV _).mono ?_);rintro e w2 ⟨rfl,hb2⟩;(have hg2:=after (w:=w) (by go_grown) hb2);(have hk2:=(((Blk.new _ _ _).drew).call hb2).walk.1)))
  all_goals (go_wp2;go_returns;exact⟨rfl,by assumption⟩)
set_option maxHeartbeats 1000000 in
theorem Qlf(s:Qd)(hs:s.wf)(w:World):Calls Try.prog 33 #[s.val] w (Ret (.bool (Qq s)) w):=by
 obtain⟨e,t,lo,hi,st⟩:=s
 by_cases h:t=true∨e=true
 ·rw [Qct e t lo hi st h];exact QoT e t lo hi st h w
 obtain⟨l0,l1,h0,h1,s0,s1⟩:=hs
 dsimp only at l0 l1 h0 h1 s0 s1
 obtain rfl:t=false:=by cases t <;> simp_all
 obtain rfl:e=false:=by cases e <;> simp_all
 clear h
 show Calls Try.prog 33 #[.agg #[.bool false,.bool false,.int .u32 lo,.int .u32 hi,.int .u32 st]] w _
 by_cases c:st=0
 ·subst c
  rw [QbD]
  by_cases d:lo < hi
  ·have E:(lo==hi)=false:=by rw [beq_eq_false_iff_ne];omega
   rw [E]
   clear E
   go_enter Try.func33,Try.ntmps33
   go_wp2
   go_returns
   exact⟨rfl,by go_grown⟩
  ·cases q:(lo==hi)
   ·go_enter Try.func33,Try.ntmps33
    go_wp2
    go_returns
    exact⟨rfl,by go_grown⟩
   ·go_enter Try.func33,Try.ntmps33
    go_wp2
    go_returns
    exact⟨rfl,by go_grown⟩
 rw [QbC lo hi st c]
 have c1:(st==0)=false:=by rw [beq_eq_false_iff_ne];exact c
 have c2:0 < st:=by omega
 by_cases d:lo < hi
 ·have d2:0≤hi - lo:=by omega
  rw [decide_eq_true d]
  cases m:((hi - lo) % st==0)
  ·show Calls Try.prog 33 _ _ (Ret (.bool false) w)
   go_enter Try.func33,Try.ntmps33
   go_wp2
   go_returns
   exact⟨rfl,by go_grown⟩
  ·by_cases x1:0 < lo
   ·rw [decide_eq_true x1]
    have y1:(lo != 0)=true:=by simp;omega
    show Calls Try.prog 33 _ _ (Ret (.bool true) w)
    go_enter Try.func33,Try.ntmps33
    go_wp2
    go_returns
    exact⟨rfl,by go_grown⟩
   ·rw [decide_eq_false x1]
    have y1:lo=0:=by omega
    subst y1
    rw [Int.sub_zero]at m
    by_cases x2:hi < 4294967295
    ·rw [decide_eq_true x2]
     have y2:(hi != 4294967295)=true:=by simp;omega
     show Calls Try.prog 33 _ _ (Ret (.bool true) w)
     go_enter Try.func33,Try.ntmps33
     go_wp2
     go_returns
     exact⟨rfl,by go_grown⟩
    ·rw [decide_eq_false x2]
     have y2:hi=4294967295:=by omega
     subst y2
     have y3:(st != 1)=decide (1 < st):=by rw [Bool.eq_iff_iff];simp;omega
     show Calls Try.prog 33 _ _ (Ret (.bool (decide (1 < st))) w)
     rw [←y3]
     clear y3
     go_enter Try.func33,Try.ntmps33
     go_wp2
     go_returns
     exact⟨rfl,by go_grown⟩
 ·rw [decide_eq_false d]
  have y:(lo==hi && st==0)=false:=by rw [c1,Bool.and_false]
  show Calls Try.prog 33 _ _ (Ret (.bool false) w)
  cases q:(lo==hi)
  ·go_enter Try.func33,Try.ntmps33
   go_wp2
   go_returns
   exact⟨rfl,by go_grown⟩
  ·go_enter Try.func33,Try.ntmps33
   go_wp2
   go_returns
   exact⟨rfl,by go_grown⟩
theorem Qv1(s:Qd)(hs:s.wf)(w:World):Calls Try.prog 96 #[s.val] w (Ret (ZO s).val w):=by
 have x:=Qlf s hs
 unfold ZO
 cases h:Qq s
 ·rw [h]at x
  go_enter Try.func96,Try.ntmps96
  go_wp2_with (first|(go_at_call 33;(with_reducible refine(x _).mono ?_);rintro e w1 ⟨rfl,hb1⟩;(have hR:=(Blk.new _ _ _).call hb1);simp only [World.size_alloc]at hR;obtain⟨hc,hf⟩:=hR.walk;(have hg:=after (w:=w) (by go_grown) hb1);(have hs1:=hg.size)))
  go_wp2_with (first|(go_at_call 63;(with_reducible refine(QdV _).mono ?_);rintro e w2 ⟨rfl,hb2⟩;(have hR2:=hR.call hb2);obtain⟨hc2,hf2⟩:=hR2.walk;(have hg2:=after hg hb2);(have hs2:=hg2.size)))
  exact bodyPost_ret (v:=Qy.val) (Qt rfl rfl (hR2.put (a:=⟨false,false,0,0,0⟩) Qy)) rfl ⟨rfl,Qh hg2 (by omega) _⟩
 ·rw [h]at x
  go_enter Try.func96,Try.ntmps96
  go_wp2_with (first|(go_at_call 33;(with_reducible refine(x _).mono ?_);rintro e w1 ⟨rfl,hb1⟩;(have hS:=((Blk.new _ _ _).alloc _).call hb1);(have hR:=(Blk.new _ _ _).call hb1);simp only [World.size_alloc]at hR;obtain⟨hc,hf⟩:=hR.walk;obtain⟨hc2,hf2⟩:=hS.walk;(have hg:=after (w:=w) (by go_grown) hb1);(have hs1:=hg.size)))
  exact bodyPost_ret (v:=s.val) (Qt rfl rfl (hR.put (a:=⟨false,false,0,0,0⟩) s)) rfl ⟨rfl,Qh hg (by omega) _⟩
end Go.Proofs.Yteplnamfpodmlaa
end
