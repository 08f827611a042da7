/-
  Part of the proof.
-/
import Derived.Test.YteplnamfpodmlaaQKit
set_option linter.unusedVariables false
set_option linter.unusedSimpArgs false
set_option maxRecDepth 100000
open Go.ChangeShapes Go.WideShapes Go.ChangeAt Go.RowKit
namespace Go.Proofs.Yteplnamfpodmlaa
theorem Qay(a k:Int)(w:World)(a0:0≤a)(a1:a < 4294967296):Calls Try.prog 70 #[.int .u32 a,.int .i64 k] w (Ret (.int .u32 (Kd a k)) w):=by
 by_cases h1:k=1
 ·subst h1
  go_enter Try.func70,Try.ntmps70
  go_wp2
  go_returns
  exact⟨rfl,by go_grown⟩
 by_cases h2:k=2
 ·subst h2
  go_enter Try.func70,Try.ntmps70
  go_wp2
  go_returns
  exact⟨rfl,by go_grown⟩
 have e:a=Kd a k:=by unfold Kd;rw [if_neg h1,if_neg h2]
 rw [←e]
 clear e
 go_enter Try.func70,Try.ntmps70
 go_wp2
 go_returns
 exact⟨rfl,by go_grown⟩
theorem QtT(a:Int):IntKind.i8.wrap a=(a+128) % 256 - 128:=by
 simp only [IntKind.wrap,IntKind.bits,IntKind.signed];simp;split <;> omega
theorem QqX(a:Int):IntKind.i16.wrap a=(a+32768) % 65536 - 32768:=by
 simp only [IntKind.wrap,IntKind.bits,IntKind.signed];simp;split <;> omega
theorem Qvd(a:Int):QaA a 1=IntKind.i8.wrap a % 4294967296:=rfl
theorem Qve(a:Int):QaA a 2=IntKind.i16.wrap a % 4294967296:=rfl
theorem Qic(a k:Int)(w:World)(a0:0≤a)(a1:a < 4294967296):Calls Try.prog 71 #[.int .u32 a,.int .i64 k] w (Ret (.int .u32 (QaA a k)) w):=by
 have ht:=fun k=>Qay a k
 by_cases h1:k=1
 ·subst h1
  have t1:Kd a 1=a % 256:=rfl
  have ht1:=ht 1
  rw [t1]at ht1
  clear ht
  by_cases h:128≤a % 256
  ·have e:QaA a 1=(a % 256 - 256) % 4294967296:=by rw [Qvd,QtT];omega
   rw [e]
   clear e t1
   go_enter Try.func71,Try.ntmps71
   go_wp2_with (go_at_call 70;(with_reducible refine(ht1 _ a0 a1).mono ?_);rintro e w1 ⟨rfl,hb1⟩)
   go_returns
   exact⟨rfl,hb1⟩
  ·have e:QaA a 1=a % 256:=by rw [Qvd,QtT];omega
   rw [e]
   clear e t1
   go_enter Try.func71,Try.ntmps71
   go_wp2_with (go_at_call 70;(with_reducible refine(ht1 _ a0 a1).mono ?_);rintro e w1 ⟨rfl,hb1⟩)
   go_returns
   exact⟨rfl,hb1⟩
 by_cases h2:k=2
 ·subst h2
  have t1:Kd a 2=a % 65536:=rfl
  have ht1:=ht 2
  rw [t1]at ht1
  clear ht
  by_cases h:32768≤a % 65536
  ·have e:QaA a 2=(a % 65536 - 65536) % 4294967296:=by rw [Qve,QqX];omega
   rw [e]
   clear e t1
   go_enter Try.func71,Try.ntmps71
   go_wp2_with (go_at_call 70;(with_reducible refine(ht1 _ a0 a1).mono ?_);rintro e w1 ⟨rfl,hb1⟩)
   go_returns
   exact⟨rfl,hb1⟩
  ·have e:QaA a 2=a % 65536:=by rw [Qve,QqX];omega
   rw [e]
   clear e t1
   go_enter Try.func71,Try.ntmps71
   go_wp2_with (go_at_call 70;(with_reducible refine(ht1 _ a0 a1).mono ?_);rintro e w1 ⟨rfl,hb1⟩)
   go_returns
   exact⟨rfl,hb1⟩
 have e:a=QaA a k:=by unfold QaA;rw [if_neg h1,if_neg h2]
 have t1:Kd a k=a:=by unfold Kd;rw [if_neg h1,if_neg h2]
 have ht1:=ht k
 rw [t1]at ht1
 rw [←e]
 have g1:(k==1)=false:=by rw [beq_eq_false_iff_ne];omega
 have g2:(k==2)=false:=by rw [beq_eq_false_iff_ne];omega
 clear e ht t1 h1 h2
 go_enter Try.func71,Try.ntmps71
 go_wp2_with (go_at_call 70;(with_reducible refine(ht1 _ a0 a1).mono ?_);rintro e w1 ⟨rfl,hb1⟩)
 go_returns
 exact⟨rfl,hb1⟩
set_option maxHeartbeats 2000000 in
theorem QoP(k:Int)(z n c v:Bool)(h0:0≤k)(h1:k < 15)(w:World) :
 Calls Try.prog 32 #[.int .i64 k,fl z n c v] w (Ret (.bool (KI k z n c v)) w):=by
 unfold fl
 have hk:k=0∨k=1∨k=2∨k=3∨k=4∨k=5∨k=6∨k=7∨k=8∨k=9∨k=10∨k=11∨k=12∨k=13∨k=14:=by omega
 clear h0 h1
 rcases hk with rfl|rfl|rfl|rfl|rfl|rfl|rfl|rfl|rfl|rfl|rfl|rfl|rfl|rfl|rfl
 all_goals
  go_enter Try.func32,Try.ntmps32
  go_wp2
  all_goals go_returns
  all_goals refine⟨?_,by go_grown⟩
  all_goals (first|rfl|(cases z <;> cases n <;> cases c <;> cases v <;> first|rfl|contradiction))
theorem Qla(k:Int)(z n c v:Bool)(h:k < 0∨15≤k)(w:World) :
 Calls Try.prog 32 #[.int .i64 k,fl z n c v] w (Ret (.bool false) w):=by
 unfold fl
 have h0:(k==0)=false:=by rw [beq_eq_false_iff_ne];omega
 have h1:(k==1)=false:=by rw [beq_eq_false_iff_ne];omega
 have h2:(k==2)=false:=by rw [beq_eq_false_iff_ne];omega
 have h3:(k==3)=false:=by rw [beq_eq_false_iff_ne];omega
 have h4:(k==4)=false:=by rw [beq_eq_false_iff_ne];omega
 have h5:(k==5)=false:=by rw [beq_eq_false_iff_ne];omega
 have h6:(k==6)=false:=by rw [beq_eq_false_iff_ne];omega
 have h7:(k==7)=false:=by rw [beq_eq_false_iff_ne];omega
 have h8:(k==8)=false:=by rw [beq_eq_false_iff_ne];omega
 have h9:(k==9)=false:=by rw [beq_eq_false_iff_ne];omega
 have h10:(k==10)=false:=by rw [beq_eq_false_iff_ne];omega
 have h11:(k==11)=false:=by rw [beq_eq_false_iff_ne];omega
 have h12:(k==12)=false:=by rw [beq_eq_false_iff_ne];omega
 have h13:(k==13)=false:=by rw [beq_eq_false_iff_ne];omega
 have h14:(k==14)=false:=by rw [beq_eq_false_iff_ne];omega
 clear h
 go_enter Try.func32,Try.ntmps32
 go_wp2
 go_returns
 exact⟨rfl,by go_grown⟩
theorem QkZ(k:Int)(z n c v:Bool)(w:World) :
 Calls Try.prog 32 #[.int .i64 k,fl z n c v] w (Ret (.bool (KI k z n c v)) w):=by
 by_cases h:k < 0∨15≤k
 ·rw [Qkw k z n c v h];exact Qla k z n c v h w
 ·exact QoP k z n c v (by omega) (by omega) w
end Go.Proofs.Yteplnamfpodmlaa
