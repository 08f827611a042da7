/-
  VsaSound: for all lists of instructions, entries and lists of numbers the call returns true: a run through the instructions stays in the sets of Analyze. No condition on the inputs.
-/
import Derived.Test.YteplnamfpodmlaaRows
import Derived.Test.YteplnamfpodmlaaQLn
set_option linter.unusedVariables false
set_option linter.unusedSimpArgs false
set_option maxRecDepth 100000
open Go.ChangeShapes Go.WideShapes Go.ChangeAt Go.RowKit
namespace Go.Proofs.Yteplnamfpodmlaa.T2
set_option maxHeartbeats 8000000 in
theorem vsaSound_walk'(A:Option Addr)(n c:Nat)(hl:n≤maxLen)(ri:Nat→Int)(rb:Nat→Bool)(hr:∀i,i < n→InR Qb ri (i * Qb.length))(a:Int)(ha:Q5 a)(A2:Option Addr)(n2 c2:Nat)(hl2:n2≤maxLen)(ri2:Nat→Int)(rb2:Nat→Bool)(hr2:∀i,i < n2→InR [some .u32] ri2 (i * [some IntKind.u32].length))(w:World)(hrow:Xn w A n Qb ri rb)(hrow2:Xn w A2 n2 [some .u32] ri2 rb2) :
 Calls Try.prog 10 #[.slice A n c,.int .u32 a,.slice A2 n2 c2] w (Ret (.bool true) w):=by
 have hI:=QfH hr
 have n63:=Qfn hl
 have hnum:∀k,k < n2→Q5 (ri2 k):=fun k hk=>by
  have:=VW (hr2 k hk 0 _ rfl)
  rwa [show k * [some IntKind.u32].length+0=k by simp]at this
 refine ZK (C:=Wx) (I:= [fun _ e=>SI (Ql ri n) n a (e.nm 718) (e.nm 719) (e.nm 70) (e.nm 71)]) Qr rfl Try.func10 QpY (Kh [nmR A c ri rb,nmN a,nmR A2 c2 ri2 rb2,nmN n,nmT false,nmN n2]) w rfl ?_ _ ?_ ?_
 ·intro r hr0
  rcases List.mem_cons.1 hr0 with rfl|hr0
  ·exact hrow
  ·rw [List.mem_singleton.1 hr0]
   exact hrow2
 ·refine⟨?_,?_,?_,?_,?_,?_,?_,?_,?_,?_,?_,?_,?_,?_,?_,?_,?_,?_,?_,?_,?_,?_,?_,?_,?_,?_,?_,?_,?_,?_,?_,?_,?_,?_,?_,?_,?_,?_,?_,?_,?_,?_,?_,?_,?_,?_,?_,trivial⟩
  all_goals
   intro e he hc
   have h0:e.nm 0=nmR A c ri rb:=he 0 (by decide)
   have h1:e.nm 1=nmN a:=he 1 (by decide)
   have h2:e.nm 2=nmR A2 c2 ri2 rb2:=he 2 (by decide)
   have h3:e.nm 3=nmN n:=he 3 (by decide)
   have h5:e.nm 5=nmN n2:=he 5 (by decide)
   simp only [QC,Zb,Cd.holds,dv1,dv2,di1,db2,dr1,dr2,dq1,dq2,do1,do2,Z1,Z0,Zx,Zw,Zz,Zy,Zv,Zu,Zt,Zs,Z3,Z2,Xt,Xs,Xp,Xo,Xr,Xq,List.map_cons,List.map_nil,Nat.mul_one,Nat.add_zero,List.getElem?_cons_zero,List.getElem?_cons_succ,Option.some.injEq,exists_eq_left',and_true,and_assoc,Env.int,Env.bool,X8,Nat.reduceLeDiff,Nat.reduceAdd,Wy,nl0,nl1,nl2,nl3,nl4,nl5,nl6,nl7,nl8,nl9,Qvk,Qr3,Qr4,Qr5,Qr6,Qr7,Qr8,Qr9,QrA,QrB,QrC,QnC,Ji,h3,h5,nmN,nmI]at hc
  ·show decide (0≤(e.nm 3).int 0)=true
   rw [h3]
   exact decide_eq_true (Int.natCast_nonneg n)
  ·show decide (0≤(e.nm 5).int 0)=true
   rw [h5]
   exact decide_eq_true (Int.natCast_nonneg n2)
  ·show(∀k,k < ((e.nm 3).int 0).toNat→(Qe (e.nm 0).int k).wf)∧0≤(e.nm 1).int 0∧(400:Int)≤9223372036854775807
   rw [h0,h1,h3]
   refine⟨fun k hk=>?_,ha.1,by decide⟩
   have hk':k < n:=by rwa [show((nmN (n:Int)).int 0).toNat=n from rfl]at hk
   have:=hI k
   rwa [Qp hk']at this
  ·have q:ZZ (cxD (PX.dat e 0 (.l (.sl 0 (.v 3 0)))) (PX.dat e 0 (.l (.n .u32 (.v 1 0)))) (PX.dat e 0 (.l (.n .i64 (.i 400))))) (e.nm 70) (e.nm 71):=by(have hpq:=hc;(repeat (first|exact hpq|exact hpq.1|replace hpq:=hpq.2));done)
   have q':ZZ ⟨Ql (e.nm 0).int ((e.nm 3).int 0).toNat,((e.nm 3).int 0).toNat,(e.nm 1).int 0,400⟩ (e.nm 70) (e.nm 71):=q
   rw [h0,h1,h3]at q'
   have R:Qcx (Ql ri n) n a (e.nm 70) (e.nm 71):=Qa4 hI q'
   show decide (0≤(e.nm 70).int 0)=true
   rcases R with ⟨r0,r1⟩|⟨r0,r1,f,b,r2,r3,r4,r5⟩
   ·rw [r0];decide
   ·rw [r0];exact decide_eq_true (Int.natCast_nonneg n)
  ·show decide (0≤(e.nm 5).int 0)=true
   rw [h5]
   exact decide_eq_true (Int.natCast_nonneg n2)
  ·have q:ZZ (cxD (PX.dat e 0 (.l (.sl 0 (.v 3 0)))) (PX.dat e 0 (.l (.n .u32 (.v 1 0)))) (PX.dat e 0 (.l (.n .i64 (.i 400))))) (e.nm 70) (e.nm 71):=by(have hpq:=hc;(repeat (first|exact hpq|exact hpq.1|replace hpq:=hpq.2));done)
   have q':ZZ ⟨Ql (e.nm 0).int ((e.nm 3).int 0).toNat,((e.nm 3).int 0).toNat,(e.nm 1).int 0,400⟩ (e.nm 70) (e.nm 71):=q
   rw [h0,h1,h3]at q'
   have R:Qcx (Ql ri n) n a (e.nm 70) (e.nm 71):=Qa4 hI q'
   have z:(e.nm 70).int 1=0:=by(have hpq:=hc;(repeat (first|exact hpq|exact hpq.1|replace hpq:=hpq.2));done)
   rcases R with ⟨r0,r1⟩|⟨r0,r1,f,b,r2,r3,r4,r5⟩
   ·exact absurd z r1
   ·refine⟨Int.le_refl 0,(show(0:Int)≤60 by decide),r0,f,b,r2,r3,r4,r5,V3.of (QoS (n:=0) (x:=X5 _ 2) (st:=fun _=>0) r3 r2 ha ?_ (Int.le_refl 0)) rfl ?_ rfl rfl rfl rfl rfl rfl rfl⟩
    ·refine QdR fun k hk=>?_
     exact match k,hk with
      |0,_|1,_|2,_|3,_|4,_|5,_|6,_|7,_=>QR _
    ·show(e.nm 1).int 0=a
     rw [h1]
     rfl
  ·show(((e.nm 3).int 0).toNat:Int) < 2 ^ 63
   rw [h3]
   show((n:Int).toNat:Int) < 2 ^ 63
   omega
  ·show(((e.nm 3).int 0).toNat:Int) < 2 ^ 63
   rw [h3]
   show((n:Int).toNat:Int) < 2 ^ 63
   omega
  ·show(∀k,Q5 (Xh (PX.dat e 0 (.a (Qa 718 2 Qu))) k))∧∀k,(stD (PX.dat e 0 (.a (Qa 772 0 stK))) k).wf
   have S:SI (Ql ri n) n a (e.nm 718) (e.nm 719) (e.nm 70) (e.nm 71):=by(have hpq:=hc;(repeat (first|exact hpq|exact hpq.1|replace hpq:=hpq.2));done)
   obtain⟨f,b,hf,AO,hB,hcut,H⟩:=S.ex
   have g744:(e.nm 744).int 0=Q1 (Qe ri) n ((e.nm 718).int 1):=by
    have q:(e.nm 744).int=fun _=>Q1 (Qe (e.nm 0).int) ((e.nm 3).int 0).toNat ((e.nm 718).int 1):=by(have hpq:=hc;(repeat (first|exact hpq|exact hpq.1|replace hpq:=hpq.2));done)
    rw [h0,h3]at q
    exact congrFun q 0
   have c744:¬(e.nm 744).int 0 < 0:=by(have hpq:=hc;(repeat (first|exact hpq|exact hpq.1|replace hpq:=hpq.2));done)
   obtain⟨t,t1,t2,tN⟩:=QE (I:=Qe ri) (N:=n) (a:=(e.nm 718).int 1) (by rw [←g744];omega)
   have tE:(e.nm 744).int 0=(t:Int):=by rw [g744];exact t2
   have tT:((e.nm 744).int 0).toNat=t:=by omega
   have hk:Qv (Ql ri n) ((e.nm 718).int 1) n=some t:=by rw [←Q6];exact t1
   have n0:=S.n0;have n1:=S.n1;have L0:=H.L0;have Ln:=H.Ln
   have bk:Kq (Qe ri) n n ((e.nm 718).int 1)=some t:=KE t1 tN
   have f772:(e.nm 772).int=Ys (some t) (e.nm 71).int:=by
    have q:(e.nm 772).int=Ys (Kq (Qe (e.nm 0).int) ((e.nm 3).int 0).toNat ((e.nm 70).int 0).toNat ((e.nm 718).int 1)) (e.nm 71).int:=by(have hpq:=hc;(repeat (first|exact hpq|exact hpq.1|replace hpq:=hpq.2));done)
    rw [h0,h3,S.mN]at q
    rw [←bk]
    exact q
   have g772:(e.nm 772).bool=Yr (some t) (e.nm 71).bool:=by
    have q:(e.nm 772).bool=Yr (Kq (Qe (e.nm 0).int) ((e.nm 3).int 0).toNat ((e.nm 70).int 0).toNat ((e.nm 718).int 1)) (e.nm 71).bool:=by(have hpq:=hc;(repeat (first|exact hpq|exact hpq.1|replace hpq:=hpq.2));done)
    rw [h0,h3,S.mN]at q
    rw [←bk]
    exact q
   have s772:stD (PX.dat e 0 (.a (Qa 772 0 stK)))=b t:=Wa (e:=e) f772 g772 hB tN hcut
   have s718:Xh (PX.dat e 0 (.a (Qa 718 2 Qu)))=X5 (e.nm 718).int 2:=Z9 e 718 0 2
   rw [s772,s718]
   exact⟨H.x32,Jf AO.ok _⟩
  ·show decide ((e.nm 744).int 0 < (e.nm 3).int 0)=true
   have S:SI (Ql ri n) n a (e.nm 718) (e.nm 719) (e.nm 70) (e.nm 71):=by(have hpq:=hc;(repeat (first|exact hpq|exact hpq.1|replace hpq:=hpq.2));done)
   obtain⟨f,b,hf,AO,hB,hcut,H⟩:=S.ex
   have g744:(e.nm 744).int 0=Q1 (Qe ri) n ((e.nm 718).int 1):=by
    have q:(e.nm 744).int=fun _=>Q1 (Qe (e.nm 0).int) ((e.nm 3).int 0).toNat ((e.nm 718).int 1):=by(have hpq:=hc;(repeat (first|exact hpq|exact hpq.1|replace hpq:=hpq.2));done)
    rw [h0,h3]at q
    exact congrFun q 0
   have c744:¬(e.nm 744).int 0 < 0:=by(have hpq:=hc;(repeat (first|exact hpq|exact hpq.1|replace hpq:=hpq.2));done)
   obtain⟨t,t1,t2,tN⟩:=QE (I:=Qe ri) (N:=n) (a:=(e.nm 718).int 1) (by rw [←g744];omega)
   have tE:(e.nm 744).int 0=(t:Int):=by rw [g744];exact t2
   have tT:((e.nm 744).int 0).toNat=t:=by omega
   have hk:Qv (Ql ri n) ((e.nm 718).int 1) n=some t:=by rw [←Q6];exact t1
   have n0:=S.n0;have n1:=S.n1;have L0:=H.L0;have Ln:=H.Ln
   rw [h3,tE]
   exact decide_eq_true (show(t:Int) < (n:Int)by omega)
  ·show decide (0≤(e.nm 718).int 0)=true
   have S:SI (Ql ri n) n a (e.nm 718) (e.nm 719) (e.nm 70) (e.nm 71):=by(have hpq:=hc;(repeat (first|exact hpq|exact hpq.1|replace hpq:=hpq.2));done)
   obtain⟨f,b,hf,AO,hB,hcut,H⟩:=S.ex
   have g744:(e.nm 744).int 0=Q1 (Qe ri) n ((e.nm 718).int 1):=by
    have q:(e.nm 744).int=fun _=>Q1 (Qe (e.nm 0).int) ((e.nm 3).int 0).toNat ((e.nm 718).int 1):=by(have hpq:=hc;(repeat (first|exact hpq|exact hpq.1|replace hpq:=hpq.2));done)
    rw [h0,h3]at q
    exact congrFun q 0
   have c744:¬(e.nm 744).int 0 < 0:=by(have hpq:=hc;(repeat (first|exact hpq|exact hpq.1|replace hpq:=hpq.2));done)
   obtain⟨t,t1,t2,tN⟩:=QE (I:=Qe ri) (N:=n) (a:=(e.nm 718).int 1) (by rw [←g744];omega)
   have tE:(e.nm 744).int 0=(t:Int):=by rw [g744];exact t2
   have tT:((e.nm 744).int 0).toNat=t:=by omega
   have hk:Qv (Ql ri n) ((e.nm 718).int 1) n=some t:=by rw [←Q6];exact t1
   have n0:=S.n0;have n1:=S.n1;have L0:=H.L0;have Ln:=H.Ln
   exact decide_eq_true n0
  ·show 0≤(Q0 (PX.dat e 0 (.a (rxL 0 9 (.v 744 0) 0 Qb)))).b∧(Q0 (PX.dat e 0 (.a (rxL 0 9 (.v 744 0) 0 Qb)))).b < 8
   have S:SI (Ql ri n) n a (e.nm 718) (e.nm 719) (e.nm 70) (e.nm 71):=by(have hpq:=hc;(repeat (first|exact hpq|exact hpq.1|replace hpq:=hpq.2));done)
   obtain⟨f,b,hf,AO,hB,hcut,H⟩:=S.ex
   have g744:(e.nm 744).int 0=Q1 (Qe ri) n ((e.nm 718).int 1):=by
    have q:(e.nm 744).int=fun _=>Q1 (Qe (e.nm 0).int) ((e.nm 3).int 0).toNat ((e.nm 718).int 1):=by(have hpq:=hc;(repeat (first|exact hpq|exact hpq.1|replace hpq:=hpq.2));done)
    rw [h0,h3]at q
    exact congrFun q 0
   have c744:¬(e.nm 744).int 0 < 0:=by(have hpq:=hc;(repeat (first|exact hpq|exact hpq.1|replace hpq:=hpq.2));done)
   obtain⟨t,t1,t2,tN⟩:=QE (I:=Qe ri) (N:=n) (a:=(e.nm 718).int 1) (by rw [←g744];omega)
   have tE:(e.nm 744).int 0=(t:Int):=by rw [g744];exact t2
   have tT:((e.nm 744).int 0).toNat=t:=by omega
   have hk:Qv (Ql ri n) ((e.nm 718).int 1) n=some t:=by rw [←Q6];exact t1
   have n0:=S.n0;have n1:=S.n1;have L0:=H.L0;have Ln:=H.Ln
   have hD:Q0 (PX.dat e 0 (.a (rxL 0 9 (.v 744 0) 0 Qb)))=Ql ri n t:=by
    rw [Xb,Qp tN]
    show Qe (e.nm 0).int ((e.nm 744).int 0).toNat=_
    rw [h0,tT]
    rfl
   have hv:Qj (Ql ri n t)=true:=by
    have q:(e.nm 852).bool=fun _=>Qj (Q0 (PX.dat e 0 (.a (rxL 0 9 (.v 744 0) 0 Qb)))):=by(have hpq:=hc;(repeat (first|exact hpq|exact hpq.1|replace hpq:=hpq.2));done)
    have q0:(e.nm 852).bool 0=true:=by(have hpq:=hc;(repeat (first|exact hpq|exact hpq.1|replace hpq:=hpq.2));done)
    rw [q,hD]at q0
    exact q0
   have vr:=QN hv
   have s718:Xh (PX.dat e 0 (.a (Qa 718 2 Qu)))=X5 (e.nm 718).int 2:=Z9 e 718 0 2
   have iN:∀j,(e.nm 0).int (((e.nm 744).int 0).toNat * 9+j)=ri (t * 9+j):=fun j=>by rw [h0,tT];rfl
   have ia:(Ql ri n t).a=ri (t * 9+6):=by rw [Qp tN];rfl
   have io:(Ql ri n t).op=ri (t * 9+2):=by rw [Qp tN];rfl
   have ii:(Ql ri n t).imm=ri (t * 9+1):=by rw [Qp tN];rfl
   have ic:(Ql ri n t).cc=ri (t * 9+5):=by rw [Qp tN];rfl
   rw [hD]
   exact⟨vr.2.2.1,vr.2.2.2.1⟩
  ·show decide (0≤(e.nm 0).int (((e.nm 744).int 0).toNat * 9+6))=true
   have S:SI (Ql ri n) n a (e.nm 718) (e.nm 719) (e.nm 70) (e.nm 71):=by(have hpq:=hc;(repeat (first|exact hpq|exact hpq.1|replace hpq:=hpq.2));done)
   obtain⟨f,b,hf,AO,hB,hcut,H⟩:=S.ex
   have g744:(e.nm 744).int 0=Q1 (Qe ri) n ((e.nm 718).int 1):=by
    have q:(e.nm 744).int=fun _=>Q1 (Qe (e.nm 0).int) ((e.nm 3).int 0).toNat ((e.nm 718).int 1):=by(have hpq:=hc;(repeat (first|exact hpq|exact hpq.1|replace hpq:=hpq.2));done)
    rw [h0,h3]at q
    exact congrFun q 0
   have c744:¬(e.nm 744).int 0 < 0:=by(have hpq:=hc;(repeat (first|exact hpq|exact hpq.1|replace hpq:=hpq.2));done)
   obtain⟨t,t1,t2,tN⟩:=QE (I:=Qe ri) (N:=n) (a:=(e.nm 718).int 1) (by rw [←g744];omega)
   have tE:(e.nm 744).int 0=(t:Int):=by rw [g744];exact t2
   have tT:((e.nm 744).int 0).toNat=t:=by omega
   have hk:Qv (Ql ri n) ((e.nm 718).int 1) n=some t:=by rw [←Q6];exact t1
   have n0:=S.n0;have n1:=S.n1;have L0:=H.L0;have Ln:=H.Ln
   have hD:Q0 (PX.dat e 0 (.a (rxL 0 9 (.v 744 0) 0 Qb)))=Ql ri n t:=by
    rw [Xb,Qp tN]
    show Qe (e.nm 0).int ((e.nm 744).int 0).toNat=_
    rw [h0,tT]
    rfl
   have hv:Qj (Ql ri n t)=true:=by
    have q:(e.nm 852).bool=fun _=>Qj (Q0 (PX.dat e 0 (.a (rxL 0 9 (.v 744 0) 0 Qb)))):=by(have hpq:=hc;(repeat (first|exact hpq|exact hpq.1|replace hpq:=hpq.2));done)
    have q0:(e.nm 852).bool 0=true:=by(have hpq:=hc;(repeat (first|exact hpq|exact hpq.1|replace hpq:=hpq.2));done)
    rw [q,hD]at q0
    exact q0
   have vr:=QN hv
   have s718:Xh (PX.dat e 0 (.a (Qa 718 2 Qu)))=X5 (e.nm 718).int 2:=Z9 e 718 0 2
   have iN:∀j,(e.nm 0).int (((e.nm 744).int 0).toNat * 9+j)=ri (t * 9+j):=fun j=>by rw [h0,tT];rfl
   have ia:(Ql ri n t).a=ri (t * 9+6):=by rw [Qp tN];rfl
   have io:(Ql ri n t).op=ri (t * 9+2):=by rw [Qp tN];rfl
   have ii:(Ql ri n t).imm=ri (t * 9+1):=by rw [Qp tN];rfl
   have ic:(Ql ri n t).cc=ri (t * 9+5):=by rw [Qp tN];rfl
   rw [iN,←ia]
   exact decide_eq_true vr.1
  ·show decide ((e.nm 0).int (((e.nm 744).int 0).toNat * 9+6) < 8)=true
   have S:SI (Ql ri n) n a (e.nm 718) (e.nm 719) (e.nm 70) (e.nm 71):=by(have hpq:=hc;(repeat (first|exact hpq|exact hpq.1|replace hpq:=hpq.2));done)
   obtain⟨f,b,hf,AO,hB,hcut,H⟩:=S.ex
   have g744:(e.nm 744).int 0=Q1 (Qe ri) n ((e.nm 718).int 1):=by
    have q:(e.nm 744).int=fun _=>Q1 (Qe (e.nm 0).int) ((e.nm 3).int 0).toNat ((e.nm 718).int 1):=by(have hpq:=hc;(repeat (first|exact hpq|exact hpq.1|replace hpq:=hpq.2));done)
    rw [h0,h3]at q
    exact congrFun q 0
   have c744:¬(e.nm 744).int 0 < 0:=by(have hpq:=hc;(repeat (first|exact hpq|exact hpq.1|replace hpq:=hpq.2));done)
   obtain⟨t,t1,t2,tN⟩:=QE (I:=Qe ri) (N:=n) (a:=(e.nm 718).int 1) (by rw [←g744];omega)
   have tE:(e.nm 744).int 0=(t:Int):=by rw [g744];exact t2
   have tT:((e.nm 744).int 0).toNat=t:=by omega
   have hk:Qv (Ql ri n) ((e.nm 718).int 1) n=some t:=by rw [←Q6];exact t1
   have n0:=S.n0;have n1:=S.n1;have L0:=H.L0;have Ln:=H.Ln
   have hD:Q0 (PX.dat e 0 (.a (rxL 0 9 (.v 744 0) 0 Qb)))=Ql ri n t:=by
    rw [Xb,Qp tN]
    show Qe (e.nm 0).int ((e.nm 744).int 0).toNat=_
    rw [h0,tT]
    rfl
   have hv:Qj (Ql ri n t)=true:=by
    have q:(e.nm 852).bool=fun _=>Qj (Q0 (PX.dat e 0 (.a (rxL 0 9 (.v 744 0) 0 Qb)))):=by(have hpq:=hc;(repeat (first|exact hpq|exact hpq.1|replace hpq:=hpq.2));done)
    have q0:(e.nm 852).bool 0=true:=by(have hpq:=hc;(repeat (first|exact hpq|exact hpq.1|replace hpq:=hpq.2));done)
    rw [q,hD]at q0
    exact q0
   have vr:=QN hv
   have s718:Xh (PX.dat e 0 (.a (Qa 718 2 Qu)))=X5 (e.nm 718).int 2:=Z9 e 718 0 2
   have iN:∀j,(e.nm 0).int (((e.nm 744).int 0).toNat * 9+j)=ri (t * 9+j):=fun j=>by rw [h0,tT];rfl
   have ia:(Ql ri n t).a=ri (t * 9+6):=by rw [Qp tN];rfl
   have io:(Ql ri n t).op=ri (t * 9+2):=by rw [Qp tN];rfl
   have ii:(Ql ri n t).imm=ri (t * 9+1):=by rw [Qp tN];rfl
   have ic:(Ql ri n t).cc=ri (t * 9+5):=by rw [Qp tN];rfl
   rw [iN,←ia]
   exact decide_eq_true vr.2.1
  ·show decide (0≤(e.nm 0).int (((e.nm 744).int 0).toNat * 9+6))=true
   have S:SI (Ql ri n) n a (e.nm 718) (e.nm 719) (e.nm 70) (e.nm 71):=by(have hpq:=hc;(repeat (first|exact hpq|exact hpq.1|replace hpq:=hpq.2));done)
   obtain⟨f,b,hf,AO,hB,hcut,H⟩:=S.ex
   have g744:(e.nm 744).int 0=Q1 (Qe ri) n ((e.nm 718).int 1):=by
    have q:(e.nm 744).int=fun _=>Q1 (Qe (e.nm 0).int) ((e.nm 3).int 0).toNat ((e.nm 718).int 1):=by(have hpq:=hc;(repeat (first|exact hpq|exact hpq.1|replace hpq:=hpq.2));done)
    rw [h0,h3]at q
    exact congrFun q 0
   have c744:¬(e.nm 744).int 0 < 0:=by(have hpq:=hc;(repeat (first|exact hpq|exact hpq.1|replace hpq:=hpq.2));done)
   obtain⟨t,t1,t2,tN⟩:=QE (I:=Qe ri) (N:=n) (a:=(e.nm 718).int 1) (by rw [←g744];omega)
   have tE:(e.nm 744).int 0=(t:Int):=by rw [g744];exact t2
   have tT:((e.nm 744).int 0).toNat=t:=by omega
   have hk:Qv (Ql ri n) ((e.nm 718).int 1) n=some t:=by rw [←Q6];exact t1
   have n0:=S.n0;have n1:=S.n1;have L0:=H.L0;have Ln:=H.Ln
   have hD:Q0 (PX.dat e 0 (.a (rxL 0 9 (.v 744 0) 0 Qb)))=Ql ri n t:=by
    rw [Xb,Qp tN]
    show Qe (e.nm 0).int ((e.nm 744).int 0).toNat=_
    rw [h0,tT]
    rfl
   have hv:Qj (Ql ri n t)=true:=by
    have q:(e.nm 852).bool=fun _=>Qj (Q0 (PX.dat e 0 (.a (rxL 0 9 (.v 744 0) 0 Qb)))):=by(have hpq:=hc;(repeat (first|exact hpq|exact hpq.1|replace hpq:=hpq.2));done)
    have q0:(e.nm 852).bool 0=true:=by(have hpq:=hc;(repeat (first|exact hpq|exact hpq.1|replace hpq:=hpq.2));done)
    rw [q,hD]at q0
    exact q0
   have vr:=QN hv
   have s718:Xh (PX.dat e 0 (.a (Qa 718 2 Qu)))=X5 (e.nm 718).int 2:=Z9 e 718 0 2
   have iN:∀j,(e.nm 0).int (((e.nm 744).int 0).toNat * 9+j)=ri (t * 9+j):=fun j=>by rw [h0,tT];rfl
   have ia:(Ql ri n t).a=ri (t * 9+6):=by rw [Qp tN];rfl
   have io:(Ql ri n t).op=ri (t * 9+2):=by rw [Qp tN];rfl
   have ii:(Ql ri n t).imm=ri (t * 9+1):=by rw [Qp tN];rfl
   have ic:(Ql ri n t).cc=ri (t * 9+5):=by rw [Qp tN];rfl
   rw [iN,←ia]
   exact decide_eq_true vr.1
  ·show decide ((e.nm 0).int (((e.nm 744).int 0).toNat * 9+6) < 8)=true
   have S:SI (Ql ri n) n a (e.nm 718) (e.nm 719) (e.nm 70) (e.nm 71):=by(have hpq:=hc;(repeat (first|exact hpq|exact hpq.1|replace hpq:=hpq.2));done)
   obtain⟨f,b,hf,AO,hB,hcut,H⟩:=S.ex
   have g744:(e.nm 744).int 0=Q1 (Qe ri) n ((e.nm 718).int 1):=by
    have q:(e.nm 744).int=fun _=>Q1 (Qe (e.nm 0).int) ((e.nm 3).int 0).toNat ((e.nm 718).int 1):=by(have hpq:=hc;(repeat (first|exact hpq|exact hpq.1|replace hpq:=hpq.2));done)
    rw [h0,h3]at q
    exact congrFun q 0
   have c744:¬(e.nm 744).int 0 < 0:=by(have hpq:=hc;(repeat (first|exact hpq|exact hpq.1|replace hpq:=hpq.2));done)
   obtain⟨t,t1,t2,tN⟩:=QE (I:=Qe ri) (N:=n) (a:=(e.nm 718).int 1) (by rw [←g744];omega)
   have tE:(e.nm 744).int 0=(t:Int):=by rw [g744];exact t2
   have tT:((e.nm 744).int 0).toNat=t:=by omega
   have hk:Qv (Ql ri n) ((e.nm 718).int 1) n=some t:=by rw [←Q6];exact t1
   have n0:=S.n0;have n1:=S.n1;have L0:=H.L0;have Ln:=H.Ln
   have hD:Q0 (PX.dat e 0 (.a (rxL 0 9 (.v 744 0) 0 Qb)))=Ql ri n t:=by
    rw [Xb,Qp tN]
    show Qe (e.nm 0).int ((e.nm 744).int 0).toNat=_
    rw [h0,tT]
    rfl
   have hv:Qj (Ql ri n t)=true:=by
    have q:(e.nm 852).bool=fun _=>Qj (Q0 (PX.dat e 0 (.a (rxL 0 9 (.v 744 0) 0 Qb)))):=by(have hpq:=hc;(repeat (first|exact hpq|exact hpq.1|replace hpq:=hpq.2));done)
    have q0:(e.nm 852).bool 0=true:=by(have hpq:=hc;(repeat (first|exact hpq|exact hpq.1|replace hpq:=hpq.2));done)
    rw [q,hD]at q0
    exact q0
   have vr:=QN hv
   have s718:Xh (PX.dat e 0 (.a (Qa 718 2 Qu)))=X5 (e.nm 718).int 2:=Z9 e 718 0 2
   have iN:∀j,(e.nm 0).int (((e.nm 744).int 0).toNat * 9+j)=ri (t * 9+j):=fun j=>by rw [h0,tT];rfl
   have ia:(Ql ri n t).a=ri (t * 9+6):=by rw [Qp tN];rfl
   have io:(Ql ri n t).op=ri (t * 9+2):=by rw [Qp tN];rfl
   have ii:(Ql ri n t).imm=ri (t * 9+1):=by rw [Qp tN];rfl
   have ic:(Ql ri n t).cc=ri (t * 9+5):=by rw [Qp tN];rfl
   rw [iN,←ia]
   exact decide_eq_true vr.2.1
  ·show 0≤(Q0 (PX.dat e 0 (.a (rxL 0 9 (.v 744 0) 0 Qb)))).b∧(Q0 (PX.dat e 0 (.a (rxL 0 9 (.v 744 0) 0 Qb)))).b < 8
   have S:SI (Ql ri n) n a (e.nm 718) (e.nm 719) (e.nm 70) (e.nm 71):=by(have hpq:=hc;(repeat (first|exact hpq|exact hpq.1|replace hpq:=hpq.2));done)
   obtain⟨f,b,hf,AO,hB,hcut,H⟩:=S.ex
   have g744:(e.nm 744).int 0=Q1 (Qe ri) n ((e.nm 718).int 1):=by
    have q:(e.nm 744).int=fun _=>Q1 (Qe (e.nm 0).int) ((e.nm 3).int 0).toNat ((e.nm 718).int 1):=by(have hpq:=hc;(repeat (first|exact hpq|exact hpq.1|replace hpq:=hpq.2));done)
    rw [h0,h3]at q
    exact congrFun q 0
   have c744:¬(e.nm 744).int 0 < 0:=by(have hpq:=hc;(repeat (first|exact hpq|exact hpq.1|replace hpq:=hpq.2));done)
   obtain⟨t,t1,t2,tN⟩:=QE (I:=Qe ri) (N:=n) (a:=(e.nm 718).int 1) (by rw [←g744];omega)
   have tE:(e.nm 744).int 0=(t:Int):=by rw [g744];exact t2
   have tT:((e.nm 744).int 0).toNat=t:=by omega
   have hk:Qv (Ql ri n) ((e.nm 718).int 1) n=some t:=by rw [←Q6];exact t1
   have n0:=S.n0;have n1:=S.n1;have L0:=H.L0;have Ln:=H.Ln
   have hD:Q0 (PX.dat e 0 (.a (rxL 0 9 (.v 744 0) 0 Qb)))=Ql ri n t:=by
    rw [Xb,Qp tN]
    show Qe (e.nm 0).int ((e.nm 744).int 0).toNat=_
    rw [h0,tT]
    rfl
   have hv:Qj (Ql ri n t)=true:=by
    have q:(e.nm 852).bool=fun _=>Qj (Q0 (PX.dat e 0 (.a (rxL 0 9 (.v 744 0) 0 Qb)))):=by(have hpq:=hc;(repeat (first|exact hpq|exact hpq.1|replace hpq:=hpq.2));done)
    have q0:(e.nm 852).bool 0=true:=by(have hpq:=hc;(repeat (first|exact hpq|exact hpq.1|replace hpq:=hpq.2));done)
    rw [q,hD]at q0
    exact q0
   have vr:=QN hv
   have s718:Xh (PX.dat e 0 (.a (Qa 718 2 Qu)))=X5 (e.nm 718).int 2:=Z9 e 718 0 2
   have iN:∀j,(e.nm 0).int (((e.nm 744).int 0).toNat * 9+j)=ri (t * 9+j):=fun j=>by rw [h0,tT];rfl
   have ia:(Ql ri n t).a=ri (t * 9+6):=by rw [Qp tN];rfl
   have io:(Ql ri n t).op=ri (t * 9+2):=by rw [Qp tN];rfl
   have ii:(Ql ri n t).imm=ri (t * 9+1):=by rw [Qp tN];rfl
   have ic:(Ql ri n t).cc=ri (t * 9+5):=by rw [Qp tN];rfl
   rw [hD]
   exact⟨vr.2.2.1,vr.2.2.2.1⟩
  ·show Q5 ((e.nm 718).int (((e.nm 0).int (((e.nm 744).int 0).toNat * 9+6)).toNat * 1+2))∧Q5 ((e.nm 1012).int 0)
   have S:SI (Ql ri n) n a (e.nm 718) (e.nm 719) (e.nm 70) (e.nm 71):=by(have hpq:=hc;(repeat (first|exact hpq|exact hpq.1|replace hpq:=hpq.2));done)
   obtain⟨f,b,hf,AO,hB,hcut,H⟩:=S.ex
   have g744:(e.nm 744).int 0=Q1 (Qe ri) n ((e.nm 718).int 1):=by
    have q:(e.nm 744).int=fun _=>Q1 (Qe (e.nm 0).int) ((e.nm 3).int 0).toNat ((e.nm 718).int 1):=by(have hpq:=hc;(repeat (first|exact hpq|exact hpq.1|replace hpq:=hpq.2));done)
    rw [h0,h3]at q
    exact congrFun q 0
   have c744:¬(e.nm 744).int 0 < 0:=by(have hpq:=hc;(repeat (first|exact hpq|exact hpq.1|replace hpq:=hpq.2));done)
   obtain⟨t,t1,t2,tN⟩:=QE (I:=Qe ri) (N:=n) (a:=(e.nm 718).int 1) (by rw [←g744];omega)
   have tE:(e.nm 744).int 0=(t:Int):=by rw [g744];exact t2
   have tT:((e.nm 744).int 0).toNat=t:=by omega
   have hk:Qv (Ql ri n) ((e.nm 718).int 1) n=some t:=by rw [←Q6];exact t1
   have n0:=S.n0;have n1:=S.n1;have L0:=H.L0;have Ln:=H.Ln
   have hD:Q0 (PX.dat e 0 (.a (rxL 0 9 (.v 744 0) 0 Qb)))=Ql ri n t:=by
    rw [Xb,Qp tN]
    show Qe (e.nm 0).int ((e.nm 744).int 0).toNat=_
    rw [h0,tT]
    rfl
   have hv:Qj (Ql ri n t)=true:=by
    have q:(e.nm 852).bool=fun _=>Qj (Q0 (PX.dat e 0 (.a (rxL 0 9 (.v 744 0) 0 Qb)))):=by(have hpq:=hc;(repeat (first|exact hpq|exact hpq.1|replace hpq:=hpq.2));done)
    have q0:(e.nm 852).bool 0=true:=by(have hpq:=hc;(repeat (first|exact hpq|exact hpq.1|replace hpq:=hpq.2));done)
    rw [q,hD]at q0
    exact q0
   have vr:=QN hv
   have s718:Xh (PX.dat e 0 (.a (Qa 718 2 Qu)))=X5 (e.nm 718).int 2:=Z9 e 718 0 2
   have iN:∀j,(e.nm 0).int (((e.nm 744).int 0).toNat * 9+j)=ri (t * 9+j):=fun j=>by rw [h0,tT];rfl
   have ia:(Ql ri n t).a=ri (t * 9+6):=by rw [Qp tN];rfl
   have io:(Ql ri n t).op=ri (t * 9+2):=by rw [Qp tN];rfl
   have ii:(Ql ri n t).imm=ri (t * 9+1):=by rw [Qp tN];rfl
   have ic:(Ql ri n t).cc=ri (t * 9+5):=by rw [Qp tN];rfl
   have g:(e.nm 1012).int=fun _=>Kc (Q0 (PX.dat e 0 (.a (rxL 0 9 (.v 744 0) 0 Qb)))) (Xh (PX.dat e 0 (.a (Qa 718 2 Qu)))):=by(have hpq:=hc;(repeat (first|exact hpq|exact hpq.1|replace hpq:=hpq.2));done)
   rw [g,hD,s718,iN,←ia,Nat.mul_one,Nat.add_comm]
   refine⟨?_,Qcq (hI _) H.x32⟩
   have:=H.x32 (Ql ri n t).a.toNat
   rwa [YP (by omega)]at this
  ·show decide (0≤(e.nm 718).int 14)=true
   have S:SI (Ql ri n) n a (e.nm 718) (e.nm 719) (e.nm 70) (e.nm 71):=by(have hpq:=hc;(repeat (first|exact hpq|exact hpq.1|replace hpq:=hpq.2));done)
   obtain⟨f,b,hf,AO,hB,hcut,H⟩:=S.ex
   have g744:(e.nm 744).int 0=Q1 (Qe ri) n ((e.nm 718).int 1):=by
    have q:(e.nm 744).int=fun _=>Q1 (Qe (e.nm 0).int) ((e.nm 3).int 0).toNat ((e.nm 718).int 1):=by(have hpq:=hc;(repeat (first|exact hpq|exact hpq.1|replace hpq:=hpq.2));done)
    rw [h0,h3]at q
    exact congrFun q 0
   have c744:¬(e.nm 744).int 0 < 0:=by(have hpq:=hc;(repeat (first|exact hpq|exact hpq.1|replace hpq:=hpq.2));done)
   obtain⟨t,t1,t2,tN⟩:=QE (I:=Qe ri) (N:=n) (a:=(e.nm 718).int 1) (by rw [←g744];omega)
   have tE:(e.nm 744).int 0=(t:Int):=by rw [g744];exact t2
   have tT:((e.nm 744).int 0).toNat=t:=by omega
   have hk:Qv (Ql ri n) ((e.nm 718).int 1) n=some t:=by rw [←Q6];exact t1
   have n0:=S.n0;have n1:=S.n1;have L0:=H.L0;have Ln:=H.Ln
   exact decide_eq_true L0
  ·show decide ((e.nm 718).int 14≤1000000)=true
   have S:SI (Ql ri n) n a (e.nm 718) (e.nm 719) (e.nm 70) (e.nm 71):=by(have hpq:=hc;(repeat (first|exact hpq|exact hpq.1|replace hpq:=hpq.2));done)
   obtain⟨f,b,hf,AO,hB,hcut,H⟩:=S.ex
   have g744:(e.nm 744).int 0=Q1 (Qe ri) n ((e.nm 718).int 1):=by
    have q:(e.nm 744).int=fun _=>Q1 (Qe (e.nm 0).int) ((e.nm 3).int 0).toNat ((e.nm 718).int 1):=by(have hpq:=hc;(repeat (first|exact hpq|exact hpq.1|replace hpq:=hpq.2));done)
    rw [h0,h3]at q
    exact congrFun q 0
   have c744:¬(e.nm 744).int 0 < 0:=by(have hpq:=hc;(repeat (first|exact hpq|exact hpq.1|replace hpq:=hpq.2));done)
   obtain⟨t,t1,t2,tN⟩:=QE (I:=Qe ri) (N:=n) (a:=(e.nm 718).int 1) (by rw [←g744];omega)
   have tE:(e.nm 744).int 0=(t:Int):=by rw [g744];exact t2
   have tT:((e.nm 744).int 0).toNat=t:=by omega
   have hk:Qv (Ql ri n) ((e.nm 718).int 1) n=some t:=by rw [←Q6];exact t1
   have n0:=S.n0;have n1:=S.n1;have L0:=H.L0;have Ln:=H.Ln
   exact decide_eq_true (by omega)
  ·show((Q0 (PX.dat e 0 (.a (rxL 0 9 (.v 744 0) 0 Qb)))).wf∧Qj (Q0 (PX.dat e 0 (.a (rxL 0 9 (.v 744 0) 0 Qb))))=true)∧(∀k,Q5 (Xh (PX.dat e 0 (.a (Qa 718 2 Qu))) k))∧Q5 ((e.nm 2).int (((e.nm 718).int 0).toNat * 1+0))
   have S:SI (Ql ri n) n a (e.nm 718) (e.nm 719) (e.nm 70) (e.nm 71):=by(have hpq:=hc;(repeat (first|exact hpq|exact hpq.1|replace hpq:=hpq.2));done)
   obtain⟨f,b,hf,AO,hB,hcut,H⟩:=S.ex
   have g744:(e.nm 744).int 0=Q1 (Qe ri) n ((e.nm 718).int 1):=by
    have q:(e.nm 744).int=fun _=>Q1 (Qe (e.nm 0).int) ((e.nm 3).int 0).toNat ((e.nm 718).int 1):=by(have hpq:=hc;(repeat (first|exact hpq|exact hpq.1|replace hpq:=hpq.2));done)
    rw [h0,h3]at q
    exact congrFun q 0
   have c744:¬(e.nm 744).int 0 < 0:=by(have hpq:=hc;(repeat (first|exact hpq|exact hpq.1|replace hpq:=hpq.2));done)
   obtain⟨t,t1,t2,tN⟩:=QE (I:=Qe ri) (N:=n) (a:=(e.nm 718).int 1) (by rw [←g744];omega)
   have tE:(e.nm 744).int 0=(t:Int):=by rw [g744];exact t2
   have tT:((e.nm 744).int 0).toNat=t:=by omega
   have hk:Qv (Ql ri n) ((e.nm 718).int 1) n=some t:=by rw [←Q6];exact t1
   have n0:=S.n0;have n1:=S.n1;have L0:=H.L0;have Ln:=H.Ln
   have hD:Q0 (PX.dat e 0 (.a (rxL 0 9 (.v 744 0) 0 Qb)))=Ql ri n t:=by
    rw [Xb,Qp tN]
    show Qe (e.nm 0).int ((e.nm 744).int 0).toNat=_
    rw [h0,tT]
    rfl
   have hv:Qj (Ql ri n t)=true:=by
    have q:(e.nm 852).bool=fun _=>Qj (Q0 (PX.dat e 0 (.a (rxL 0 9 (.v 744 0) 0 Qb)))):=by(have hpq:=hc;(repeat (first|exact hpq|exact hpq.1|replace hpq:=hpq.2));done)
    have q0:(e.nm 852).bool 0=true:=by(have hpq:=hc;(repeat (first|exact hpq|exact hpq.1|replace hpq:=hpq.2));done)
    rw [q,hD]at q0
    exact q0
   have vr:=QN hv
   have s718:Xh (PX.dat e 0 (.a (Qa 718 2 Qu)))=X5 (e.nm 718).int 2:=Z9 e 718 0 2
   have iN:∀j,(e.nm 0).int (((e.nm 744).int 0).toNat * 9+j)=ri (t * 9+j):=fun j=>by rw [h0,tT];rfl
   have ia:(Ql ri n t).a=ri (t * 9+6):=by rw [Qp tN];rfl
   have io:(Ql ri n t).op=ri (t * 9+2):=by rw [Qp tN];rfl
   have ii:(Ql ri n t).imm=ri (t * 9+1):=by rw [Qp tN];rfl
   have ic:(Ql ri n t).cc=ri (t * 9+5):=by rw [Qp tN];rfl
   have k5:(e.nm 718).int 0 < (n2:Int):=by(have hpq:=hc;(repeat (first|exact hpq|exact hpq.1|replace hpq:=hpq.2));done)
   rw [hD,s718,h2,Nat.mul_one,Nat.add_zero]
   exact⟨⟨hI _,hv⟩,H.x32,hnum _ (by omega)⟩
  ·show decide (0≤(e.nm 718).int 14)=true
   have S:SI (Ql ri n) n a (e.nm 718) (e.nm 719) (e.nm 70) (e.nm 71):=by(have hpq:=hc;(repeat (first|exact hpq|exact hpq.1|replace hpq:=hpq.2));done)
   obtain⟨f,b,hf,AO,hB,hcut,H⟩:=S.ex
   have g744:(e.nm 744).int 0=Q1 (Qe ri) n ((e.nm 718).int 1):=by
    have q:(e.nm 744).int=fun _=>Q1 (Qe (e.nm 0).int) ((e.nm 3).int 0).toNat ((e.nm 718).int 1):=by(have hpq:=hc;(repeat (first|exact hpq|exact hpq.1|replace hpq:=hpq.2));done)
    rw [h0,h3]at q
    exact congrFun q 0
   have c744:¬(e.nm 744).int 0 < 0:=by(have hpq:=hc;(repeat (first|exact hpq|exact hpq.1|replace hpq:=hpq.2));done)
   obtain⟨t,t1,t2,tN⟩:=QE (I:=Qe ri) (N:=n) (a:=(e.nm 718).int 1) (by rw [←g744];omega)
   have tE:(e.nm 744).int 0=(t:Int):=by rw [g744];exact t2
   have tT:((e.nm 744).int 0).toNat=t:=by omega
   have hk:Qv (Ql ri n) ((e.nm 718).int 1) n=some t:=by rw [←Q6];exact t1
   have n0:=S.n0;have n1:=S.n1;have L0:=H.L0;have Ln:=H.Ln
   exact decide_eq_true L0
  ·show decide (IntKind.i64.wrap ((e.nm 718).int 14 - 1) < (e.nm 718).int 14)=true
   have S:SI (Ql ri n) n a (e.nm 718) (e.nm 719) (e.nm 70) (e.nm 71):=by(have hpq:=hc;(repeat (first|exact hpq|exact hpq.1|replace hpq:=hpq.2));done)
   obtain⟨f,b,hf,AO,hB,hcut,H⟩:=S.ex
   have g744:(e.nm 744).int 0=Q1 (Qe ri) n ((e.nm 718).int 1):=by
    have q:(e.nm 744).int=fun _=>Q1 (Qe (e.nm 0).int) ((e.nm 3).int 0).toNat ((e.nm 718).int 1):=by(have hpq:=hc;(repeat (first|exact hpq|exact hpq.1|replace hpq:=hpq.2));done)
    rw [h0,h3]at q
    exact congrFun q 0
   have c744:¬(e.nm 744).int 0 < 0:=by(have hpq:=hc;(repeat (first|exact hpq|exact hpq.1|replace hpq:=hpq.2));done)
   obtain⟨t,t1,t2,tN⟩:=QE (I:=Qe ri) (N:=n) (a:=(e.nm 718).int 1) (by rw [←g744];omega)
   have tE:(e.nm 744).int 0=(t:Int):=by rw [g744];exact t2
   have tT:((e.nm 744).int 0).toNat=t:=by omega
   have hk:Qv (Ql ri n) ((e.nm 718).int 1) n=some t:=by rw [←Q6];exact t1
   have n0:=S.n0;have n1:=S.n1;have L0:=H.L0;have Ln:=H.Ln
   rw [IntKind.wrap_i64]
   exact decide_eq_true (by omega)
  ·show decide (IntKind.i64.wrap ((e.nm 718).int 14 - 1)≤(e.nm 718).int 14)=true
   have S:SI (Ql ri n) n a (e.nm 718) (e.nm 719) (e.nm 70) (e.nm 71):=by(have hpq:=hc;(repeat (first|exact hpq|exact hpq.1|replace hpq:=hpq.2));done)
   obtain⟨f,b,hf,AO,hB,hcut,H⟩:=S.ex
   have g744:(e.nm 744).int 0=Q1 (Qe ri) n ((e.nm 718).int 1):=by
    have q:(e.nm 744).int=fun _=>Q1 (Qe (e.nm 0).int) ((e.nm 3).int 0).toNat ((e.nm 718).int 1):=by(have hpq:=hc;(repeat (first|exact hpq|exact hpq.1|replace hpq:=hpq.2));done)
    rw [h0,h3]at q
    exact congrFun q 0
   have c744:¬(e.nm 744).int 0 < 0:=by(have hpq:=hc;(repeat (first|exact hpq|exact hpq.1|replace hpq:=hpq.2));done)
   obtain⟨t,t1,t2,tN⟩:=QE (I:=Qe ri) (N:=n) (a:=(e.nm 718).int 1) (by rw [←g744];omega)
   have tE:(e.nm 744).int 0=(t:Int):=by rw [g744];exact t2
   have tT:((e.nm 744).int 0).toNat=t:=by omega
   have hk:Qv (Ql ri n) ((e.nm 718).int 1) n=some t:=by rw [←Q6];exact t1
   have n0:=S.n0;have n1:=S.n1;have L0:=H.L0;have Ln:=H.Ln
   rw [IntKind.wrap_i64]
   exact decide_eq_true (by omega)
  ·show((Q0 (PX.dat e 0 (.a (rxL 0 9 (.v 744 0) 0 Qb)))).wf∧Qj (Q0 (PX.dat e 0 (.a (rxL 0 9 (.v 744 0) 0 Qb))))=true)∧(∀k,Q5 (Xh (PX.dat e 0 (.a (Qa 718 2 Qu))) k))∧Q5 ((e.nm 2).int (((e.nm 718).int 0).toNat * 1+0))
   have S:SI (Ql ri n) n a (e.nm 718) (e.nm 719) (e.nm 70) (e.nm 71):=by(have hpq:=hc;(repeat (first|exact hpq|exact hpq.1|replace hpq:=hpq.2));done)
   obtain⟨f,b,hf,AO,hB,hcut,H⟩:=S.ex
   have g744:(e.nm 744).int 0=Q1 (Qe ri) n ((e.nm 718).int 1):=by
    have q:(e.nm 744).int=fun _=>Q1 (Qe (e.nm 0).int) ((e.nm 3).int 0).toNat ((e.nm 718).int 1):=by(have hpq:=hc;(repeat (first|exact hpq|exact hpq.1|replace hpq:=hpq.2));done)
    rw [h0,h3]at q
    exact congrFun q 0
   have c744:¬(e.nm 744).int 0 < 0:=by(have hpq:=hc;(repeat (first|exact hpq|exact hpq.1|replace hpq:=hpq.2));done)
   obtain⟨t,t1,t2,tN⟩:=QE (I:=Qe ri) (N:=n) (a:=(e.nm 718).int 1) (by rw [←g744];omega)
   have tE:(e.nm 744).int 0=(t:Int):=by rw [g744];exact t2
   have tT:((e.nm 744).int 0).toNat=t:=by omega
   have hk:Qv (Ql ri n) ((e.nm 718).int 1) n=some t:=by rw [←Q6];exact t1
   have n0:=S.n0;have n1:=S.n1;have L0:=H.L0;have Ln:=H.Ln
   have hD:Q0 (PX.dat e 0 (.a (rxL 0 9 (.v 744 0) 0 Qb)))=Ql ri n t:=by
    rw [Xb,Qp tN]
    show Qe (e.nm 0).int ((e.nm 744).int 0).toNat=_
    rw [h0,tT]
    rfl
   have hv:Qj (Ql ri n t)=true:=by
    have q:(e.nm 852).bool=fun _=>Qj (Q0 (PX.dat e 0 (.a (rxL 0 9 (.v 744 0) 0 Qb)))):=by(have hpq:=hc;(repeat (first|exact hpq|exact hpq.1|replace hpq:=hpq.2));done)
    have q0:(e.nm 852).bool 0=true:=by(have hpq:=hc;(repeat (first|exact hpq|exact hpq.1|replace hpq:=hpq.2));done)
    rw [q,hD]at q0
    exact q0
   have vr:=QN hv
   have s718:Xh (PX.dat e 0 (.a (Qa 718 2 Qu)))=X5 (e.nm 718).int 2:=Z9 e 718 0 2
   have iN:∀j,(e.nm 0).int (((e.nm 744).int 0).toNat * 9+j)=ri (t * 9+j):=fun j=>by rw [h0,tT];rfl
   have ia:(Ql ri n t).a=ri (t * 9+6):=by rw [Qp tN];rfl
   have io:(Ql ri n t).op=ri (t * 9+2):=by rw [Qp tN];rfl
   have ii:(Ql ri n t).imm=ri (t * 9+1):=by rw [Qp tN];rfl
   have ic:(Ql ri n t).cc=ri (t * 9+5):=by rw [Qp tN];rfl
   have k5:(e.nm 718).int 0 < (n2:Int):=by(have hpq:=hc;(repeat (first|exact hpq|exact hpq.1|replace hpq:=hpq.2));done)
   rw [hD,s718,h2,Nat.mul_one,Nat.add_zero]
   exact⟨⟨hI _,hv⟩,H.x32,hnum _ (by omega)⟩
  ·show((Q0 (PX.dat e 0 (.a (rxL 0 9 (.v 744 0) 0 Qb)))).wf∧Qj (Q0 (PX.dat e 0 (.a (rxL 0 9 (.v 744 0) 0 Qb))))=true)∧(∀k,Q5 (Xh (PX.dat e 0 (.a (Qa 718 2 Qu))) k))∧Q5 ((e.nm 2).int (((e.nm 718).int 0).toNat * 1+0))
   have S:SI (Ql ri n) n a (e.nm 718) (e.nm 719) (e.nm 70) (e.nm 71):=by(have hpq:=hc;(repeat (first|exact hpq|exact hpq.1|replace hpq:=hpq.2));done)
   obtain⟨f,b,hf,AO,hB,hcut,H⟩:=S.ex
   have g744:(e.nm 744).int 0=Q1 (Qe ri) n ((e.nm 718).int 1):=by
    have q:(e.nm 744).int=fun _=>Q1 (Qe (e.nm 0).int) ((e.nm 3).int 0).toNat ((e.nm 718).int 1):=by(have hpq:=hc;(repeat (first|exact hpq|exact hpq.1|replace hpq:=hpq.2));done)
    rw [h0,h3]at q
    exact congrFun q 0
   have c744:¬(e.nm 744).int 0 < 0:=by(have hpq:=hc;(repeat (first|exact hpq|exact hpq.1|replace hpq:=hpq.2));done)
   obtain⟨t,t1,t2,tN⟩:=QE (I:=Qe ri) (N:=n) (a:=(e.nm 718).int 1) (by rw [←g744];omega)
   have tE:(e.nm 744).int 0=(t:Int):=by rw [g744];exact t2
   have tT:((e.nm 744).int 0).toNat=t:=by omega
   have hk:Qv (Ql ri n) ((e.nm 718).int 1) n=some t:=by rw [←Q6];exact t1
   have n0:=S.n0;have n1:=S.n1;have L0:=H.L0;have Ln:=H.Ln
   have hD:Q0 (PX.dat e 0 (.a (rxL 0 9 (.v 744 0) 0 Qb)))=Ql ri n t:=by
    rw [Xb,Qp tN]
    show Qe (e.nm 0).int ((e.nm 744).int 0).toNat=_
    rw [h0,tT]
    rfl
   have hv:Qj (Ql ri n t)=true:=by
    have q:(e.nm 852).bool=fun _=>Qj (Q0 (PX.dat e 0 (.a (rxL 0 9 (.v 744 0) 0 Qb)))):=by(have hpq:=hc;(repeat (first|exact hpq|exact hpq.1|replace hpq:=hpq.2));done)
    have q0:(e.nm 852).bool 0=true:=by(have hpq:=hc;(repeat (first|exact hpq|exact hpq.1|replace hpq:=hpq.2));done)
    rw [q,hD]at q0
    exact q0
   have vr:=QN hv
   have s718:Xh (PX.dat e 0 (.a (Qa 718 2 Qu)))=X5 (e.nm 718).int 2:=Z9 e 718 0 2
   have iN:∀j,(e.nm 0).int (((e.nm 744).int 0).toNat * 9+j)=ri (t * 9+j):=fun j=>by rw [h0,tT];rfl
   have ia:(Ql ri n t).a=ri (t * 9+6):=by rw [Qp tN];rfl
   have io:(Ql ri n t).op=ri (t * 9+2):=by rw [Qp tN];rfl
   have ii:(Ql ri n t).imm=ri (t * 9+1):=by rw [Qp tN];rfl
   have ic:(Ql ri n t).cc=ri (t * 9+5):=by rw [Qp tN];rfl
   have k5:(e.nm 718).int 0 < (n2:Int):=by(have hpq:=hc;(repeat (first|exact hpq|exact hpq.1|replace hpq:=hpq.2));done)
   rw [hD,s718,h2,Nat.mul_one,Nat.add_zero]
   exact⟨⟨hI _,hv⟩,H.x32,hnum _ (by omega)⟩
  ·
   have S:SI (Ql ri n) n a (e.nm 718) (e.nm 719) (e.nm 70) (e.nm 71):=by(have hpq:=hc;(repeat (first|exact hpq|exact hpq.1|replace hpq:=hpq.2));done)
   obtain⟨f,b,hf,AO,hB,hcut,H⟩:=S.ex
   have g744:(e.nm 744).int 0=Q1 (Qe ri) n ((e.nm 718).int 1):=by
    have q:(e.nm 744).int=fun _=>Q1 (Qe (e.nm 0).int) ((e.nm 3).int 0).toNat ((e.nm 718).int 1):=by(have hpq:=hc;(repeat (first|exact hpq|exact hpq.1|replace hpq:=hpq.2));done)
    rw [h0,h3]at q
    exact congrFun q 0
   have c744:¬(e.nm 744).int 0 < 0:=by(have hpq:=hc;(repeat (first|exact hpq|exact hpq.1|replace hpq:=hpq.2));done)
   obtain⟨t,t1,t2,tN⟩:=QE (I:=Qe ri) (N:=n) (a:=(e.nm 718).int 1) (by rw [←g744];omega)
   have tE:(e.nm 744).int 0=(t:Int):=by rw [g744];exact t2
   have tT:((e.nm 744).int 0).toNat=t:=by omega
   have hk:Qv (Ql ri n) ((e.nm 718).int 1) n=some t:=by rw [←Q6];exact t1
   have n0:=S.n0;have n1:=S.n1;have L0:=H.L0;have Ln:=H.Ln
   have hD:Q0 (PX.dat e 0 (.a (rxL 0 9 (.v 744 0) 0 Qb)))=Ql ri n t:=by
    rw [Xb,Qp tN]
    show Qe (e.nm 0).int ((e.nm 744).int 0).toNat=_
    rw [h0,tT]
    rfl
   have hv:Qj (Ql ri n t)=true:=by
    have q:(e.nm 852).bool=fun _=>Qj (Q0 (PX.dat e 0 (.a (rxL 0 9 (.v 744 0) 0 Qb)))):=by(have hpq:=hc;(repeat (first|exact hpq|exact hpq.1|replace hpq:=hpq.2));done)
    have q0:(e.nm 852).bool 0=true:=by(have hpq:=hc;(repeat (first|exact hpq|exact hpq.1|replace hpq:=hpq.2));done)
    rw [q,hD]at q0
    exact q0
   have vr:=QN hv
   have s718:Xh (PX.dat e 0 (.a (Qa 718 2 Qu)))=X5 (e.nm 718).int 2:=Z9 e 718 0 2
   have iN:∀j,(e.nm 0).int (((e.nm 744).int 0).toNat * 9+j)=ri (t * 9+j):=fun j=>by rw [h0,tT];rfl
   have ia:(Ql ri n t).a=ri (t * 9+6):=by rw [Qp tN];rfl
   have io:(Ql ri n t).op=ri (t * 9+2):=by rw [Qp tN];rfl
   have ii:(Ql ri n t).imm=ri (t * 9+1):=by rw [Qp tN];rfl
   have ic:(Ql ri n t).cc=ri (t * 9+5):=by rw [Qp tN];rfl
   have k5:(e.nm 718).int 0 < (n2:Int):=by(have hpq:=hc;(repeat (first|exact hpq|exact hpq.1|replace hpq:=hpq.2));done)
   have c60:¬60 < (n2:Int):=by(have hpq:=hc;(repeat (first|exact hpq|exact hpq.1|replace hpq:=hpq.2));done)
   have sN:IntKind.i64.wrap ((e.nm 718).int 0+1)=(e.nm 718).int 0+1:=Qx n0 (by omega)
   have g956:(e.nm 956).int=fun _=>ZY (Ql ri n t):=by
    have q:(e.nm 956).int=fun _=>ZY (Q0 (PX.dat e 0 (.a (rxL 0 9 (.v 744 0) 0 Qb)))):=by(have hpq:=hc;(repeat (first|exact hpq|exact hpq.1|replace hpq:=hpq.2));done)
    rwa [hD]at q
   have o15:(Ql ri n t).op=15:=by
    have q:(e.nm 0).int (((e.nm 744).int 0).toNat * 9+2)=15:=by(have hpq:=hc;(repeat (first|exact hpq|exact hpq.1|replace hpq:=hpq.2));done)
    rw [io,←iN];exact q
   have q6:(e.nm 1016).bool=fun j=>if j=1 then QaV ((e.nm 718).int (((e.nm 0).int (((e.nm 744).int 0).toNat * 9+6)).toNat * 1+2)) ((e.nm 1012).int 0)else if j=2 then Go.Proofs.Yteplnamfpodmlaa.subN ((e.nm 718).int (((e.nm 0).int (((e.nm 744).int 0).toNat * 9+6)).toNat * 1+2)) ((e.nm 1012).int 0)else if j=3 then Qe6 ((e.nm 718).int (((e.nm 0).int (((e.nm 744).int 0).toNat * 9+6)).toNat * 1+2)) ((e.nm 1012).int 0)else subV ((e.nm 718).int (((e.nm 0).int (((e.nm 744).int 0).toNat * 9+6)).toNat * 1+2)) ((e.nm 1012).int 0):=by(have hpq:=hc;(repeat (first|exact hpq|exact hpq.1|replace hpq:=hpq.2));done)
   have g7:(e.nm 1012).int=fun _=>Kc (Q0 (PX.dat e 0 (.a (rxL 0 9 (.v 744 0) 0 Qb)))) (Xh (PX.dat e 0 (.a (Qa 718 2 Qu)))):=by(have hpq:=hc;(repeat (first|exact hpq|exact hpq.1|replace hpq:=hpq.2));done)
   rw [hD,s718]at g7
   rw [iN,←ia,g7,Nat.mul_one,Nat.add_comm]at q6
   have xa:X5 (e.nm 718).int 2 (Ql ri n t).a.toNat=(e.nm 718).int (2+(Ql ri n t).a.toNat):=YP (by omega)
   have R:=QdX (n':=(e.nm 718).int 0+1) (x':=X5 (e.nm 718).int 2) (gz:=(e.nm 1016).bool 1) (gn:=(e.nm 1016).bool 2) (gc:=(e.nm 1016).bool 3) (gv:=(e.nm 1016).bool 4) (m:=0) AO H hk hv (by omega) (by omega) (by omega) (by omega) (by omega) (by omega) (by omega) K9 (fun r hr=>by unfold ZG;simp [o15]) (fun r hr=>Qck hr) rfl (fun hcm=>by
    have hf:¬(Ql ri n t).form=0:=by unfold Yt at hcm;grind
    have hsx:Kc (Ql ri n t) (X5 (e.nm 718).int 2)=(Ql ri n t).imm:=by unfold Kc;rw [if_neg hf]
    rw [hsx]at q6
    rw [q6,xa]
    exact⟨rfl,rfl,rfl,rfl⟩)
   refine⟨(show 0≤IntKind.i64.wrap ((e.nm 718).int 0+1)by rw [sN];omega),(show IntKind.i64.wrap ((e.nm 718).int 0+1)≤60 by rw [sN];omega),S.mN,f,b,hf,AO,hB,hcut,?_⟩
   exact V3.of R sN (congrFun g956 0) (QkY rfl rfl rfl rfl rfl rfl rfl rfl) rfl rfl rfl rfl rfl rfl
  ·show decide ((e.nm 718).int 0 < IntKind.i64.wrap ((e.nm 718).int 0+1))=true
   have S:SI (Ql ri n) n a (e.nm 718) (e.nm 719) (e.nm 70) (e.nm 71):=by(have hpq:=hc;(repeat (first|exact hpq|exact hpq.1|replace hpq:=hpq.2));done)
   obtain⟨f,b,hf,AO,hB,hcut,H⟩:=S.ex
   have g744:(e.nm 744).int 0=Q1 (Qe ri) n ((e.nm 718).int 1):=by
    have q:(e.nm 744).int=fun _=>Q1 (Qe (e.nm 0).int) ((e.nm 3).int 0).toNat ((e.nm 718).int 1):=by(have hpq:=hc;(repeat (first|exact hpq|exact hpq.1|replace hpq:=hpq.2));done)
    rw [h0,h3]at q
    exact congrFun q 0
   have c744:¬(e.nm 744).int 0 < 0:=by(have hpq:=hc;(repeat (first|exact hpq|exact hpq.1|replace hpq:=hpq.2));done)
   obtain⟨t,t1,t2,tN⟩:=QE (I:=Qe ri) (N:=n) (a:=(e.nm 718).int 1) (by rw [←g744];omega)
   have tE:(e.nm 744).int 0=(t:Int):=by rw [g744];exact t2
   have tT:((e.nm 744).int 0).toNat=t:=by omega
   have hk:Qv (Ql ri n) ((e.nm 718).int 1) n=some t:=by rw [←Q6];exact t1
   have n0:=S.n0;have n1:=S.n1;have L0:=H.L0;have Ln:=H.Ln
   rw [Qx n0 (by omega)]
   exact decide_eq_true (by omega)
  ·show decide ((e.nm 718).int 0 < 61)=true
   have S:SI (Ql ri n) n a (e.nm 718) (e.nm 719) (e.nm 70) (e.nm 71):=by(have hpq:=hc;(repeat (first|exact hpq|exact hpq.1|replace hpq:=hpq.2));done)
   obtain⟨f,b,hf,AO,hB,hcut,H⟩:=S.ex
   have g744:(e.nm 744).int 0=Q1 (Qe ri) n ((e.nm 718).int 1):=by
    have q:(e.nm 744).int=fun _=>Q1 (Qe (e.nm 0).int) ((e.nm 3).int 0).toNat ((e.nm 718).int 1):=by(have hpq:=hc;(repeat (first|exact hpq|exact hpq.1|replace hpq:=hpq.2));done)
    rw [h0,h3]at q
    exact congrFun q 0
   have c744:¬(e.nm 744).int 0 < 0:=by(have hpq:=hc;(repeat (first|exact hpq|exact hpq.1|replace hpq:=hpq.2));done)
   obtain⟨t,t1,t2,tN⟩:=QE (I:=Qe ri) (N:=n) (a:=(e.nm 718).int 1) (by rw [←g744];omega)
   have tE:(e.nm 744).int 0=(t:Int):=by rw [g744];exact t2
   have tT:((e.nm 744).int 0).toNat=t:=by omega
   have hk:Qv (Ql ri n) ((e.nm 718).int 1) n=some t:=by rw [←Q6];exact t1
   have n0:=S.n0;have n1:=S.n1;have L0:=H.L0;have Ln:=H.Ln
   exact decide_eq_true (by omega)
  ·
   have S:SI (Ql ri n) n a (e.nm 718) (e.nm 719) (e.nm 70) (e.nm 71):=by(have hpq:=hc;(repeat (first|exact hpq|exact hpq.1|replace hpq:=hpq.2));done)
   obtain⟨f,b,hf,AO,hB,hcut,H⟩:=S.ex
   have g744:(e.nm 744).int 0=Q1 (Qe ri) n ((e.nm 718).int 1):=by
    have q:(e.nm 744).int=fun _=>Q1 (Qe (e.nm 0).int) ((e.nm 3).int 0).toNat ((e.nm 718).int 1):=by(have hpq:=hc;(repeat (first|exact hpq|exact hpq.1|replace hpq:=hpq.2));done)
    rw [h0,h3]at q
    exact congrFun q 0
   have c744:¬(e.nm 744).int 0 < 0:=by(have hpq:=hc;(repeat (first|exact hpq|exact hpq.1|replace hpq:=hpq.2));done)
   obtain⟨t,t1,t2,tN⟩:=QE (I:=Qe ri) (N:=n) (a:=(e.nm 718).int 1) (by rw [←g744];omega)
   have tE:(e.nm 744).int 0=(t:Int):=by rw [g744];exact t2
   have tT:((e.nm 744).int 0).toNat=t:=by omega
   have hk:Qv (Ql ri n) ((e.nm 718).int 1) n=some t:=by rw [←Q6];exact t1
   have n0:=S.n0;have n1:=S.n1;have L0:=H.L0;have Ln:=H.Ln
   have hD:Q0 (PX.dat e 0 (.a (rxL 0 9 (.v 744 0) 0 Qb)))=Ql ri n t:=by
    rw [Xb,Qp tN]
    show Qe (e.nm 0).int ((e.nm 744).int 0).toNat=_
    rw [h0,tT]
    rfl
   have hv:Qj (Ql ri n t)=true:=by
    have q:(e.nm 852).bool=fun _=>Qj (Q0 (PX.dat e 0 (.a (rxL 0 9 (.v 744 0) 0 Qb)))):=by(have hpq:=hc;(repeat (first|exact hpq|exact hpq.1|replace hpq:=hpq.2));done)
    have q0:(e.nm 852).bool 0=true:=by(have hpq:=hc;(repeat (first|exact hpq|exact hpq.1|replace hpq:=hpq.2));done)
    rw [q,hD]at q0
    exact q0
   have vr:=QN hv
   have s718:Xh (PX.dat e 0 (.a (Qa 718 2 Qu)))=X5 (e.nm 718).int 2:=Z9 e 718 0 2
   have iN:∀j,(e.nm 0).int (((e.nm 744).int 0).toNat * 9+j)=ri (t * 9+j):=fun j=>by rw [h0,tT];rfl
   have ia:(Ql ri n t).a=ri (t * 9+6):=by rw [Qp tN];rfl
   have io:(Ql ri n t).op=ri (t * 9+2):=by rw [Qp tN];rfl
   have ii:(Ql ri n t).imm=ri (t * 9+1):=by rw [Qp tN];rfl
   have ic:(Ql ri n t).cc=ri (t * 9+5):=by rw [Qp tN];rfl
   have k5:(e.nm 718).int 0 < (n2:Int):=by(have hpq:=hc;(repeat (first|exact hpq|exact hpq.1|replace hpq:=hpq.2));done)
   have c60:¬60 < (n2:Int):=by(have hpq:=hc;(repeat (first|exact hpq|exact hpq.1|replace hpq:=hpq.2));done)
   have sN:IntKind.i64.wrap ((e.nm 718).int 0+1)=(e.nm 718).int 0+1:=Qx n0 (by omega)
   have g956:(e.nm 956).int=fun _=>ZY (Ql ri n t):=by
    have q:(e.nm 956).int=fun _=>ZY (Q0 (PX.dat e 0 (.a (rxL 0 9 (.v 744 0) 0 Qb)))):=by(have hpq:=hc;(repeat (first|exact hpq|exact hpq.1|replace hpq:=hpq.2));done)
    rwa [hD]at q
   have o20:(Ql ri n t).op=20:=by
    have q:(e.nm 0).int (((e.nm 744).int 0).toNat * 9+2)=20:=by(have hpq:=hc;(repeat (first|exact hpq|exact hpq.1|replace hpq:=hpq.2));done)
    rw [io,←iN];exact q
   have q8:(e.nm 1004).bool=fun _=>KI ((e.nm 0).int (((e.nm 744).int 0).toNat * 9+5)) ((e.nm 718).bool 10) ((e.nm 718).bool 11) ((e.nm 718).bool 12) ((e.nm 718).bool 13):=by(have hpq:=hc;(repeat (first|exact hpq|exact hpq.1|replace hpq:=hpq.2));done)
   have c8:(e.nm 1004).bool 0=true:=by(have hpq:=hc;(repeat (first|exact hpq|exact hpq.1|replace hpq:=hpq.2));done)
   rw [q8,iN,←ic]at c8
   have R:=Qig (n':=(e.nm 718).int 0+1) AO H hk hv o20 rfl c8
   refine⟨(show 0≤IntKind.i64.wrap ((e.nm 718).int 0+1)by rw [sN];omega),(show IntKind.i64.wrap ((e.nm 718).int 0+1)≤60 by rw [sN];omega),S.mN,f,b,hf,AO,hB,hcut,?_⟩
   refine V3.of R sN ?_ (QkY rfl rfl rfl rfl rfl rfl rfl rfl) rfl rfl rfl rfl rfl rfl
   show(e.nm 0).int (((e.nm 744).int 0).toNat * 9+1)=(Ql ri n t).imm
   rw [iN,ii]
  ·show decide ((e.nm 718).int 0 < IntKind.i64.wrap ((e.nm 718).int 0+1))=true
   have S:SI (Ql ri n) n a (e.nm 718) (e.nm 719) (e.nm 70) (e.nm 71):=by(have hpq:=hc;(repeat (first|exact hpq|exact hpq.1|replace hpq:=hpq.2));done)
   obtain⟨f,b,hf,AO,hB,hcut,H⟩:=S.ex
   have g744:(e.nm 744).int 0=Q1 (Qe ri) n ((e.nm 718).int 1):=by
    have q:(e.nm 744).int=fun _=>Q1 (Qe (e.nm 0).int) ((e.nm 3).int 0).toNat ((e.nm 718).int 1):=by(have hpq:=hc;(repeat (first|exact hpq|exact hpq.1|replace hpq:=hpq.2));done)
    rw [h0,h3]at q
    exact congrFun q 0
   have c744:¬(e.nm 744).int 0 < 0:=by(have hpq:=hc;(repeat (first|exact hpq|exact hpq.1|replace hpq:=hpq.2));done)
   obtain⟨t,t1,t2,tN⟩:=QE (I:=Qe ri) (N:=n) (a:=(e.nm 718).int 1) (by rw [←g744];omega)
   have tE:(e.nm 744).int 0=(t:Int):=by rw [g744];exact t2
   have tT:((e.nm 744).int 0).toNat=t:=by omega
   have hk:Qv (Ql ri n) ((e.nm 718).int 1) n=some t:=by rw [←Q6];exact t1
   have n0:=S.n0;have n1:=S.n1;have L0:=H.L0;have Ln:=H.Ln
   rw [Qx n0 (by omega)]
   exact decide_eq_true (by omega)
  ·show decide ((e.nm 718).int 0 < 61)=true
   have S:SI (Ql ri n) n a (e.nm 718) (e.nm 719) (e.nm 70) (e.nm 71):=by(have hpq:=hc;(repeat (first|exact hpq|exact hpq.1|replace hpq:=hpq.2));done)
   obtain⟨f,b,hf,AO,hB,hcut,H⟩:=S.ex
   have g744:(e.nm 744).int 0=Q1 (Qe ri) n ((e.nm 718).int 1):=by
    have q:(e.nm 744).int=fun _=>Q1 (Qe (e.nm 0).int) ((e.nm 3).int 0).toNat ((e.nm 718).int 1):=by(have hpq:=hc;(repeat (first|exact hpq|exact hpq.1|replace hpq:=hpq.2));done)
    rw [h0,h3]at q
    exact congrFun q 0
   have c744:¬(e.nm 744).int 0 < 0:=by(have hpq:=hc;(repeat (first|exact hpq|exact hpq.1|replace hpq:=hpq.2));done)
   obtain⟨t,t1,t2,tN⟩:=QE (I:=Qe ri) (N:=n) (a:=(e.nm 718).int 1) (by rw [←g744];omega)
   have tE:(e.nm 744).int 0=(t:Int):=by rw [g744];exact t2
   have tT:((e.nm 744).int 0).toNat=t:=by omega
   have hk:Qv (Ql ri n) ((e.nm 718).int 1) n=some t:=by rw [←Q6];exact t1
   have n0:=S.n0;have n1:=S.n1;have L0:=H.L0;have Ln:=H.Ln
   exact decide_eq_true (by omega)
  ·
   have S:SI (Ql ri n) n a (e.nm 718) (e.nm 719) (e.nm 70) (e.nm 71):=by(have hpq:=hc;(repeat (first|exact hpq|exact hpq.1|replace hpq:=hpq.2));done)
   obtain⟨f,b,hf,AO,hB,hcut,H⟩:=S.ex
   have g744:(e.nm 744).int 0=Q1 (Qe ri) n ((e.nm 718).int 1):=by
    have q:(e.nm 744).int=fun _=>Q1 (Qe (e.nm 0).int) ((e.nm 3).int 0).toNat ((e.nm 718).int 1):=by(have hpq:=hc;(repeat (first|exact hpq|exact hpq.1|replace hpq:=hpq.2));done)
    rw [h0,h3]at q
    exact congrFun q 0
   have c744:¬(e.nm 744).int 0 < 0:=by(have hpq:=hc;(repeat (first|exact hpq|exact hpq.1|replace hpq:=hpq.2));done)
   obtain⟨t,t1,t2,tN⟩:=QE (I:=Qe ri) (N:=n) (a:=(e.nm 718).int 1) (by rw [←g744];omega)
   have tE:(e.nm 744).int 0=(t:Int):=by rw [g744];exact t2
   have tT:((e.nm 744).int 0).toNat=t:=by omega
   have hk:Qv (Ql ri n) ((e.nm 718).int 1) n=some t:=by rw [←Q6];exact t1
   have n0:=S.n0;have n1:=S.n1;have L0:=H.L0;have Ln:=H.Ln
   have hD:Q0 (PX.dat e 0 (.a (rxL 0 9 (.v 744 0) 0 Qb)))=Ql ri n t:=by
    rw [Xb,Qp tN]
    show Qe (e.nm 0).int ((e.nm 744).int 0).toNat=_
    rw [h0,tT]
    rfl
   have hv:Qj (Ql ri n t)=true:=by
    have q:(e.nm 852).bool=fun _=>Qj (Q0 (PX.dat e 0 (.a (rxL 0 9 (.v 744 0) 0 Qb)))):=by(have hpq:=hc;(repeat (first|exact hpq|exact hpq.1|replace hpq:=hpq.2));done)
    have q0:(e.nm 852).bool 0=true:=by(have hpq:=hc;(repeat (first|exact hpq|exact hpq.1|replace hpq:=hpq.2));done)
    rw [q,hD]at q0
    exact q0
   have vr:=QN hv
   have s718:Xh (PX.dat e 0 (.a (Qa 718 2 Qu)))=X5 (e.nm 718).int 2:=Z9 e 718 0 2
   have iN:∀j,(e.nm 0).int (((e.nm 744).int 0).toNat * 9+j)=ri (t * 9+j):=fun j=>by rw [h0,tT];rfl
   have ia:(Ql ri n t).a=ri (t * 9+6):=by rw [Qp tN];rfl
   have io:(Ql ri n t).op=ri (t * 9+2):=by rw [Qp tN];rfl
   have ii:(Ql ri n t).imm=ri (t * 9+1):=by rw [Qp tN];rfl
   have ic:(Ql ri n t).cc=ri (t * 9+5):=by rw [Qp tN];rfl
   have k5:(e.nm 718).int 0 < (n2:Int):=by(have hpq:=hc;(repeat (first|exact hpq|exact hpq.1|replace hpq:=hpq.2));done)
   have c60:¬60 < (n2:Int):=by(have hpq:=hc;(repeat (first|exact hpq|exact hpq.1|replace hpq:=hpq.2));done)
   have sN:IntKind.i64.wrap ((e.nm 718).int 0+1)=(e.nm 718).int 0+1:=Qx n0 (by omega)
   have g956:(e.nm 956).int=fun _=>ZY (Ql ri n t):=by
    have q:(e.nm 956).int=fun _=>ZY (Q0 (PX.dat e 0 (.a (rxL 0 9 (.v 744 0) 0 Qb)))):=by(have hpq:=hc;(repeat (first|exact hpq|exact hpq.1|replace hpq:=hpq.2));done)
    rwa [hD]at q
   have o20:(Ql ri n t).op=20:=by
    have q:(e.nm 0).int (((e.nm 744).int 0).toNat * 9+2)=20:=by(have hpq:=hc;(repeat (first|exact hpq|exact hpq.1|replace hpq:=hpq.2));done)
    rw [io,←iN];exact q
   have q8:(e.nm 1004).bool=fun _=>KI ((e.nm 0).int (((e.nm 744).int 0).toNat * 9+5)) ((e.nm 718).bool 10) ((e.nm 718).bool 11) ((e.nm 718).bool 12) ((e.nm 718).bool 13):=by(have hpq:=hc;(repeat (first|exact hpq|exact hpq.1|replace hpq:=hpq.2));done)
   have c8:(e.nm 1004).bool 0=false:=by(have hpq:=hc;(repeat (first|exact hpq|exact hpq.1|replace hpq:=hpq.2));done)
   rw [q8,iN,←ic]at c8
   have R:=Qig (n':=(e.nm 718).int 0+1) AO H hk hv o20 rfl c8
   refine⟨(show 0≤IntKind.i64.wrap ((e.nm 718).int 0+1)by rw [sN];omega),(show IntKind.i64.wrap ((e.nm 718).int 0+1)≤60 by rw [sN];omega),S.mN,f,b,hf,AO,hB,hcut,?_⟩
   refine V3.of R sN ?_ (QkY rfl rfl rfl rfl rfl rfl rfl rfl) rfl rfl rfl rfl rfl rfl
   show(e.nm 956).int 0=ZY (Ql ri n t)
   rw [g956]
  ·show decide ((e.nm 718).int 0 < IntKind.i64.wrap ((e.nm 718).int 0+1))=true
   have S:SI (Ql ri n) n a (e.nm 718) (e.nm 719) (e.nm 70) (e.nm 71):=by(have hpq:=hc;(repeat (first|exact hpq|exact hpq.1|replace hpq:=hpq.2));done)
   obtain⟨f,b,hf,AO,hB,hcut,H⟩:=S.ex
   have g744:(e.nm 744).int 0=Q1 (Qe ri) n ((e.nm 718).int 1):=by
    have q:(e.nm 744).int=fun _=>Q1 (Qe (e.nm 0).int) ((e.nm 3).int 0).toNat ((e.nm 718).int 1):=by(have hpq:=hc;(repeat (first|exact hpq|exact hpq.1|replace hpq:=hpq.2));done)
    rw [h0,h3]at q
    exact congrFun q 0
   have c744:¬(e.nm 744).int 0 < 0:=by(have hpq:=hc;(repeat (first|exact hpq|exact hpq.1|replace hpq:=hpq.2));done)
   obtain⟨t,t1,t2,tN⟩:=QE (I:=Qe ri) (N:=n) (a:=(e.nm 718).int 1) (by rw [←g744];omega)
   have tE:(e.nm 744).int 0=(t:Int):=by rw [g744];exact t2
   have tT:((e.nm 744).int 0).toNat=t:=by omega
   have hk:Qv (Ql ri n) ((e.nm 718).int 1) n=some t:=by rw [←Q6];exact t1
   have n0:=S.n0;have n1:=S.n1;have L0:=H.L0;have Ln:=H.Ln
   rw [Qx n0 (by omega)]
   exact decide_eq_true (by omega)
  ·show decide ((e.nm 718).int 0 < 61)=true
   have S:SI (Ql ri n) n a (e.nm 718) (e.nm 719) (e.nm 70) (e.nm 71):=by(have hpq:=hc;(repeat (first|exact hpq|exact hpq.1|replace hpq:=hpq.2));done)
   obtain⟨f,b,hf,AO,hB,hcut,H⟩:=S.ex
   have g744:(e.nm 744).int 0=Q1 (Qe ri) n ((e.nm 718).int 1):=by
    have q:(e.nm 744).int=fun _=>Q1 (Qe (e.nm 0).int) ((e.nm 3).int 0).toNat ((e.nm 718).int 1):=by(have hpq:=hc;(repeat (first|exact hpq|exact hpq.1|replace hpq:=hpq.2));done)
    rw [h0,h3]at q
    exact congrFun q 0
   have c744:¬(e.nm 744).int 0 < 0:=by(have hpq:=hc;(repeat (first|exact hpq|exact hpq.1|replace hpq:=hpq.2));done)
   obtain⟨t,t1,t2,tN⟩:=QE (I:=Qe ri) (N:=n) (a:=(e.nm 718).int 1) (by rw [←g744];omega)
   have tE:(e.nm 744).int 0=(t:Int):=by rw [g744];exact t2
   have tT:((e.nm 744).int 0).toNat=t:=by omega
   have hk:Qv (Ql ri n) ((e.nm 718).int 1) n=some t:=by rw [←Q6];exact t1
   have n0:=S.n0;have n1:=S.n1;have L0:=H.L0;have Ln:=H.Ln
   exact decide_eq_true (by omega)
  ·
   have S:SI (Ql ri n) n a (e.nm 718) (e.nm 719) (e.nm 70) (e.nm 71):=by(have hpq:=hc;(repeat (first|exact hpq|exact hpq.1|replace hpq:=hpq.2));done)
   obtain⟨f,b,hf,AO,hB,hcut,H⟩:=S.ex
   have g744:(e.nm 744).int 0=Q1 (Qe ri) n ((e.nm 718).int 1):=by
    have q:(e.nm 744).int=fun _=>Q1 (Qe (e.nm 0).int) ((e.nm 3).int 0).toNat ((e.nm 718).int 1):=by(have hpq:=hc;(repeat (first|exact hpq|exact hpq.1|replace hpq:=hpq.2));done)
    rw [h0,h3]at q
    exact congrFun q 0
   have c744:¬(e.nm 744).int 0 < 0:=by(have hpq:=hc;(repeat (first|exact hpq|exact hpq.1|replace hpq:=hpq.2));done)
   obtain⟨t,t1,t2,tN⟩:=QE (I:=Qe ri) (N:=n) (a:=(e.nm 718).int 1) (by rw [←g744];omega)
   have tE:(e.nm 744).int 0=(t:Int):=by rw [g744];exact t2
   have tT:((e.nm 744).int 0).toNat=t:=by omega
   have hk:Qv (Ql ri n) ((e.nm 718).int 1) n=some t:=by rw [←Q6];exact t1
   have n0:=S.n0;have n1:=S.n1;have L0:=H.L0;have Ln:=H.Ln
   have hD:Q0 (PX.dat e 0 (.a (rxL 0 9 (.v 744 0) 0 Qb)))=Ql ri n t:=by
    rw [Xb,Qp tN]
    show Qe (e.nm 0).int ((e.nm 744).int 0).toNat=_
    rw [h0,tT]
    rfl
   have hv:Qj (Ql ri n t)=true:=by
    have q:(e.nm 852).bool=fun _=>Qj (Q0 (PX.dat e 0 (.a (rxL 0 9 (.v 744 0) 0 Qb)))):=by(have hpq:=hc;(repeat (first|exact hpq|exact hpq.1|replace hpq:=hpq.2));done)
    have q0:(e.nm 852).bool 0=true:=by(have hpq:=hc;(repeat (first|exact hpq|exact hpq.1|replace hpq:=hpq.2));done)
    rw [q,hD]at q0
    exact q0
   have vr:=QN hv
   have s718:Xh (PX.dat e 0 (.a (Qa 718 2 Qu)))=X5 (e.nm 718).int 2:=Z9 e 718 0 2
   have iN:∀j,(e.nm 0).int (((e.nm 744).int 0).toNat * 9+j)=ri (t * 9+j):=fun j=>by rw [h0,tT];rfl
   have ia:(Ql ri n t).a=ri (t * 9+6):=by rw [Qp tN];rfl
   have io:(Ql ri n t).op=ri (t * 9+2):=by rw [Qp tN];rfl
   have ii:(Ql ri n t).imm=ri (t * 9+1):=by rw [Qp tN];rfl
   have ic:(Ql ri n t).cc=ri (t * 9+5):=by rw [Qp tN];rfl
   have k5:(e.nm 718).int 0 < (n2:Int):=by(have hpq:=hc;(repeat (first|exact hpq|exact hpq.1|replace hpq:=hpq.2));done)
   have c60:¬60 < (n2:Int):=by(have hpq:=hc;(repeat (first|exact hpq|exact hpq.1|replace hpq:=hpq.2));done)
   have sN:IntKind.i64.wrap ((e.nm 718).int 0+1)=(e.nm 718).int 0+1:=Qx n0 (by omega)
   have g956:(e.nm 956).int=fun _=>ZY (Ql ri n t):=by
    have q:(e.nm 956).int=fun _=>ZY (Q0 (PX.dat e 0 (.a (rxL 0 9 (.v 744 0) 0 Qb)))):=by(have hpq:=hc;(repeat (first|exact hpq|exact hpq.1|replace hpq:=hpq.2));done)
    rwa [hD]at q
   have o23:(Ql ri n t).op=23:=by
    have q:(e.nm 0).int (((e.nm 744).int 0).toNat * 9+2)=23:=by(have hpq:=hc;(repeat (first|exact hpq|exact hpq.1|replace hpq:=hpq.2));done)
    rw [io,←iN];exact q
   have x7:∀k,k < 8→Q5 ((e.nm 718).int (2+k)):=fun k hk=>by
    have:=H.x32 k
    rwa [YP hk]at this
   have u1:(e.nm 1048).int=QD (e.nm 719).int ((e.nm 718).int 14).toNat [QW e (LX.n IntKind.u32 (SX.v 956 0))]:=by(have hpq:=hc;(repeat (first|exact hpq|exact hpq.1|replace hpq:=hpq.2));done)
   have sL:IntKind.i64.wrap ((e.nm 718).int 14+1)=(e.nm 718).int 14+1:=Qx L0 (by omega)
   refine⟨(show 0≤IntKind.i64.wrap ((e.nm 718).int 0+1)by rw [sN];omega),(show IntKind.i64.wrap ((e.nm 718).int 0+1)≤60 by rw [sN];omega),S.mN,f,b,hf,AO,hB,hcut,?_⟩
   refine V3.of (QrY (n':=(e.nm 718).int 0+1) (x':=X5 _ 2) (st':=(e.nm 1048).int) AO H hk hv o23 rfl ?_ ?_ ?_) sN ?_ rfl rfl rfl rfl rfl sL rfl
   ·refine QdR fun k hk=>?_
    exact match k,hk with
     |0,_=>x7 0 (by decide)
     |1,_=>x7 1 (by decide)
     |2,_=>x7 2 (by decide)
     |3,_=>x7 3 (by decide)
     |4,_=>x7 4 (by decide)
     |5,_=>x7 5 (by decide)
     |6,_=>x7 6 (by decide)
     |7,_=>QR _
   ·intro j hj
    rw [u1,Jj,if_neg (by omega)]
   ·rw [u1,Jj,if_pos rfl]
    show(e.nm 956).int 0=ZY (Ql ri n t)
    rw [g956]
   ·show(e.nm 0).int (((e.nm 744).int 0).toNat * 9+1)=(Ql ri n t).imm
    rw [iN,ii]
  ·show decide ((e.nm 718).int 0 < IntKind.i64.wrap ((e.nm 718).int 0+1))=true
   have S:SI (Ql ri n) n a (e.nm 718) (e.nm 719) (e.nm 70) (e.nm 71):=by(have hpq:=hc;(repeat (first|exact hpq|exact hpq.1|replace hpq:=hpq.2));done)
   obtain⟨f,b,hf,AO,hB,hcut,H⟩:=S.ex
   have g744:(e.nm 744).int 0=Q1 (Qe ri) n ((e.nm 718).int 1):=by
    have q:(e.nm 744).int=fun _=>Q1 (Qe (e.nm 0).int) ((e.nm 3).int 0).toNat ((e.nm 718).int 1):=by(have hpq:=hc;(repeat (first|exact hpq|exact hpq.1|replace hpq:=hpq.2));done)
    rw [h0,h3]at q
    exact congrFun q 0
   have c744:¬(e.nm 744).int 0 < 0:=by(have hpq:=hc;(repeat (first|exact hpq|exact hpq.1|replace hpq:=hpq.2));done)
   obtain⟨t,t1,t2,tN⟩:=QE (I:=Qe ri) (N:=n) (a:=(e.nm 718).int 1) (by rw [←g744];omega)
   have tE:(e.nm 744).int 0=(t:Int):=by rw [g744];exact t2
   have tT:((e.nm 744).int 0).toNat=t:=by omega
   have hk:Qv (Ql ri n) ((e.nm 718).int 1) n=some t:=by rw [←Q6];exact t1
   have n0:=S.n0;have n1:=S.n1;have L0:=H.L0;have Ln:=H.Ln
   rw [Qx n0 (by omega)]
   exact decide_eq_true (by omega)
  ·show decide ((e.nm 718).int 0 < 61)=true
   have S:SI (Ql ri n) n a (e.nm 718) (e.nm 719) (e.nm 70) (e.nm 71):=by(have hpq:=hc;(repeat (first|exact hpq|exact hpq.1|replace hpq:=hpq.2));done)
   obtain⟨f,b,hf,AO,hB,hcut,H⟩:=S.ex
   have g744:(e.nm 744).int 0=Q1 (Qe ri) n ((e.nm 718).int 1):=by
    have q:(e.nm 744).int=fun _=>Q1 (Qe (e.nm 0).int) ((e.nm 3).int 0).toNat ((e.nm 718).int 1):=by(have hpq:=hc;(repeat (first|exact hpq|exact hpq.1|replace hpq:=hpq.2));done)
    rw [h0,h3]at q
    exact congrFun q 0
   have c744:¬(e.nm 744).int 0 < 0:=by(have hpq:=hc;(repeat (first|exact hpq|exact hpq.1|replace hpq:=hpq.2));done)
   obtain⟨t,t1,t2,tN⟩:=QE (I:=Qe ri) (N:=n) (a:=(e.nm 718).int 1) (by rw [←g744];omega)
   have tE:(e.nm 744).int 0=(t:Int):=by rw [g744];exact t2
   have tT:((e.nm 744).int 0).toNat=t:=by omega
   have hk:Qv (Ql ri n) ((e.nm 718).int 1) n=some t:=by rw [←Q6];exact t1
   have n0:=S.n0;have n1:=S.n1;have L0:=H.L0;have Ln:=H.Ln
   exact decide_eq_true (by omega)
  ·
   have S:SI (Ql ri n) n a (e.nm 718) (e.nm 719) (e.nm 70) (e.nm 71):=by(have hpq:=hc;(repeat (first|exact hpq|exact hpq.1|replace hpq:=hpq.2));done)
   obtain⟨f,b,hf,AO,hB,hcut,H⟩:=S.ex
   have g744:(e.nm 744).int 0=Q1 (Qe ri) n ((e.nm 718).int 1):=by
    have q:(e.nm 744).int=fun _=>Q1 (Qe (e.nm 0).int) ((e.nm 3).int 0).toNat ((e.nm 718).int 1):=by(have hpq:=hc;(repeat (first|exact hpq|exact hpq.1|replace hpq:=hpq.2));done)
    rw [h0,h3]at q
    exact congrFun q 0
   have c744:¬(e.nm 744).int 0 < 0:=by(have hpq:=hc;(repeat (first|exact hpq|exact hpq.1|replace hpq:=hpq.2));done)
   obtain⟨t,t1,t2,tN⟩:=QE (I:=Qe ri) (N:=n) (a:=(e.nm 718).int 1) (by rw [←g744];omega)
   have tE:(e.nm 744).int 0=(t:Int):=by rw [g744];exact t2
   have tT:((e.nm 744).int 0).toNat=t:=by omega
   have hk:Qv (Ql ri n) ((e.nm 718).int 1) n=some t:=by rw [←Q6];exact t1
   have n0:=S.n0;have n1:=S.n1;have L0:=H.L0;have Ln:=H.Ln
   have hD:Q0 (PX.dat e 0 (.a (rxL 0 9 (.v 744 0) 0 Qb)))=Ql ri n t:=by
    rw [Xb,Qp tN]
    show Qe (e.nm 0).int ((e.nm 744).int 0).toNat=_
    rw [h0,tT]
    rfl
   have hv:Qj (Ql ri n t)=true:=by
    have q:(e.nm 852).bool=fun _=>Qj (Q0 (PX.dat e 0 (.a (rxL 0 9 (.v 744 0) 0 Qb)))):=by(have hpq:=hc;(repeat (first|exact hpq|exact hpq.1|replace hpq:=hpq.2));done)
    have q0:(e.nm 852).bool 0=true:=by(have hpq:=hc;(repeat (first|exact hpq|exact hpq.1|replace hpq:=hpq.2));done)
    rw [q,hD]at q0
    exact q0
   have vr:=QN hv
   have s718:Xh (PX.dat e 0 (.a (Qa 718 2 Qu)))=X5 (e.nm 718).int 2:=Z9 e 718 0 2
   have iN:∀j,(e.nm 0).int (((e.nm 744).int 0).toNat * 9+j)=ri (t * 9+j):=fun j=>by rw [h0,tT];rfl
   have ia:(Ql ri n t).a=ri (t * 9+6):=by rw [Qp tN];rfl
   have io:(Ql ri n t).op=ri (t * 9+2):=by rw [Qp tN];rfl
   have ii:(Ql ri n t).imm=ri (t * 9+1):=by rw [Qp tN];rfl
   have ic:(Ql ri n t).cc=ri (t * 9+5):=by rw [Qp tN];rfl
   have k5:(e.nm 718).int 0 < (n2:Int):=by(have hpq:=hc;(repeat (first|exact hpq|exact hpq.1|replace hpq:=hpq.2));done)
   have c60:¬60 < (n2:Int):=by(have hpq:=hc;(repeat (first|exact hpq|exact hpq.1|replace hpq:=hpq.2));done)
   have sN:IntKind.i64.wrap ((e.nm 718).int 0+1)=(e.nm 718).int 0+1:=Qx n0 (by omega)
   have g956:(e.nm 956).int=fun _=>ZY (Ql ri n t):=by
    have q:(e.nm 956).int=fun _=>ZY (Q0 (PX.dat e 0 (.a (rxL 0 9 (.v 744 0) 0 Qb)))):=by(have hpq:=hc;(repeat (first|exact hpq|exact hpq.1|replace hpq:=hpq.2));done)
    rwa [hD]at q
   have o2:(Ql ri n t).op=2:=by
    have q:(e.nm 0).int (((e.nm 744).int 0).toNat * 9+2)=2:=by(have hpq:=hc;(repeat (first|exact hpq|exact hpq.1|replace hpq:=hpq.2));done)
    rw [io,←iN];exact q
   have g9:(e.nm 1020).int=ZG (Ql ri n t) (X5 (e.nm 718).int 2) (ri2 ((e.nm 718).int 0).toNat):=by
    have q:(e.nm 1020).int=ZG (Q0 (PX.dat e 0 (.a (rxL 0 9 (.v 744 0) 0 Qb)))) (Xh (PX.dat e 0 (.a (Qa 718 2 Qu)))) ((e.nm 2).int (((e.nm 718).int 0).toNat * 1+0)):=by(have hpq:=hc;(repeat (first|exact hpq|exact hpq.1|replace hpq:=hpq.2));done)
    rw [hD,s718,h2,Nat.mul_one,Nat.add_zero]at q
    exact q
   have m32:=Qb1 (hI t) H.x32 (hnum ((e.nm 718).int 0).toNat (by omega))
   have cL:¬IntKind.i64.wrap ((e.nm 718).int 14 - 1) < 0:=by(have hpq:=hc;(repeat (first|exact hpq|exact hpq.1|replace hpq:=hpq.2));done)
   have sL:IntKind.i64.wrap ((e.nm 718).int 14 - 1)=(e.nm 718).int 14 - 1:=by rw [IntKind.wrap_i64];omega
   rw [sL]at cL
   refine⟨(show 0≤IntKind.i64.wrap ((e.nm 718).int 0+1)by rw [sN];omega),(show IntKind.i64.wrap ((e.nm 718).int 0+1)≤60 by rw [sN];omega),S.mN,f,b,hf,AO,hB,hcut,?_⟩
   refine V3.of (Qt3 (n':=(e.nm 718).int 0+1) (x':=X5 _ 2) AO H (by omega) rfl ?_) sN ?_ rfl rfl rfl rfl rfl sL rfl
   ·refine QdR fun k hk=>?_
    have:=m32 k
    rw [←g9]at this
    exact match k,hk,this with
     |0,_,h|1,_,h|2,_,h|3,_,h|4,_,h|5,_,h|6,_,h|7,_,h=>h
   ·show(e.nm 719).int ((IntKind.i64.wrap ((e.nm 718).int 14 - 1)).toNat * 1+0)=_
    rw [sL,Nat.mul_one,Nat.add_zero]
  ·show decide ((e.nm 718).int 0 < IntKind.i64.wrap ((e.nm 718).int 0+1))=true
   have S:SI (Ql ri n) n a (e.nm 718) (e.nm 719) (e.nm 70) (e.nm 71):=by(have hpq:=hc;(repeat (first|exact hpq|exact hpq.1|replace hpq:=hpq.2));done)
   obtain⟨f,b,hf,AO,hB,hcut,H⟩:=S.ex
   have g744:(e.nm 744).int 0=Q1 (Qe ri) n ((e.nm 718).int 1):=by
    have q:(e.nm 744).int=fun _=>Q1 (Qe (e.nm 0).int) ((e.nm 3).int 0).toNat ((e.nm 718).int 1):=by(have hpq:=hc;(repeat (first|exact hpq|exact hpq.1|replace hpq:=hpq.2));done)
    rw [h0,h3]at q
    exact congrFun q 0
   have c744:¬(e.nm 744).int 0 < 0:=by(have hpq:=hc;(repeat (first|exact hpq|exact hpq.1|replace hpq:=hpq.2));done)
   obtain⟨t,t1,t2,tN⟩:=QE (I:=Qe ri) (N:=n) (a:=(e.nm 718).int 1) (by rw [←g744];omega)
   have tE:(e.nm 744).int 0=(t:Int):=by rw [g744];exact t2
   have tT:((e.nm 744).int 0).toNat=t:=by omega
   have hk:Qv (Ql ri n) ((e.nm 718).int 1) n=some t:=by rw [←Q6];exact t1
   have n0:=S.n0;have n1:=S.n1;have L0:=H.L0;have Ln:=H.Ln
   rw [Qx n0 (by omega)]
   exact decide_eq_true (by omega)
  ·show decide ((e.nm 718).int 0 < 61)=true
   have S:SI (Ql ri n) n a (e.nm 718) (e.nm 719) (e.nm 70) (e.nm 71):=by(have hpq:=hc;(repeat (first|exact hpq|exact hpq.1|replace hpq:=hpq.2));done)
   obtain⟨f,b,hf,AO,hB,hcut,H⟩:=S.ex
   have g744:(e.nm 744).int 0=Q1 (Qe ri) n ((e.nm 718).int 1):=by
    have q:(e.nm 744).int=fun _=>Q1 (Qe (e.nm 0).int) ((e.nm 3).int 0).toNat ((e.nm 718).int 1):=by(have hpq:=hc;(repeat (first|exact hpq|exact hpq.1|replace hpq:=hpq.2));done)
    rw [h0,h3]at q
    exact congrFun q 0
   have c744:¬(e.nm 744).int 0 < 0:=by(have hpq:=hc;(repeat (first|exact hpq|exact hpq.1|replace hpq:=hpq.2));done)
   obtain⟨t,t1,t2,tN⟩:=QE (I:=Qe ri) (N:=n) (a:=(e.nm 718).int 1) (by rw [←g744];omega)
   have tE:(e.nm 744).int 0=(t:Int):=by rw [g744];exact t2
   have tT:((e.nm 744).int 0).toNat=t:=by omega
   have hk:Qv (Ql ri n) ((e.nm 718).int 1) n=some t:=by rw [←Q6];exact t1
   have n0:=S.n0;have n1:=S.n1;have L0:=H.L0;have Ln:=H.Ln
   exact decide_eq_true (by omega)
  ·
   have S:SI (Ql ri n) n a (e.nm 718) (e.nm 719) (e.nm 70) (e.nm 71):=by(have hpq:=hc;(repeat (first|exact hpq|exact hpq.1|replace hpq:=hpq.2));done)
   obtain⟨f,b,hf,AO,hB,hcut,H⟩:=S.ex
   have g744:(e.nm 744).int 0=Q1 (Qe ri) n ((e.nm 718).int 1):=by
    have q:(e.nm 744).int=fun _=>Q1 (Qe (e.nm 0).int) ((e.nm 3).int 0).toNat ((e.nm 718).int 1):=by(have hpq:=hc;(repeat (first|exact hpq|exact hpq.1|replace hpq:=hpq.2));done)
    rw [h0,h3]at q
    exact congrFun q 0
   have c744:¬(e.nm 744).int 0 < 0:=by(have hpq:=hc;(repeat (first|exact hpq|exact hpq.1|replace hpq:=hpq.2));done)
   obtain⟨t,t1,t2,tN⟩:=QE (I:=Qe ri) (N:=n) (a:=(e.nm 718).int 1) (by rw [←g744];omega)
   have tE:(e.nm 744).int 0=(t:Int):=by rw [g744];exact t2
   have tT:((e.nm 744).int 0).toNat=t:=by omega
   have hk:Qv (Ql ri n) ((e.nm 718).int 1) n=some t:=by rw [←Q6];exact t1
   have n0:=S.n0;have n1:=S.n1;have L0:=H.L0;have Ln:=H.Ln
   have hD:Q0 (PX.dat e 0 (.a (rxL 0 9 (.v 744 0) 0 Qb)))=Ql ri n t:=by
    rw [Xb,Qp tN]
    show Qe (e.nm 0).int ((e.nm 744).int 0).toNat=_
    rw [h0,tT]
    rfl
   have hv:Qj (Ql ri n t)=true:=by
    have q:(e.nm 852).bool=fun _=>Qj (Q0 (PX.dat e 0 (.a (rxL 0 9 (.v 744 0) 0 Qb)))):=by(have hpq:=hc;(repeat (first|exact hpq|exact hpq.1|replace hpq:=hpq.2));done)
    have q0:(e.nm 852).bool 0=true:=by(have hpq:=hc;(repeat (first|exact hpq|exact hpq.1|replace hpq:=hpq.2));done)
    rw [q,hD]at q0
    exact q0
   have vr:=QN hv
   have s718:Xh (PX.dat e 0 (.a (Qa 718 2 Qu)))=X5 (e.nm 718).int 2:=Z9 e 718 0 2
   have iN:∀j,(e.nm 0).int (((e.nm 744).int 0).toNat * 9+j)=ri (t * 9+j):=fun j=>by rw [h0,tT];rfl
   have ia:(Ql ri n t).a=ri (t * 9+6):=by rw [Qp tN];rfl
   have io:(Ql ri n t).op=ri (t * 9+2):=by rw [Qp tN];rfl
   have ii:(Ql ri n t).imm=ri (t * 9+1):=by rw [Qp tN];rfl
   have ic:(Ql ri n t).cc=ri (t * 9+5):=by rw [Qp tN];rfl
   have k5:(e.nm 718).int 0 < (n2:Int):=by(have hpq:=hc;(repeat (first|exact hpq|exact hpq.1|replace hpq:=hpq.2));done)
   have c60:¬60 < (n2:Int):=by(have hpq:=hc;(repeat (first|exact hpq|exact hpq.1|replace hpq:=hpq.2));done)
   have sN:IntKind.i64.wrap ((e.nm 718).int 0+1)=(e.nm 718).int 0+1:=Qx n0 (by omega)
   have g956:(e.nm 956).int=fun _=>ZY (Ql ri n t):=by
    have q:(e.nm 956).int=fun _=>ZY (Q0 (PX.dat e 0 (.a (rxL 0 9 (.v 744 0) 0 Qb)))):=by(have hpq:=hc;(repeat (first|exact hpq|exact hpq.1|replace hpq:=hpq.2));done)
    rwa [hD]at q
   have o1:(Ql ri n t).op≠1:=by
    have q:¬(e.nm 0).int (((e.nm 744).int 0).toNat * 9+2)=1:=by(have hpq:=hc;(repeat (first|exact hpq|exact hpq.1|replace hpq:=hpq.2));done)
    rw [io,←iN];exact q
   have o2:(Ql ri n t).op≠2:=by
    have q:¬(e.nm 0).int (((e.nm 744).int 0).toNat * 9+2)=2:=by(have hpq:=hc;(repeat (first|exact hpq|exact hpq.1|replace hpq:=hpq.2));done)
    rw [io,←iN];exact q
   have o15:(Ql ri n t).op≠15:=by
    have q:¬(e.nm 0).int (((e.nm 744).int 0).toNat * 9+2)=15:=by(have hpq:=hc;(repeat (first|exact hpq|exact hpq.1|replace hpq:=hpq.2));done)
    rw [io,←iN];exact q
   have o20:(Ql ri n t).op≠20:=by
    have q:¬(e.nm 0).int (((e.nm 744).int 0).toNat * 9+2)=20:=by(have hpq:=hc;(repeat (first|exact hpq|exact hpq.1|replace hpq:=hpq.2));done)
    rw [io,←iN];exact q
   have o21:(Ql ri n t).op≠21:=by
    have q:¬(e.nm 0).int (((e.nm 744).int 0).toNat * 9+2)=21:=by(have hpq:=hc;(repeat (first|exact hpq|exact hpq.1|replace hpq:=hpq.2));done)
    rw [io,←iN];exact q
   have o22:(Ql ri n t).op≠22:=by
    have q:¬(e.nm 0).int (((e.nm 744).int 0).toNat * 9+2)=22:=by(have hpq:=hc;(repeat (first|exact hpq|exact hpq.1|replace hpq:=hpq.2));done)
    rw [io,←iN];exact q
   have o23:(Ql ri n t).op≠23:=by
    have q:¬(e.nm 0).int (((e.nm 744).int 0).toNat * 9+2)=23:=by(have hpq:=hc;(repeat (first|exact hpq|exact hpq.1|replace hpq:=hpq.2));done)
    rw [io,←iN];exact q
   have o24:(Ql ri n t).op≠24:=by
    have q:¬(e.nm 0).int (((e.nm 744).int 0).toNat * 9+2)=24:=by(have hpq:=hc;(repeat (first|exact hpq|exact hpq.1|replace hpq:=hpq.2));done)
    rw [io,←iN];exact q
   have g9:(e.nm 1144).int=ZG (Ql ri n t) (X5 (e.nm 718).int 2) (ri2 ((e.nm 718).int 0).toNat):=by
    have q:(e.nm 1144).int=ZG (Q0 (PX.dat e 0 (.a (rxL 0 9 (.v 744 0) 0 Qb)))) (Xh (PX.dat e 0 (.a (Qa 718 2 Qu)))) ((e.nm 2).int (((e.nm 718).int 0).toNat * 1+0)):=by(have hpq:=hc;(repeat (first|exact hpq|exact hpq.1|replace hpq:=hpq.2));done)
    rw [hD,s718,h2,Nat.mul_one,Nat.add_zero]at q
    exact q
   have m32:=Qb1 (hI t) H.x32 (hnum ((e.nm 718).int 0).toNat (by omega))
   refine⟨(show 0≤IntKind.i64.wrap ((e.nm 718).int 0+1)by rw [sN];omega),(show IntKind.i64.wrap ((e.nm 718).int 0+1)≤60 by rw [sN];omega),S.mN,f,b,hf,AO,hB,hcut,?_⟩
   refine V3.of (QdX (n':=(e.nm 718).int 0+1) (x':=X5 _ 2) (m:=ri2 ((e.nm 718).int 0).toNat) AO H hk hv o1 o2 o20 o21 o22 o23 o24 (hnum _ (by omega)) ?_ (fun r hr=>Qck hr) rfl (fun hcm=>absurd (show(Ql ri n t).op=15 by unfold Yt at hcm;grind) o15)) sN (congrFun g956 0) rfl rfl rfl rfl rfl rfl rfl
   intro r hr
   rw [YP hr,←g9]
   exact match r,hr with
    |0,_|1,_|2,_|3,_|4,_|5,_|6,_|7,_=>rfl
  ·show decide ((e.nm 718).int 0 < IntKind.i64.wrap ((e.nm 718).int 0+1))=true
   have S:SI (Ql ri n) n a (e.nm 718) (e.nm 719) (e.nm 70) (e.nm 71):=by(have hpq:=hc;(repeat (first|exact hpq|exact hpq.1|replace hpq:=hpq.2));done)
   obtain⟨f,b,hf,AO,hB,hcut,H⟩:=S.ex
   have g744:(e.nm 744).int 0=Q1 (Qe ri) n ((e.nm 718).int 1):=by
    have q:(e.nm 744).int=fun _=>Q1 (Qe (e.nm 0).int) ((e.nm 3).int 0).toNat ((e.nm 718).int 1):=by(have hpq:=hc;(repeat (first|exact hpq|exact hpq.1|replace hpq:=hpq.2));done)
    rw [h0,h3]at q
    exact congrFun q 0
   have c744:¬(e.nm 744).int 0 < 0:=by(have hpq:=hc;(repeat (first|exact hpq|exact hpq.1|replace hpq:=hpq.2));done)
   obtain⟨t,t1,t2,tN⟩:=QE (I:=Qe ri) (N:=n) (a:=(e.nm 718).int 1) (by rw [←g744];omega)
   have tE:(e.nm 744).int 0=(t:Int):=by rw [g744];exact t2
   have tT:((e.nm 744).int 0).toNat=t:=by omega
   have hk:Qv (Ql ri n) ((e.nm 718).int 1) n=some t:=by rw [←Q6];exact t1
   have n0:=S.n0;have n1:=S.n1;have L0:=H.L0;have Ln:=H.Ln
   rw [Qx n0 (by omega)]
   exact decide_eq_true (by omega)
  ·show decide ((e.nm 718).int 0 < 61)=true
   have S:SI (Ql ri n) n a (e.nm 718) (e.nm 719) (e.nm 70) (e.nm 71):=by(have hpq:=hc;(repeat (first|exact hpq|exact hpq.1|replace hpq:=hpq.2));done)
   obtain⟨f,b,hf,AO,hB,hcut,H⟩:=S.ex
   have g744:(e.nm 744).int 0=Q1 (Qe ri) n ((e.nm 718).int 1):=by
    have q:(e.nm 744).int=fun _=>Q1 (Qe (e.nm 0).int) ((e.nm 3).int 0).toNat ((e.nm 718).int 1):=by(have hpq:=hc;(repeat (first|exact hpq|exact hpq.1|replace hpq:=hpq.2));done)
    rw [h0,h3]at q
    exact congrFun q 0
   have c744:¬(e.nm 744).int 0 < 0:=by(have hpq:=hc;(repeat (first|exact hpq|exact hpq.1|replace hpq:=hpq.2));done)
   obtain⟨t,t1,t2,tN⟩:=QE (I:=Qe ri) (N:=n) (a:=(e.nm 718).int 1) (by rw [←g744];omega)
   have tE:(e.nm 744).int 0=(t:Int):=by rw [g744];exact t2
   have tT:((e.nm 744).int 0).toNat=t:=by omega
   have hk:Qv (Ql ri n) ((e.nm 718).int 1) n=some t:=by rw [←Q6];exact t1
   have n0:=S.n0;have n1:=S.n1;have L0:=H.L0;have Ln:=H.Ln
   exact decide_eq_true (by omega)
  ·
   have S:SI (Ql ri n) n a (e.nm 718) (e.nm 719) (e.nm 70) (e.nm 71):=by(have hpq:=hc;(repeat (first|exact hpq|exact hpq.1|replace hpq:=hpq.2));done)
   obtain⟨f,b,hf,AO,hB,hcut,H⟩:=S.ex
   have g744:(e.nm 744).int 0=Q1 (Qe ri) n ((e.nm 718).int 1):=by
    have q:(e.nm 744).int=fun _=>Q1 (Qe (e.nm 0).int) ((e.nm 3).int 0).toNat ((e.nm 718).int 1):=by(have hpq:=hc;(repeat (first|exact hpq|exact hpq.1|replace hpq:=hpq.2));done)
    rw [h0,h3]at q
    exact congrFun q 0
   have c744:¬(e.nm 744).int 0 < 0:=by(have hpq:=hc;(repeat (first|exact hpq|exact hpq.1|replace hpq:=hpq.2));done)
   obtain⟨t,t1,t2,tN⟩:=QE (I:=Qe ri) (N:=n) (a:=(e.nm 718).int 1) (by rw [←g744];omega)
   have tE:(e.nm 744).int 0=(t:Int):=by rw [g744];exact t2
   have tT:((e.nm 744).int 0).toNat=t:=by omega
   have hk:Qv (Ql ri n) ((e.nm 718).int 1) n=some t:=by rw [←Q6];exact t1
   have n0:=S.n0;have n1:=S.n1;have L0:=H.L0;have Ln:=H.Ln
   have hD:Q0 (PX.dat e 0 (.a (rxL 0 9 (.v 744 0) 0 Qb)))=Ql ri n t:=by
    rw [Xb,Qp tN]
    show Qe (e.nm 0).int ((e.nm 744).int 0).toNat=_
    rw [h0,tT]
    rfl
   have hv:Qj (Ql ri n t)=true:=by
    have q:(e.nm 852).bool=fun _=>Qj (Q0 (PX.dat e 0 (.a (rxL 0 9 (.v 744 0) 0 Qb)))):=by(have hpq:=hc;(repeat (first|exact hpq|exact hpq.1|replace hpq:=hpq.2));done)
    have q0:(e.nm 852).bool 0=true:=by(have hpq:=hc;(repeat (first|exact hpq|exact hpq.1|replace hpq:=hpq.2));done)
    rw [q,hD]at q0
    exact q0
   have vr:=QN hv
   have s718:Xh (PX.dat e 0 (.a (Qa 718 2 Qu)))=X5 (e.nm 718).int 2:=Z9 e 718 0 2
   have iN:∀j,(e.nm 0).int (((e.nm 744).int 0).toNat * 9+j)=ri (t * 9+j):=fun j=>by rw [h0,tT];rfl
   have ia:(Ql ri n t).a=ri (t * 9+6):=by rw [Qp tN];rfl
   have io:(Ql ri n t).op=ri (t * 9+2):=by rw [Qp tN];rfl
   have ii:(Ql ri n t).imm=ri (t * 9+1):=by rw [Qp tN];rfl
   have ic:(Ql ri n t).cc=ri (t * 9+5):=by rw [Qp tN];rfl
   have k5:(e.nm 718).int 0 < (n2:Int):=by(have hpq:=hc;(repeat (first|exact hpq|exact hpq.1|replace hpq:=hpq.2));done)
   have c60:¬60 < (n2:Int):=by(have hpq:=hc;(repeat (first|exact hpq|exact hpq.1|replace hpq:=hpq.2));done)
   have sN:IntKind.i64.wrap ((e.nm 718).int 0+1)=(e.nm 718).int 0+1:=Qx n0 (by omega)
   have g956:(e.nm 956).int=fun _=>ZY (Ql ri n t):=by
    have q:(e.nm 956).int=fun _=>ZY (Q0 (PX.dat e 0 (.a (rxL 0 9 (.v 744 0) 0 Qb)))):=by(have hpq:=hc;(repeat (first|exact hpq|exact hpq.1|replace hpq:=hpq.2));done)
    rwa [hD]at q
   have o1:(Ql ri n t).op≠1:=by
    have q:¬(e.nm 0).int (((e.nm 744).int 0).toNat * 9+2)=1:=by(have hpq:=hc;(repeat (first|exact hpq|exact hpq.1|replace hpq:=hpq.2));done)
    rw [io,←iN];exact q
   have o2:(Ql ri n t).op≠2:=by
    have q:¬(e.nm 0).int (((e.nm 744).int 0).toNat * 9+2)=2:=by(have hpq:=hc;(repeat (first|exact hpq|exact hpq.1|replace hpq:=hpq.2));done)
    rw [io,←iN];exact q
   have o15:(Ql ri n t).op≠15:=by
    have q:¬(e.nm 0).int (((e.nm 744).int 0).toNat * 9+2)=15:=by(have hpq:=hc;(repeat (first|exact hpq|exact hpq.1|replace hpq:=hpq.2));done)
    rw [io,←iN];exact q
   have o20:(Ql ri n t).op≠20:=by
    have q:¬(e.nm 0).int (((e.nm 744).int 0).toNat * 9+2)=20:=by(have hpq:=hc;(repeat (first|exact hpq|exact hpq.1|replace hpq:=hpq.2));done)
    rw [io,←iN];exact q
   have o21:(Ql ri n t).op≠21:=by
    have q:¬(e.nm 0).int (((e.nm 744).int 0).toNat * 9+2)=21:=by(have hpq:=hc;(repeat (first|exact hpq|exact hpq.1|replace hpq:=hpq.2));done)
    rw [io,←iN];exact q
   have o22:(Ql ri n t).op≠22:=by
    have q:¬(e.nm 0).int (((e.nm 744).int 0).toNat * 9+2)=22:=by(have hpq:=hc;(repeat (first|exact hpq|exact hpq.1|replace hpq:=hpq.2));done)
    rw [io,←iN];exact q
   have o23:(Ql ri n t).op≠23:=by
    have q:¬(e.nm 0).int (((e.nm 744).int 0).toNat * 9+2)=23:=by(have hpq:=hc;(repeat (first|exact hpq|exact hpq.1|replace hpq:=hpq.2));done)
    rw [io,←iN];exact q
   have o24:(Ql ri n t).op≠24:=by
    have q:¬(e.nm 0).int (((e.nm 744).int 0).toNat * 9+2)=24:=by(have hpq:=hc;(repeat (first|exact hpq|exact hpq.1|replace hpq:=hpq.2));done)
    rw [io,←iN];exact q
   have g9:(e.nm 1084).int=ZG (Ql ri n t) (X5 (e.nm 718).int 2) (ri2 ((e.nm 718).int 0).toNat):=by
    have q:(e.nm 1084).int=ZG (Q0 (PX.dat e 0 (.a (rxL 0 9 (.v 744 0) 0 Qb)))) (Xh (PX.dat e 0 (.a (Qa 718 2 Qu)))) ((e.nm 2).int (((e.nm 718).int 0).toNat * 1+0)):=by(have hpq:=hc;(repeat (first|exact hpq|exact hpq.1|replace hpq:=hpq.2));done)
    rw [hD,s718,h2,Nat.mul_one,Nat.add_zero]at q
    exact q
   have m32:=Qb1 (hI t) H.x32 (hnum ((e.nm 718).int 0).toNat (by omega))
   refine⟨(show 0≤IntKind.i64.wrap ((e.nm 718).int 0+1)by rw [sN];omega),(show IntKind.i64.wrap ((e.nm 718).int 0+1)≤60 by rw [sN];omega),S.mN,f,b,hf,AO,hB,hcut,?_⟩
   refine V3.of (QdX (n':=(e.nm 718).int 0+1) (x':=X5 _ 2) (m:=ri2 ((e.nm 718).int 0).toNat) AO H hk hv o1 o2 o20 o21 o22 o23 o24 (hnum _ (by omega)) ?_ (fun r hr=>Qck hr) rfl (fun hcm=>absurd (show(Ql ri n t).op=15 by unfold Yt at hcm;grind) o15)) sN (congrFun g956 0) rfl rfl rfl rfl rfl rfl rfl
   intro r hr
   rw [YP hr,←g9]
   exact match r,hr with
    |0,_|1,_|2,_|3,_|4,_|5,_|6,_|7,_=>rfl
  ·show decide ((e.nm 718).int 0 < IntKind.i64.wrap ((e.nm 718).int 0+1))=true
   have S:SI (Ql ri n) n a (e.nm 718) (e.nm 719) (e.nm 70) (e.nm 71):=by(have hpq:=hc;(repeat (first|exact hpq|exact hpq.1|replace hpq:=hpq.2));done)
   obtain⟨f,b,hf,AO,hB,hcut,H⟩:=S.ex
   have g744:(e.nm 744).int 0=Q1 (Qe ri) n ((e.nm 718).int 1):=by
    have q:(e.nm 744).int=fun _=>Q1 (Qe (e.nm 0).int) ((e.nm 3).int 0).toNat ((e.nm 718).int 1):=by(have hpq:=hc;(repeat (first|exact hpq|exact hpq.1|replace hpq:=hpq.2));done)
    rw [h0,h3]at q
    exact congrFun q 0
   have c744:¬(e.nm 744).int 0 < 0:=by(have hpq:=hc;(repeat (first|exact hpq|exact hpq.1|replace hpq:=hpq.2));done)
   obtain⟨t,t1,t2,tN⟩:=QE (I:=Qe ri) (N:=n) (a:=(e.nm 718).int 1) (by rw [←g744];omega)
   have tE:(e.nm 744).int 0=(t:Int):=by rw [g744];exact t2
   have tT:((e.nm 744).int 0).toNat=t:=by omega
   have hk:Qv (Ql ri n) ((e.nm 718).int 1) n=some t:=by rw [←Q6];exact t1
   have n0:=S.n0;have n1:=S.n1;have L0:=H.L0;have Ln:=H.Ln
   rw [Qx n0 (by omega)]
   exact decide_eq_true (by omega)
  ·show decide ((e.nm 718).int 0 < 61)=true
   have S:SI (Ql ri n) n a (e.nm 718) (e.nm 719) (e.nm 70) (e.nm 71):=by(have hpq:=hc;(repeat (first|exact hpq|exact hpq.1|replace hpq:=hpq.2));done)
   obtain⟨f,b,hf,AO,hB,hcut,H⟩:=S.ex
   have g744:(e.nm 744).int 0=Q1 (Qe ri) n ((e.nm 718).int 1):=by
    have q:(e.nm 744).int=fun _=>Q1 (Qe (e.nm 0).int) ((e.nm 3).int 0).toNat ((e.nm 718).int 1):=by(have hpq:=hc;(repeat (first|exact hpq|exact hpq.1|replace hpq:=hpq.2));done)
    rw [h0,h3]at q
    exact congrFun q 0
   have c744:¬(e.nm 744).int 0 < 0:=by(have hpq:=hc;(repeat (first|exact hpq|exact hpq.1|replace hpq:=hpq.2));done)
   obtain⟨t,t1,t2,tN⟩:=QE (I:=Qe ri) (N:=n) (a:=(e.nm 718).int 1) (by rw [←g744];omega)
   have tE:(e.nm 744).int 0=(t:Int):=by rw [g744];exact t2
   have tT:((e.nm 744).int 0).toNat=t:=by omega
   have hk:Qv (Ql ri n) ((e.nm 718).int 1) n=some t:=by rw [←Q6];exact t1
   have n0:=S.n0;have n1:=S.n1;have L0:=H.L0;have Ln:=H.Ln
   exact decide_eq_true (by omega)
 ·refine⟨?_,?_,?_,?_,?_,?_,?_,?_,?_,?_,?_,trivial⟩
  all_goals
   intro e u he hc hs
   have h0:e.nm 0=nmR A c ri rb:=he 0 (by decide)
   have h1:e.nm 1=nmN a:=he 1 (by decide)
   have h2:e.nm 2=nmR A2 c2 ri2 rb2:=he 2 (by decide)
   have h3:e.nm 3=nmN n:=he 3 (by decide)
   have h5:e.nm 5=nmN n2:=he 5 (by decide)
   simp only [QC,Zb,Cd.holds,dv1,dv2,di1,db2,dr1,dr2,dq1,dq2,do1,do2,Z1,Z0,Zx,Zw,Zz,Zy,Zv,Zu,Zt,Zs,Z3,Z2,Xt,Xs,Xp,Xo,Xr,Xq,List.map_cons,List.map_nil,Nat.mul_one,Nat.add_zero,List.getElem?_cons_zero,List.getElem?_cons_succ,Option.some.injEq,exists_eq_left',and_true,and_assoc,Env.int,Env.bool,X8,Nat.reduceLeDiff,Nat.reduceAdd,Wy,nl0,nl1,nl2,nl3,nl4,nl5,nl6,nl7,nl8,nl9,Qvk,Qr3,Qr4,Qr5,Qr6,Qr7,Qr8,Qr9,QrA,QrB,QrC,QnC,Ji,h3,h5,nmN,nmI]at hc
   rw [show u=_ from hs]
  ·refine congrArg Value.bool ?_
   have q:(e.nm 62).bool=fun _=>true:=by(have hpq:=hc;(repeat (first|exact hpq|exact hpq.1|replace hpq:=hpq.2));done)
   show(e.nm 62).bool 0=true
   rw [q]
  ·have q:ZZ (cxD (PX.dat e 0 (.l (.sl 0 (.v 3 0)))) (PX.dat e 0 (.l (.n .u32 (.v 1 0)))) (PX.dat e 0 (.l (.n .i64 (.i 400))))) (e.nm 70) (e.nm 71):=by(have hpq:=hc;(repeat (first|exact hpq|exact hpq.1|replace hpq:=hpq.2));done)
   have q':ZZ ⟨Ql (e.nm 0).int ((e.nm 3).int 0).toNat,((e.nm 3).int 0).toNat,(e.nm 1).int 0,400⟩ (e.nm 70) (e.nm 71):=q
   rw [h0,h1,h3]at q'
   have R:Qcx (Ql ri n) n a (e.nm 70) (e.nm 71):=Qa4 hI q'
   have x1:(e.nm 118).bool=fun _=>true:=by(have hpq:=hc;(repeat (first|exact hpq|exact hpq.1|replace hpq:=hpq.2));done)
   have x2:¬(e.nm 70).int 1=0:=by(have hpq:=hc;(repeat (first|exact hpq|exact hpq.1|replace hpq:=hpq.2));done)
   rcases R with ⟨r0,r1⟩|⟨r0,r1,f,b,r2,r3,r4,r5⟩
   ·refine congrArg Value.bool ?_
    show(decide ((e.nm 70).int 0=0) && (e.nm 118).bool 0)=true
    rw [r0,x1]
    rfl
   ·exact absurd r1 x2
  ·refine congrArg Value.bool ?_
   have q:(e.nm 760).bool=fun _=>true:=by(have hpq:=hc;(repeat (first|exact hpq|exact hpq.1|replace hpq:=hpq.2));done)
   show(e.nm 760).bool 0=true
   rw [q]
  ·exfalso
   have S:SI (Ql ri n) n a (e.nm 718) (e.nm 719) (e.nm 70) (e.nm 71):=by(have hpq:=hc;(repeat (first|exact hpq|exact hpq.1|replace hpq:=hpq.2));done)
   obtain⟨f,b,hf,AO,hB,hcut,H⟩:=S.ex
   have g744:(e.nm 744).int 0=Q1 (Qe ri) n ((e.nm 718).int 1):=by
    have q:(e.nm 744).int=fun _=>Q1 (Qe (e.nm 0).int) ((e.nm 3).int 0).toNat ((e.nm 718).int 1):=by(have hpq:=hc;(repeat (first|exact hpq|exact hpq.1|replace hpq:=hpq.2));done)
    rw [h0,h3]at q
    exact congrFun q 0
   have c744:¬(e.nm 744).int 0 < 0:=by(have hpq:=hc;(repeat (first|exact hpq|exact hpq.1|replace hpq:=hpq.2));done)
   obtain⟨t,t1,t2,tN⟩:=QE (I:=Qe ri) (N:=n) (a:=(e.nm 718).int 1) (by rw [←g744];omega)
   have tE:(e.nm 744).int 0=(t:Int):=by rw [g744];exact t2
   have tT:((e.nm 744).int 0).toNat=t:=by omega
   have hk:Qv (Ql ri n) ((e.nm 718).int 1) n=some t:=by rw [←Q6];exact t1
   have n0:=S.n0;have n1:=S.n1;have L0:=H.L0;have Ln:=H.Ln
   have bk:Kq (Qe ri) n n ((e.nm 718).int 1)=some t:=KE t1 tN
   have f772:(e.nm 772).int=Ys (some t) (e.nm 71).int:=by
    have q:(e.nm 772).int=Ys (Kq (Qe (e.nm 0).int) ((e.nm 3).int 0).toNat ((e.nm 70).int 0).toNat ((e.nm 718).int 1)) (e.nm 71).int:=by(have hpq:=hc;(repeat (first|exact hpq|exact hpq.1|replace hpq:=hpq.2));done)
    rw [h0,h3,S.mN]at q
    rw [←bk]
    exact q
   have g772:(e.nm 772).bool=Yr (some t) (e.nm 71).bool:=by
    have q:(e.nm 772).bool=Yr (Kq (Qe (e.nm 0).int) ((e.nm 3).int 0).toNat ((e.nm 70).int 0).toNat ((e.nm 718).int 1)) (e.nm 71).bool:=by(have hpq:=hc;(repeat (first|exact hpq|exact hpq.1|replace hpq:=hpq.2));done)
    rw [h0,h3,S.mN]at q
    rw [←bk]
    exact q
   have s772:stD (PX.dat e 0 (.a (Qa 772 0 stK)))=b t:=Wa (e:=e) f772 g772 hB tN hcut
   have s718:Xh (PX.dat e 0 (.a (Qa 718 2 Qu)))=X5 (e.nm 718).int 2:=Z9 e 718 0 2
   have g824:(e.nm 824).bool=fun _=>inB (Xh (PX.dat e 0 (.a (Qa 718 2 Qu)))) (stD (PX.dat e 0 (.a (Qa 772 0 stK)))):=by(have hpq:=hc;(repeat (first|exact hpq|exact hpq.1|replace hpq:=hpq.2));done)
   refine hc.1 ⟨?_,?_⟩
   ·rw [g772];rfl
   ·rw [g824,s718,s772]
    exact Qbv.2 (H.here t hk)
  ·refine congrArg Value.bool ?_
   have q:(e.nm 860).bool=fun _=>true:=by(have hpq:=hc;(repeat (first|exact hpq|exact hpq.1|replace hpq:=hpq.2));done)
   show(e.nm 860).bool 0=true
   rw [q]
  ·refine congrArg Value.bool ?_
   have q:(e.nm 1084).bool=fun _=>true:=by(have hpq:=hc;(repeat (first|exact hpq|exact hpq.1|replace hpq:=hpq.2));done)
   show(e.nm 1084).bool 0=true
   rw [q]
  ·refine congrArg Value.bool ?_
   have q:(e.nm 1036).bool=fun _=>true:=by(have hpq:=hc;(repeat (first|exact hpq|exact hpq.1|replace hpq:=hpq.2));done)
   show(e.nm 1036).bool 0=true
   rw [q]
  ·refine congrArg Value.bool ?_
   have q:(e.nm 1044).bool=fun _=>true:=by(have hpq:=hc;(repeat (first|exact hpq|exact hpq.1|replace hpq:=hpq.2));done)
   show(e.nm 1044).bool 0=true
   rw [q]
  ·refine congrArg Value.bool ?_
   have q:(e.nm 1052).bool=fun _=>true:=by(have hpq:=hc;(repeat (first|exact hpq|exact hpq.1|replace hpq:=hpq.2));done)
   show(e.nm 1052).bool 0=true
   rw [q]
  ·refine congrArg Value.bool ?_
   have q:(e.nm 1060).bool=fun _=>true:=by(have hpq:=hc;(repeat (first|exact hpq|exact hpq.1|replace hpq:=hpq.2));done)
   show(e.nm 1060).bool 0=true
   rw [q]
  ·refine congrArg Value.bool ?_
   have q:(e.nm 736).bool=fun _=>true:=by(have hpq:=hc;(repeat (first|exact hpq|exact hpq.1|replace hpq:=hpq.2));done)
   show(e.nm 736).bool 0=true
   rw [q]
end Go.Proofs.Yteplnamfpodmlaa.T2
namespace Go.Proofs.Yteplnamfpodmlaa
theorem vsaSound_walk(A:Option Addr)(n c:Nat)(hl:n≤maxLen)(ri:Nat→Int)(rb:Nat→Bool)(hr:∀i,i < n→InR Qb ri (i * Qb.length))(a:Int)(ha:Q5 a)(A2:Option Addr)(n2 c2:Nat)(hl2:n2≤maxLen)(ri2:Nat→Int)(rb2:Nat→Bool)(hr2:∀i,i < n2→InR [some .u32] ri2 (i * [some IntKind.u32].length))(w:World)(hrow:Xn w A n Qb ri rb)(hrow2:Xn w A2 n2 [some .u32] ri2 rb2) :
 Calls Try.prog 10 #[.slice A n c,.int .u32 a,.slice A2 n2 c2] w (Ret (.bool true) w):=T2.vsaSound_walk' A n c hl ri rb hr a ha A2 n2 c2 hl2 ri2 rb2 hr2 w hrow hrow2
theorem vsaSound_own:ownKnob Try.prog.godebug=none:=by kernel_rfl
set_option maxRecDepth 100000 in
theorem vsaSound_lifted(os:Os)(started:os.Started)(H:Type)(enc:TypeId×Value→H) :
 ReturnsInHanded {} Try.checked os 10 .any (Rows.vsaSoundSpec.pre6 enc Try.prog Try.f10 Rows.vsaSoundRow.domain false) (Rows.vsaSoundSpec.post enc Try.prog Try.f10 false true false false):=by
 refine returnsInHanded_of_change (C:=Try.checked) vsaSound_own started (by kernel_rfl) Try.func10
  (ChangeSpec.witness6 (enc:=enc) (C:=Try.checked) false ⟨#[],#[.slice none 0 0,.int .u32 0,.slice none 0 0],[]⟩ 8 (by kernel_rfl) (by kernel_rfl) (by kernel_rfl) (by kernel_rfl)) ?_
 intro W base args ds gs before hval0 hW hcnd _
 have hval:∀(j:Nat) t v,Try.f10.params[j]?=some t→args[j]?=some v→Value.okWide Try.prog W .any base t v:=hval0
 have hW':=hW
 obtain⟨p,q,hA0,hV,rfl,hfz,hnd⟩:=hW
 have hA:DataW.TrodAll enc Try.prog W 0 (fun _=>true) true Try.f10.params.toList args.toList ds p:=hA0
 have hA1:=hA
 obtain⟨rfl,rfl⟩:=trodVars_none hV
 rw [Try.params10]at hA hval
 obtain⟨v0,vs0,d0,ds0,p0,q0,hargs,hd0,hp0,h0,r0⟩:=trodAll_cons hA
 obtain⟨v1,vs1,d1,ds1,p1,q1,hv1,hd1,hp1,h1,r1⟩:=trodAll_cons r0
 obtain⟨v2,vs2,d2,ds2,p2,q2,hv2,hd2,hp2,h2,r2⟩:=trodAll_cons r1
 obtain⟨hvn,hdn,hpn⟩:=trodAll_nil r2
 subst hdn hd2 hd1 hd0
 obtain rfl:args= #[v0,v1,v2]:=by cases args;simp_all
 clear hargs hvn hv1 hv2
 obtain⟨A0,n0,c0,rfl,l0,r0⟩:=Qaj Qb 6 Try.underlying22 (by kernel_rfl) (by kernel_rfl) (hval 0 22 v0 rfl rfl) h0
 obtain⟨ri0,rb0,hrow0,hr0⟩:=Qcn (K:=Qb) (by decide) r0
 obtain⟨a1,rfl,_,_,w1⟩:=open_int Try.underlying23 (hval 1 23 v1 rfl rfl) h1
 obtain⟨A2,n2,c2,rfl,l2,r2⟩:=Qaj [some .u32] 6 Try.underlying30 (by kernel_rfl) (by kernel_rfl) (hval 2 30 v2 rfl rfl) h2
 obtain⟨ri2,rb2,hrow2,hr2⟩:=Qcn (K:= [some .u32]) (by decide) r2
 simp only [List.append_nil]at hW'
 refine(vsaSound_walk A0 n0 c0 l0 ri0 rb0 hr0 a1 (VW w1) A2 n2 c2 l2 ri2 rb2 hr2 W hrow0 hrow2).mono fun e W' hr=>?_
 obtain⟨rfl,hb⟩:=hr
 exact⟨_,rfl,JP (pa:=p) (pv:= []) hW' (fun _ _ _=>(trodAll_cons_mk (shut_bool Try.underlying4 _) trodAll_mk0)) (fun sp hsp=>Jl KV hb _ _ _ _ (by kernel_rfl) hA1 (fun x hx=>hW'.lt x hx) hsp) (fun _ _=>rfl) (by simp)
  hb (ok_one (by kernel_rfl) rfl (okWide_bool_mk Try.underlying4 _))⟩
theorem vsaSound_over:Rows.vsaSoundRow.holds Try.pinned (OpenSpec.ofChange Rows.vsaSoundSpec):=
 OpenClaim.holds_of_wide 10 Try.f10 rfl rfl rfl rfl rfl rfl rfl ⟨rfl,rfl,rfl,rfl,rfl⟩ rfl rfl rfl rfl rfl (by kernel_rfl) Try.func10 (by kernel_rfl)
  (of_decide_eq_true (by kernel_rfl)) (by unfold Func.isWrapper;first|(rw [if_pos (by decide+kernel)];kernel_rfl)|(rw [if_neg (by decide+kernel)];exact⟨rfl,rfl⟩))
  (fun os started H enc _=>vsaSound_lifted os started H enc)
theorem vsaSound_proved:Rows.VsaSoundSaid:=vsaSound_over
end Go.Proofs.Yteplnamfpodmlaa
