/-
  Part of the proof.
-/
import Derived.Test.YteplnamfpodmlaaGreatQVaF
set_option linter.unusedVariables false
set_option linter.unusedSimpArgs false
set_option maxRecDepth 100000
open Go.ChangeShapes Go.WideShapes Go.ChangeAt Go.RowKit
namespace Go.Proofs.YteplnamfpodmlaaGreat
theorem Qfa{a b:Qd}(ta:a.t=false)(tb:b.t=false)(c1:¬Q6 a≤64)(c2:¬Q6 b≤64) :
 VW a b=Qj (XD a (if a.lo < b.lo then b.lo else a.lo)) (if a.hi < b.hi then a.hi else b.hi) a.st:=by
 unfold VW;simp only [ta,tb,Bool.false_eq_true,if_false];rw [if_neg c1,if_neg c2];by_cases c:(if a.hi < b.hi then a.hi else b.hi) < XD a (if a.lo < b.lo then b.lo else a.lo)
 ·rw [if_pos c];unfold Qj;rw [if_pos c]
 ·rw [if_neg c]
theorem QkC{a:Qd}(h:0 < a.st):XD a a.lo=a.lo:=by
 unfold XD;have:a.lo - a.lo+a.st - 1=a.st - 1:=by omega
 rw [this,Int.ediv_eq_zero_of_lt (by omega) (by omega)];omega
set_option maxHeartbeats 4000000 in
theorem Qlw(a b n m:Qd)(hn:n.wf)(hm:m.wf)(R:Qd)(hR:Hid (VW n m=R))
 (x:∀w,Calls Tryz.prog 71 #[a.val] w (Ret n.val w)) (y:∀w,Calls Tryz.prog 71 #[b.val] w (Ret m.val w))
 (k1:∀w,Calls Tryz.prog 120 #[n.val] w (Ret (.int .i64 (Q6 n)) w)) (k2:∀w,Calls Tryz.prog 120 #[m.val] w (Ret (.int .i64 (Q6 m)) w))
 (v1:Qx n=true) (v2:Qx m=true)
 (d1:Q6 n≤64→∀w,Calls Tryz.prog 121 #[n.val,m.val] w (Ret (YJ n m).val w)) (d2:Q6 m≤64→∀w,Calls Tryz.prog 121 #[m.val,n.val] w (Ret (YJ m n).val w)) (w:World) :
 Calls Tryz.prog 105 #[a.val,b.val] w (Ret R.val w):=by
 have wn:=Qq hn;have wm:=Qq hm;obtain⟨n0,n1,n2,n3,n4,n5⟩:=hn;obtain⟨m0,m1,m2,m3,m4,m5⟩:=hm
 go_enter Tryz.func105,Tryz.ntmps105
 go_upto_region 1 with fail
 go_cut [4] (fun s4 wx=>s4= .pointer (some ⟨w.heap.size+1+1,0,none⟩)∧Blk wx w.heap.size 34 n.cs∧Blk wx (w.heap.size+1) 34 b.cs∧Blk wx (w.heap.size+1+1) 34 Qs.cs∧Below w.heap.size w wx)
 case first=>
  go_wp2_with (go_at_call 71;(with_reducible refine(x _).mono ?_);rintro e w1 ⟨rfl,hb1⟩;(have hA1:=(((Blk.new _ _ _).alloc _).alloc _).call hb1);(have hB1:=((Blk.new _ _ _).alloc _).call hb1);(have hC1:=(Blk.new _ _ _).call hb1);simp only [World.size_alloc]at hB1 hC1;obtain⟨hc1,hf1⟩:=hA1.walk;obtain⟨hc2,hf2⟩:=hB1.walk;(have hg1:=after (w:=w) (by go_grown) hb1);(have hs1:=hg1.size);(have hz1:w.heap.size+1+1 < w1.heap.size:=hC1.lt))
  go_meet
  exact⟨rfl,Blk.put (a:=a) hA1 n,Blk.put_far hB1 (by omega) n,Blk.put_far hC1 (by omega) n,Qe hg1 (by omega) n⟩
 obtain⟨rfl,hA,hB,hC,hg⟩:=hcut;obtain⟨hc,hf⟩:=hA.walk;obtain⟨hc2,hf2⟩:=hB.walk;obtain⟨hc3,hf3⟩:=hC.walk;have hs:=hg.size;have hz:w.heap.size+1+1 < wc.heap.size:=hC.lt
 go_upto_region 2 with fail
 go_cut [4] (fun s4 wx=>s4= .pointer (some ⟨w.heap.size+1+1,0,none⟩)∧Blk wx w.heap.size 34 n.cs∧Blk wx (w.heap.size+1) 34 m.cs∧Blk wx (w.heap.size+1+1) 34 Qs.cs∧Below w.heap.size w wx)
 case first=>
  go_wp2_with (go_at_call 71;(with_reducible refine(y _).mono ?_);rintro e w2 ⟨rfl,hb2⟩;(have hA2:=hA.call hb2);(have hB2:=hB.call hb2);(have hC2:=hC.call hb2);clear hc hf hc2 hf2 hc3 hf3;obtain⟨hc,hf⟩:=hA2.walk;obtain⟨hc2,hf2⟩:=hB2.walk;obtain⟨hc3,hf3⟩:=hC2.walk;(have hg2:=after hg hb2);(have hs2:=hg2.size);(have hz2:w.heap.size+1+1 < w2.heap.size:=hC2.lt))
  go_meet
  exact⟨rfl,Blk.put_far hA2 (by omega) m,Blk.put (a:=b) hB2 m,Blk.put_far hC2 (by omega) m,Qe hg2 (by omega) m⟩
 clear hA hB hC hg hc hf hc2 hf2 hc3 hf3 hs hz x y;obtain⟨rfl,hA,hB,hC,hg⟩:=hcut;obtain⟨hc,hf⟩:=hA.walk;obtain⟨hc2,hf2⟩:=hB.walk;obtain⟨hc3,hf3⟩:=hC.walk;have hs:=hg.size;have hz:w.heap.size+1+1 < wc.heap.size:=hC.lt;have VN:=Qq v1;have VM:=Qq v2;clear v1 v2;cases tm:m.t
 ·cases tn:n.t
  ·by_cases c1:Q6 n≤64
   ·have H:Hid (YJ n m=R):=Qq (hR.out ▸ by unfold VW;simp only [tm,tn,Bool.false_eq_true,if_false];rw [if_pos c1])
    have d:=d1 c1;rw [H.out]at d;clear d1 d2 k2;generalize Q6 n=N at *;obtain⟨ne,nt,nlo,nhi,nst⟩:=n;obtain⟨me,mt,mlo,mhi,mst⟩:=m
    dsimp only at tn tm
    subst tn tm
    dsimp only at n0 n1 n2 n3 n4 n5 m0 m1 m2 m3 m4 m5
    simp only [Qd.cs]at hc hc2 hc3
    go_wp2_with (first|(go_at_call 120;(with_reducible refine(k1 _).mono ?_);rintro e w1 ⟨rfl,hb1⟩;(have hA1:=hA.call hb1);(have hB1:=hB.call hb1);(have hC1:=hC.call hb1);obtain⟨hc4,hf4⟩:=hA1.walk;obtain⟨hc5,hf5⟩:=hB1.walk;(have hg1:=after hg hb1))|(go_at_call 121;(with_reducible refine(d _).mono ?_);rintro e w2 ⟨rfl,hb2⟩;(have hC2:=hC1.call hb2);obtain⟨hc6,hf6⟩:=hC2.walk;(have hg2:=after hg1 hb2)))
    exact bodyPost_ret (v:=R.val) (Qf rfl rfl (hC2.put (a:=Qs) R)) rfl ⟨rfl,Qe hg2 (by omega) R⟩
   ·have c1':64 < Q6 n:=by omega
    by_cases c2:Q6 m≤64
    ·have H:Hid (YJ m n=R):=Qq (hR.out ▸ by unfold VW;simp only [tm,tn,Bool.false_eq_true,if_false];rw [if_neg c1,if_pos c2])
     have d:=d2 c2;rw [H.out]at d;clear d1 d2 c1;generalize Q6 n=N at *;generalize Q6 m=M at *;obtain⟨ne,nt,nlo,nhi,nst⟩:=n;obtain⟨me,mt,mlo,mhi,mst⟩:=m
     dsimp only at tn tm
     subst tn tm
     dsimp only at n0 n1 n2 n3 n4 n5 m0 m1 m2 m3 m4 m5
     simp only [Qd.cs]at hc hc2 hc3
     go_wp2_with (first|(go_at_call 120;(with_reducible refine(k1 _).mono ?_);rintro e w1 ⟨rfl,hb1⟩;(have hA1:=hA.call hb1);(have hB1:=hB.call hb1);(have hC1:=hC.call hb1);obtain⟨hc4,hf4⟩:=hA1.walk;obtain⟨hc5,hf5⟩:=hB1.walk;(have hg1:=after hg hb1))|(go_at_call 120;(with_reducible refine(k2 _).mono ?_);rintro e w2 ⟨rfl,hb2⟩;(have hA2:=hA1.call hb2);(have hB2:=hB1.call hb2);(have hC2:=hC1.call hb2);obtain⟨hc6,hf6⟩:=hA2.walk;obtain⟨hc7,hf7⟩:=hB2.walk;(have hg2:=after hg1 hb2))|(go_at_call 121;(with_reducible refine(d _).mono ?_);rintro e w3 ⟨rfl,hb3⟩;(have hC3:=hC2.call hb3);obtain⟨hc9,hf9⟩:=hC3.walk;(have hg3:=after hg2 hb3)))
     exact bodyPost_ret (v:=R.val) (Qf rfl rfl (hC3.put (a:=Qs) R)) rfl ⟨rfl,Qe hg3 (by omega) R⟩
    ·have c2':64 < Q6 m:=by omega
     have L:=Qfa tn tm c1 c2;rw [hR.out]at L;obtain⟨ra,sa⟩:=Qcq wn.out VN.out c1 tn;have F:=QcJ wn.out sa (if n.lo < m.lo then m.lo else n.lo) (by omega) (by omega)
     have F0:=QkC (a:=n) (by omega)
     have s1:0 < n.st:=by omega
     clear d1 d2 c1 c2 ra hR sa;by_cases g1:n.lo < m.lo
     ·rw [if_pos g1]at L F;obtain⟨f1,f2,_,f3,f4,f5,f6⟩:=F;by_cases g2:n.hi < m.hi
      ·have g2':¬m.hi < n.hi:=by omega
       rw [if_pos g2]at L;have B:=QN (XD n m.lo) n.hi n.st (by omega) (by omega) n2 n3 n4 n5
       rw [←L]at B;have LL:=Qq L;clear L F0 wn wm VN VM;generalize Q6 n=N at *;generalize Q6 m=M at *;unfold XD at *;obtain⟨ne,nt,nlo,nhi,nst⟩:=n;obtain⟨me,mt,mlo,mhi,mst⟩:=m
       dsimp only at tn tm
       subst tn tm
       dsimp only at n0 n1 n2 n3 n4 n5 m0 m1 m2 m3 m4 m5
       simp only [Qd.cs]at hc hc2 hc3
       dsimp only at *
       go_wp2_with (first|(go_at_call 120;(with_reducible refine(k1 _).mono ?_);rintro e w1 ⟨rfl,hb1⟩;(have hA1:=hA.call hb1);(have hB1:=hB.call hb1);(have hC1:=hC.call hb1);obtain⟨hc4,hf4⟩:=hA1.walk;obtain⟨hc5,hf5⟩:=hB1.walk;(have hg1:=after hg hb1))|(go_at_call 120;(with_reducible refine(k2 _).mono ?_);rintro e w2 ⟨rfl,hb2⟩;(have hA2:=hA1.call hb2);(have hB2:=hB1.call hb2);(have hC2:=hC1.call hb2);obtain⟨hc6,hf6⟩:=hA2.walk;obtain⟨hc7,hf7⟩:=hB2.walk;(have hg2:=after hg1 hb2))|(go_at_call 73;(with_reducible refine(B _).mono ?_);rintro e w3 ⟨rfl,hb3⟩;(have hC3:=hC2.call hb3);obtain⟨hc9,hf9⟩:=hC3.walk;(have hg3:=after hg2 hb3)))
       exact bodyPost_ret (v:=R.val) (Qf rfl rfl (hC3.put (a:=Qs) R)) rfl ⟨rfl,Qe hg3 (by omega) R⟩
      ·rw [if_neg g2]at L;have B:=QN (XD n m.lo) m.hi n.st (by omega) (by omega) m2 m3 n4 n5
       rw [←L]at B;by_cases g3:m.hi < n.hi
       ·skip
        have LL:=Qq L;clear L F0 wn wm VN VM;generalize Q6 n=N at *;generalize Q6 m=M at *;unfold XD at *;obtain⟨ne,nt,nlo,nhi,nst⟩:=n;obtain⟨me,mt,mlo,mhi,mst⟩:=m
        dsimp only at tn tm
        subst tn tm
        dsimp only at n0 n1 n2 n3 n4 n5 m0 m1 m2 m3 m4 m5
        simp only [Qd.cs]at hc hc2 hc3
        dsimp only at *
        go_wp2_with (first|(go_at_call 120;(with_reducible refine(k1 _).mono ?_);rintro e w1 ⟨rfl,hb1⟩;(have hA1:=hA.call hb1);(have hB1:=hB.call hb1);(have hC1:=hC.call hb1);obtain⟨hc4,hf4⟩:=hA1.walk;obtain⟨hc5,hf5⟩:=hB1.walk;(have hg1:=after hg hb1))|(go_at_call 120;(with_reducible refine(k2 _).mono ?_);rintro e w2 ⟨rfl,hb2⟩;(have hA2:=hA1.call hb2);(have hB2:=hB1.call hb2);(have hC2:=hC1.call hb2);obtain⟨hc6,hf6⟩:=hA2.walk;obtain⟨hc7,hf7⟩:=hB2.walk;(have hg2:=after hg1 hb2))|(go_at_call 73;(with_reducible refine(B _).mono ?_);rintro e w3 ⟨rfl,hb3⟩;(have hC3:=hC2.call hb3);obtain⟨hc9,hf9⟩:=hC3.walk;(have hg3:=after hg2 hb3)))
        exact bodyPost_ret (v:=R.val) (Qf rfl rfl (hC3.put (a:=Qs) R)) rfl ⟨rfl,Qe hg3 (by omega) R⟩
       ·have e3:m.hi=n.hi:=by omega
        rw [e3]at B;clear e3;have LL:=Qq L;clear L F0 wn wm VN VM;generalize Q6 n=N at *;generalize Q6 m=M at *;unfold XD at *;obtain⟨ne,nt,nlo,nhi,nst⟩:=n;obtain⟨me,mt,mlo,mhi,mst⟩:=m
        dsimp only at tn tm
        subst tn tm
        dsimp only at n0 n1 n2 n3 n4 n5 m0 m1 m2 m3 m4 m5
        simp only [Qd.cs]at hc hc2 hc3
        dsimp only at *
        go_wp2_with (first|(go_at_call 120;(with_reducible refine(k1 _).mono ?_);rintro e w1 ⟨rfl,hb1⟩;(have hA1:=hA.call hb1);(have hB1:=hB.call hb1);(have hC1:=hC.call hb1);obtain⟨hc4,hf4⟩:=hA1.walk;obtain⟨hc5,hf5⟩:=hB1.walk;(have hg1:=after hg hb1))|(go_at_call 120;(with_reducible refine(k2 _).mono ?_);rintro e w2 ⟨rfl,hb2⟩;(have hA2:=hA1.call hb2);(have hB2:=hB1.call hb2);(have hC2:=hC1.call hb2);obtain⟨hc6,hf6⟩:=hA2.walk;obtain⟨hc7,hf7⟩:=hB2.walk;(have hg2:=after hg1 hb2))|(go_at_call 73;(with_reducible refine(B _).mono ?_);rintro e w3 ⟨rfl,hb3⟩;(have hC3:=hC2.call hb3);obtain⟨hc9,hf9⟩:=hC3.walk;(have hg3:=after hg2 hb3)))
        exact bodyPost_ret (v:=R.val) (Qf rfl rfl (hC3.put (a:=Qs) R)) rfl ⟨rfl,Qe hg3 (by omega) R⟩
     ·rw [if_neg g1,F0]at L;clear F;by_cases g2:n.hi < m.hi
      ·have g2':¬m.hi < n.hi:=by omega
       rw [if_pos g2]at L;have B:=QN n.lo n.hi n.st (by omega) (by omega) n2 n3 n4 n5
       rw [←L]at B;have LL:=Qq L;clear L F0 wn wm VN VM;generalize Q6 n=N at *;generalize Q6 m=M at *;unfold XD at *;obtain⟨ne,nt,nlo,nhi,nst⟩:=n;obtain⟨me,mt,mlo,mhi,mst⟩:=m
       dsimp only at tn tm
       subst tn tm
       dsimp only at n0 n1 n2 n3 n4 n5 m0 m1 m2 m3 m4 m5
       simp only [Qd.cs]at hc hc2 hc3
       dsimp only at *
       go_wp2_with (first|(go_at_call 120;(with_reducible refine(k1 _).mono ?_);rintro e w1 ⟨rfl,hb1⟩;(have hA1:=hA.call hb1);(have hB1:=hB.call hb1);(have hC1:=hC.call hb1);obtain⟨hc4,hf4⟩:=hA1.walk;obtain⟨hc5,hf5⟩:=hB1.walk;(have hg1:=after hg hb1))|(go_at_call 120;(with_reducible refine(k2 _).mono ?_);rintro e w2 ⟨rfl,hb2⟩;(have hA2:=hA1.call hb2);(have hB2:=hB1.call hb2);(have hC2:=hC1.call hb2);obtain⟨hc6,hf6⟩:=hA2.walk;obtain⟨hc7,hf7⟩:=hB2.walk;(have hg2:=after hg1 hb2))|(go_at_call 73;(with_reducible refine(B _).mono ?_);rintro e w3 ⟨rfl,hb3⟩;(have hC3:=hC2.call hb3);obtain⟨hc9,hf9⟩:=hC3.walk;(have hg3:=after hg2 hb3)))
       exact bodyPost_ret (v:=R.val) (Qf rfl rfl (hC3.put (a:=Qs) R)) rfl ⟨rfl,Qe hg3 (by omega) R⟩
      ·rw [if_neg g2]at L;have B:=QN n.lo m.hi n.st (by omega) (by omega) m2 m3 n4 n5
       rw [←L]at B;by_cases g3:m.hi < n.hi
       ·skip
        have LL:=Qq L;clear L F0 wn wm VN VM;generalize Q6 n=N at *;generalize Q6 m=M at *;unfold XD at *;obtain⟨ne,nt,nlo,nhi,nst⟩:=n;obtain⟨me,mt,mlo,mhi,mst⟩:=m
        dsimp only at tn tm
        subst tn tm
        dsimp only at n0 n1 n2 n3 n4 n5 m0 m1 m2 m3 m4 m5
        simp only [Qd.cs]at hc hc2 hc3
        dsimp only at *
        go_wp2_with (first|(go_at_call 120;(with_reducible refine(k1 _).mono ?_);rintro e w1 ⟨rfl,hb1⟩;(have hA1:=hA.call hb1);(have hB1:=hB.call hb1);(have hC1:=hC.call hb1);obtain⟨hc4,hf4⟩:=hA1.walk;obtain⟨hc5,hf5⟩:=hB1.walk;(have hg1:=after hg hb1))|(go_at_call 120;(with_reducible refine(k2 _).mono ?_);rintro e w2 ⟨rfl,hb2⟩;(have hA2:=hA1.call hb2);(have hB2:=hB1.call hb2);(have hC2:=hC1.call hb2);obtain⟨hc6,hf6⟩:=hA2.walk;obtain⟨hc7,hf7⟩:=hB2.walk;(have hg2:=after hg1 hb2))|(go_at_call 73;(with_reducible refine(B _).mono ?_);rintro e w3 ⟨rfl,hb3⟩;(have hC3:=hC2.call hb3);obtain⟨hc9,hf9⟩:=hC3.walk;(have hg3:=after hg2 hb3)))
        exact bodyPost_ret (v:=R.val) (Qf rfl rfl (hC3.put (a:=Qs) R)) rfl ⟨rfl,Qe hg3 (by omega) R⟩
       ·have e3:m.hi=n.hi:=by omega
        rw [e3]at B;clear e3;have LL:=Qq L;clear L F0 wn wm VN VM;generalize Q6 n=N at *;generalize Q6 m=M at *;unfold XD at *;obtain⟨ne,nt,nlo,nhi,nst⟩:=n;obtain⟨me,mt,mlo,mhi,mst⟩:=m
        dsimp only at tn tm
        subst tn tm
        dsimp only at n0 n1 n2 n3 n4 n5 m0 m1 m2 m3 m4 m5
        simp only [Qd.cs]at hc hc2 hc3
        dsimp only at *
        go_wp2_with (first|(go_at_call 120;(with_reducible refine(k1 _).mono ?_);rintro e w1 ⟨rfl,hb1⟩;(have hA1:=hA.call hb1);(have hB1:=hB.call hb1);(have hC1:=hC.call hb1);obtain⟨hc4,hf4⟩:=hA1.walk;obtain⟨hc5,hf5⟩:=hB1.walk;(have hg1:=after hg hb1))|(go_at_call 120;(with_reducible refine(k2 _).mono ?_);rintro e w2 ⟨rfl,hb2⟩;(have hA2:=hA1.call hb2);(have hB2:=hB1.call hb2);(have hC2:=hC1.call hb2);obtain⟨hc6,hf6⟩:=hA2.walk;obtain⟨hc7,hf7⟩:=hB2.walk;(have hg2:=after hg1 hb2))|(go_at_call 73;(with_reducible refine(B _).mono ?_);rintro e w3 ⟨rfl,hb3⟩;(have hC3:=hC2.call hb3);obtain⟨hc9,hf9⟩:=hC3.walk;(have hg3:=after hg2 hb3)))
        exact bodyPost_ret (v:=R.val) (Qf rfl rfl (hC3.put (a:=Qs) R)) rfl ⟨rfl,Qe hg3 (by omega) R⟩
  ·have H:Hid (m=R):=Qq (hR.out ▸ by unfold VW;simp only [tm,tn,Bool.false_eq_true,if_false,if_true])
   have HR:=H.out;clear H hR k1 k2 d1 d2;subst HR;obtain⟨ne,nt,nlo,nhi,nst⟩:=n;obtain⟨me,mt,mlo,mhi,mst⟩:=m
   dsimp only at tn tm
   subst tn tm
   dsimp only at n0 n1 n2 n3 n4 n5 m0 m1 m2 m3 m4 m5
   simp only [Qd.cs]at hc hc2 hc3
   go_wp2
   exact bodyPost_ret (v:=Qd.val ⟨me,false,mlo,mhi,mst⟩) (Qf rfl rfl (hC.put (a:=Qs) ⟨me,false,mlo,mhi,mst⟩)) rfl ⟨rfl,Qe hg (by omega) ⟨me,false,mlo,mhi,mst⟩⟩
 ·have H:Hid (n=R):=Qq (hR.out ▸ by unfold VW;simp only [tm,if_true])
  have HR:=H.out;clear H hR k1 k2 d1 d2;subst HR;obtain⟨ne,nt,nlo,nhi,nst⟩:=n;obtain⟨me,mt,mlo,mhi,mst⟩:=m
  dsimp only at tm
  subst tm
  dsimp only at n0 n1 n2 n3 n4 n5 m0 m1 m2 m3 m4 m5
  simp only [Qd.cs]at hc hc2 hc3
  go_wp2
  exact bodyPost_ret (v:=Qd.val ⟨ne,nt,nlo,nhi,nst⟩) (Qf rfl rfl (hC.put (a:=Qs) ⟨ne,nt,nlo,nhi,nst⟩)) rfl ⟨rfl,Qe hg (by omega) ⟨ne,nt,nlo,nhi,nst⟩⟩
theorem Qdl(a b:Qd)(ha:a.wf)(hb:b.wf)(va:Qx a=true)(vb:Qx b=true)(hc:Q6 a≤64)(w:World):Calls Tryz.prog 121 #[a.val,b.val] w (Ret (YJ a b).val w):=
 Qk5 a b hb (XI a) (fun x hx=>by have:=WI ha va hc x hx;exact⟨this.1,this.2.1⟩)
  (by rw [Qbp];omega) (QoO a ha va hc)
  (fun x w x0 x1=>by have:=Yl b hb x x0 x1 w;unfold K4 at this;rwa [Zl vb]at this)
  (fun o x w wo x0 x1=>Qb3 o (Zs x) wo (WQ x0 x1) w) w
theorem QoP(a b:Qd)(ha:a.wf)(hb:b.wf)(w:World):Calls Tryz.prog 105 #[a.val,b.val] w (Ret (VV a b).val w):=by
 have na:=Q8 ha;have nb:=Q8 hb;have va:=Qz a;have vb:=Qz b;refine Qlw a b (Zb a) (Zb b) na nb _ (Qq rfl) (Je a ha) (Je b hb) (fun w=>?_) (fun w=>?_) va vb (fun h=>Qdl _ _ na nb va vb h) (fun h=>Qdl _ _ nb na vb va h) w
 ·have:=Qau (Zb a) na w;unfold JF at this;rwa [Zl va]at this
 ·have:=Qau (Zb b) nb w;unfold JF at this;rwa [Zl vb]at this
end Go.Proofs.YteplnamfpodmlaaGreat
