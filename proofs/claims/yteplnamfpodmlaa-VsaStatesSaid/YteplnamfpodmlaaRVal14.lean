/-
  Part of the proof.
-/
import Derived.Test.YteplnamfpodmlaaRVaF
set_option linter.unusedVariables false
set_option linter.unusedSimpArgs false
set_option maxRecDepth 100000
open Go.ChangeShapes Go.WideShapes Go.ChangeAt Go.RowKit
namespace Go.Proofs.Yteplnamfpodmlaa
theorem QoC{a b:Qd}(ta:a.t=false)(tb:b.t=false)(c1:¬QO a≤64)(c2:¬QO b≤64) :
 WG a b=Qs (Jn a (if a.lo < b.lo then b.lo else a.lo)) (if a.hi < b.hi then a.hi else b.hi) a.st:=by
 unfold WG
 simp only [ta,tb,Bool.false_eq_true,if_false]
 rw [if_neg c1,if_neg c2]
 by_cases c:(if a.hi < b.hi then a.hi else b.hi) < Jn a (if a.lo < b.lo then b.lo else a.lo)
 ·rw [if_pos c];unfold Qs;rw [if_pos c]
 ·rw [if_neg c]
theorem Qx6{a:Qd}(h:0 < a.st):Jn a a.lo=a.lo:=by
 unfold Jn
 have:a.lo - a.lo+a.st - 1=a.st - 1:=by omega
 rw [this,Int.ediv_eq_zero_of_lt (by omega) (by omega)];omega
set_option maxHeartbeats 4000000 in
theorem QxG(a b n m:Qd)(hn:n.wf)(hm:m.wf)(R:Qd)(hR:Hid (WG n m=R))
 (x:∀w,Calls Try.prog 96 #[a.val] w (Ret n.val w)) (y:∀w,Calls Try.prog 96 #[b.val] w (Ret m.val w))
 (k1:∀w,Calls Try.prog 136 #[n.val] w (Ret (.int .i64 (QO n)) w)) (k2:∀w,Calls Try.prog 136 #[m.val] w (Ret (.int .i64 (QO m)) w))
 (v1:Qq n=true) (v2:Qq m=true)
 (d1:QO n≤64→∀w,Calls Try.prog 137 #[n.val,m.val] w (Ret (Qdm n m).val w)) (d2:QO m≤64→∀w,Calls Try.prog 137 #[m.val,n.val] w (Ret (Qdm m n).val w)) (w:World) :
 Calls Try.prog 124 #[a.val,b.val] w (Ret R.val w):=by
 have wn:=QF hn
 have wm:=QF hm
 obtain⟨n0,n1,n2,n3,n4,n5⟩:=hn
 obtain⟨m0,m1,m2,m3,m4,m5⟩:=hm
 go_enter Try.func124,Try.ntmps124
 go_upto_region 1 with fail
 go_cut [4] (fun s4 wx=>s4= .pointer (some ⟨w.heap.size+1+1,0,none⟩)∧Blk wx w.heap.size 34 n.cs∧Blk wx (w.heap.size+1) 34 b.cs∧Blk wx (w.heap.size+1+1) 34 QV.cs∧Below w.heap.size w wx)
 case first=>
  go_wp2_with (go_at_call 96;(with_reducible refine(x _).mono ?_);rintro e w1 ⟨rfl,hb1⟩;(have hA1:=(((Blk.new _ _ _).alloc _).alloc _).call hb1);(have hB1:=((Blk.new _ _ _).alloc _).call hb1);(have hC1:=(Blk.new _ _ _).call hb1);simp only [World.size_alloc]at hB1 hC1;obtain⟨hc1,hf1⟩:=hA1.walk;obtain⟨hc2,hf2⟩:=hB1.walk;(have hg1:=after (w:=w) (by go_grown) hb1);(have hs1:=hg1.size);(have hz1:w.heap.size+1+1 < w1.heap.size:=hC1.lt))
  go_meet
  exact⟨rfl,Blk.put (a:=a) hA1 n,Blk.put_far hB1 (by omega) n,Blk.put_far hC1 (by omega) n,Qh hg1 (by omega) n⟩
 obtain⟨rfl,hA,hB,hC,hg⟩:=hcut
 obtain⟨hc,hf⟩:=hA.walk
 obtain⟨hc2,hf2⟩:=hB.walk
 obtain⟨hc3,hf3⟩:=hC.walk
 have hs:=hg.size
 have hz:w.heap.size+1+1 < wc.heap.size:=hC.lt
 go_upto_region 2 with fail
 go_cut [4] (fun s4 wx=>s4= .pointer (some ⟨w.heap.size+1+1,0,none⟩)∧Blk wx w.heap.size 34 n.cs∧Blk wx (w.heap.size+1) 34 m.cs∧Blk wx (w.heap.size+1+1) 34 QV.cs∧Below w.heap.size w wx)
 case first=>
  go_wp2_with (go_at_call 96;(with_reducible refine(y _).mono ?_);rintro e w2 ⟨rfl,hb2⟩;(have hA2:=hA.call hb2);(have hB2:=hB.call hb2);(have hC2:=hC.call hb2);clear hc hf hc2 hf2 hc3 hf3;obtain⟨hc,hf⟩:=hA2.walk;obtain⟨hc2,hf2⟩:=hB2.walk;obtain⟨hc3,hf3⟩:=hC2.walk;(have hg2:=after hg hb2);(have hs2:=hg2.size);(have hz2:w.heap.size+1+1 < w2.heap.size:=hC2.lt))
  go_meet
  exact⟨rfl,Blk.put_far hA2 (by omega) m,Blk.put (a:=b) hB2 m,Blk.put_far hC2 (by omega) m,Qh hg2 (by omega) m⟩
 clear hA hB hC hg hc hf hc2 hf2 hc3 hf3 hs hz x y
 obtain⟨rfl,hA,hB,hC,hg⟩:=hcut
 obtain⟨hc,hf⟩:=hA.walk
 obtain⟨hc2,hf2⟩:=hB.walk
 obtain⟨hc3,hf3⟩:=hC.walk
 have hs:=hg.size
 have hz:w.heap.size+1+1 < wc.heap.size:=hC.lt
 have VN:=QF v1
 have VM:=QF v2
 clear v1 v2
 cases tm:m.t
 ·cases tn:n.t
  ·by_cases c1:QO n≤64
   ·have H:Hid (Qdm n m=R):=QF (hR.out ▸ by unfold WG;simp only [tm,tn,Bool.false_eq_true,if_false];rw [if_pos c1])
    have d:=d1 c1
    rw [H.out]at d
    clear d1 d2 k2
    generalize QO n=N at *
    obtain⟨ne,nt,nlo,nhi,nst⟩:=n
    obtain⟨me,mt,mlo,mhi,mst⟩:=m
    dsimp only at tn tm
    subst tn tm
    dsimp only at n0 n1 n2 n3 n4 n5 m0 m1 m2 m3 m4 m5
    simp only [Qd.cs]at hc hc2 hc3
    go_wp2_with (first|(go_at_call 136;(with_reducible refine(k1 _).mono ?_);rintro e w1 ⟨rfl,hb1⟩;(have hA1:=hA.call hb1);(have hB1:=hB.call hb1);(have hC1:=hC.call hb1);obtain⟨hc4,hf4⟩:=hA1.walk;obtain⟨hc5,hf5⟩:=hB1.walk;(have hg1:=after hg hb1))|(go_at_call 137;(with_reducible refine(d _).mono ?_);rintro e w2 ⟨rfl,hb2⟩;(have hC2:=hC1.call hb2);obtain⟨hc6,hf6⟩:=hC2.walk;(have hg2:=after hg1 hb2)))
    exact bodyPost_ret (v:=R.val) (Qt rfl rfl (hC2.put (a:=QV) R)) rfl ⟨rfl,Qh hg2 (by omega) R⟩
   ·have c1':64 < QO n:=by omega
    by_cases c2:QO m≤64
    ·have H:Hid (Qdm m n=R):=QF (hR.out ▸ by unfold WG;simp only [tm,tn,Bool.false_eq_true,if_false];rw [if_neg c1,if_pos c2])
     have d:=d2 c2
     rw [H.out]at d
     clear d1 d2 c1
     generalize QO n=N at *
     generalize QO m=M at *
     obtain⟨ne,nt,nlo,nhi,nst⟩:=n
     obtain⟨me,mt,mlo,mhi,mst⟩:=m
     dsimp only at tn tm
     subst tn tm
     dsimp only at n0 n1 n2 n3 n4 n5 m0 m1 m2 m3 m4 m5
     simp only [Qd.cs]at hc hc2 hc3
     go_wp2_with (first|(go_at_call 136;(with_reducible refine(k1 _).mono ?_);rintro e w1 ⟨rfl,hb1⟩;(have hA1:=hA.call hb1);(have hB1:=hB.call hb1);(have hC1:=hC.call hb1);obtain⟨hc4,hf4⟩:=hA1.walk;obtain⟨hc5,hf5⟩:=hB1.walk;(have hg1:=after hg hb1))|(go_at_call 136;(with_reducible refine(k2 _).mono ?_);rintro e w2 ⟨rfl,hb2⟩;(have hA2:=hA1.call hb2);(have hB2:=hB1.call hb2);(have hC2:=hC1.call hb2);obtain⟨hc6,hf6⟩:=hA2.walk;obtain⟨hc7,hf7⟩:=hB2.walk;(have hg2:=after hg1 hb2))|(go_at_call 137;(with_reducible refine(d _).mono ?_);rintro e w3 ⟨rfl,hb3⟩;(have hC3:=hC2.call hb3);obtain⟨hc9,hf9⟩:=hC3.walk;(have hg3:=after hg2 hb3)))
     exact bodyPost_ret (v:=R.val) (Qt rfl rfl (hC3.put (a:=QV) R)) rfl ⟨rfl,Qh hg3 (by omega) R⟩
    ·have c2':64 < QO m:=by omega
     have L:=QoC tn tm c1 c2
     rw [hR.out]at L
     obtain⟨ra,sa⟩:=Qb0 wn.out VN.out c1 tn
     have F:=Qdw wn.out sa (if n.lo < m.lo then m.lo else n.lo) (by omega) (by omega)
     have F0:=Qx6 (a:=n) (by omega)
     have s1:0 < n.st:=by omega
     clear d1 d2 c1 c2 ra hR sa
     by_cases g1:n.lo < m.lo
     ·rw [if_pos g1]at L F
      obtain⟨f1,f2,_,f3,f4,f5,f6⟩:=F
      by_cases g2:n.hi < m.hi
      ·have g2':¬m.hi < n.hi:=by omega
       rw [if_pos g2]at L
       have B:=Qvy (Jn n m.lo) n.hi n.st (by omega) (by omega) n2 n3 n4 n5
       rw [←L]at B
       have LL:=QF L
       clear L F0 wn wm VN VM
       generalize QO n=N at *
       generalize QO m=M at *
       unfold Jn at *
       obtain⟨ne,nt,nlo,nhi,nst⟩:=n
       obtain⟨me,mt,mlo,mhi,mst⟩:=m
       dsimp only at tn tm
       subst tn tm
       dsimp only at n0 n1 n2 n3 n4 n5 m0 m1 m2 m3 m4 m5
       simp only [Qd.cs]at hc hc2 hc3
       dsimp only at *
       go_wp2_with (first|(go_at_call 136;(with_reducible refine(k1 _).mono ?_);rintro e w1 ⟨rfl,hb1⟩;(have hA1:=hA.call hb1);(have hB1:=hB.call hb1);(have hC1:=hC.call hb1);obtain⟨hc4,hf4⟩:=hA1.walk;obtain⟨hc5,hf5⟩:=hB1.walk;(have hg1:=after hg hb1))|(go_at_call 136;(with_reducible refine(k2 _).mono ?_);rintro e w2 ⟨rfl,hb2⟩;(have hA2:=hA1.call hb2);(have hB2:=hB1.call hb2);(have hC2:=hC1.call hb2);obtain⟨hc6,hf6⟩:=hA2.walk;obtain⟨hc7,hf7⟩:=hB2.walk;(have hg2:=after hg1 hb2))|(go_at_call 98;(with_reducible refine(B _).mono ?_);rintro e w3 ⟨rfl,hb3⟩;(have hC3:=hC2.call hb3);obtain⟨hc9,hf9⟩:=hC3.walk;(have hg3:=after hg2 hb3)))
       exact bodyPost_ret (v:=R.val) (Qt rfl rfl (hC3.put (a:=QV) R)) rfl ⟨rfl,Qh hg3 (by omega) R⟩
      ·rw [if_neg g2]at L
       have B:=Qvy (Jn n m.lo) m.hi n.st (by omega) (by omega) m2 m3 n4 n5
       rw [←L]at B
       by_cases g3:m.hi < n.hi
       ·skip
        have LL:=QF L
        clear L F0 wn wm VN VM
        generalize QO n=N at *
        generalize QO m=M at *
        unfold Jn at *
        obtain⟨ne,nt,nlo,nhi,nst⟩:=n
        obtain⟨me,mt,mlo,mhi,mst⟩:=m
        dsimp only at tn tm
        subst tn tm
        dsimp only at n0 n1 n2 n3 n4 n5 m0 m1 m2 m3 m4 m5
        simp only [Qd.cs]at hc hc2 hc3
        dsimp only at *
        go_wp2_with (first|(go_at_call 136;(with_reducible refine(k1 _).mono ?_);rintro e w1 ⟨rfl,hb1⟩;(have hA1:=hA.call hb1);(have hB1:=hB.call hb1);(have hC1:=hC.call hb1);obtain⟨hc4,hf4⟩:=hA1.walk;obtain⟨hc5,hf5⟩:=hB1.walk;(have hg1:=after hg hb1))|(go_at_call 136;(with_reducible refine(k2 _).mono ?_);rintro e w2 ⟨rfl,hb2⟩;(have hA2:=hA1.call hb2);(have hB2:=hB1.call hb2);(have hC2:=hC1.call hb2);obtain⟨hc6,hf6⟩:=hA2.walk;obtain⟨hc7,hf7⟩:=hB2.walk;(have hg2:=after hg1 hb2))|(go_at_call 98;(with_reducible refine(B _).mono ?_);rintro e w3 ⟨rfl,hb3⟩;(have hC3:=hC2.call hb3);obtain⟨hc9,hf9⟩:=hC3.walk;(have hg3:=after hg2 hb3)))
        exact bodyPost_ret (v:=R.val) (Qt rfl rfl (hC3.put (a:=QV) R)) rfl ⟨rfl,Qh hg3 (by omega) R⟩
       ·have e3:m.hi=n.hi:=by omega
        rw [e3]at B
        clear e3
        have LL:=QF L
        clear L F0 wn wm VN VM
        generalize QO n=N at *
        generalize QO m=M at *
        unfold Jn at *
        obtain⟨ne,nt,nlo,nhi,nst⟩:=n
        obtain⟨me,mt,mlo,mhi,mst⟩:=m
        dsimp only at tn tm
        subst tn tm
        dsimp only at n0 n1 n2 n3 n4 n5 m0 m1 m2 m3 m4 m5
        simp only [Qd.cs]at hc hc2 hc3
        dsimp only at *
        go_wp2_with (first|(go_at_call 136;(with_reducible refine(k1 _).mono ?_);rintro e w1 ⟨rfl,hb1⟩;(have hA1:=hA.call hb1);(have hB1:=hB.call hb1);(have hC1:=hC.call hb1);obtain⟨hc4,hf4⟩:=hA1.walk;obtain⟨hc5,hf5⟩:=hB1.walk;(have hg1:=after hg hb1))|(go_at_call 136;(with_reducible refine(k2 _).mono ?_);rintro e w2 ⟨rfl,hb2⟩;(have hA2:=hA1.call hb2);(have hB2:=hB1.call hb2);(have hC2:=hC1.call hb2);obtain⟨hc6,hf6⟩:=hA2.walk;obtain⟨hc7,hf7⟩:=hB2.walk;(have hg2:=after hg1 hb2))|(go_at_call 98;(with_reducible refine(B _).mono ?_);rintro e w3 ⟨rfl,hb3⟩;(have hC3:=hC2.call hb3);obtain⟨hc9,hf9⟩:=hC3.walk;(have hg3:=after hg2 hb3)))
        exact bodyPost_ret (v:=R.val) (Qt rfl rfl (hC3.put (a:=QV) R)) rfl ⟨rfl,Qh hg3 (by omega) R⟩
     ·rw [if_neg g1,F0]at L
      clear F
      by_cases g2:n.hi < m.hi
      ·have g2':¬m.hi < n.hi:=by omega
       rw [if_pos g2]at L
       have B:=Qvy n.lo n.hi n.st (by omega) (by omega) n2 n3 n4 n5
       rw [←L]at B
       have LL:=QF L
       clear L F0 wn wm VN VM
       generalize QO n=N at *
       generalize QO m=M at *
       unfold Jn at *
       obtain⟨ne,nt,nlo,nhi,nst⟩:=n
       obtain⟨me,mt,mlo,mhi,mst⟩:=m
       dsimp only at tn tm
       subst tn tm
       dsimp only at n0 n1 n2 n3 n4 n5 m0 m1 m2 m3 m4 m5
       simp only [Qd.cs]at hc hc2 hc3
       dsimp only at *
       go_wp2_with (first|(go_at_call 136;(with_reducible refine(k1 _).mono ?_);rintro e w1 ⟨rfl,hb1⟩;(have hA1:=hA.call hb1);(have hB1:=hB.call hb1);(have hC1:=hC.call hb1);obtain⟨hc4,hf4⟩:=hA1.walk;obtain⟨hc5,hf5⟩:=hB1.walk;(have hg1:=after hg hb1))|(go_at_call 136;(with_reducible refine(k2 _).mono ?_);rintro e w2 ⟨rfl,hb2⟩;(have hA2:=hA1.call hb2);(have hB2:=hB1.call hb2);(have hC2:=hC1.call hb2);obtain⟨hc6,hf6⟩:=hA2.walk;obtain⟨hc7,hf7⟩:=hB2.walk;(have hg2:=after hg1 hb2))|(go_at_call 98;(with_reducible refine(B _).mono ?_);rintro e w3 ⟨rfl,hb3⟩;(have hC3:=hC2.call hb3);obtain⟨hc9,hf9⟩:=hC3.walk;(have hg3:=after hg2 hb3)))
       exact bodyPost_ret (v:=R.val) (Qt rfl rfl (hC3.put (a:=QV) R)) rfl ⟨rfl,Qh hg3 (by omega) R⟩
      ·rw [if_neg g2]at L
       have B:=Qvy n.lo m.hi n.st (by omega) (by omega) m2 m3 n4 n5
       rw [←L]at B
       by_cases g3:m.hi < n.hi
       ·skip
        have LL:=QF L
        clear L F0 wn wm VN VM
        generalize QO n=N at *
        generalize QO m=M at *
        unfold Jn at *
        obtain⟨ne,nt,nlo,nhi,nst⟩:=n
        obtain⟨me,mt,mlo,mhi,mst⟩:=m
        dsimp only at tn tm
        subst tn tm
        dsimp only at n0 n1 n2 n3 n4 n5 m0 m1 m2 m3 m4 m5
        simp only [Qd.cs]at hc hc2 hc3
        dsimp only at *
        go_wp2_with (first|(go_at_call 136;(with_reducible refine(k1 _).mono ?_);rintro e w1 ⟨rfl,hb1⟩;(have hA1:=hA.call hb1);(have hB1:=hB.call hb1);(have hC1:=hC.call hb1);obtain⟨hc4,hf4⟩:=hA1.walk;obtain⟨hc5,hf5⟩:=hB1.walk;(have hg1:=after hg hb1))|(go_at_call 136;(with_reducible refine(k2 _).mono ?_);rintro e w2 ⟨rfl,hb2⟩;(have hA2:=hA1.call hb2);(have hB2:=hB1.call hb2);(have hC2:=hC1.call hb2);obtain⟨hc6,hf6⟩:=hA2.walk;obtain⟨hc7,hf7⟩:=hB2.walk;(have hg2:=after hg1 hb2))|(go_at_call 98;(with_reducible refine(B _).mono ?_);rintro e w3 ⟨rfl,hb3⟩;(have hC3:=hC2.call hb3);obtain⟨hc9,hf9⟩:=hC3.walk;(have hg3:=after hg2 hb3)))
        exact bodyPost_ret (v:=R.val) (Qt rfl rfl (hC3.put (a:=QV) R)) rfl ⟨rfl,Qh hg3 (by omega) R⟩
       ·have e3:m.hi=n.hi:=by omega
        rw [e3]at B
        clear e3
        have LL:=QF L
        clear L F0 wn wm VN VM
        generalize QO n=N at *
        generalize QO m=M at *
        unfold Jn at *
        obtain⟨ne,nt,nlo,nhi,nst⟩:=n
        obtain⟨me,mt,mlo,mhi,mst⟩:=m
        dsimp only at tn tm
        subst tn tm
        dsimp only at n0 n1 n2 n3 n4 n5 m0 m1 m2 m3 m4 m5
        simp only [Qd.cs]at hc hc2 hc3
        dsimp only at *
        go_wp2_with (first|(go_at_call 136;(with_reducible refine(k1 _).mono ?_);rintro e w1 ⟨rfl,hb1⟩;(have hA1:=hA.call hb1);(have hB1:=hB.call hb1);(have hC1:=hC.call hb1);obtain⟨hc4,hf4⟩:=hA1.walk;obtain⟨hc5,hf5⟩:=hB1.walk;(have hg1:=after hg hb1))|(go_at_call 136;(with_reducible refine(k2 _).mono ?_);rintro e w2 ⟨rfl,hb2⟩;(have hA2:=hA1.call hb2);(have hB2:=hB1.call hb2);(have hC2:=hC1.call hb2);obtain⟨hc6,hf6⟩:=hA2.walk;obtain⟨hc7,hf7⟩:=hB2.walk;(have hg2:=after hg1 hb2))|(go_at_call 98;(with_reducible refine(B _).mono ?_);rintro e w3 ⟨rfl,hb3⟩;(have hC3:=hC2.call hb3);obtain⟨hc9,hf9⟩:=hC3.walk;(have hg3:=after hg2 hb3)))
        exact bodyPost_ret (v:=R.val) (Qt rfl rfl (hC3.put (a:=QV) R)) rfl ⟨rfl,Qh hg3 (by omega) R⟩
  ·have H:Hid (m=R):=QF (hR.out ▸ by unfold WG;simp only [tm,tn,Bool.false_eq_true,if_false,if_true])
   have HR:=H.out
   clear H hR k1 k2 d1 d2
   subst HR
   obtain⟨ne,nt,nlo,nhi,nst⟩:=n
   obtain⟨me,mt,mlo,mhi,mst⟩:=m
   dsimp only at tn tm
   subst tn tm
   dsimp only at n0 n1 n2 n3 n4 n5 m0 m1 m2 m3 m4 m5
   simp only [Qd.cs]at hc hc2 hc3
   go_wp2
   exact bodyPost_ret (v:=Qd.val ⟨me,false,mlo,mhi,mst⟩) (Qt rfl rfl (hC.put (a:=QV) ⟨me,false,mlo,mhi,mst⟩)) rfl ⟨rfl,Qh hg (by omega) ⟨me,false,mlo,mhi,mst⟩⟩
 ·have H:Hid (n=R):=QF (hR.out ▸ by unfold WG;simp only [tm,if_true])
  have HR:=H.out
  clear H hR k1 k2 d1 d2
  subst HR
  obtain⟨ne,nt,nlo,nhi,nst⟩:=n
  obtain⟨me,mt,mlo,mhi,mst⟩:=m
  dsimp only at tm
  subst tm
  dsimp only at n0 n1 n2 n3 n4 n5 m0 m1 m2 m3 m4 m5
  simp only [Qd.cs]at hc hc2 hc3
  go_wp2
  exact bodyPost_ret (v:=Qd.val ⟨ne,nt,nlo,nhi,nst⟩) (Qt rfl rfl (hC.put (a:=QV) ⟨ne,nt,nlo,nhi,nst⟩)) rfl ⟨rfl,Qh hg (by omega) ⟨ne,nt,nlo,nhi,nst⟩⟩
theorem QvP(a b:Qd)(ha:a.wf)(hb:b.wf)(va:Qq a=true)(vb:Qq b=true)(hc:QO a≤64)(w:World):Calls Try.prog 137 #[a.val,b.val] w (Ret (Qdm a b).val w):=
 Qx5 a b hb (Jv a) (fun x hx=>by have:=Qaa ha va hc x hx;exact⟨this.1,this.2.1⟩)
  (by rw [QeZ];omega) (Qyb a ha va hc)
  (fun x w x0 x1=>by have:=Qv5 b hb x x0 x1 w;unfold Qz at this;rwa [Zm vb]at this)
  (fun o x w wo x0 x1=>Qwx o (X2 x) wo (Qai x0 x1) w) w
theorem Qyc(a b:Qd)(ha:a.wf)(hb:b.wf)(w:World):Calls Try.prog 124 #[a.val,b.val] w (Ret (WF a b).val w):=by
 have na:=QJ ha
 have nb:=QJ hb
 have va:=Q2 a
 have vb:=Q2 b
 refine QxG a b (ZO a) (ZO b) na nb _ (QF rfl) (Qv1 a ha) (Qv1 b hb) (fun w=>?_) (fun w=>?_) va vb (fun h=>QvP _ _ na nb va vb h) (fun h=>QvP _ _ nb na vb va h) w
 ·have:=QvC (ZO a) na w
  unfold Vl at this
  rwa [Zm va]at this
 ·have:=QvC (ZO b) nb w
  unfold Vl at this
  rwa [Zm vb]at this
end Go.Proofs.Yteplnamfpodmlaa
