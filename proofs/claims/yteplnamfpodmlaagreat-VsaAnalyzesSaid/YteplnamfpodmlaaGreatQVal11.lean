/-
  Part of the proof.
-/
import Derived.Test.YteplnamfpodmlaaGreatQVaE
set_option linter.unusedVariables false
set_option linter.unusedSimpArgs false
set_option maxRecDepth 100000
open Go.ChangeShapes Go.WideShapes Go.ChangeAt Go.RowKit
namespace Go.Proofs.YteplnamfpodmlaaGreat
set_option maxHeartbeats 4000000 in
theorem Qis(a b n m c:Qd)(hn:n.wf)(hm:m.wf)(hc:c.wf)(hcd:Hid (c.t=false→n.t=false→m.t=false→n.e=false→m.e=false→c.lo < n.lo→c.st≠0))(r:Bool)(hre:m.e=true→r=true)(R:Qd)
 (hR:Hid (R=if r then n else if n.e then m else if n.t || m.t then Qp else if c.t then c
   else Qj (if c.lo < n.lo then c.lo % c.st else c.lo) (if n.hi < c.hi then 4294967295 else c.hi) c.st))
 (x:∀w,Calls Tryz.prog 71 #[a.val] w (Ret n.val w)) (y:∀w,Calls Tryz.prog 71 #[b.val] w (Ret m.val w))
 (z:∀w,Calls Tryz.prog 83 #[m.val,n.val] w (Ret (.bool r) w)) (j:∀w,Calls Tryz.prog 45 #[n.val,m.val] w (Ret c.val w)) (w:World) :
 Calls Tryz.prog 50 #[a.val,b.val] w (Ret R.val w):=by
 obtain⟨n0,n1,n2,n3,n4,n5⟩:=hn;obtain⟨m0,m1,m2,m3,m4,m5⟩:=hm;obtain⟨c0,c1,c2,c3,c4,c5⟩:=hc
 go_enter Tryz.func50,Tryz.ntmps50
 go_upto_region 1 with fail
 go_cut [4] (fun s4 wx=>s4= .pointer (some ⟨w.heap.size+1+1,0,none⟩)∧Blk wx w.heap.size 34 n.cs∧Blk wx (w.heap.size+1) 34 b.cs∧Blk wx (w.heap.size+1+1) 34 Qs.cs∧Below w.heap.size w wx)
 case first=>
  go_wp2_with (go_at_call 71;(with_reducible refine(x _).mono ?_);rintro e w1 ⟨rfl,hb1⟩;(have hA1:=(((Blk.new _ _ _).alloc _).alloc _).call hb1);(have hB1:=((Blk.new _ _ _).alloc _).call hb1);(have hC1:=(Blk.new _ _ _).call hb1);simp only [World.size_alloc]at hB1 hC1;obtain⟨hc1,hf1⟩:=hA1.walk;obtain⟨hc2,hf2⟩:=hB1.walk;(have hg1:=after (w:=w) (by go_grown) hb1);(have hs1:=hg1.size);(have hz1:w.heap.size+1+1 < w1.heap.size:=hC1.lt))
  go_meet
  exact⟨rfl,Blk.put (a:=a) hA1 n,Blk.put_far hB1 (by omega) n,Blk.put_far hC1 (by omega) n,Qe hg1 (by omega) n⟩
 obtain⟨rfl,hA,hB,hC,hg⟩:=hcut;obtain⟨hc,hf⟩:=hA.walk;obtain⟨hc2,hf2⟩:=hB.walk;obtain⟨hc3,hf3⟩:=hC.walk;have hs:=hg.size;have hz:w.heap.size+1+1 < wc.heap.size:=hC.lt
 go_upto_region 2 with fail
 go_cut [4] (fun s4 wx=>s4= .pointer (some ⟨w.heap.size+1+1,0,none⟩)∧Blk wx w.heap.size 34 n.cs∧Blk wx (w.heap.size+1) 34 m.cs∧Blk wx (w.heap.size+1+1) 34 Qs.cs∧Below w.heap.size w wx)
 case first=>
  go_wp2_with (go_at_call 71;(with_reducible refine(y _).mono ?_);rintro e w2 ⟨rfl,hb2⟩;(have hA2:=hA.call hb2);(have hB2:=hB.call hb2);(have hC2:=hC.call hb2);clear hc hf hc2 hf2 hc3 hf3;obtain⟨hc,hf⟩:=hA2.walk;obtain⟨hc2,hf2⟩:=hB2.walk;obtain⟨hc3,hf3⟩:=hC2.walk;(have hg2:=after hg hb2);(have hs2:=hg2.size);(have hz2:w.heap.size+1+1 < w2.heap.size:=hC2.lt))
  go_meet
  exact⟨rfl,Blk.put_far hA2 (by omega) m,Blk.put (a:=b) hB2 m,Blk.put_far hC2 (by omega) m,Qe hg2 (by omega) m⟩
 clear hA hB hC hg hc hf hc2 hf2 hc3 hf3 hs hz x y;obtain⟨rfl,hA,hB,hC,hg⟩:=hcut;obtain⟨hc,hf⟩:=hA.walk;obtain⟨hc2,hf2⟩:=hB.walk;obtain⟨hc3,hf3⟩:=hC.walk;have hs:=hg.size;have hz:w.heap.size+1+1 < wc.heap.size:=hC.lt;obtain⟨ne,nt,nlo,nhi,nst⟩:=n;obtain⟨me,mt,mlo,mhi,mst⟩:=m;obtain⟨ce,ct,clo,chi,cst⟩:=c
 dsimp only at n0 n1 n2 n3 n4 n5 m0 m1 m2 m3 m4 m5 c0 c1 c2 c3 c4 c5 hre hcd
 simp only [Qd.cs]at hc hc2 hc3;simp only [Qd.val]at z j;cases r
 ·obtain rfl:me=false:=by cases me;rfl;exact absurd (hre rfl) (by simp)
  clear hre;cases ne
  ·cases nt
   ·cases mt
    ·cases ct
     ·have hcd':=Qq (hcd.out rfl rfl rfl rfl rfl);clear hcd;by_cases g1:clo < nlo
      ·have gs:¬cst=0:=hcd'.out g1;have gs1:0 < cst:=by omega
       have gm0:0≤clo % cst:=Int.emod_nonneg _ gs;have gm1:clo % cst < 4294967296:=by have:=Int.emod_lt_of_pos clo (by omega:0 < cst);omega
       have hR1:Hid (R=Qj (clo % cst) (if nhi < chi then 4294967295 else chi) cst):=Qq (hR.out.trans (by show Qj (if clo < nlo then clo % cst else clo) (if nhi < chi then 4294967295 else chi) cst=_;rw [if_pos g1]))
       clear hR hcd';by_cases g2:nhi < chi
       ·have B:∀w,Calls Tryz.prog 73 #[.int .i64 (clo % cst),.int .i64 4294967295,.int .i64 cst] w (Ret R.val w):=fun w=>by
         rw [hR1.out,if_pos g2];exact QN _ _ _ gm0 (by omega) (by omega) (by omega) c4 c5 w
        clear hR1
        go_wp2_with (first|(go_at_call 83;(with_reducible refine(z _).mono ?_);rintro e w1 ⟨rfl,hb1⟩;(have hA1:=hA.call hb1);(have hB1:=hB.call hb1);(have hC1:=hC.call hb1);obtain⟨hd4,hf4⟩:=hA1.walk;obtain⟨hd5,hf5⟩:=hB1.walk;obtain⟨hd6,hf6⟩:=hC1.walk;(have hg1:=after hg hb1);(have hs1:=hg1.size))|(go_at_call 45;(with_reducible refine(j _).mono ?_);rintro e w2 ⟨rfl,hb2⟩;(have hA2:=hA1.call hb2);(have hC2:=hC1.call hb2);obtain⟨hd7,hf7⟩:=hC2.walk;obtain⟨hd8,hf8⟩:=hA2.walk;(have hg2:=after hg1 hb2);(have hs2:=hg2.size);(have hz2:w.heap.size+1+1 < w2.heap.size:=hC2.lt);(have hz3:w.heap.size < w2.heap.size:=hA2.lt))|(go_at_call 73;(with_reducible refine(B _).mono ?_);rintro e w3 ⟨rfl,hb3⟩;(have hC4:=(hC2.alloc _).call hb3);obtain⟨hd9,hf9⟩:=hC4.walk;(have hg4:=after (hg2.alloc hs2 _) hb3)))
        exact bodyPost_ret (v:=R.val) (Qf rfl rfl (hC4.put (a:=Qs) R)) rfl ⟨rfl,Qe hg4 (by omega) R⟩
       ·have B:∀w,Calls Tryz.prog 73 #[.int .i64 (clo % cst),.int .i64 chi,.int .i64 cst] w (Ret R.val w):=fun w=>by
         rw [hR1.out,if_neg g2];exact QN _ _ _ gm0 (by omega) c2 c3 c4 c5 w
        clear hR1
        go_wp2_with (first|(go_at_call 83;(with_reducible refine(z _).mono ?_);rintro e w1 ⟨rfl,hb1⟩;(have hA1:=hA.call hb1);(have hB1:=hB.call hb1);(have hC1:=hC.call hb1);obtain⟨hd4,hf4⟩:=hA1.walk;obtain⟨hd5,hf5⟩:=hB1.walk;obtain⟨hd6,hf6⟩:=hC1.walk;(have hg1:=after hg hb1);(have hs1:=hg1.size))|(go_at_call 45;(with_reducible refine(j _).mono ?_);rintro e w2 ⟨rfl,hb2⟩;(have hA2:=hA1.call hb2);(have hC2:=hC1.call hb2);obtain⟨hd7,hf7⟩:=hC2.walk;obtain⟨hd8,hf8⟩:=hA2.walk;(have hg2:=after hg1 hb2);(have hs2:=hg2.size);(have hz2:w.heap.size+1+1 < w2.heap.size:=hC2.lt);(have hz3:w.heap.size < w2.heap.size:=hA2.lt))|(go_at_call 73;(with_reducible refine(B _).mono ?_);rintro e w3 ⟨rfl,hb3⟩;(have hC4:=(hC2.alloc _).call hb3);obtain⟨hd9,hf9⟩:=hC4.walk;(have hg4:=after (hg2.alloc hs2 _) hb3)))
        exact bodyPost_ret (v:=R.val) (Qf rfl rfl (hC4.put (a:=Qs) R)) rfl ⟨rfl,Qe hg4 (by omega) R⟩
      ·have hR1:Hid (R=Qj clo (if nhi < chi then 4294967295 else chi) cst):=Qq (hR.out.trans (by show Qj (if clo < nlo then clo % cst else clo) (if nhi < chi then 4294967295 else chi) cst=_;rw [if_neg g1]))
       clear hR hcd';by_cases g2:nhi < chi
       ·have B:∀w,Calls Tryz.prog 73 #[.int .i64 clo,.int .i64 4294967295,.int .i64 cst] w (Ret R.val w):=fun w=>by
         rw [hR1.out,if_pos g2];exact QN _ _ _ c0 (by omega) (by omega) (by omega) c4 c5 w
        clear hR1
        go_wp2_with (first|(go_at_call 83;(with_reducible refine(z _).mono ?_);rintro e w1 ⟨rfl,hb1⟩;(have hA1:=hA.call hb1);(have hB1:=hB.call hb1);(have hC1:=hC.call hb1);obtain⟨hd4,hf4⟩:=hA1.walk;obtain⟨hd5,hf5⟩:=hB1.walk;obtain⟨hd6,hf6⟩:=hC1.walk;(have hg1:=after hg hb1);(have hs1:=hg1.size))|(go_at_call 45;(with_reducible refine(j _).mono ?_);rintro e w2 ⟨rfl,hb2⟩;(have hA2:=hA1.call hb2);(have hC2:=hC1.call hb2);obtain⟨hd7,hf7⟩:=hC2.walk;obtain⟨hd8,hf8⟩:=hA2.walk;(have hg2:=after hg1 hb2);(have hs2:=hg2.size);(have hz2:w.heap.size+1+1 < w2.heap.size:=hC2.lt);(have hz3:w.heap.size < w2.heap.size:=hA2.lt))|(go_at_call 73;(with_reducible refine(B _).mono ?_);rintro e w3 ⟨rfl,hb3⟩;(have hC4:=(hC2.alloc _).call hb3);obtain⟨hd9,hf9⟩:=hC4.walk;(have hg4:=after (hg2.alloc hs2 _) hb3)))
        exact bodyPost_ret (v:=R.val) (Qf rfl rfl (hC4.put (a:=Qs) R)) rfl ⟨rfl,Qe hg4 (by omega) R⟩
       ·have B:∀w,Calls Tryz.prog 73 #[.int .i64 clo,.int .i64 chi,.int .i64 cst] w (Ret R.val w):=fun w=>by
         rw [hR1.out,if_neg g2];exact QN _ _ _ c0 (by omega) c2 c3 c4 c5 w
        clear hR1
        go_wp2_with (first|(go_at_call 83;(with_reducible refine(z _).mono ?_);rintro e w1 ⟨rfl,hb1⟩;(have hA1:=hA.call hb1);(have hB1:=hB.call hb1);(have hC1:=hC.call hb1);obtain⟨hd4,hf4⟩:=hA1.walk;obtain⟨hd5,hf5⟩:=hB1.walk;obtain⟨hd6,hf6⟩:=hC1.walk;(have hg1:=after hg hb1);(have hs1:=hg1.size))|(go_at_call 45;(with_reducible refine(j _).mono ?_);rintro e w2 ⟨rfl,hb2⟩;(have hA2:=hA1.call hb2);(have hC2:=hC1.call hb2);obtain⟨hd7,hf7⟩:=hC2.walk;obtain⟨hd8,hf8⟩:=hA2.walk;(have hg2:=after hg1 hb2);(have hs2:=hg2.size);(have hz2:w.heap.size+1+1 < w2.heap.size:=hC2.lt);(have hz3:w.heap.size < w2.heap.size:=hA2.lt))|(go_at_call 73;(with_reducible refine(B _).mono ?_);rintro e w3 ⟨rfl,hb3⟩;(have hC4:=(hC2.alloc _).call hb3);obtain⟨hd9,hf9⟩:=hC4.walk;(have hg4:=after (hg2.alloc hs2 _) hb3)))
        exact bodyPost_ret (v:=R.val) (Qf rfl rfl (hC4.put (a:=Qs) R)) rfl ⟨rfl,Qe hg4 (by omega) R⟩
     ·have H:Hid (R=⟨ce,true,clo,chi,cst⟩):=hR
      go_wp2_with (first|(go_at_call 83;(with_reducible refine(z _).mono ?_);rintro e w1 ⟨rfl,hb1⟩;(have hA1:=hA.call hb1);(have hB1:=hB.call hb1);(have hC1:=hC.call hb1);obtain⟨hd4,hf4⟩:=hA1.walk;obtain⟨hd5,hf5⟩:=hB1.walk;obtain⟨hd6,hf6⟩:=hC1.walk;(have hg1:=after hg hb1);(have hs1:=hg1.size))|(go_at_call 45;(with_reducible refine(j _).mono ?_);rintro e w2 ⟨rfl,hb2⟩;(have hC2:=hC1.call hb2);obtain⟨hd7,hf7⟩:=hC2.walk;(have hg2:=after hg1 hb2);(have hs2:=hg2.size);(have hz2:w.heap.size+1+1 < w2.heap.size:=hC2.lt)))
      rw [H.out];exact bodyPost_ret (v:=Qd.val ⟨ce,true,clo,chi,cst⟩) (Qf rfl rfl ((hC2.put (a:=Qs) ⟨ce,true,clo,chi,cst⟩).alloc _)) rfl ⟨rfl,by go_grown⟩
    ·have H:Hid (R=Qp):=hR
     go_wp2_with (first|(go_at_call 83;(with_reducible refine(z _).mono ?_);rintro e w1 ⟨rfl,hb1⟩;(have hA1:=hA.call hb1);(have hB1:=hB.call hb1);(have hC1:=hC.call hb1);obtain⟨hd4,hf4⟩:=hA1.walk;obtain⟨hd5,hf5⟩:=hB1.walk;obtain⟨hd6,hf6⟩:=hC1.walk;(have hg1:=after hg hb1);(have hs1:=hg1.size))|(go_at_call 19;(with_reducible refine(Z1 _).mono ?_);rintro e w2 ⟨rfl,hb2⟩;(have hC2:=hC1.call hb2);obtain⟨hd7,hf7⟩:=hC2.walk;(have hg2:=after hg1 hb2)))
     rw [H.out];exact bodyPost_ret (v:=Qp.val) (Qf rfl rfl (hC2.put (a:=Qs) Qp)) rfl ⟨rfl,Qe hg2 (by omega) Qp⟩
   ·have H:Hid (R=Qp):=hR
    go_wp2_with (first|(go_at_call 83;(with_reducible refine(z _).mono ?_);rintro e w1 ⟨rfl,hb1⟩;(have hA1:=hA.call hb1);(have hB1:=hB.call hb1);(have hC1:=hC.call hb1);obtain⟨hd4,hf4⟩:=hA1.walk;obtain⟨hd5,hf5⟩:=hB1.walk;obtain⟨hd6,hf6⟩:=hC1.walk;(have hg1:=after hg hb1);(have hs1:=hg1.size))|(go_at_call 19;(with_reducible refine(Z1 _).mono ?_);rintro e w2 ⟨rfl,hb2⟩;(have hC2:=hC1.call hb2);obtain⟨hd7,hf7⟩:=hC2.walk;(have hg2:=after hg1 hb2)))
    rw [H.out];exact bodyPost_ret (v:=Qp.val) (Qf rfl rfl (hC2.put (a:=Qs) Qp)) rfl ⟨rfl,Qe hg2 (by omega) Qp⟩
  ·have H:Hid (R=⟨false,mt,mlo,mhi,mst⟩):=hR
   go_wp2_with (first|(go_at_call 83;(with_reducible refine(z _).mono ?_);rintro e w1 ⟨rfl,hb1⟩;(have hA1:=hA.call hb1);(have hB1:=hB.call hb1);(have hC1:=hC.call hb1);obtain⟨hd4,hf4⟩:=hA1.walk;obtain⟨hd5,hf5⟩:=hB1.walk;obtain⟨hd6,hf6⟩:=hC1.walk;(have hg1:=after hg hb1);(have hs1:=hg1.size)))
   rw [H.out];exact bodyPost_ret (v:=Qd.val ⟨false,mt,mlo,mhi,mst⟩) (Qf rfl rfl (hC1.put (a:=Qs) ⟨false,mt,mlo,mhi,mst⟩)) rfl ⟨rfl,Qe hg1 (by omega) ⟨false,mt,mlo,mhi,mst⟩⟩
 ·have H:Hid (R=⟨ne,nt,nlo,nhi,nst⟩):=hR
  go_wp2_with (first|(go_at_call 83;(with_reducible refine(z _).mono ?_);rintro e w1 ⟨rfl,hb1⟩;(have hA1:=hA.call hb1);(have hB1:=hB.call hb1);(have hC1:=hC.call hb1);obtain⟨hd4,hf4⟩:=hA1.walk;obtain⟨hd5,hf5⟩:=hB1.walk;obtain⟨hd6,hf6⟩:=hC1.walk;(have hg1:=after hg hb1);(have hs1:=hg1.size)))
  rw [H.out];exact bodyPost_ret (v:=Qd.val ⟨ne,nt,nlo,nhi,nst⟩) (Qf rfl rfl (hC1.put (a:=Qs) ⟨ne,nt,nlo,nhi,nst⟩)) rfl ⟨rfl,Qe hg1 (by omega) ⟨ne,nt,nlo,nhi,nst⟩⟩
theorem Ql1(a b:Qd)(ha:a.wf)(hb:b.wf)(w:World):Calls Tryz.prog 50 #[a.val,b.val] w (Ret (XF a b).val w):=by
 have na:=Q8 ha;have nb:=Q8 hb;have va:=Qz a;have vb:=Qz b
 refine Qis a b (Zb a) (Zb b) (QX (Zb a) (Zb b)) na nb (Jd na nb) (Qq (fun h1 h2 h3 h4 h5 h6=>QhH va vb h2 h4 h3 h5 h1 h6)) (QD (Zb b) (Zb a)) (fun h=>by unfold QD;simp only [h,Bool.true_or,if_true]) _ (Qq rfl)
  (Je a ha) (Je b hb) (fun w=>?_) (fun w=>?_) w
 ·have:=Qit (Zb b) (Zb a) nb na w;unfold XG at this;rwa [Zl va,Zl vb]at this
 ·have:=Qb3 (Zb a) (Zb b) na nb w;unfold Jp at this;rwa [Zl va,Zl vb]at this
end Go.Proofs.YteplnamfpodmlaaGreat
