/-
  Part of the proof.
-/
import Derived.Test.YteplnamfpodmlaaGreatQVaD
set_option linter.unusedVariables false
set_option linter.unusedSimpArgs false
set_option maxRecDepth 100000
open Go.ChangeShapes Go.WideShapes Go.ChangeAt Go.RowKit
section
namespace Go.Proofs.YteplnamfpodmlaaGreat
def VH(a b:Qd):Qd:=
 if QD b a then a else if a.e then b else if a.t || b.t then Qp
 else if(QX a b).t then QX a b
 else Qj (if(QX a b).lo < a.lo then(QX a b).lo % (QX a b).st else(QX a b).lo) (if a.hi < (QX a b).hi then 4294967295 else(QX a b).hi) (QX a b).st
def XF(a b:Qd):Qd:=VH (Zb a) (Zb b)
abbrev Qs:Qd:=⟨false,false,0,0,0⟩
set_option maxHeartbeats 4000000 in
theorem QlG(a b n m c:Qd)(hn:n.wf)(hm:m.wf)(hc:c.wf)(hcd:Hid (c.t=false→n.t=false→m.t=false→n.e=false→m.e=false→c.lo < n.lo→c.st≠0))(r:Bool)(hre:m.e=true→r=true)(R:Qd)
 (hR:Hid (R=if r then n else if n.e then m else if n.t || m.t then Qp else if c.t then c
   else Qj (if c.lo < n.lo then c.lo % c.st else c.lo) (if n.hi < c.hi then 4294967295 else c.hi) c.st))
 (x:∀w,Calls Tryz.prog 52 #[a.val] w (Ret n.val w)) (y:∀w,Calls Tryz.prog 52 #[b.val] w (Ret m.val w))
 (z:∀w,Calls Tryz.prog 68 #[m.val,n.val] w (Ret (.bool r) w)) (j:∀w,Calls Tryz.prog 56 #[n.val,m.val] w (Ret c.val w)) (w:World) :
 Calls Tryz.prog 41 #[a.val,b.val] w (Ret R.val w):=by
 obtain⟨n0,n1,n2,n3,n4,n5⟩:=hn;obtain⟨m0,m1,m2,m3,m4,m5⟩:=hm;obtain⟨c0,c1,c2,c3,c4,c5⟩:=hc
 go_enter Tryz.func41,Tryz.ntmps41
 go_upto_region 1 with fail
 go_cut [4] (fun s4 wx=>s4= .pointer (some ⟨w.heap.size+1+1,0,none⟩)∧Blk wx w.heap.size 34 n.cs∧Blk wx (w.heap.size+1) 34 m.cs∧Blk wx (w.heap.size+1+1) 34 Qs.cs∧Below w.heap.size w wx)
 case first=>
  go_region_with (first|(go_at_call 52;(with_reducible refine(x _).mono ?_);rintro e w1 ⟨rfl,hb1⟩;(have hA:=(((Blk.new _ _ _).alloc _).alloc _).drew.call hb1);(have hB:=((Blk.new _ _ _).alloc _).drew.call hb1);(have hC:=(Blk.new _ _ _).drew.call hb1);simp only [World.size_alloc]at hB hC;obtain⟨hc,hf⟩:=hA.walk;obtain⟨hc2,hf2⟩:=hB.walk;(have hg:=after (w:=w) (by go_grown) hb1);(have hs1:=hg.size))|(go_at_call 52;(with_reducible refine(y _).mono ?_);rintro e w2 ⟨rfl,hb2⟩;(have hA2:=hA.call hb2);(have hB2:=hB.call hb2);(have hC2:=hC.call hb2);obtain⟨hc3,hf3⟩:=hA2.walk;obtain⟨hc4,hf4⟩:=hB2.walk;(have hg2:=after hg hb2);(have hs2:=hg2.size)))
  all_goals (go_wp2_with fail;go_meet;exact⟨rfl,(Blk.put (a:=a) hA2 n).put_far (by omega) m,(Blk.put_far hB2 (by omega) n).put (a:=b) m,(Blk.put_far hC2 (by omega) n).put_far (by omega) m,Qe (Qe hg2 (by omega) _) (by omega) _⟩)
 case rest=>
  obtain⟨rfl,hA,hB,hC,hg⟩:=hcut;obtain⟨hd1,hf⟩:=hA.walk;obtain⟨hd2,hf2⟩:=hB.walk;obtain⟨hd3,hf3⟩:=hC.walk;have hs:=hg.size;clear x y;obtain⟨ne,nt,nlo,nhi,nst⟩:=n;obtain⟨me,mt,mlo,mhi,mst⟩:=m;obtain⟨ce,ct,clo,chi,cst⟩:=c
  dsimp only at n0 n1 n2 n3 n4 n5 m0 m1 m2 m3 m4 m5 c0 c1 c2 c3 c4 c5 hre hcd
  simp only [Qd.cs]at hd1 hd2 hd3;simp only [Qd.val]at z j;cases r
  ·obtain rfl:me=false:=by cases me;rfl;exact absurd (hre rfl) (by simp)
   clear hre;cases ne
   ·cases nt
    ·cases mt
     ·cases ct
      ·have hcd':=Qq (hcd.out rfl rfl rfl rfl rfl);clear hcd;by_cases g1:clo < nlo
       ·have gs:¬cst=0:=hcd'.out g1;have gm0:0≤clo % cst:=Int.emod_nonneg _ gs;have gm1:clo % cst < 4294967296:=by have:=Int.emod_lt_of_pos clo (by omega:0 < cst);omega
        have hR1:Hid (R=Qj (clo % cst) (if nhi < chi then 4294967295 else chi) cst):=Qq (hR.out.trans (by show Qj (if clo < nlo then clo % cst else clo) (if nhi < chi then 4294967295 else chi) cst=_;rw [if_pos g1]))
        clear hR hcd';by_cases g2:nhi < chi
        ·have B:∀w,Calls Tryz.prog 31 #[.int .u32 (clo % cst),.int .u32 4294967295,.int .u32 cst] w (Ret R.val w):=fun w=>by
          rw [hR1.out,if_pos g2];exact Z8 _ _ _ gm0 gm1 (by omega) (by omega) c4 c5 w
         clear hR1
         go_wp2_with (first|(go_at_call 68;(with_reducible refine(z _).mono ?_);rintro e w1 ⟨rfl,hb1⟩;(have hA1:=hA.call hb1);(have hB1:=hB.call hb1);(have hC1:=hC.call hb1);obtain⟨hd4,hf4⟩:=hA1.walk;obtain⟨hd5,hf5⟩:=hB1.walk;obtain⟨hd6,hf6⟩:=hC1.walk;(have hg1:=after hg hb1);(have hs1:=hg1.size))|(go_at_call 56;(with_reducible refine(j _).mono ?_);rintro e w2 ⟨rfl,hb2⟩;(have hA2:=hA1.call hb2);(have hC2:=hC1.call hb2);obtain⟨hd7,hf7⟩:=hC2.walk;obtain⟨hd8,hf8⟩:=hA2.walk;(have hg2:=after hg1 hb2);(have hs2:=hg2.size);(have hz2:w.heap.size+1+1 < w2.heap.size:=hC2.lt);(have hz3:w.heap.size < w2.heap.size:=hA2.lt)))
         go_quiet (fail)
         go_wp2_with (go_at_call 31;(with_reducible refine(B _).mono ?_);rintro e w3 ⟨rfl,hb3⟩;(have hC4:=(Xm (hC2.alloc _) nq).call hb3);obtain⟨hd9,hf9⟩:=hC4.walk;(have hg4:=after (Qn (hg2.alloc hs2 _) nq) hb3))
         exact bodyPost_ret (v:=R.val) (Qf rfl rfl (hC4.put (a:=Qs) R)) rfl ⟨rfl,Qe hg4 (by omega) R⟩
        ·have B:∀w,Calls Tryz.prog 31 #[.int .u32 (clo % cst),.int .u32 chi,.int .u32 cst] w (Ret R.val w):=fun w=>by
          rw [hR1.out,if_neg g2];exact Z8 _ _ _ gm0 gm1 c2 c3 c4 c5 w
         clear hR1
         go_wp2_with (first|(go_at_call 68;(with_reducible refine(z _).mono ?_);rintro e w1 ⟨rfl,hb1⟩;(have hA1:=hA.call hb1);(have hB1:=hB.call hb1);(have hC1:=hC.call hb1);obtain⟨hd4,hf4⟩:=hA1.walk;obtain⟨hd5,hf5⟩:=hB1.walk;obtain⟨hd6,hf6⟩:=hC1.walk;(have hg1:=after hg hb1);(have hs1:=hg1.size))|(go_at_call 56;(with_reducible refine(j _).mono ?_);rintro e w2 ⟨rfl,hb2⟩;(have hA2:=hA1.call hb2);(have hC2:=hC1.call hb2);obtain⟨hd7,hf7⟩:=hC2.walk;obtain⟨hd8,hf8⟩:=hA2.walk;(have hg2:=after hg1 hb2);(have hs2:=hg2.size);(have hz2:w.heap.size+1+1 < w2.heap.size:=hC2.lt);(have hz3:w.heap.size < w2.heap.size:=hA2.lt)))
         go_quiet (fail)
         go_wp2_with (go_at_call 31;(with_reducible refine(B _).mono ?_);rintro e w3 ⟨rfl,hb3⟩;(have hC4:=(Xm (hC2.alloc _) nq).call hb3);obtain⟨hd9,hf9⟩:=hC4.walk;(have hg4:=after (Qn (hg2.alloc hs2 _) nq) hb3))
         exact bodyPost_ret (v:=R.val) (Qf rfl rfl (hC4.put (a:=Qs) R)) rfl ⟨rfl,Qe hg4 (by omega) R⟩
       ·have hR1:Hid (R=Qj clo (if nhi < chi then 4294967295 else chi) cst):=Qq (hR.out.trans (by show Qj (if clo < nlo then clo % cst else clo) (if nhi < chi then 4294967295 else chi) cst=_;rw [if_neg g1]))
        clear hR hcd';by_cases g2:nhi < chi
        ·have B:∀w,Calls Tryz.prog 31 #[.int .u32 clo,.int .u32 4294967295,.int .u32 cst] w (Ret R.val w):=fun w=>by
          rw [hR1.out,if_pos g2];exact Z8 _ _ _ c0 c1 (by omega) (by omega) c4 c5 w
         clear hR1
         go_wp2_with (first|(go_at_call 68;(with_reducible refine(z _).mono ?_);rintro e w1 ⟨rfl,hb1⟩;(have hA1:=hA.call hb1);(have hB1:=hB.call hb1);(have hC1:=hC.call hb1);obtain⟨hd4,hf4⟩:=hA1.walk;obtain⟨hd5,hf5⟩:=hB1.walk;obtain⟨hd6,hf6⟩:=hC1.walk;(have hg1:=after hg hb1);(have hs1:=hg1.size))|(go_at_call 56;(with_reducible refine(j _).mono ?_);rintro e w2 ⟨rfl,hb2⟩;(have hA2:=hA1.call hb2);(have hC2:=hC1.call hb2);obtain⟨hd7,hf7⟩:=hC2.walk;obtain⟨hd8,hf8⟩:=hA2.walk;(have hg2:=after hg1 hb2);(have hs2:=hg2.size);(have hz2:w.heap.size+1+1 < w2.heap.size:=hC2.lt);(have hz3:w.heap.size < w2.heap.size:=hA2.lt)))
         go_quiet (fail)
         go_wp2_with (go_at_call 31;(with_reducible refine(B _).mono ?_);rintro e w3 ⟨rfl,hb3⟩;(have hC4:=(Xm (hC2.alloc _) nq).call hb3);obtain⟨hd9,hf9⟩:=hC4.walk;(have hg4:=after (Qn (hg2.alloc hs2 _) nq) hb3))
         exact bodyPost_ret (v:=R.val) (Qf rfl rfl (hC4.put (a:=Qs) R)) rfl ⟨rfl,Qe hg4 (by omega) R⟩
        ·have B:∀w,Calls Tryz.prog 31 #[.int .u32 clo,.int .u32 chi,.int .u32 cst] w (Ret R.val w):=fun w=>by
          rw [hR1.out,if_neg g2];exact Z8 _ _ _ c0 c1 c2 c3 c4 c5 w
         clear hR1
         go_wp2_with (first|(go_at_call 68;(with_reducible refine(z _).mono ?_);rintro e w1 ⟨rfl,hb1⟩;(have hA1:=hA.call hb1);(have hB1:=hB.call hb1);(have hC1:=hC.call hb1);obtain⟨hd4,hf4⟩:=hA1.walk;obtain⟨hd5,hf5⟩:=hB1.walk;obtain⟨hd6,hf6⟩:=hC1.walk;(have hg1:=after hg hb1);(have hs1:=hg1.size))|(go_at_call 56;(with_reducible refine(j _).mono ?_);rintro e w2 ⟨rfl,hb2⟩;(have hA2:=hA1.call hb2);(have hC2:=hC1.call hb2);obtain⟨hd7,hf7⟩:=hC2.walk;obtain⟨hd8,hf8⟩:=hA2.walk;(have hg2:=after hg1 hb2);(have hs2:=hg2.size);(have hz2:w.heap.size+1+1 < w2.heap.size:=hC2.lt);(have hz3:w.heap.size < w2.heap.size:=hA2.lt)))
         go_quiet (fail)
         go_wp2_with (go_at_call 31;(with_reducible refine(B _).mono ?_);rintro e w3 ⟨rfl,hb3⟩;(have hC4:=(Xm (hC2.alloc _) nq).call hb3);obtain⟨hd9,hf9⟩:=hC4.walk;(have hg4:=after (Qn (hg2.alloc hs2 _) nq) hb3))
         exact bodyPost_ret (v:=R.val) (Qf rfl rfl (hC4.put (a:=Qs) R)) rfl ⟨rfl,Qe hg4 (by omega) R⟩
      ·have H:Hid (R=⟨ce,true,clo,chi,cst⟩):=hR
       go_wp2_with (first|(go_at_call 68;(with_reducible refine(z _).mono ?_);rintro e w1 ⟨rfl,hb1⟩;(have hA1:=hA.call hb1);(have hB1:=hB.call hb1);(have hC1:=hC.call hb1);obtain⟨hd4,hf4⟩:=hA1.walk;obtain⟨hd5,hf5⟩:=hB1.walk;obtain⟨hd6,hf6⟩:=hC1.walk;(have hg1:=after hg hb1);(have hs1:=hg1.size))|(go_at_call 56;(with_reducible refine(j _).mono ?_);rintro e w2 ⟨rfl,hb2⟩;(have hC2:=hC1.call hb2);obtain⟨hd7,hf7⟩:=hC2.walk;(have hg2:=after hg1 hb2);(have hs2:=hg2.size);(have hz2:w.heap.size+1+1 < w2.heap.size:=hC2.lt)))
       rw [H.out];exact bodyPost_ret (v:=Qd.val ⟨ce,true,clo,chi,cst⟩) (Qf rfl rfl ((hC2.put (a:=Qs) ⟨ce,true,clo,chi,cst⟩).alloc _)) rfl ⟨rfl,by go_grown⟩
     ·have H:Hid (R=Qp):=hR
      go_wp2_with (first|(go_at_call 68;(with_reducible refine(z _).mono ?_);rintro e w1 ⟨rfl,hb1⟩;(have hA1:=hA.call hb1);(have hB1:=hB.call hb1);(have hC1:=hC.call hb1);obtain⟨hd4,hf4⟩:=hA1.walk;obtain⟨hd5,hf5⟩:=hB1.walk;obtain⟨hd6,hf6⟩:=hC1.walk;(have hg1:=after hg hb1);(have hs1:=hg1.size))|(go_at_call 36;(with_reducible refine(Xy _).mono ?_);rintro e w2 ⟨rfl,hb2⟩;(have hC2:=hC1.call hb2);obtain⟨hd7,hf7⟩:=hC2.walk;(have hg2:=after hg1 hb2)))
      rw [H.out];exact bodyPost_ret (v:=Qp.val) (Qf rfl rfl (hC2.put (a:=Qs) Qp)) rfl ⟨rfl,Qe hg2 (by omega) Qp⟩
    ·have H:Hid (R=Qp):=hR
     go_wp2_with (first|(go_at_call 68;(with_reducible refine(z _).mono ?_);rintro e w1 ⟨rfl,hb1⟩;(have hA1:=hA.call hb1);(have hB1:=hB.call hb1);(have hC1:=hC.call hb1);obtain⟨hd4,hf4⟩:=hA1.walk;obtain⟨hd5,hf5⟩:=hB1.walk;obtain⟨hd6,hf6⟩:=hC1.walk;(have hg1:=after hg hb1);(have hs1:=hg1.size))|(go_at_call 36;(with_reducible refine(Xy _).mono ?_);rintro e w2 ⟨rfl,hb2⟩;(have hC2:=hC1.call hb2);obtain⟨hd7,hf7⟩:=hC2.walk;(have hg2:=after hg1 hb2)))
     rw [H.out];exact bodyPost_ret (v:=Qp.val) (Qf rfl rfl (hC2.put (a:=Qs) Qp)) rfl ⟨rfl,Qe hg2 (by omega) Qp⟩
   ·have H:Hid (R=⟨false,mt,mlo,mhi,mst⟩):=hR
    go_wp2_with (first|(go_at_call 68;(with_reducible refine(z _).mono ?_);rintro e w1 ⟨rfl,hb1⟩;(have hA1:=hA.call hb1);(have hB1:=hB.call hb1);(have hC1:=hC.call hb1);obtain⟨hd4,hf4⟩:=hA1.walk;obtain⟨hd5,hf5⟩:=hB1.walk;obtain⟨hd6,hf6⟩:=hC1.walk;(have hg1:=after hg hb1);(have hs1:=hg1.size)))
    rw [H.out];exact bodyPost_ret (v:=Qd.val ⟨false,mt,mlo,mhi,mst⟩) (Qf rfl rfl (hC1.put (a:=Qs) ⟨false,mt,mlo,mhi,mst⟩)) rfl ⟨rfl,Qe hg1 (by omega) ⟨false,mt,mlo,mhi,mst⟩⟩
  ·have H:Hid (R=⟨ne,nt,nlo,nhi,nst⟩):=hR
   go_wp2_with (first|(go_at_call 68;(with_reducible refine(z _).mono ?_);rintro e w1 ⟨rfl,hb1⟩;(have hA1:=hA.call hb1);(have hB1:=hB.call hb1);(have hC1:=hC.call hb1);obtain⟨hd4,hf4⟩:=hA1.walk;obtain⟨hd5,hf5⟩:=hB1.walk;obtain⟨hd6,hf6⟩:=hC1.walk;(have hg1:=after hg hb1);(have hs1:=hg1.size)))
   rw [H.out];exact bodyPost_ret (v:=Qd.val ⟨ne,nt,nlo,nhi,nst⟩) (Qf rfl rfl (hC1.put (a:=Qs) ⟨ne,nt,nlo,nhi,nst⟩)) rfl ⟨rfl,Qe hg1 (by omega) ⟨ne,nt,nlo,nhi,nst⟩⟩
theorem QoX(a b:Qd)(ha:a.wf)(hb:b.wf)(w:World):Calls Tryz.prog 41 #[a.val,b.val] w (Ret (XF a b).val w):=by
 have na:=Q8 ha;have nb:=Q8 hb;have va:=Qz a;have vb:=Qz b
 refine QlG a b (Zb a) (Zb b) (QX (Zb a) (Zb b)) na nb (Jd na nb) (Qq (fun h1 h2 h3 h4 h5 h6=>QhH va vb h2 h4 h3 h5 h1 h6)) (QD (Zb b) (Zb a)) (fun h=>by unfold QD;simp only [h,Bool.true_or,if_true]) _ (Qq rfl)
  (ZS a ha) (ZS b hb) (fun w=>?_) (fun w=>?_) w
 ·have:=QlI (Zb b) (Zb a) nb na w;unfold XG at this;rwa [Zl va,Zl vb]at this
 ·have:=QaP (Zb a) (Zb b) na nb w;unfold Jp at this;rwa [Zl va,Zl vb]at this
end Go.Proofs.YteplnamfpodmlaaGreat
end
section
namespace Go.Proofs.YteplnamfpodmlaaGreat
set_option maxHeartbeats 2000000 in
theorem Qgf(a b n m:Qd)(hn:n.wf)(hm:m.wf)(hm2:Qx m=true)
 (x:∀w,Calls Tryz.prog 71 #[a.val] w (Ret n.val w)) (y:∀w,Calls Tryz.prog 71 #[b.val] w (Ret m.val w)) (w:World) :
 Calls Tryz.prog 83 #[a.val,b.val] w (Ret (.bool (QD n m)) w):=by
 have z1:∀w,Calls Tryz.prog 113 #[m.val,.int .u32 n.lo] w (Ret (.bool (Qw m n.lo)) w):=fun w=>by
  have:=Yl m hm n.lo hn.1 hn.2.1 w;rwa [Vg hm2]at this
 have z2:∀w,Calls Tryz.prog 113 #[m.val,.int .u32 n.hi] w (Ret (.bool (Qw m n.hi)) w):=fun w=>by
  have:=Yl m hm n.hi hn.2.2.1 hn.2.2.2.1 w;rwa [Vg hm2]at this
 go_enter Tryz.func83,Tryz.ntmps83
 go_upto_region 2 with (first|(go_at_call 71;(with_reducible refine(x _).mono ?_);rintro e w1 ⟨rfl,hb1⟩;(have hA:=((Blk.new _ _ _).alloc _).call hb1);(have hB:=(Blk.new _ _ _).call hb1);simp only [World.size_alloc]at hB;obtain⟨hc,hf⟩:=hA.walk;obtain⟨hc2,hf2⟩:=hB.walk;(have hg:=after (w:=w) (by go_grown) hb1);(have hs1:=hg.size)))
 go_cut [4] (fun s4 wx=>s4= .bool false∧Blk wx w.heap.size 34 n.cs∧Blk wx (w.heap.size+1) 34 m.cs∧Below w.heap.size w wx)
 case first=>
  go_wp2_with (first|(go_at_call 71;(with_reducible refine(y _).mono ?_);rintro e w2 ⟨rfl,hb2⟩;(have hA2:=(Blk.put (a:=a) hA n).call hb2);(have hB2:=(Blk.put_far hB (by omega) n).call hb2);obtain⟨hc3,hf3⟩:=hA2.walk;obtain⟨hc4,hf4⟩:=hB2.walk;(have hg2:=after (Qe hg (by omega) n) hb2);(have hs2:=hg2.size)))
  go_meet
  exact⟨rfl,hA2.put_far (by omega) m,hB2.put (a:=b) m,Qe hg2 (by omega) m⟩
 case rest=>
  clear hA hB hg hc hf hc2 hf2 hs1 hb1;obtain⟨rfl,hA,hB,hg⟩:=hcut;obtain⟨hc,hf⟩:=hA.walk;obtain⟨hc2,hf2⟩:=hB.walk;have hs:=hg.size;clear x y;obtain⟨n0,n1,n2,n3,n4,n5⟩:=hn;obtain⟨m0,m1,m2,m3,m4,m5⟩:=hm;cases he1:n.e
  ·cases ht2:m.t
   ·cases ht1:n.t
    ·cases he2:m.e
     ·have E:QD n m=(Qw m n.lo && (Qw m n.hi && (n.st==0 || (decide (0 < m.st) && (n.st % m.st==0))))):=by
       unfold QD;simp only [he1,ht2,ht1,he2,Bool.or_self,Bool.false_eq_true,if_false]
      simp only [Qd.val,he2,ht2]at z1 z2;cases c1:Qw m n.lo
      ·have H:=Qq (E.trans (by rw [c1];rfl:_=false))
       clear E;rw [c1]at z1
       go_wp2_with (first|(go_at_call 113;(with_reducible refine(z1 _).mono ?_);rintro e w1 ⟨rfl,hb1⟩;(have hA1:=hA.call hb1);(have hB1:=hB.call hb1);obtain⟨hc3,hf3⟩:=hA1.walk;obtain⟨hc4,hf4⟩:=hB1.walk;(have hg1:=after hg hb1))|(go_at_call 113;(with_reducible refine(z2 _).mono ?_);rintro e w2 ⟨rfl,hb2⟩;(have hA2:=hA1.call hb2);(have hB2:=hB1.call hb2);obtain⟨hc5,hf5⟩:=hA2.walk;obtain⟨hc6,hf6⟩:=hB2.walk;(have hg2:=after hg1 hb2)))
       go_returns
       exact⟨ZK H.out.symm,hg1⟩
      ·cases c2:Qw m n.hi
       ·have H:=Qq (E.trans (by rw [c1,c2];rfl:_=false))
        clear E;rw [c1]at z1;rw [c2]at z2
        go_wp2_with (first|(go_at_call 113;(with_reducible refine(z1 _).mono ?_);rintro e w1 ⟨rfl,hb1⟩;(have hA1:=hA.call hb1);(have hB1:=hB.call hb1);obtain⟨hc3,hf3⟩:=hA1.walk;obtain⟨hc4,hf4⟩:=hB1.walk;(have hg1:=after hg hb1))|(go_at_call 113;(with_reducible refine(z2 _).mono ?_);rintro e w2 ⟨rfl,hb2⟩;(have hA2:=hA1.call hb2);(have hB2:=hB1.call hb2);obtain⟨hc5,hf5⟩:=hA2.walk;obtain⟨hc6,hf6⟩:=hB2.walk;(have hg2:=after hg1 hb2)))
        go_returns
        exact⟨ZK H.out.symm,hg2⟩
       ·rw [c1]at z1;rw [c2]at z2;cases c3:(n.st==0)
        ·by_cases c4:0 < m.st
         ·have c5:¬m.st=0:=by omega
          have H:=Qq (E.trans (by rw [c1,c2,c3,decide_eq_true c4];rfl:_=(n.st % m.st==0)))
          clear E
          go_wp2_with (first|(go_at_call 113;(with_reducible refine(z1 _).mono ?_);rintro e w1 ⟨rfl,hb1⟩;(have hA1:=hA.call hb1);(have hB1:=hB.call hb1);obtain⟨hc3,hf3⟩:=hA1.walk;obtain⟨hc4,hf4⟩:=hB1.walk;(have hg1:=after hg hb1))|(go_at_call 113;(with_reducible refine(z2 _).mono ?_);rintro e w2 ⟨rfl,hb2⟩;(have hA2:=hA1.call hb2);(have hB2:=hB1.call hb2);obtain⟨hc5,hf5⟩:=hA2.walk;obtain⟨hc6,hf6⟩:=hB2.walk;(have hg2:=after hg1 hb2)))
          go_returns
          exact⟨ZK H.out.symm,hg2⟩
         ·have H:=Qq (E.trans (by rw [c1,c2,c3,decide_eq_false c4];rfl:_=false))
          clear E
          go_wp2_with (first|(go_at_call 113;(with_reducible refine(z1 _).mono ?_);rintro e w1 ⟨rfl,hb1⟩;(have hA1:=hA.call hb1);(have hB1:=hB.call hb1);obtain⟨hc3,hf3⟩:=hA1.walk;obtain⟨hc4,hf4⟩:=hB1.walk;(have hg1:=after hg hb1))|(go_at_call 113;(with_reducible refine(z2 _).mono ?_);rintro e w2 ⟨rfl,hb2⟩;(have hA2:=hA1.call hb2);(have hB2:=hB1.call hb2);obtain⟨hc5,hf5⟩:=hA2.walk;obtain⟨hc6,hf6⟩:=hB2.walk;(have hg2:=after hg1 hb2)))
          go_returns
          exact⟨ZK H.out.symm,hg2⟩
        ·have H:=Qq (E.trans (by rw [c1,c2,c3];rfl:_=true))
         clear E
         go_wp2_with (first|(go_at_call 113;(with_reducible refine(z1 _).mono ?_);rintro e w1 ⟨rfl,hb1⟩;(have hA1:=hA.call hb1);(have hB1:=hB.call hb1);obtain⟨hc3,hf3⟩:=hA1.walk;obtain⟨hc4,hf4⟩:=hB1.walk;(have hg1:=after hg hb1))|(go_at_call 113;(with_reducible refine(z2 _).mono ?_);rintro e w2 ⟨rfl,hb2⟩;(have hA2:=hA1.call hb2);(have hB2:=hB1.call hb2);obtain⟨hc5,hf5⟩:=hA2.walk;obtain⟨hc6,hf6⟩:=hB2.walk;(have hg2:=after hg1 hb2)))
         go_returns
         exact⟨ZK H.out.symm,hg2⟩
     ·have H:Hid (QD n m=false):=Qq (by unfold QD;simp only [he1,ht2,he2,Bool.or_self,Bool.false_eq_true,if_false,Bool.or_true,if_true])
      go_wp2
      go_returns
      exact⟨ZK H.out.symm,hg⟩
    ·have H:Hid (QD n m=false):=Qq (by unfold QD;simp only [he1,ht2,ht1,Bool.or_self,Bool.false_eq_true,if_false,Bool.true_or,if_true])
     go_wp2
     go_returns
     exact⟨ZK H.out.symm,hg⟩
   ·have H:Hid (QD n m=true):=Qq (by unfold QD;simp only [ht2,Bool.or_true,if_true])
    go_wp2
    go_returns
    exact⟨ZK H.out.symm,hg⟩
  ·have H:Hid (QD n m=true):=Qq (by unfold QD;simp only [he1,Bool.true_or,if_true])
   go_wp2
   go_returns
   exact⟨ZK H.out.symm,hg⟩
theorem Qit(a b:Qd)(ha:a.wf)(hb:b.wf)(w:World):Calls Tryz.prog 83 #[a.val,b.val] w (Ret (.bool (XG a b)) w):=
 Qgf a b _ _ (Q8 ha) (Q8 hb) (Qz b) (Je a ha) (Je b hb) w
end Go.Proofs.YteplnamfpodmlaaGreat
end
section
namespace Go.Proofs.YteplnamfpodmlaaGreat
theorem KC(a b:Int)(a0:0≤a)(a1:a < 4294967296)(b0:0≤b)(b1:b < 4294967296)(w:World) :
 Calls Tryz.prog 72 #[.int .i64 a,.int .i64 b] w fun e w'=>e= .returned (.int .i64 (Zr a b))∧w=w':=by
 have HS:=Qq QeK;have HZ:=Qq Ka
 go_enter Tryz.func72,Tryz.ntmps72
 go_wp2
 go_loop [0,1] (fun x y=>∃p q:Int,x= .int .i64 p∧y= .int .i64 q∧0≤p∧p < 4294967296∧0≤q∧q < 4294967296∧Hid (Zr p q=Zr a b)) (fun _ y=>(intOf y).toNat)
 case atStart=>exact⟨a,b,rfl,rfl,a0,a1,b0,b1,Qq rfl⟩
 case round=>
  obtain⟨p,q,rfl,rfl,p0,p1,q0,q1,hg⟩:=hrel;by_cases hq:q=0
  ·subst hq
   go_wp2
   go_returns
   have e:=hg.out;rw [HZ.out p p0]at e;subst e;exact⟨rfl,rfl⟩
  ·have c1:(q==0)=false:=by rw [beq_eq_false_iff_ne];exact hq
   have c2:0 < q:=by omega
   have m1:0≤p % q:=Int.emod_nonneg _ hq;have m2:p % q < q:=Int.emod_lt_of_pos p (by omega)
   have HR:=Qq ((HS.out p q p0 (by omega)).trans hg.out)
   clear hq
   go_wp2
   go_round
   case rel=>exact⟨q,p % q,rfl,rfl,q0,q1,m1,by omega,HR⟩
   case measure=>simp [intOf];omega
theorem Qik(nlo nhi nst mlo mhi mst:Int)(n0:0≤nlo)(n1:nlo < 4294967296)(n2:0≤nhi)(n3:nhi < 4294967296)(n4:0≤nst)(n5:nst < 4294967296)(m0:0≤mlo)(m1:mlo < 4294967296)(m2:0≤mhi)(m3:mhi < 4294967296)(m4:0≤mst)(m5:mst < 4294967296)(L:Int)(hL:L=if mlo < nlo then mlo else nlo) :
 Zr (Zr (Zr nst mst) (nlo - L)) (mlo - L)=Zr (Zr nst mst) ((if nlo < mlo then mlo else nlo) - L):=by
 have g0:=QT nst mst;by_cases c1:mlo < nlo
 ·rw [if_pos c1]at hL;rw [hL];rw [if_neg (by omega),Int.sub_self,Ka _ (QT _ _)]
 ·rw [if_neg c1]at hL;rw [hL];rw [Int.sub_self,Ka _ g0];by_cases c:nlo < mlo
  ·rw [if_pos c]
  ·rw [if_neg c];have:mlo=nlo:=by omega
   rw [this]
set_option maxHeartbeats 4000000 in
theorem Qlt(a b n m:Qd)(hn:n.wf)(hm:m.wf)
 (x:∀w,Calls Tryz.prog 71 #[a.val] w (Ret n.val w)) (y:∀w,Calls Tryz.prog 71 #[b.val] w (Ret m.val w)) (w:World) :
 Calls Tryz.prog 45 #[a.val,b.val] w (Ret (QX n m).val w):=by
 obtain⟨n0,n1,n2,n3,n4,n5⟩:=hn;obtain⟨m0,m1,m2,m3,m4,m5⟩:=hm
 go_enter Tryz.func45,Tryz.ntmps45
 go_upto_region 1 with fail
 go_cut [4] (fun s4 wx=>s4= .pointer (some ⟨w.heap.size+1+1,0,none⟩)∧Blk wx w.heap.size 34 n.cs∧Blk wx (w.heap.size+1) 34 b.cs∧Blk wx (w.heap.size+1+1) 34 Qs.cs∧Below w.heap.size w wx)
 case first=>
  go_wp2_with (go_at_call 71;(with_reducible refine(x _).mono ?_);rintro e w1 ⟨rfl,hb1⟩;(have hA1:=(((Blk.new _ _ _).alloc _).alloc _).call hb1);(have hB1:=((Blk.new _ _ _).alloc _).call hb1);(have hC1:=(Blk.new _ _ _).call hb1);simp only [World.size_alloc]at hB1 hC1;obtain⟨hc1,hf1⟩:=hA1.walk;obtain⟨hc2,hf2⟩:=hB1.walk;(have hg1:=after (w:=w) (by go_grown) hb1);(have hs1:=hg1.size);(have hz1:w.heap.size+1+1 < w1.heap.size:=hC1.lt))
  go_meet
  exact⟨rfl,Blk.put (a:=a) hA1 n,Blk.put_far hB1 (by omega) n,Blk.put_far hC1 (by omega) n,Qe hg1 (by omega) n⟩
 obtain⟨rfl,hA,hB,hC,hg⟩:=hcut;obtain⟨hc,hf⟩:=hA.walk;obtain⟨hc2,hf2⟩:=hB.walk;obtain⟨hc3,hf3⟩:=hC.walk;have hs:=hg.size;have hz:w.heap.size+1+1 < wc.heap.size:=hC.lt
 go_upto_region 2 with fail
 go_cut [4] (fun s4 wx=>s4= .pointer (some ⟨w.heap.size+1+1,0,none⟩)∧Blk wx w.heap.size 34 n.cs∧Blk wx (w.heap.size+1) 34 m.cs∧Blk wx (w.heap.size+1+1) 34 Qs.cs∧Below w.heap.size w wx)
 case first=>
  go_wp2_with (go_at_call 71;(with_reducible refine(y _).mono ?_);rintro e w2 ⟨rfl,hb2⟩;(have hA2:=hA.call hb2);(have hB2:=hB.call hb2);(have hC2:=hC.call hb2);clear hc hf hc2 hf2 hc3 hf3;obtain⟨hc,hf⟩:=hA2.walk;obtain⟨hc2,hf2⟩:=hB2.walk;obtain⟨hc3,hf3⟩:=hC2.walk;(have hg2:=after hg hb2);(have hs2:=hg2.size);(have hz2:w.heap.size+1+1 < w2.heap.size:=hC2.lt))
  go_meet
  exact⟨rfl,Blk.put_far hA2 (by omega) m,Blk.put (a:=b) hB2 m,Blk.put_far hC2 (by omega) m,Qe hg2 (by omega) m⟩
 clear hA hB hC hg hc hf hc2 hf2 hc3 hf3 hs hz x y;obtain⟨rfl,hA,hB,hC,hg⟩:=hcut;obtain⟨hc,hf⟩:=hA.walk;obtain⟨hc2,hf2⟩:=hB.walk;obtain⟨hc3,hf3⟩:=hC.walk;have hs:=hg.size;have hz:w.heap.size+1+1 < wc.heap.size:=hC.lt;obtain⟨ne,nt,nlo,nhi,nst⟩:=n;obtain⟨me,mt,mlo,mhi,mst⟩:=m
 dsimp only at n0 n1 n2 n3 n4 n5 m0 m1 m2 m3 m4 m5
 simp only [Qd.cs]at hc hc2 hc3;cases nt
 ·cases mt
  ·cases ne
   ·cases me
    ·have P:=Qik nlo nhi nst mlo mhi mst n0 n1 n2 n3 n4 n5 m0 m1 m2 m3 m4 m5
     have H:∀L U,L=(if mlo < nlo then mlo else nlo)→U=(if nhi < mhi then mhi else nhi)→QX ⟨false,false,nlo,nhi,nst⟩ ⟨false,false,mlo,mhi,mst⟩=Qj L U (Zr (Zr (Zr nst mst) (nlo - L)) (mlo - L)):=fun L U hL hU=>by
      rw [P L hL,hL,hU];rfl
     obtain⟨J,hJ⟩:∃J,J=QX ⟨false,false,nlo,nhi,nst⟩ ⟨false,false,mlo,mhi,mst⟩:=⟨_,rfl⟩;have HJ:=Qq hJ.symm;rw [←hJ]at H;clear hJ P;have g0:=QT nst mst;have g1:=Jo nst mst 4294967295 n4 m4 (by omega) (by omega)
     have z1:=KC nst mst n4 n5 m4 m5;generalize Zr nst mst=G at *;have HH:=Qq H;clear H;by_cases c1:mlo < nlo
     ·have d0:0≤nlo - mlo:=by omega
      have k0:=QT G (nlo - mlo);have k1:=Jo G (nlo - mlo) 4294967295 g0 d0 (by omega) (by omega)
      have z2:=KC G (nlo - mlo) g0 (by omega) d0 (by omega)
      have H1:∀U,U=(if nhi < mhi then mhi else nhi)→J=Qj mlo U (Zr G (nlo - mlo)):=fun U hU=>by
       rw [HH.out mlo U (by rw [if_pos c1]) hU,Int.sub_self,Ka _ k0]
      generalize Zr G (nlo - mlo)=K at *;have z3:=KC K 0 k0 (by omega) (by omega) (by omega)
      rw [Ka K k0]at z3;by_cases c2:nhi < mhi
      ·have B:=QN mlo mhi K (by omega) (by omega) (by omega) (by omega) k0 (by omega)
       rw [←H1 mhi (by rw [if_pos c2])]at B
       clear H1 HH
       go_wp2_with (first|(go_at_call 72;(first|(with_reducible refine(z1 _).mono ?_)|(with_reducible refine(z2 _).mono ?_)|(with_reducible refine(z3 _).mono ?_));rintro e w3 ⟨rfl,rfl⟩)|(go_at_call 73;(with_reducible refine(B _).mono ?_);rintro e w4 ⟨rfl,hb4⟩;(have hC4:=hC.call hb4);obtain⟨hc4,hf4⟩:=hC4.walk;(have hg4:=after hg hb4)))
       rw [HJ.out];exact bodyPost_ret (v:=J.val) (Qf rfl rfl (hC4.put (a:=Qs) J)) rfl ⟨rfl,Qe hg4 (by omega) J⟩
      ·have B:=QN mlo nhi K (by omega) (by omega) (by omega) (by omega) k0 (by omega)
       rw [←H1 nhi (by rw [if_neg c2])]at B
       clear H1 HH
       go_wp2_with (first|(go_at_call 72;(first|(with_reducible refine(z1 _).mono ?_)|(with_reducible refine(z2 _).mono ?_)|(with_reducible refine(z3 _).mono ?_));rintro e w3 ⟨rfl,rfl⟩)|(go_at_call 73;(with_reducible refine(B _).mono ?_);rintro e w4 ⟨rfl,hb4⟩;(have hC4:=hC.call hb4);obtain⟨hc4,hf4⟩:=hC4.walk;(have hg4:=after hg hb4)))
       rw [HJ.out];exact bodyPost_ret (v:=J.val) (Qf rfl rfl (hC4.put (a:=Qs) J)) rfl ⟨rfl,Qe hg4 (by omega) J⟩
     ·have d0:0≤mlo - nlo:=by omega
      have k0:=QT G (mlo - nlo);have k1:=Jo G (mlo - nlo) 4294967295 g0 d0 (by omega) (by omega)
      have z2:=KC G 0 g0 (by omega) (by omega) (by omega)
      rw [Ka G g0]at z2;have z3:=KC G (mlo - nlo) g0 (by omega) d0 (by omega)
      have H1:∀U,U=(if nhi < mhi then mhi else nhi)→J=Qj nlo U (Zr G (mlo - nlo)):=fun U hU=>by
       rw [HH.out nlo U (by rw [if_neg c1]) hU,Int.sub_self,Ka _ g0]
      generalize Zr G (mlo - nlo)=K at *;by_cases c2:nhi < mhi
      ·have B:=QN nlo mhi K (by omega) (by omega) (by omega) (by omega) k0 (by omega)
       rw [←H1 mhi (by rw [if_pos c2])]at B
       clear H1 HH
       go_wp2_with (first|(go_at_call 72;(first|(with_reducible refine(z1 _).mono ?_)|(with_reducible refine(z2 _).mono ?_)|(with_reducible refine(z3 _).mono ?_));rintro e w3 ⟨rfl,rfl⟩)|(go_at_call 73;(with_reducible refine(B _).mono ?_);rintro e w4 ⟨rfl,hb4⟩;(have hC4:=hC.call hb4);obtain⟨hc4,hf4⟩:=hC4.walk;(have hg4:=after hg hb4)))
       rw [HJ.out];exact bodyPost_ret (v:=J.val) (Qf rfl rfl (hC4.put (a:=Qs) J)) rfl ⟨rfl,Qe hg4 (by omega) J⟩
      ·have B:=QN nlo nhi K (by omega) (by omega) (by omega) (by omega) k0 (by omega)
       rw [←H1 nhi (by rw [if_neg c2])]at B
       clear H1 HH
       go_wp2_with (first|(go_at_call 72;(first|(with_reducible refine(z1 _).mono ?_)|(with_reducible refine(z2 _).mono ?_)|(with_reducible refine(z3 _).mono ?_));rintro e w3 ⟨rfl,rfl⟩)|(go_at_call 73;(with_reducible refine(B _).mono ?_);rintro e w4 ⟨rfl,hb4⟩;(have hC4:=hC.call hb4);obtain⟨hc4,hf4⟩:=hC4.walk;(have hg4:=after hg hb4)))
       rw [HJ.out];exact bodyPost_ret (v:=J.val) (Qf rfl rfl (hC4.put (a:=Qs) J)) rfl ⟨rfl,Qe hg4 (by omega) J⟩
    ·have H:Hid (QX ⟨false,false,nlo,nhi,nst⟩ ⟨true,false,mlo,mhi,mst⟩=⟨false,false,nlo,nhi,nst⟩):=Qq rfl
     go_wp2
     rw [H.out];exact bodyPost_ret (v:=Qd.val ⟨false,false,nlo,nhi,nst⟩) (Qf rfl rfl (hC.put (a:=Qs) ⟨false,false,nlo,nhi,nst⟩)) rfl ⟨rfl,Qe hg (by omega) ⟨false,false,nlo,nhi,nst⟩⟩
   ·have H:Hid (QX ⟨true,false,nlo,nhi,nst⟩ ⟨me,false,mlo,mhi,mst⟩=⟨me,false,mlo,mhi,mst⟩):=Qq rfl
    go_wp2
    rw [H.out];exact bodyPost_ret (v:=Qd.val ⟨me,false,mlo,mhi,mst⟩) (Qf rfl rfl (hC.put (a:=Qs) ⟨me,false,mlo,mhi,mst⟩)) rfl ⟨rfl,Qe hg (by omega) ⟨me,false,mlo,mhi,mst⟩⟩
  ·have H:Hid (QX ⟨ne,false,nlo,nhi,nst⟩ ⟨me,true,mlo,mhi,mst⟩=Qp):=Qq rfl
   go_wp2_with (go_at_call 19;(with_reducible refine(Z1 _).mono ?_);rintro e w1 ⟨rfl,hb1⟩;(have hC1:=hC.call hb1);obtain⟨hc4,hf4⟩:=hC1.walk;(have hg1:=after hg hb1))
   rw [H.out];exact bodyPost_ret (v:=Qp.val) (Qf rfl rfl (hC1.put (a:=Qs) Qp)) rfl ⟨rfl,Qe hg1 (by omega) Qp⟩
 ·have H:Hid (QX ⟨ne,true,nlo,nhi,nst⟩ ⟨me,mt,mlo,mhi,mst⟩=Qp):=Qq rfl
  go_wp2_with (go_at_call 19;(with_reducible refine(Z1 _).mono ?_);rintro e w1 ⟨rfl,hb1⟩;(have hC1:=hC.call hb1);obtain⟨hc4,hf4⟩:=hC1.walk;(have hg1:=after hg hb1))
  rw [H.out];exact bodyPost_ret (v:=Qp.val) (Qf rfl rfl (hC1.put (a:=Qs) Qp)) rfl ⟨rfl,Qe hg1 (by omega) Qp⟩
theorem Qb3(a b:Qd)(ha:a.wf)(hb:b.wf)(w:World):Calls Tryz.prog 45 #[a.val,b.val] w (Ret (Jp a b).val w):=
 Qlt a b _ _ (Q8 ha) (Q8 hb) (Je a ha) (Je b hb) w
end Go.Proofs.YteplnamfpodmlaaGreat
end
