/-
  Part of the proof.
-/
import Derived.Test.YteplnamfpodmlaaQVaD
set_option linter.unusedVariables false
set_option linter.unusedSimpArgs false
set_option maxRecDepth 100000
open Go.ChangeShapes Go.WideShapes Go.ChangeAt Go.RowKit
section
namespace Go.Proofs.Yteplnamfpodmlaa
def VY(a b:Qd):Qd:=
 if QL b a then a else if a.e then b else if a.t || b.t then Qy
 else if(Za a b).t then Za a b
 else Qs (if(Za a b).lo < a.lo then(Za a b).lo % (Za a b).st else(Za a b).lo) (if a.hi < (Za a b).hi then 4294967295 else(Za a b).hi) (Za a b).st
def JH(a b:Qd):Qd:=VY (ZO a) (ZO b)
abbrev QV:Qd:=⟨false,false,0,0,0⟩
set_option maxHeartbeats 4000000 in
theorem Qlw(a b n m c:Qd)(hn:n.wf)(hm:m.wf)(hc:c.wf)(hcd:Hid (c.t=false→n.t=false→m.t=false→n.e=false→m.e=false→c.lo < n.lo→c.st≠0))(r:Bool)(hre:m.e=true→r=true)(R:Qd)
 (hR:Hid (R=if r then n else if n.e then m else if n.t || m.t then Qy else if c.t then c
   else Qs (if c.lo < n.lo then c.lo % c.st else c.lo) (if n.hi < c.hi then 4294967295 else c.hi) c.st))
 (x:∀w,Calls Try.prog 87 #[a.val] w (Ret n.val w)) (y:∀w,Calls Try.prog 87 #[b.val] w (Ret m.val w))
 (z:∀w,Calls Try.prog 47 #[m.val,n.val] w (Ret (.bool r) w)) (j:∀w,Calls Try.prog 55 #[n.val,m.val] w (Ret c.val w)) (w:World) :
 Calls Try.prog 85 #[a.val,b.val] w (Ret R.val w):=by
 obtain⟨n0,n1,n2,n3,n4,n5⟩:=hn
 obtain⟨m0,m1,m2,m3,m4,m5⟩:=hm
 obtain⟨c0,c1,c2,c3,c4,c5⟩:=hc
 go_enter Try.func85,Try.ntmps85
 go_upto_region 1 with fail
 go_cut [4] (fun s4 wx=>s4= .pointer (some ⟨w.heap.size+1+1,0,none⟩)∧Blk wx w.heap.size 34 n.cs∧Blk wx (w.heap.size+1) 34 m.cs∧Blk wx (w.heap.size+1+1) 34 QV.cs∧Below w.heap.size w wx)
 case first=>
  go_region_with (first|(go_at_call 87;(with_reducible refine(x _).mono ?_);rintro e w1 ⟨rfl,hb1⟩;(have hA:=(((Blk.new _ _ _).alloc _).alloc _).drew.call hb1);(have hB:=((Blk.new _ _ _).alloc _).drew.call hb1);(have hC:=(Blk.new _ _ _).drew.call hb1);simp only [World.size_alloc]at hB hC;obtain⟨hc,hf⟩:=hA.walk;obtain⟨hc2,hf2⟩:=hB.walk;(have hg:=after (w:=w) (by go_grown) hb1);(have hs1:=hg.size))|(go_at_call 87;(with_reducible refine(y _).mono ?_);rintro e w2 ⟨rfl,hb2⟩;(have hA2:=hA.call hb2);(have hB2:=hB.call hb2);(have hC2:=hC.call hb2);obtain⟨hc3,hf3⟩:=hA2.walk;obtain⟨hc4,hf4⟩:=hB2.walk;(have hg2:=after hg hb2);(have hs2:=hg2.size)))
  all_goals (go_wp2_with fail;go_meet;exact⟨rfl,(Blk.put (a:=a) hA2 n).put_far (by omega) m,(Blk.put_far hB2 (by omega) n).put (a:=b) m,(Blk.put_far hC2 (by omega) n).put_far (by omega) m,Qh (Qh hg2 (by omega) _) (by omega) _⟩)
 case rest=>
  obtain⟨rfl,hA,hB,hC,hg⟩:=hcut
  obtain⟨hd1,hf⟩:=hA.walk
  obtain⟨hd2,hf2⟩:=hB.walk
  obtain⟨hd3,hf3⟩:=hC.walk
  have hs:=hg.size
  clear x y
  obtain⟨ne,nt,nlo,nhi,nst⟩:=n
  obtain⟨me,mt,mlo,mhi,mst⟩:=m
  obtain⟨ce,ct,clo,chi,cst⟩:=c
  dsimp only at n0 n1 n2 n3 n4 n5 m0 m1 m2 m3 m4 m5 c0 c1 c2 c3 c4 c5 hre hcd
  simp only [Qd.cs]at hd1 hd2 hd3
  simp only [Qd.val]at z j
  cases r
  ·obtain rfl:me=false:=by cases me;rfl;exact absurd (hre rfl) (by simp)
   clear hre
   cases ne
   ·cases nt
    ·cases mt
     ·cases ct
      ·have hcd':=QF (hcd.out rfl rfl rfl rfl rfl)
       clear hcd
       by_cases g1:clo < nlo
       ·have gs:¬cst=0:=hcd'.out g1
        have gm0:0≤clo % cst:=Int.emod_nonneg _ gs
        have gm1:clo % cst < 4294967296:=by have:=Int.emod_lt_of_pos clo (by omega:0 < cst);omega
        have hR1:Hid (R=Qs (clo % cst) (if nhi < chi then 4294967295 else chi) cst):=QF (hR.out.trans (by show Qs (if clo < nlo then clo % cst else clo) (if nhi < chi then 4294967295 else chi) cst=_;rw [if_pos g1]))
        clear hR hcd'
        by_cases g2:nhi < chi
        ·have B:∀w,Calls Try.prog 51 #[.int .u32 (clo % cst),.int .u32 4294967295,.int .u32 cst] w (Ret R.val w):=fun w=>by
          rw [hR1.out,if_pos g2];exact ZI _ _ _ gm0 gm1 (by omega) (by omega) c4 c5 w
         clear hR1
         go_wp2_with (first|(go_at_call 47;(with_reducible refine(z _).mono ?_);rintro e w1 ⟨rfl,hb1⟩;(have hA1:=hA.call hb1);(have hB1:=hB.call hb1);(have hC1:=hC.call hb1);obtain⟨hd4,hf4⟩:=hA1.walk;obtain⟨hd5,hf5⟩:=hB1.walk;obtain⟨hd6,hf6⟩:=hC1.walk;(have hg1:=after hg hb1);(have hs1:=hg1.size))|(go_at_call 55;(with_reducible refine(j _).mono ?_);rintro e w2 ⟨rfl,hb2⟩;(have hA2:=hA1.call hb2);(have hC2:=hC1.call hb2);obtain⟨hd7,hf7⟩:=hC2.walk;obtain⟨hd8,hf8⟩:=hA2.walk;(have hg2:=after hg1 hb2);(have hs2:=hg2.size);(have hz2:w.heap.size+1+1 < w2.heap.size:=hC2.lt);(have hz3:w.heap.size < w2.heap.size:=hA2.lt)))
         go_quiet (fail)
         go_wp2_with (go_at_call 51;(with_reducible refine(B _).mono ?_);rintro e w3 ⟨rfl,hb3⟩;(have hC4:=(J3 (hC2.alloc _) nq).call hb3);obtain⟨hd9,hf9⟩:=hC4.walk;(have hg4:=after (Qo (hg2.alloc hs2 _) nq) hb3))
         exact bodyPost_ret (v:=R.val) (Qt rfl rfl (hC4.put (a:=QV) R)) rfl ⟨rfl,Qh hg4 (by omega) R⟩
        ·have B:∀w,Calls Try.prog 51 #[.int .u32 (clo % cst),.int .u32 chi,.int .u32 cst] w (Ret R.val w):=fun w=>by
          rw [hR1.out,if_neg g2];exact ZI _ _ _ gm0 gm1 c2 c3 c4 c5 w
         clear hR1
         go_wp2_with (first|(go_at_call 47;(with_reducible refine(z _).mono ?_);rintro e w1 ⟨rfl,hb1⟩;(have hA1:=hA.call hb1);(have hB1:=hB.call hb1);(have hC1:=hC.call hb1);obtain⟨hd4,hf4⟩:=hA1.walk;obtain⟨hd5,hf5⟩:=hB1.walk;obtain⟨hd6,hf6⟩:=hC1.walk;(have hg1:=after hg hb1);(have hs1:=hg1.size))|(go_at_call 55;(with_reducible refine(j _).mono ?_);rintro e w2 ⟨rfl,hb2⟩;(have hA2:=hA1.call hb2);(have hC2:=hC1.call hb2);obtain⟨hd7,hf7⟩:=hC2.walk;obtain⟨hd8,hf8⟩:=hA2.walk;(have hg2:=after hg1 hb2);(have hs2:=hg2.size);(have hz2:w.heap.size+1+1 < w2.heap.size:=hC2.lt);(have hz3:w.heap.size < w2.heap.size:=hA2.lt)))
         go_quiet (fail)
         go_wp2_with (go_at_call 51;(with_reducible refine(B _).mono ?_);rintro e w3 ⟨rfl,hb3⟩;(have hC4:=(J3 (hC2.alloc _) nq).call hb3);obtain⟨hd9,hf9⟩:=hC4.walk;(have hg4:=after (Qo (hg2.alloc hs2 _) nq) hb3))
         exact bodyPost_ret (v:=R.val) (Qt rfl rfl (hC4.put (a:=QV) R)) rfl ⟨rfl,Qh hg4 (by omega) R⟩
       ·have hR1:Hid (R=Qs clo (if nhi < chi then 4294967295 else chi) cst):=QF (hR.out.trans (by show Qs (if clo < nlo then clo % cst else clo) (if nhi < chi then 4294967295 else chi) cst=_;rw [if_neg g1]))
        clear hR hcd'
        by_cases g2:nhi < chi
        ·have B:∀w,Calls Try.prog 51 #[.int .u32 clo,.int .u32 4294967295,.int .u32 cst] w (Ret R.val w):=fun w=>by
          rw [hR1.out,if_pos g2];exact ZI _ _ _ c0 c1 (by omega) (by omega) c4 c5 w
         clear hR1
         go_wp2_with (first|(go_at_call 47;(with_reducible refine(z _).mono ?_);rintro e w1 ⟨rfl,hb1⟩;(have hA1:=hA.call hb1);(have hB1:=hB.call hb1);(have hC1:=hC.call hb1);obtain⟨hd4,hf4⟩:=hA1.walk;obtain⟨hd5,hf5⟩:=hB1.walk;obtain⟨hd6,hf6⟩:=hC1.walk;(have hg1:=after hg hb1);(have hs1:=hg1.size))|(go_at_call 55;(with_reducible refine(j _).mono ?_);rintro e w2 ⟨rfl,hb2⟩;(have hA2:=hA1.call hb2);(have hC2:=hC1.call hb2);obtain⟨hd7,hf7⟩:=hC2.walk;obtain⟨hd8,hf8⟩:=hA2.walk;(have hg2:=after hg1 hb2);(have hs2:=hg2.size);(have hz2:w.heap.size+1+1 < w2.heap.size:=hC2.lt);(have hz3:w.heap.size < w2.heap.size:=hA2.lt)))
         go_quiet (fail)
         go_wp2_with (go_at_call 51;(with_reducible refine(B _).mono ?_);rintro e w3 ⟨rfl,hb3⟩;(have hC4:=(J3 (hC2.alloc _) nq).call hb3);obtain⟨hd9,hf9⟩:=hC4.walk;(have hg4:=after (Qo (hg2.alloc hs2 _) nq) hb3))
         exact bodyPost_ret (v:=R.val) (Qt rfl rfl (hC4.put (a:=QV) R)) rfl ⟨rfl,Qh hg4 (by omega) R⟩
        ·have B:∀w,Calls Try.prog 51 #[.int .u32 clo,.int .u32 chi,.int .u32 cst] w (Ret R.val w):=fun w=>by
          rw [hR1.out,if_neg g2];exact ZI _ _ _ c0 c1 c2 c3 c4 c5 w
         clear hR1
         go_wp2_with (first|(go_at_call 47;(with_reducible refine(z _).mono ?_);rintro e w1 ⟨rfl,hb1⟩;(have hA1:=hA.call hb1);(have hB1:=hB.call hb1);(have hC1:=hC.call hb1);obtain⟨hd4,hf4⟩:=hA1.walk;obtain⟨hd5,hf5⟩:=hB1.walk;obtain⟨hd6,hf6⟩:=hC1.walk;(have hg1:=after hg hb1);(have hs1:=hg1.size))|(go_at_call 55;(with_reducible refine(j _).mono ?_);rintro e w2 ⟨rfl,hb2⟩;(have hA2:=hA1.call hb2);(have hC2:=hC1.call hb2);obtain⟨hd7,hf7⟩:=hC2.walk;obtain⟨hd8,hf8⟩:=hA2.walk;(have hg2:=after hg1 hb2);(have hs2:=hg2.size);(have hz2:w.heap.size+1+1 < w2.heap.size:=hC2.lt);(have hz3:w.heap.size < w2.heap.size:=hA2.lt)))
         go_quiet (fail)
         go_wp2_with (go_at_call 51;(with_reducible refine(B _).mono ?_);rintro e w3 ⟨rfl,hb3⟩;(have hC4:=(J3 (hC2.alloc _) nq).call hb3);obtain⟨hd9,hf9⟩:=hC4.walk;(have hg4:=after (Qo (hg2.alloc hs2 _) nq) hb3))
         exact bodyPost_ret (v:=R.val) (Qt rfl rfl (hC4.put (a:=QV) R)) rfl ⟨rfl,Qh hg4 (by omega) R⟩
      ·have H:Hid (R=⟨ce,true,clo,chi,cst⟩):=hR
       go_wp2_with (first|(go_at_call 47;(with_reducible refine(z _).mono ?_);rintro e w1 ⟨rfl,hb1⟩;(have hA1:=hA.call hb1);(have hB1:=hB.call hb1);(have hC1:=hC.call hb1);obtain⟨hd4,hf4⟩:=hA1.walk;obtain⟨hd5,hf5⟩:=hB1.walk;obtain⟨hd6,hf6⟩:=hC1.walk;(have hg1:=after hg hb1);(have hs1:=hg1.size))|(go_at_call 55;(with_reducible refine(j _).mono ?_);rintro e w2 ⟨rfl,hb2⟩;(have hC2:=hC1.call hb2);obtain⟨hd7,hf7⟩:=hC2.walk;(have hg2:=after hg1 hb2);(have hs2:=hg2.size);(have hz2:w.heap.size+1+1 < w2.heap.size:=hC2.lt)))
       rw [H.out]
       exact bodyPost_ret (v:=Qd.val ⟨ce,true,clo,chi,cst⟩) (Qt rfl rfl ((hC2.put (a:=QV) ⟨ce,true,clo,chi,cst⟩).alloc _)) rfl ⟨rfl,by go_grown⟩
     ·have H:Hid (R=Qy):=hR
      go_wp2_with (first|(go_at_call 47;(with_reducible refine(z _).mono ?_);rintro e w1 ⟨rfl,hb1⟩;(have hA1:=hA.call hb1);(have hB1:=hB.call hb1);(have hC1:=hC.call hb1);obtain⟨hd4,hf4⟩:=hA1.walk;obtain⟨hd5,hf5⟩:=hB1.walk;obtain⟨hd6,hf6⟩:=hC1.walk;(have hg1:=after hg hb1);(have hs1:=hg1.size))|(go_at_call 52;(with_reducible refine(XG _).mono ?_);rintro e w2 ⟨rfl,hb2⟩;(have hC2:=hC1.call hb2);obtain⟨hd7,hf7⟩:=hC2.walk;(have hg2:=after hg1 hb2)))
      rw [H.out]
      exact bodyPost_ret (v:=Qy.val) (Qt rfl rfl (hC2.put (a:=QV) Qy)) rfl ⟨rfl,Qh hg2 (by omega) Qy⟩
    ·have H:Hid (R=Qy):=hR
     go_wp2_with (first|(go_at_call 47;(with_reducible refine(z _).mono ?_);rintro e w1 ⟨rfl,hb1⟩;(have hA1:=hA.call hb1);(have hB1:=hB.call hb1);(have hC1:=hC.call hb1);obtain⟨hd4,hf4⟩:=hA1.walk;obtain⟨hd5,hf5⟩:=hB1.walk;obtain⟨hd6,hf6⟩:=hC1.walk;(have hg1:=after hg hb1);(have hs1:=hg1.size))|(go_at_call 52;(with_reducible refine(XG _).mono ?_);rintro e w2 ⟨rfl,hb2⟩;(have hC2:=hC1.call hb2);obtain⟨hd7,hf7⟩:=hC2.walk;(have hg2:=after hg1 hb2)))
     rw [H.out]
     exact bodyPost_ret (v:=Qy.val) (Qt rfl rfl (hC2.put (a:=QV) Qy)) rfl ⟨rfl,Qh hg2 (by omega) Qy⟩
   ·have H:Hid (R=⟨false,mt,mlo,mhi,mst⟩):=hR
    go_wp2_with (first|(go_at_call 47;(with_reducible refine(z _).mono ?_);rintro e w1 ⟨rfl,hb1⟩;(have hA1:=hA.call hb1);(have hB1:=hB.call hb1);(have hC1:=hC.call hb1);obtain⟨hd4,hf4⟩:=hA1.walk;obtain⟨hd5,hf5⟩:=hB1.walk;obtain⟨hd6,hf6⟩:=hC1.walk;(have hg1:=after hg hb1);(have hs1:=hg1.size)))
    rw [H.out]
    exact bodyPost_ret (v:=Qd.val ⟨false,mt,mlo,mhi,mst⟩) (Qt rfl rfl (hC1.put (a:=QV) ⟨false,mt,mlo,mhi,mst⟩)) rfl ⟨rfl,Qh hg1 (by omega) ⟨false,mt,mlo,mhi,mst⟩⟩
  ·have H:Hid (R=⟨ne,nt,nlo,nhi,nst⟩):=hR
   go_wp2_with (first|(go_at_call 47;(with_reducible refine(z _).mono ?_);rintro e w1 ⟨rfl,hb1⟩;(have hA1:=hA.call hb1);(have hB1:=hB.call hb1);(have hC1:=hC.call hb1);obtain⟨hd4,hf4⟩:=hA1.walk;obtain⟨hd5,hf5⟩:=hB1.walk;obtain⟨hd6,hf6⟩:=hC1.walk;(have hg1:=after hg hb1);(have hs1:=hg1.size)))
   rw [H.out]
   exact bodyPost_ret (v:=Qd.val ⟨ne,nt,nlo,nhi,nst⟩) (Qt rfl rfl (hC1.put (a:=QV) ⟨ne,nt,nlo,nhi,nst⟩)) rfl ⟨rfl,Qh hg1 (by omega) ⟨ne,nt,nlo,nhi,nst⟩⟩
theorem QoZ(a b:Qd)(ha:a.wf)(hb:b.wf)(w:World):Calls Try.prog 85 #[a.val,b.val] w (Ret (JH a b).val w):=by
 have na:=QJ ha
 have nb:=QJ hb
 have va:=Q2 a
 have vb:=Q2 b
 refine Qlw a b (ZO a) (ZO b) (Za (ZO a) (ZO b)) na nb (Jw na nb) (QF (fun h1 h2 h3 h4 h5 h6=>Qrg va vb h2 h4 h3 h5 h1 h6)) (QL (ZO b) (ZO a)) (fun h=>by unfold QL;simp only [h,Bool.true_or,if_true]) _ (QF rfl)
  (Xu a ha) (Xu b hb) (fun w=>?_) (fun w=>?_) w
 ·have:=Qeo (ZO b) (ZO a) nb na w
  unfold ZF at this
  rwa [Zm va,Zm vb]at this
 ·have:=Qbx (ZO a) (ZO b) na nb w
  unfold Va at this
  rwa [Zm va,Zm vb]at this
end Go.Proofs.Yteplnamfpodmlaa
end
section
namespace Go.Proofs.Yteplnamfpodmlaa
end Go.Proofs.Yteplnamfpodmlaa
end
section
namespace Go.Proofs.Yteplnamfpodmlaa
end Go.Proofs.Yteplnamfpodmlaa
end
