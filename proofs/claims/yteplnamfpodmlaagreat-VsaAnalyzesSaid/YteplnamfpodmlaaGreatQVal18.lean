/-
  Part of the proof.
-/
import Derived.Test.YteplnamfpodmlaaGreatQVaB
import Derived.Deep.RegionHeld3
set_option linter.unusedVariables false
set_option linter.unusedSimpArgs false
set_option maxRecDepth 100000
open Go.ChangeShapes Go.WideShapes Go.ChangeAt Go.RowKit
namespace Go.Proofs.YteplnamfpodmlaaGreat
set_option maxRecDepth 100000 in
set_option maxHeartbeats 8000000 in
theorem Qt7(op:Int)(ho:op < 3∨(¬op < 3∧15 < op))(a b n m:Qd)(x:∀w,Calls Tryz.prog 52 #[a.val] w (Ret n.val w))(y:∀w,Calls Tryz.prog 52 #[b.val] w (Ret m.val w))(w:World) :
 Calls Tryz.prog 35 #[.int .i64 op,a.val,b.val] w (Ret Qp.val w):=by
 go_enter Tryz.func35,Tryz.ntmps35
 go_upto_region 1 with fail
 go_cut [6] (fun s6 wx=>s6= .pointer (some ⟨w.heap.size+1+1,0,none⟩)∧Blk wx w.heap.size 34 n.cs∧Blk wx (w.heap.size+1) 34 m.cs∧Blk wx (w.heap.size+1+1) 34 Qs.cs∧Below w.heap.size w wx)
 case first=>
  go_region_with (first|(go_at_call 52;(with_reducible refine(x _).mono ?_);rintro e w1 ⟨rfl,hb1⟩;(have hA:=(((Blk.new _ _ _).alloc _).alloc _).drew.call hb1);(have hB:=((Blk.new _ _ _).alloc _).drew.call hb1);(have hC:=(Blk.new _ _ _).drew.call hb1);simp only [World.size_alloc]at hB hC;obtain⟨hc,hf⟩:=hA.walk;obtain⟨hc2,hf2⟩:=hB.walk;(have hg:=after (w:=w) (by go_grown) hb1);(have hs1:=hg.size))|(go_at_call 52;(with_reducible refine(y _).mono ?_);rintro e w2 ⟨rfl,hb2⟩;(have hA2:=hA.call hb2);(have hB2:=hB.call hb2);(have hC2:=hC.call hb2);obtain⟨hc3,hf3⟩:=hA2.walk;obtain⟨hc4,hf4⟩:=hB2.walk;(have hg2:=after hg hb2);(have hs2:=hg2.size)))
  all_goals (go_wp2_with fail;go_meet;exact⟨rfl,(Blk.put (a:=a) hA2 n).put_far (by omega) m,(Blk.put_far hB2 (by omega) n).put (a:=b) m,(Blk.put_far hC2 (by omega) n).put_far (by omega) m,Qe (Qe hg2 (by omega) _) (by omega) _⟩)
 obtain⟨rfl,hA,hB,hC,hg⟩:=hcut;obtain⟨hcA,hfA⟩:=hA.walk;obtain⟨hcB,hfB⟩:=hB.walk;obtain⟨hcC,hfC⟩:=hC.walk;have hs:=hg.size;have hz:w.heap.size+1+1 < wc.heap.size:=hC.lt;clear x y;obtain⟨ne,nt,nlo,nhi,nst⟩:=n;obtain⟨me,mt,mlo,mhi,mst⟩:=m
 try dsimp only at *
 simp only [Qd.cs]at hcA hcB hcC;rcases ho with ho|⟨ho,ho2⟩
 ·go_wp2_with (go_at_call 36;(with_reducible refine(Xy _).mono ?_);rintro e wk ⟨rfl,hb⟩;(first|(replace HB:=after HB hb)|(replace HB:=after (Qn HB _) hb)|(have HB:=hb));clear hcA hfA hcB hfB hcC hfC;obtain⟨hcA,hfA⟩:=(hA.call HB).walk;obtain⟨hcB,hfB⟩:=(hB.call HB).walk;obtain⟨hcC,hfC⟩:=(hC.call HB).walk;simp only [Qd.cs]at hcA hcB hcC)
  exact bodyPost_ret (v:=(Qp).val) (Qf rfl rfl ((hC.call HB).put (a:=Qs) Qp)) rfl ⟨rfl,Qe (after hg HB) (by omega) Qp⟩
 ·go_wp2_with (go_at_call 36;(with_reducible refine(Xy _).mono ?_);rintro e wk ⟨rfl,hb⟩;(first|(replace HB:=after HB hb)|(replace HB:=after (Qn HB _) hb)|(have HB:=hb));clear hcA hfA hcB hfB hcC hfC;obtain⟨hcA,hfA⟩:=(hA.call HB).walk;obtain⟨hcB,hfB⟩:=(hB.call HB).walk;obtain⟨hcC,hfC⟩:=(hC.call HB).walk;simp only [Qd.cs]at hcA hcB hcC)
  exact bodyPost_ret (v:=(Qp).val) (Qf rfl rfl ((hC.call HB).put (a:=Qs) Qp)) rfl ⟨rfl,Qe (after hg HB) (by omega) Qp⟩
set_option maxRecDepth 100000 in
set_option maxHeartbeats 8000000 in
theorem Qqq(op:Int)(o1:¬op < 3)(o2:¬15 < op)(a b n m:Qd)(he:n.e=true∨(n.e=false∧m.e=true))(x:∀w,Calls Tryz.prog 52 #[a.val] w (Ret n.val w))(y:∀w,Calls Tryz.prog 52 #[b.val] w (Ret m.val w))(w:World) :
 Calls Tryz.prog 35 #[.int .i64 op,a.val,b.val] w (Ret Qt.val w):=by
 go_enter Tryz.func35,Tryz.ntmps35
 go_upto_region 1 with fail
 go_cut [6] (fun s6 wx=>s6= .pointer (some ⟨w.heap.size+1+1,0,none⟩)∧Blk wx w.heap.size 34 n.cs∧Blk wx (w.heap.size+1) 34 m.cs∧Blk wx (w.heap.size+1+1) 34 Qs.cs∧Below w.heap.size w wx)
 case first=>
  go_region_with (first|(go_at_call 52;(with_reducible refine(x _).mono ?_);rintro e w1 ⟨rfl,hb1⟩;(have hA:=(((Blk.new _ _ _).alloc _).alloc _).drew.call hb1);(have hB:=((Blk.new _ _ _).alloc _).drew.call hb1);(have hC:=(Blk.new _ _ _).drew.call hb1);simp only [World.size_alloc]at hB hC;obtain⟨hc,hf⟩:=hA.walk;obtain⟨hc2,hf2⟩:=hB.walk;(have hg:=after (w:=w) (by go_grown) hb1);(have hs1:=hg.size))|(go_at_call 52;(with_reducible refine(y _).mono ?_);rintro e w2 ⟨rfl,hb2⟩;(have hA2:=hA.call hb2);(have hB2:=hB.call hb2);(have hC2:=hC.call hb2);obtain⟨hc3,hf3⟩:=hA2.walk;obtain⟨hc4,hf4⟩:=hB2.walk;(have hg2:=after hg hb2);(have hs2:=hg2.size)))
  all_goals (go_wp2_with fail;go_meet;exact⟨rfl,(Blk.put (a:=a) hA2 n).put_far (by omega) m,(Blk.put_far hB2 (by omega) n).put (a:=b) m,(Blk.put_far hC2 (by omega) n).put_far (by omega) m,Qe (Qe hg2 (by omega) _) (by omega) _⟩)
 obtain⟨rfl,hA,hB,hC,hg⟩:=hcut;obtain⟨hcA,hfA⟩:=hA.walk;obtain⟨hcB,hfB⟩:=hB.walk;obtain⟨hcC,hfC⟩:=hC.walk;have hs:=hg.size;have hz:w.heap.size+1+1 < wc.heap.size:=hC.lt;clear x y;obtain⟨ne,nt,nlo,nhi,nst⟩:=n;obtain⟨me,mt,mlo,mhi,mst⟩:=m
 try dsimp only at *
 simp only [Qd.cs]at hcA hcB hcC;rcases he with rfl|⟨rfl,rfl⟩
 ·go_wp2_with (go_at_call 32;(with_reducible refine(JZ _).mono ?_);rintro e wk ⟨rfl,hb⟩;(first|(replace HB:=after HB hb)|(replace HB:=after (Qn HB _) hb)|(have HB:=hb));clear hcA hfA hcB hfB hcC hfC;obtain⟨hcA,hfA⟩:=(hA.call HB).walk;obtain⟨hcB,hfB⟩:=(hB.call HB).walk;obtain⟨hcC,hfC⟩:=(hC.call HB).walk;simp only [Qd.cs]at hcA hcB hcC)
  exact bodyPost_ret (v:=(Qt).val) (Qf rfl rfl ((hC.call HB).put (a:=Qs) Qt)) rfl ⟨rfl,Qe (after hg HB) (by omega) Qt⟩
 ·go_wp2_with (go_at_call 32;(with_reducible refine(JZ _).mono ?_);rintro e wk ⟨rfl,hb⟩;(first|(replace HB:=after HB hb)|(replace HB:=after (Qn HB _) hb)|(have HB:=hb));clear hcA hfA hcB hfB hcC hfC;obtain⟨hcA,hfA⟩:=(hA.call HB).walk;obtain⟨hcB,hfB⟩:=(hB.call HB).walk;obtain⟨hcC,hfC⟩:=(hC.call HB).walk;simp only [Qd.cs]at hcA hcB hcC)
  exact bodyPost_ret (v:=(Qt).val) (Qf rfl rfl ((hC.call HB).put (a:=Qs) Qt)) rfl ⟨rfl,Qe (after hg HB) (by omega) Qt⟩
set_option maxRecDepth 100000 in
set_option maxHeartbeats 8000000 in
theorem Qt6(op:Int)(o1:¬op < 3)(o2:¬15 < op)(a b n m:Qd)(en:Hid (n.e=false))(em:Hid (m.e=false))(s1:∀w,Calls Tryz.prog 58 #[n.val] w (Ret (.bool true) w))(s2:∀w,Calls Tryz.prog 58 #[m.val] w (Ret (.bool true) w))(V:Int)
 (z:∀w,Calls Tryz.prog 59 #[.int .i64 op,.int .u32 n.lo,.int .u32 m.lo] w (Ret (.tuple #[.int .u32 V,.int .i64 0]) w)) (x:∀w,Calls Tryz.prog 52 #[a.val] w (Ret n.val w)) (y:∀w,Calls Tryz.prog 52 #[b.val] w (Ret m.val w)) (w:World) :
 Calls Tryz.prog 35 #[.int .i64 op,a.val,b.val] w (Ret (Zs V).val w):=by
 go_enter Tryz.func35,Tryz.ntmps35
 go_upto_region 1 with fail
 go_cut [6] (fun s6 wx=>s6= .pointer (some ⟨w.heap.size+1+1,0,none⟩)∧Blk wx w.heap.size 34 n.cs∧Blk wx (w.heap.size+1) 34 m.cs∧Blk wx (w.heap.size+1+1) 34 Qs.cs∧Below w.heap.size w wx)
 case first=>
  go_region_with (first|(go_at_call 52;(with_reducible refine(x _).mono ?_);rintro e w1 ⟨rfl,hb1⟩;(have hA:=(((Blk.new _ _ _).alloc _).alloc _).drew.call hb1);(have hB:=((Blk.new _ _ _).alloc _).drew.call hb1);(have hC:=(Blk.new _ _ _).drew.call hb1);simp only [World.size_alloc]at hB hC;obtain⟨hc,hf⟩:=hA.walk;obtain⟨hc2,hf2⟩:=hB.walk;(have hg:=after (w:=w) (by go_grown) hb1);(have hs1:=hg.size))|(go_at_call 52;(with_reducible refine(y _).mono ?_);rintro e w2 ⟨rfl,hb2⟩;(have hA2:=hA.call hb2);(have hB2:=hB.call hb2);(have hC2:=hC.call hb2);obtain⟨hc3,hf3⟩:=hA2.walk;obtain⟨hc4,hf4⟩:=hB2.walk;(have hg2:=after hg hb2);(have hs2:=hg2.size)))
  all_goals (go_wp2_with fail;go_meet;exact⟨rfl,(Blk.put (a:=a) hA2 n).put_far (by omega) m,(Blk.put_far hB2 (by omega) n).put (a:=b) m,(Blk.put_far hC2 (by omega) n).put_far (by omega) m,Qe (Qe hg2 (by omega) _) (by omega) _⟩)
 obtain⟨rfl,hA,hB,hC,hg⟩:=hcut;obtain⟨hcA,hfA⟩:=hA.walk;obtain⟨hcB,hfB⟩:=hB.walk;obtain⟨hcC,hfC⟩:=hC.walk;have hs:=hg.size;have hz:w.heap.size+1+1 < wc.heap.size:=hC.lt;clear x y;obtain⟨ne,nt,nlo,nhi,nst⟩:=n;obtain⟨me,mt,mlo,mhi,mst⟩:=m
 try dsimp only at *
 simp only [Qd.cs]at hcA hcB hcC;replace en:=en.out
 try dsimp only at en
 replace em:=em.out
 try dsimp only at em
 subst en em;simp only [Qd.val]at s1 s2
 go_wp2_with (first|(go_at_call 58;(with_reducible refine(s1 _).mono ?_);rintro e wk ⟨rfl,hb⟩;(first|(replace HB:=after HB hb)|(replace HB:=after (Qn HB _) hb)|(have HB:=hb));clear hcA hfA hcB hfB hcC hfC;obtain⟨hcA,hfA⟩:=(hA.call HB).walk;obtain⟨hcB,hfB⟩:=(hB.call HB).walk;obtain⟨hcC,hfC⟩:=(hC.call HB).walk;simp only [Qd.cs]at hcA hcB hcC)|(go_at_call 58;(with_reducible refine(s2 _).mono ?_);rintro e wk ⟨rfl,hb⟩;(first|(replace HB:=after HB hb)|(replace HB:=after (Qn HB _) hb)|(have HB:=hb));clear hcA hfA hcB hfB hcC hfC;obtain⟨hcA,hfA⟩:=(hA.call HB).walk;obtain⟨hcB,hfB⟩:=(hB.call HB).walk;obtain⟨hcC,hfC⟩:=(hC.call HB).walk;simp only [Qd.cs]at hcA hcB hcC)|(go_at_call 59;(with_reducible refine(z _).mono ?_);rintro e wk ⟨rfl,hb⟩;(first|(replace HB:=after HB hb)|(replace HB:=after (Qn HB _) hb)|(have HB:=hb));clear hcA hfA hcB hfB hcC hfC;obtain⟨hcA,hfA⟩:=(hA.call HB).walk;obtain⟨hcB,hfB⟩:=(hB.call HB).walk;obtain⟨hcC,hfC⟩:=(hC.call HB).walk;simp only [Qd.cs]at hcA hcB hcC)|(go_at_call 29;(with_reducible refine(WG _ _).mono ?_);rintro e wk ⟨rfl,hb⟩;(first|(replace HB:=after HB hb)|(replace HB:=after (Qn HB _) hb)|(have HB:=hb));clear hcA hfA hcB hfB hcC hfC;obtain⟨hcA,hfA⟩:=(hA.call HB).walk;obtain⟨hcB,hfB⟩:=(hB.call HB).walk;obtain⟨hcC,hfC⟩:=(hC.call HB).walk;simp only [Qd.cs]at hcA hcB hcC))
 exact bodyPost_ret (v:=((Zs V)).val) (Qf rfl rfl ((hC.call HB).put (a:=Qs) (Zs V))) rfl ⟨rfl,Qe (after hg HB) (by omega) (Zs V)⟩
set_option maxRecDepth 100000 in
set_option maxHeartbeats 8000000 in
theorem Qt4(op:Int)(ho:op=12∨op=13∨op=14∨op=15)(a b n m:Qd)(en:Hid (n.e=false))(em:Hid (m.e=false))(sn sm:Bool)(s1:∀w,Calls Tryz.prog 58 #[n.val] w (Ret (.bool sn) w))(s2:∀w,Calls Tryz.prog 58 #[m.val] w (Ret (.bool sm) w))(hss:Hid ((sn && sm)=false))(x:∀w,Calls Tryz.prog 52 #[a.val] w (Ret n.val w))(y:∀w,Calls Tryz.prog 52 #[b.val] w (Ret m.val w))(w:World) :
 Calls Tryz.prog 35 #[.int .i64 op,a.val,b.val] w (Ret (Qj 0 1 1).val w):=by
 have B:=Z8 0 1 1 (by omega) (by omega) (by omega) (by omega) (by omega) (by omega)
 generalize Qj 0 1 1=R at *
 go_enter Tryz.func35,Tryz.ntmps35
 go_upto_region 1 with fail
 go_cut [6] (fun s6 wx=>s6= .pointer (some ⟨w.heap.size+1+1,0,none⟩)∧Blk wx w.heap.size 34 n.cs∧Blk wx (w.heap.size+1) 34 m.cs∧Blk wx (w.heap.size+1+1) 34 Qs.cs∧Below w.heap.size w wx)
 case first=>
  go_region_with (first|(go_at_call 52;(with_reducible refine(x _).mono ?_);rintro e w1 ⟨rfl,hb1⟩;(have hA:=(((Blk.new _ _ _).alloc _).alloc _).drew.call hb1);(have hB:=((Blk.new _ _ _).alloc _).drew.call hb1);(have hC:=(Blk.new _ _ _).drew.call hb1);simp only [World.size_alloc]at hB hC;obtain⟨hc,hf⟩:=hA.walk;obtain⟨hc2,hf2⟩:=hB.walk;(have hg:=after (w:=w) (by go_grown) hb1);(have hs1:=hg.size))|(go_at_call 52;(with_reducible refine(y _).mono ?_);rintro e w2 ⟨rfl,hb2⟩;(have hA2:=hA.call hb2);(have hB2:=hB.call hb2);(have hC2:=hC.call hb2);obtain⟨hc3,hf3⟩:=hA2.walk;obtain⟨hc4,hf4⟩:=hB2.walk;(have hg2:=after hg hb2);(have hs2:=hg2.size)))
  all_goals (go_wp2_with fail;go_meet;exact⟨rfl,(Blk.put (a:=a) hA2 n).put_far (by omega) m,(Blk.put_far hB2 (by omega) n).put (a:=b) m,(Blk.put_far hC2 (by omega) n).put_far (by omega) m,Qe (Qe hg2 (by omega) _) (by omega) _⟩)
 obtain⟨rfl,hA,hB,hC,hg⟩:=hcut;obtain⟨hcA,hfA⟩:=hA.walk;obtain⟨hcB,hfB⟩:=hB.walk;obtain⟨hcC,hfC⟩:=hC.walk;have hs:=hg.size;have hz:w.heap.size+1+1 < wc.heap.size:=hC.lt;clear x y;obtain⟨ne,nt,nlo,nhi,nst⟩:=n;obtain⟨me,mt,mlo,mhi,mst⟩:=m
 try dsimp only at *
 simp only [Qd.cs]at hcA hcB hcC;replace en:=en.out
 try dsimp only at en
 replace em:=em.out
 try dsimp only at em
 subst en em;simp only [Qd.val]at s1 s2;have hs':=hss.out;rcases ho with rfl|rfl|rfl|rfl
 all_goals
  cases sn
  all_goals
   (try cases sm)
   all_goals first
    |(exfalso;simp at hs';done)
    |(clear hs'
      go_wp2_with (first|(go_at_call 58;(with_reducible refine(s1 _).mono ?_);rintro e wk ⟨rfl,hb⟩;(first|(replace HB:=after HB hb)|(replace HB:=after (Qn HB _) hb)|(have HB:=hb));clear hcA hfA hcB hfB hcC hfC;obtain⟨hcA,hfA⟩:=(hA.call HB).walk;obtain⟨hcB,hfB⟩:=(hB.call HB).walk;obtain⟨hcC,hfC⟩:=(hC.call HB).walk;simp only [Qd.cs]at hcA hcB hcC)|(go_at_call 58;(with_reducible refine(s2 _).mono ?_);rintro e wk ⟨rfl,hb⟩;(first|(replace HB:=after HB hb)|(replace HB:=after (Qn HB _) hb)|(have HB:=hb));clear hcA hfA hcB hfB hcC hfC;obtain⟨hcA,hfA⟩:=(hA.call HB).walk;obtain⟨hcB,hfB⟩:=(hB.call HB).walk;obtain⟨hcC,hfC⟩:=(hC.call HB).walk;simp only [Qd.cs]at hcA hcB hcC)|(go_at_call 31;(with_reducible refine(B _).mono ?_);rintro e wk ⟨rfl,hb⟩;(first|(replace HB:=after HB hb)|(replace HB:=after (Qn HB _) hb)|(have HB:=hb));clear hcA hfA hcB hfB hcC hfC;obtain⟨hcA,hfA⟩:=(hA.call HB).walk;obtain⟨hcB,hfB⟩:=(hB.call HB).walk;obtain⟨hcC,hfC⟩:=(hC.call HB).walk;simp only [Qd.cs]at hcA hcB hcC))
      exact bodyPost_ret (v:=(R).val) (Qf rfl rfl ((hC.call HB).put (a:=Qs) R)) rfl ⟨rfl,Qe (after hg HB) (by omega) R⟩
      )
set_option maxRecDepth 100000 in
set_option maxHeartbeats 8000000 in
theorem QtB(op:Int)(ho:op=7∨op=8∨op=11)(a b n m:Qd)(en:Hid (n.e=false))(em:Hid (m.e=false))(sn sm:Bool)(s1:∀w,Calls Tryz.prog 58 #[n.val] w (Ret (.bool sn) w))(s2:∀w,Calls Tryz.prog 58 #[m.val] w (Ret (.bool sm) w))(hss:Hid ((sn && sm)=false))(x:∀w,Calls Tryz.prog 52 #[a.val] w (Ret n.val w))(y:∀w,Calls Tryz.prog 52 #[b.val] w (Ret m.val w))(w:World) :
 Calls Tryz.prog 35 #[.int .i64 op,a.val,b.val] w (Ret Qp.val w):=by
 go_enter Tryz.func35,Tryz.ntmps35
 go_upto_region 1 with fail
 go_cut [6] (fun s6 wx=>s6= .pointer (some ⟨w.heap.size+1+1,0,none⟩)∧Blk wx w.heap.size 34 n.cs∧Blk wx (w.heap.size+1) 34 m.cs∧Blk wx (w.heap.size+1+1) 34 Qs.cs∧Below w.heap.size w wx)
 case first=>
  go_region_with (first|(go_at_call 52;(with_reducible refine(x _).mono ?_);rintro e w1 ⟨rfl,hb1⟩;(have hA:=(((Blk.new _ _ _).alloc _).alloc _).drew.call hb1);(have hB:=((Blk.new _ _ _).alloc _).drew.call hb1);(have hC:=(Blk.new _ _ _).drew.call hb1);simp only [World.size_alloc]at hB hC;obtain⟨hc,hf⟩:=hA.walk;obtain⟨hc2,hf2⟩:=hB.walk;(have hg:=after (w:=w) (by go_grown) hb1);(have hs1:=hg.size))|(go_at_call 52;(with_reducible refine(y _).mono ?_);rintro e w2 ⟨rfl,hb2⟩;(have hA2:=hA.call hb2);(have hB2:=hB.call hb2);(have hC2:=hC.call hb2);obtain⟨hc3,hf3⟩:=hA2.walk;obtain⟨hc4,hf4⟩:=hB2.walk;(have hg2:=after hg hb2);(have hs2:=hg2.size)))
  all_goals (go_wp2_with fail;go_meet;exact⟨rfl,(Blk.put (a:=a) hA2 n).put_far (by omega) m,(Blk.put_far hB2 (by omega) n).put (a:=b) m,(Blk.put_far hC2 (by omega) n).put_far (by omega) m,Qe (Qe hg2 (by omega) _) (by omega) _⟩)
 obtain⟨rfl,hA,hB,hC,hg⟩:=hcut;obtain⟨hcA,hfA⟩:=hA.walk;obtain⟨hcB,hfB⟩:=hB.walk;obtain⟨hcC,hfC⟩:=hC.walk;have hs:=hg.size;have hz:w.heap.size+1+1 < wc.heap.size:=hC.lt;clear x y;obtain⟨ne,nt,nlo,nhi,nst⟩:=n;obtain⟨me,mt,mlo,mhi,mst⟩:=m
 try dsimp only at *
 simp only [Qd.cs]at hcA hcB hcC;replace en:=en.out
 try dsimp only at en
 replace em:=em.out
 try dsimp only at em
 subst en em;simp only [Qd.val]at s1 s2;have hs':=hss.out;rcases ho with rfl|rfl|rfl
 all_goals
  cases sn
  all_goals
   cases sm
   all_goals first
    |(exfalso;simp at hs';done)
    |(clear hs'
      go_wp2_with (first|(go_at_call 58;(with_reducible refine(s1 _).mono ?_);rintro e wk ⟨rfl,hb⟩;(first|(replace HB:=after HB hb)|(replace HB:=after (Qn HB _) hb)|(have HB:=hb));clear hcA hfA hcB hfB hcC hfC;obtain⟨hcA,hfA⟩:=(hA.call HB).walk;obtain⟨hcB,hfB⟩:=(hB.call HB).walk;obtain⟨hcC,hfC⟩:=(hC.call HB).walk;simp only [Qd.cs]at hcA hcB hcC)|(go_at_call 58;(with_reducible refine(s2 _).mono ?_);rintro e wk ⟨rfl,hb⟩;(first|(replace HB:=after HB hb)|(replace HB:=after (Qn HB _) hb)|(have HB:=hb));clear hcA hfA hcB hfB hcC hfC;obtain⟨hcA,hfA⟩:=(hA.call HB).walk;obtain⟨hcB,hfB⟩:=(hB.call HB).walk;obtain⟨hcC,hfC⟩:=(hC.call HB).walk;simp only [Qd.cs]at hcA hcB hcC)|(go_at_call 36;(with_reducible refine(Xy _).mono ?_);rintro e wk ⟨rfl,hb⟩;(first|(replace HB:=after HB hb)|(replace HB:=after (Qn HB _) hb)|(have HB:=hb));clear hcA hfA hcB hfB hcC hfC;obtain⟨hcA,hfA⟩:=(hA.call HB).walk;obtain⟨hcB,hfB⟩:=(hB.call HB).walk;obtain⟨hcC,hfC⟩:=(hC.call HB).walk;simp only [Qd.cs]at hcA hcB hcC))
      exact bodyPost_ret (v:=(Qp).val) (Qf rfl rfl ((hC.call HB).put (a:=Qs) Qp)) rfl ⟨rfl,Qe (after hg HB) (by omega) Qp⟩
      )
set_option maxRecDepth 100000 in
set_option maxHeartbeats 8000000 in
theorem Qsk(op:Int)(ho:op=5∨op=9∨op=6∨op=10)(a b n m:Qd)(en:Hid (n.e=false))(em:Hid (m.e=false))(sn:Bool)(s1:∀w,Calls Tryz.prog 58 #[n.val] w (Ret (.bool sn) w))(s2:∀w,Calls Tryz.prog 58 #[m.val] w (Ret (.bool false) w))(x:∀w,Calls Tryz.prog 52 #[a.val] w (Ret n.val w))(y:∀w,Calls Tryz.prog 52 #[b.val] w (Ret m.val w))(w:World) :
 Calls Tryz.prog 35 #[.int .i64 op,a.val,b.val] w (Ret Qp.val w):=by
 go_enter Tryz.func35,Tryz.ntmps35
 go_upto_region 1 with fail
 go_cut [6] (fun s6 wx=>s6= .pointer (some ⟨w.heap.size+1+1,0,none⟩)∧Blk wx w.heap.size 34 n.cs∧Blk wx (w.heap.size+1) 34 m.cs∧Blk wx (w.heap.size+1+1) 34 Qs.cs∧Below w.heap.size w wx)
 case first=>
  go_region_with (first|(go_at_call 52;(with_reducible refine(x _).mono ?_);rintro e w1 ⟨rfl,hb1⟩;(have hA:=(((Blk.new _ _ _).alloc _).alloc _).drew.call hb1);(have hB:=((Blk.new _ _ _).alloc _).drew.call hb1);(have hC:=(Blk.new _ _ _).drew.call hb1);simp only [World.size_alloc]at hB hC;obtain⟨hc,hf⟩:=hA.walk;obtain⟨hc2,hf2⟩:=hB.walk;(have hg:=after (w:=w) (by go_grown) hb1);(have hs1:=hg.size))|(go_at_call 52;(with_reducible refine(y _).mono ?_);rintro e w2 ⟨rfl,hb2⟩;(have hA2:=hA.call hb2);(have hB2:=hB.call hb2);(have hC2:=hC.call hb2);obtain⟨hc3,hf3⟩:=hA2.walk;obtain⟨hc4,hf4⟩:=hB2.walk;(have hg2:=after hg hb2);(have hs2:=hg2.size)))
  all_goals (go_wp2_with fail;go_meet;exact⟨rfl,(Blk.put (a:=a) hA2 n).put_far (by omega) m,(Blk.put_far hB2 (by omega) n).put (a:=b) m,(Blk.put_far hC2 (by omega) n).put_far (by omega) m,Qe (Qe hg2 (by omega) _) (by omega) _⟩)
 obtain⟨rfl,hA,hB,hC,hg⟩:=hcut;obtain⟨hcA,hfA⟩:=hA.walk;obtain⟨hcB,hfB⟩:=hB.walk;obtain⟨hcC,hfC⟩:=hC.walk;have hs:=hg.size;have hz:w.heap.size+1+1 < wc.heap.size:=hC.lt;clear x y;obtain⟨ne,nt,nlo,nhi,nst⟩:=n;obtain⟨me,mt,mlo,mhi,mst⟩:=m
 try dsimp only at *
 simp only [Qd.cs]at hcA hcB hcC;replace en:=en.out
 try dsimp only at en
 replace em:=em.out
 try dsimp only at em
 subst en em;simp only [Qd.val]at s1 s2;rcases ho with rfl|rfl|rfl|rfl
 all_goals
  cases sn
  all_goals
   go_wp2_with (first|(go_at_call 58;(with_reducible refine(s1 _).mono ?_);rintro e wk ⟨rfl,hb⟩;(first|(replace HB:=after HB hb)|(replace HB:=after (Qn HB _) hb)|(have HB:=hb));clear hcA hfA hcB hfB hcC hfC;obtain⟨hcA,hfA⟩:=(hA.call HB).walk;obtain⟨hcB,hfB⟩:=(hB.call HB).walk;obtain⟨hcC,hfC⟩:=(hC.call HB).walk;simp only [Qd.cs]at hcA hcB hcC)|(go_at_call 58;(with_reducible refine(s2 _).mono ?_);rintro e wk ⟨rfl,hb⟩;(first|(replace HB:=after HB hb)|(replace HB:=after (Qn HB _) hb)|(have HB:=hb));clear hcA hfA hcB hfB hcC hfC;obtain⟨hcA,hfA⟩:=(hA.call HB).walk;obtain⟨hcB,hfB⟩:=(hB.call HB).walk;obtain⟨hcC,hfC⟩:=(hC.call HB).walk;simp only [Qd.cs]at hcA hcB hcC)|(go_at_call 36;(with_reducible refine(Xy _).mono ?_);rintro e wk ⟨rfl,hb⟩;(first|(replace HB:=after HB hb)|(replace HB:=after (Qn HB _) hb)|(have HB:=hb));clear hcA hfA hcB hfB hcC hfC;obtain⟨hcA,hfA⟩:=(hA.call HB).walk;obtain⟨hcB,hfB⟩:=(hB.call HB).walk;obtain⟨hcC,hfC⟩:=(hC.call HB).walk;simp only [Qd.cs]at hcA hcB hcC))
   exact bodyPost_ret (v:=(Qp).val) (Qf rfl rfl ((hC.call HB).put (a:=Qs) Qp)) rfl ⟨rfl,Qe (after hg HB) (by omega) Qp⟩
set_option maxRecDepth 100000 in
set_option maxHeartbeats 8000000 in
theorem Qt5(a b n m:Qd)(en:Hid (n.e=false))(em:Hid (m.e=false))(s1:∀w,Calls Tryz.prog 58 #[n.val] w (Ret (.bool false) w))(s2:∀w,Calls Tryz.prog 58 #[m.val] w (Ret (.bool true) w))(R:Qd)(z:∀w,Calls Tryz.prog 61 #[n.val,.int .u32 m.lo] w (Ret R.val w))(x:∀w,Calls Tryz.prog 52 #[a.val] w (Ret n.val w))(y:∀w,Calls Tryz.prog 52 #[b.val] w (Ret m.val w))(w:World) :
 Calls Tryz.prog 35 #[.int .i64 5,a.val,b.val] w (Ret R.val w):=by
 go_enter Tryz.func35,Tryz.ntmps35
 go_upto_region 1 with fail
 go_cut [6] (fun s6 wx=>s6= .pointer (some ⟨w.heap.size+1+1,0,none⟩)∧Blk wx w.heap.size 34 n.cs∧Blk wx (w.heap.size+1) 34 m.cs∧Blk wx (w.heap.size+1+1) 34 Qs.cs∧Below w.heap.size w wx)
 case first=>
  go_region_with (first|(go_at_call 52;(with_reducible refine(x _).mono ?_);rintro e w1 ⟨rfl,hb1⟩;(have hA:=(((Blk.new _ _ _).alloc _).alloc _).drew.call hb1);(have hB:=((Blk.new _ _ _).alloc _).drew.call hb1);(have hC:=(Blk.new _ _ _).drew.call hb1);simp only [World.size_alloc]at hB hC;obtain⟨hc,hf⟩:=hA.walk;obtain⟨hc2,hf2⟩:=hB.walk;(have hg:=after (w:=w) (by go_grown) hb1);(have hs1:=hg.size))|(go_at_call 52;(with_reducible refine(y _).mono ?_);rintro e w2 ⟨rfl,hb2⟩;(have hA2:=hA.call hb2);(have hB2:=hB.call hb2);(have hC2:=hC.call hb2);obtain⟨hc3,hf3⟩:=hA2.walk;obtain⟨hc4,hf4⟩:=hB2.walk;(have hg2:=after hg hb2);(have hs2:=hg2.size)))
  all_goals (go_wp2_with fail;go_meet;exact⟨rfl,(Blk.put (a:=a) hA2 n).put_far (by omega) m,(Blk.put_far hB2 (by omega) n).put (a:=b) m,(Blk.put_far hC2 (by omega) n).put_far (by omega) m,Qe (Qe hg2 (by omega) _) (by omega) _⟩)
 obtain⟨rfl,hA,hB,hC,hg⟩:=hcut;obtain⟨hcA,hfA⟩:=hA.walk;obtain⟨hcB,hfB⟩:=hB.walk;obtain⟨hcC,hfC⟩:=hC.walk;have hs:=hg.size;have hz:w.heap.size+1+1 < wc.heap.size:=hC.lt;clear x y;obtain⟨ne,nt,nlo,nhi,nst⟩:=n;obtain⟨me,mt,mlo,mhi,mst⟩:=m
 try dsimp only at *
 simp only [Qd.cs]at hcA hcB hcC;replace en:=en.out
 try dsimp only at en
 replace em:=em.out
 try dsimp only at em
 subst en em;simp only [Qd.val]at s1 s2 z
 go_wp2_with (first|(go_at_call 58;(with_reducible refine(s1 _).mono ?_);rintro e wk ⟨rfl,hb⟩;(first|(replace HB:=after HB hb)|(replace HB:=after (Qn HB _) hb)|(have HB:=hb));clear hcA hfA hcB hfB hcC hfC;obtain⟨hcA,hfA⟩:=(hA.call HB).walk;obtain⟨hcB,hfB⟩:=(hB.call HB).walk;obtain⟨hcC,hfC⟩:=(hC.call HB).walk;simp only [Qd.cs]at hcA hcB hcC)|(go_at_call 58;(with_reducible refine(s2 _).mono ?_);rintro e wk ⟨rfl,hb⟩;(first|(replace HB:=after HB hb)|(replace HB:=after (Qn HB _) hb)|(have HB:=hb));clear hcA hfA hcB hfB hcC hfC;obtain⟨hcA,hfA⟩:=(hA.call HB).walk;obtain⟨hcB,hfB⟩:=(hB.call HB).walk;obtain⟨hcC,hfC⟩:=(hC.call HB).walk;simp only [Qd.cs]at hcA hcB hcC)|(go_at_call 61;(with_reducible refine(z _).mono ?_);rintro e wk ⟨rfl,hb⟩;(first|(replace HB:=after HB hb)|(replace HB:=after (Qn HB _) hb)|(have HB:=hb));clear hcA hfA hcB hfB hcC hfC;obtain⟨hcA,hfA⟩:=(hA.call HB).walk;obtain⟨hcB,hfB⟩:=(hB.call HB).walk;obtain⟨hcC,hfC⟩:=(hC.call HB).walk;simp only [Qd.cs]at hcA hcB hcC))
 exact bodyPost_ret (v:=(R).val) (Qf rfl rfl ((hC.call HB).put (a:=Qs) R)) rfl ⟨rfl,Qe (after hg HB) (by omega) R⟩
set_option maxRecDepth 100000 in
set_option maxHeartbeats 8000000 in
theorem Qt3(a b n m:Qd)(en:Hid (n.e=false))(em:Hid (m.e=false))(s1:∀w,Calls Tryz.prog 58 #[n.val] w (Ret (.bool false) w))(s2:∀w,Calls Tryz.prog 58 #[m.val] w (Ret (.bool true) w))(R:Qd)(z:∀w,Calls Tryz.prog 63 #[n.val,.int .u32 m.lo] w (Ret R.val w))(x:∀w,Calls Tryz.prog 52 #[a.val] w (Ret n.val w))(y:∀w,Calls Tryz.prog 52 #[b.val] w (Ret m.val w))(w:World) :
 Calls Tryz.prog 35 #[.int .i64 6,a.val,b.val] w (Ret R.val w):=by
 go_enter Tryz.func35,Tryz.ntmps35
 go_upto_region 1 with fail
 go_cut [6] (fun s6 wx=>s6= .pointer (some ⟨w.heap.size+1+1,0,none⟩)∧Blk wx w.heap.size 34 n.cs∧Blk wx (w.heap.size+1) 34 m.cs∧Blk wx (w.heap.size+1+1) 34 Qs.cs∧Below w.heap.size w wx)
 case first=>
  go_region_with (first|(go_at_call 52;(with_reducible refine(x _).mono ?_);rintro e w1 ⟨rfl,hb1⟩;(have hA:=(((Blk.new _ _ _).alloc _).alloc _).drew.call hb1);(have hB:=((Blk.new _ _ _).alloc _).drew.call hb1);(have hC:=(Blk.new _ _ _).drew.call hb1);simp only [World.size_alloc]at hB hC;obtain⟨hc,hf⟩:=hA.walk;obtain⟨hc2,hf2⟩:=hB.walk;(have hg:=after (w:=w) (by go_grown) hb1);(have hs1:=hg.size))|(go_at_call 52;(with_reducible refine(y _).mono ?_);rintro e w2 ⟨rfl,hb2⟩;(have hA2:=hA.call hb2);(have hB2:=hB.call hb2);(have hC2:=hC.call hb2);obtain⟨hc3,hf3⟩:=hA2.walk;obtain⟨hc4,hf4⟩:=hB2.walk;(have hg2:=after hg hb2);(have hs2:=hg2.size)))
  all_goals (go_wp2_with fail;go_meet;exact⟨rfl,(Blk.put (a:=a) hA2 n).put_far (by omega) m,(Blk.put_far hB2 (by omega) n).put (a:=b) m,(Blk.put_far hC2 (by omega) n).put_far (by omega) m,Qe (Qe hg2 (by omega) _) (by omega) _⟩)
 obtain⟨rfl,hA,hB,hC,hg⟩:=hcut;obtain⟨hcA,hfA⟩:=hA.walk;obtain⟨hcB,hfB⟩:=hB.walk;obtain⟨hcC,hfC⟩:=hC.walk;have hs:=hg.size;have hz:w.heap.size+1+1 < wc.heap.size:=hC.lt;clear x y;obtain⟨ne,nt,nlo,nhi,nst⟩:=n;obtain⟨me,mt,mlo,mhi,mst⟩:=m
 try dsimp only at *
 simp only [Qd.cs]at hcA hcB hcC;replace en:=en.out
 try dsimp only at en
 replace em:=em.out
 try dsimp only at em
 subst en em;simp only [Qd.val]at s1 s2 z
 go_wp2_with (first|(go_at_call 58;(with_reducible refine(s1 _).mono ?_);rintro e wk ⟨rfl,hb⟩;(first|(replace HB:=after HB hb)|(replace HB:=after (Qn HB _) hb)|(have HB:=hb));clear hcA hfA hcB hfB hcC hfC;obtain⟨hcA,hfA⟩:=(hA.call HB).walk;obtain⟨hcB,hfB⟩:=(hB.call HB).walk;obtain⟨hcC,hfC⟩:=(hC.call HB).walk;simp only [Qd.cs]at hcA hcB hcC)|(go_at_call 58;(with_reducible refine(s2 _).mono ?_);rintro e wk ⟨rfl,hb⟩;(first|(replace HB:=after HB hb)|(replace HB:=after (Qn HB _) hb)|(have HB:=hb));clear hcA hfA hcB hfB hcC hfC;obtain⟨hcA,hfA⟩:=(hA.call HB).walk;obtain⟨hcB,hfB⟩:=(hB.call HB).walk;obtain⟨hcC,hfC⟩:=(hC.call HB).walk;simp only [Qd.cs]at hcA hcB hcC)|(go_at_call 63;(with_reducible refine(z _).mono ?_);rintro e wk ⟨rfl,hb⟩;(first|(replace HB:=after HB hb)|(replace HB:=after (Qn HB _) hb)|(have HB:=hb));clear hcA hfA hcB hfB hcC hfC;obtain⟨hcA,hfA⟩:=(hA.call HB).walk;obtain⟨hcB,hfB⟩:=(hB.call HB).walk;obtain⟨hcC,hfC⟩:=(hC.call HB).walk;simp only [Qd.cs]at hcA hcB hcC))
 exact bodyPost_ret (v:=(R).val) (Qf rfl rfl ((hC.call HB).put (a:=Qs) R)) rfl ⟨rfl,Qe (after hg HB) (by omega) R⟩
set_option maxRecDepth 100000 in
set_option maxHeartbeats 8000000 in
theorem Qky(a b n m:Qd)(en:Hid (n.e=false))(em:Hid (m.e=false))(tn:Hid (n.t=true))(s1:∀w,Calls Tryz.prog 58 #[n.val] w (Ret (.bool false) w))(s2:∀w,Calls Tryz.prog 58 #[m.val] w (Ret (.bool true) w))(x:∀w,Calls Tryz.prog 52 #[a.val] w (Ret n.val w))(y:∀w,Calls Tryz.prog 52 #[b.val] w (Ret m.val w))(w:World) :
 Calls Tryz.prog 35 #[.int .i64 10,a.val,b.val] w (Ret Qp.val w):=by
 go_enter Tryz.func35,Tryz.ntmps35
 go_upto_region 1 with fail
 go_cut [6] (fun s6 wx=>s6= .pointer (some ⟨w.heap.size+1+1,0,none⟩)∧Blk wx w.heap.size 34 n.cs∧Blk wx (w.heap.size+1) 34 m.cs∧Blk wx (w.heap.size+1+1) 34 Qs.cs∧Below w.heap.size w wx)
 case first=>
  go_region_with (first|(go_at_call 52;(with_reducible refine(x _).mono ?_);rintro e w1 ⟨rfl,hb1⟩;(have hA:=(((Blk.new _ _ _).alloc _).alloc _).drew.call hb1);(have hB:=((Blk.new _ _ _).alloc _).drew.call hb1);(have hC:=(Blk.new _ _ _).drew.call hb1);simp only [World.size_alloc]at hB hC;obtain⟨hc,hf⟩:=hA.walk;obtain⟨hc2,hf2⟩:=hB.walk;(have hg:=after (w:=w) (by go_grown) hb1);(have hs1:=hg.size))|(go_at_call 52;(with_reducible refine(y _).mono ?_);rintro e w2 ⟨rfl,hb2⟩;(have hA2:=hA.call hb2);(have hB2:=hB.call hb2);(have hC2:=hC.call hb2);obtain⟨hc3,hf3⟩:=hA2.walk;obtain⟨hc4,hf4⟩:=hB2.walk;(have hg2:=after hg hb2);(have hs2:=hg2.size)))
  all_goals (go_wp2_with fail;go_meet;exact⟨rfl,(Blk.put (a:=a) hA2 n).put_far (by omega) m,(Blk.put_far hB2 (by omega) n).put (a:=b) m,(Blk.put_far hC2 (by omega) n).put_far (by omega) m,Qe (Qe hg2 (by omega) _) (by omega) _⟩)
 obtain⟨rfl,hA,hB,hC,hg⟩:=hcut;obtain⟨hcA,hfA⟩:=hA.walk;obtain⟨hcB,hfB⟩:=hB.walk;obtain⟨hcC,hfC⟩:=hC.walk;have hs:=hg.size;have hz:w.heap.size+1+1 < wc.heap.size:=hC.lt;clear x y;obtain⟨ne,nt,nlo,nhi,nst⟩:=n;obtain⟨me,mt,mlo,mhi,mst⟩:=m
 try dsimp only at *
 simp only [Qd.cs]at hcA hcB hcC;replace en:=en.out
 try dsimp only at en
 replace em:=em.out
 try dsimp only at em
 subst en em;replace tn:=tn.out
 try dsimp only at tn
 subst tn;simp only [Qd.val]at s1 s2
 go_wp2_with (first|(go_at_call 58;(with_reducible refine(s1 _).mono ?_);rintro e wk ⟨rfl,hb⟩;(first|(replace HB:=after HB hb)|(replace HB:=after (Qn HB _) hb)|(have HB:=hb));clear hcA hfA hcB hfB hcC hfC;obtain⟨hcA,hfA⟩:=(hA.call HB).walk;obtain⟨hcB,hfB⟩:=(hB.call HB).walk;obtain⟨hcC,hfC⟩:=(hC.call HB).walk;simp only [Qd.cs]at hcA hcB hcC)|(go_at_call 58;(with_reducible refine(s2 _).mono ?_);rintro e wk ⟨rfl,hb⟩;(first|(replace HB:=after HB hb)|(replace HB:=after (Qn HB _) hb)|(have HB:=hb));clear hcA hfA hcB hfB hcC hfC;obtain⟨hcA,hfA⟩:=(hA.call HB).walk;obtain⟨hcB,hfB⟩:=(hB.call HB).walk;obtain⟨hcC,hfC⟩:=(hC.call HB).walk;simp only [Qd.cs]at hcA hcB hcC)|(go_at_call 36;(with_reducible refine(Xy _).mono ?_);rintro e wk ⟨rfl,hb⟩;(first|(replace HB:=after HB hb)|(replace HB:=after (Qn HB _) hb)|(have HB:=hb));clear hcA hfA hcB hfB hcC hfC;obtain⟨hcA,hfA⟩:=(hA.call HB).walk;obtain⟨hcB,hfB⟩:=(hB.call HB).walk;obtain⟨hcC,hfC⟩:=(hC.call HB).walk;simp only [Qd.cs]at hcA hcB hcC))
 exact bodyPost_ret (v:=(Qp).val) (Qf rfl rfl ((hC.call HB).put (a:=Qs) Qp)) rfl ⟨rfl,Qe (after hg HB) (by omega) Qp⟩
end Go.Proofs.YteplnamfpodmlaaGreat
