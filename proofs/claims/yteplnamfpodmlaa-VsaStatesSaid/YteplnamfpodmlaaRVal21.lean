/-
  Part of the proof.
-/
import Derived.Test.YteplnamfpodmlaaRVaB
set_option linter.unusedVariables false
set_option linter.unusedSimpArgs false
set_option maxRecDepth 100000
open Go.ChangeShapes Go.WideShapes Go.ChangeAt Go.RowKit
namespace Go.Proofs.Yteplnamfpodmlaa
set_option maxRecDepth 100000 in
set_option maxHeartbeats 8000000 in
theorem Qyw(op:Int)(ho:op=5∨op=9∨op=6∨op=10)(a b n m:Qd)(en:Hid (n.e=false))(em:Hid (m.e=false))(hs:Hid (m.t=true∨(m.t=false∧(m.st==0)=false)))
 (x:∀w,Calls Try.prog 96 #[a.val] w (Ret n.val w)) (y:∀w,Calls Try.prog 96 #[b.val] w (Ret m.val w)) (w:World) :
 Calls Try.prog 60 #[.int .i64 op,a.val,b.val] w (Ret Qy.val w):=by
 go_enter Try.func60,Try.ntmps60
 go_upto_region 1 with fail
 go_cut [6] (fun s6 wx=>s6= .pointer (some ⟨w.heap.size+1+1,0,none⟩)∧Blk wx w.heap.size 34 n.cs∧Blk wx (w.heap.size+1) 34 b.cs∧Blk wx (w.heap.size+1+1) 34 QV.cs∧Below w.heap.size w wx)
 case first=>
  go_wp2_with (go_at_call 96;(with_reducible refine(x _).mono ?_);rintro e w1 ⟨rfl,hb1⟩;(have hA1:=(((Blk.new _ _ _).alloc _).alloc _).call hb1);(have hB1:=((Blk.new _ _ _).alloc _).call hb1);(have hC1:=(Blk.new _ _ _).call hb1);simp only [World.size_alloc]at hB1 hC1;obtain⟨hc1,hf1⟩:=hA1.walk;obtain⟨hc2,hf2⟩:=hB1.walk;(have hg1:=after (w:=w) (by go_grown) hb1);(have hs1:=hg1.size);(have hz1:w.heap.size+1+1 < w1.heap.size:=hC1.lt))
  go_meet
  exact⟨rfl,Blk.put (a:=a) hA1 n,Blk.put_far hB1 (by omega) n,Blk.put_far hC1 (by omega) n,Qh hg1 (by omega) n⟩
 obtain⟨rfl,hA,hB,hC,hg⟩:=hcut
 obtain⟨hc,hf⟩:=hA.walk
 obtain⟨hc2,hf2⟩:=hB.walk
 obtain⟨hc3,hf3⟩:=hC.walk
 have hs:=hg.size
 have hz:w.heap.size+1+1 < wc.heap.size:=hC.lt
 go_upto_region 2 with fail
 go_cut [6] (fun s6 wx=>s6= .pointer (some ⟨w.heap.size+1+1,0,none⟩)∧Blk wx w.heap.size 34 n.cs∧Blk wx (w.heap.size+1) 34 m.cs∧Blk wx (w.heap.size+1+1) 34 QV.cs∧Below w.heap.size w wx)
 case first=>
  go_wp2_with (go_at_call 96;(with_reducible refine(y _).mono ?_);rintro e w2 ⟨rfl,hb2⟩;(have hA2:=hA.call hb2);(have hB2:=hB.call hb2);(have hC2:=hC.call hb2);clear hc hf hc2 hf2 hc3 hf3;obtain⟨hc,hf⟩:=hA2.walk;obtain⟨hc2,hf2⟩:=hB2.walk;obtain⟨hc3,hf3⟩:=hC2.walk;(have hg2:=after hg hb2);(have hs2:=hg2.size);(have hz2:w.heap.size+1+1 < w2.heap.size:=hC2.lt))
  go_meet
  exact⟨rfl,Blk.put_far hA2 (by omega) m,Blk.put (a:=b) hB2 m,Blk.put_far hC2 (by omega) m,Qh hg2 (by omega) m⟩
 clear hA hB hC hg hc hf hc2 hf2 hc3 hf3 hs hz x y
 obtain⟨rfl,hA,hB,hC,hg⟩:=hcut
 obtain⟨hc,hf⟩:=hA.walk
 obtain⟨hc2,hf2⟩:=hB.walk
 obtain⟨hc3,hf3⟩:=hC.walk
 have hs:=hg.size
 have hz:w.heap.size+1+1 < wc.heap.size:=hC.lt
 have HBr:Below wc.heap.size wc wc:=Below.refl _ _
 obtain⟨ne,nt,nlo,nhi,nst⟩:=n
 obtain⟨me,mt,mlo,mhi,mst⟩:=m
 try dsimp only at *
 simp only [Qd.cs]at hc hc2 hc3
 replace en:=en.out
 try dsimp only at en
 replace em:=em.out
 try dsimp only at em
 subst en em
 replace hs:=hs.out
 try dsimp only at hs
 rcases ho with rfl|rfl|rfl|rfl
 all_goals
  rcases hs with rfl|⟨rfl,h⟩
  all_goals
   go_wp2_with (go_at_call 63;(with_reducible refine(QdV _).mono ?_);rintro e wk ⟨rfl,hb⟩;(first|(replace HB:=after HB hb)|(have HB:=hb));clear hc hf hc2 hf2 hc3 hf3;obtain⟨hc,hf⟩:=(hA.call HB).walk;obtain⟨hc2,hf2⟩:=(hB.call HB).walk;obtain⟨hc3,hf3⟩:=(hC.call HB).walk;simp only [Qd.cs]at hc hc2 hc3)
   exact bodyPost_ret (v:=(Qy).val) (Qt rfl rfl ((hC.call HB).put (a:=QV) Qy)) rfl ⟨rfl,Qh (after hg HB) (by omega) Qy⟩
set_option maxRecDepth 100000 in
set_option maxHeartbeats 8000000 in
theorem QyC(a b n m:Qd)(en:Hid (n.e=false))(em:Hid (m.e=false))(tm:Hid (m.t=false))(sm:Hid (m.st=0))(m0:0≤m.lo)(m1:m.lo < 4294967296)(hs:Hid (n.t=true∨(n.t=false∧(n.st==0)=false)))(R:Qd)(z:∀w,Calls Try.prog 102 #[n.val,.int .i64 m.lo] w (Ret R.val w))
 (x:∀w,Calls Try.prog 96 #[a.val] w (Ret n.val w)) (y:∀w,Calls Try.prog 96 #[b.val] w (Ret m.val w)) (w:World) :
 Calls Try.prog 60 #[.int .i64 5,a.val,b.val] w (Ret R.val w):=by
 go_enter Try.func60,Try.ntmps60
 go_upto_region 1 with fail
 go_cut [6] (fun s6 wx=>s6= .pointer (some ⟨w.heap.size+1+1,0,none⟩)∧Blk wx w.heap.size 34 n.cs∧Blk wx (w.heap.size+1) 34 b.cs∧Blk wx (w.heap.size+1+1) 34 QV.cs∧Below w.heap.size w wx)
 case first=>
  go_wp2_with (go_at_call 96;(with_reducible refine(x _).mono ?_);rintro e w1 ⟨rfl,hb1⟩;(have hA1:=(((Blk.new _ _ _).alloc _).alloc _).call hb1);(have hB1:=((Blk.new _ _ _).alloc _).call hb1);(have hC1:=(Blk.new _ _ _).call hb1);simp only [World.size_alloc]at hB1 hC1;obtain⟨hc1,hf1⟩:=hA1.walk;obtain⟨hc2,hf2⟩:=hB1.walk;(have hg1:=after (w:=w) (by go_grown) hb1);(have hs1:=hg1.size);(have hz1:w.heap.size+1+1 < w1.heap.size:=hC1.lt))
  go_meet
  exact⟨rfl,Blk.put (a:=a) hA1 n,Blk.put_far hB1 (by omega) n,Blk.put_far hC1 (by omega) n,Qh hg1 (by omega) n⟩
 obtain⟨rfl,hA,hB,hC,hg⟩:=hcut
 obtain⟨hc,hf⟩:=hA.walk
 obtain⟨hc2,hf2⟩:=hB.walk
 obtain⟨hc3,hf3⟩:=hC.walk
 have hs:=hg.size
 have hz:w.heap.size+1+1 < wc.heap.size:=hC.lt
 go_upto_region 2 with fail
 go_cut [6] (fun s6 wx=>s6= .pointer (some ⟨w.heap.size+1+1,0,none⟩)∧Blk wx w.heap.size 34 n.cs∧Blk wx (w.heap.size+1) 34 m.cs∧Blk wx (w.heap.size+1+1) 34 QV.cs∧Below w.heap.size w wx)
 case first=>
  go_wp2_with (go_at_call 96;(with_reducible refine(y _).mono ?_);rintro e w2 ⟨rfl,hb2⟩;(have hA2:=hA.call hb2);(have hB2:=hB.call hb2);(have hC2:=hC.call hb2);clear hc hf hc2 hf2 hc3 hf3;obtain⟨hc,hf⟩:=hA2.walk;obtain⟨hc2,hf2⟩:=hB2.walk;obtain⟨hc3,hf3⟩:=hC2.walk;(have hg2:=after hg hb2);(have hs2:=hg2.size);(have hz2:w.heap.size+1+1 < w2.heap.size:=hC2.lt))
  go_meet
  exact⟨rfl,Blk.put_far hA2 (by omega) m,Blk.put (a:=b) hB2 m,Blk.put_far hC2 (by omega) m,Qh hg2 (by omega) m⟩
 clear hA hB hC hg hc hf hc2 hf2 hc3 hf3 hs hz x y
 obtain⟨rfl,hA,hB,hC,hg⟩:=hcut
 obtain⟨hc,hf⟩:=hA.walk
 obtain⟨hc2,hf2⟩:=hB.walk
 obtain⟨hc3,hf3⟩:=hC.walk
 have hs:=hg.size
 have hz:w.heap.size+1+1 < wc.heap.size:=hC.lt
 have HBr:Below wc.heap.size wc wc:=Below.refl _ _
 obtain⟨ne,nt,nlo,nhi,nst⟩:=n
 obtain⟨me,mt,mlo,mhi,mst⟩:=m
 try dsimp only at *
 simp only [Qd.cs]at hc hc2 hc3
 replace en:=en.out
 try dsimp only at en
 replace em:=em.out
 try dsimp only at em
 replace tm:=tm.out
 try dsimp only at tm
 replace sm:=sm.out
 try dsimp only at sm
 subst en em tm sm
 simp only [Qd.val]at z
 replace hs:=hs.out
 try dsimp only at hs
 rcases hs with rfl|⟨rfl,h⟩
 all_goals
  go_wp2_with (go_at_call 102;(with_reducible refine(z _).mono ?_);rintro e wk ⟨rfl,hb⟩;(first|(replace HB:=after HB hb)|(have HB:=hb));clear hc hf hc2 hf2 hc3 hf3;obtain⟨hc,hf⟩:=(hA.call HB).walk;obtain⟨hc2,hf2⟩:=(hB.call HB).walk;obtain⟨hc3,hf3⟩:=(hC.call HB).walk;simp only [Qd.cs]at hc hc2 hc3)
  exact bodyPost_ret (v:=(R).val) (Qt rfl rfl ((hC.call HB).put (a:=QV) R)) rfl ⟨rfl,Qh (after hg HB) (by omega) R⟩
set_option maxRecDepth 100000 in
set_option maxHeartbeats 8000000 in
theorem QyA(a b n m:Qd)(en:Hid (n.e=false))(em:Hid (m.e=false))(tm:Hid (m.t=false))(sm:Hid (m.st=0))(m0:0≤m.lo)(m1:m.lo < 4294967296)(hs:Hid (n.t=true∨(n.t=false∧(n.st==0)=false)))(R:Qd)(z:∀w,Calls Try.prog 104 #[n.val,.int .i64 m.lo] w (Ret R.val w))
 (x:∀w,Calls Try.prog 96 #[a.val] w (Ret n.val w)) (y:∀w,Calls Try.prog 96 #[b.val] w (Ret m.val w)) (w:World) :
 Calls Try.prog 60 #[.int .i64 6,a.val,b.val] w (Ret R.val w):=by
 go_enter Try.func60,Try.ntmps60
 go_upto_region 1 with fail
 go_cut [6] (fun s6 wx=>s6= .pointer (some ⟨w.heap.size+1+1,0,none⟩)∧Blk wx w.heap.size 34 n.cs∧Blk wx (w.heap.size+1) 34 b.cs∧Blk wx (w.heap.size+1+1) 34 QV.cs∧Below w.heap.size w wx)
 case first=>
  go_wp2_with (go_at_call 96;(with_reducible refine(x _).mono ?_);rintro e w1 ⟨rfl,hb1⟩;(have hA1:=(((Blk.new _ _ _).alloc _).alloc _).call hb1);(have hB1:=((Blk.new _ _ _).alloc _).call hb1);(have hC1:=(Blk.new _ _ _).call hb1);simp only [World.size_alloc]at hB1 hC1;obtain⟨hc1,hf1⟩:=hA1.walk;obtain⟨hc2,hf2⟩:=hB1.walk;(have hg1:=after (w:=w) (by go_grown) hb1);(have hs1:=hg1.size);(have hz1:w.heap.size+1+1 < w1.heap.size:=hC1.lt))
  go_meet
  exact⟨rfl,Blk.put (a:=a) hA1 n,Blk.put_far hB1 (by omega) n,Blk.put_far hC1 (by omega) n,Qh hg1 (by omega) n⟩
 obtain⟨rfl,hA,hB,hC,hg⟩:=hcut
 obtain⟨hc,hf⟩:=hA.walk
 obtain⟨hc2,hf2⟩:=hB.walk
 obtain⟨hc3,hf3⟩:=hC.walk
 have hs:=hg.size
 have hz:w.heap.size+1+1 < wc.heap.size:=hC.lt
 go_upto_region 2 with fail
 go_cut [6] (fun s6 wx=>s6= .pointer (some ⟨w.heap.size+1+1,0,none⟩)∧Blk wx w.heap.size 34 n.cs∧Blk wx (w.heap.size+1) 34 m.cs∧Blk wx (w.heap.size+1+1) 34 QV.cs∧Below w.heap.size w wx)
 case first=>
  go_wp2_with (go_at_call 96;(with_reducible refine(y _).mono ?_);rintro e w2 ⟨rfl,hb2⟩;(have hA2:=hA.call hb2);(have hB2:=hB.call hb2);(have hC2:=hC.call hb2);clear hc hf hc2 hf2 hc3 hf3;obtain⟨hc,hf⟩:=hA2.walk;obtain⟨hc2,hf2⟩:=hB2.walk;obtain⟨hc3,hf3⟩:=hC2.walk;(have hg2:=after hg hb2);(have hs2:=hg2.size);(have hz2:w.heap.size+1+1 < w2.heap.size:=hC2.lt))
  go_meet
  exact⟨rfl,Blk.put_far hA2 (by omega) m,Blk.put (a:=b) hB2 m,Blk.put_far hC2 (by omega) m,Qh hg2 (by omega) m⟩
 clear hA hB hC hg hc hf hc2 hf2 hc3 hf3 hs hz x y
 obtain⟨rfl,hA,hB,hC,hg⟩:=hcut
 obtain⟨hc,hf⟩:=hA.walk
 obtain⟨hc2,hf2⟩:=hB.walk
 obtain⟨hc3,hf3⟩:=hC.walk
 have hs:=hg.size
 have hz:w.heap.size+1+1 < wc.heap.size:=hC.lt
 have HBr:Below wc.heap.size wc wc:=Below.refl _ _
 obtain⟨ne,nt,nlo,nhi,nst⟩:=n
 obtain⟨me,mt,mlo,mhi,mst⟩:=m
 try dsimp only at *
 simp only [Qd.cs]at hc hc2 hc3
 replace en:=en.out
 try dsimp only at en
 replace em:=em.out
 try dsimp only at em
 replace tm:=tm.out
 try dsimp only at tm
 replace sm:=sm.out
 try dsimp only at sm
 subst en em tm sm
 simp only [Qd.val]at z
 replace hs:=hs.out
 try dsimp only at hs
 rcases hs with rfl|⟨rfl,h⟩
 all_goals
  go_wp2_with (go_at_call 104;(with_reducible refine(z _).mono ?_);rintro e wk ⟨rfl,hb⟩;(first|(replace HB:=after HB hb)|(have HB:=hb));clear hc hf hc2 hf2 hc3 hf3;obtain⟨hc,hf⟩:=(hA.call HB).walk;obtain⟨hc2,hf2⟩:=(hB.call HB).walk;obtain⟨hc3,hf3⟩:=(hC.call HB).walk;simp only [Qd.cs]at hc hc2 hc3)
  exact bodyPost_ret (v:=(R).val) (Qt rfl rfl ((hC.call HB).put (a:=QV) R)) rfl ⟨rfl,Qh (after hg HB) (by omega) R⟩
set_option maxRecDepth 100000 in
set_option maxHeartbeats 8000000 in
theorem QyF(a b n m:Qd)(en:Hid (n.e=false))(em:Hid (m.e=false))(tm:Hid (m.t=false))(sm:Hid (m.st=0))(m0:0≤m.lo)(m1:m.lo < 4294967296)(hs:Hid (n.t=true∨(n.t=false∧(n.st==0)=false)))(P:Int)(p:∀w,Calls Try.prog 103 #[.int .u32 m.lo] w fun e w'=>e= .returned (.int .i64 P)∧w'=w)(R:Qd)(z:∀w,Calls Try.prog 102 #[n.val,.int .i64 P] w (Ret R.val w))
 (x:∀w,Calls Try.prog 96 #[a.val] w (Ret n.val w)) (y:∀w,Calls Try.prog 96 #[b.val] w (Ret m.val w)) (w:World) :
 Calls Try.prog 60 #[.int .i64 9,a.val,b.val] w (Ret R.val w):=by
 go_enter Try.func60,Try.ntmps60
 go_upto_region 1 with fail
 go_cut [6] (fun s6 wx=>s6= .pointer (some ⟨w.heap.size+1+1,0,none⟩)∧Blk wx w.heap.size 34 n.cs∧Blk wx (w.heap.size+1) 34 b.cs∧Blk wx (w.heap.size+1+1) 34 QV.cs∧Below w.heap.size w wx)
 case first=>
  go_wp2_with (go_at_call 96;(with_reducible refine(x _).mono ?_);rintro e w1 ⟨rfl,hb1⟩;(have hA1:=(((Blk.new _ _ _).alloc _).alloc _).call hb1);(have hB1:=((Blk.new _ _ _).alloc _).call hb1);(have hC1:=(Blk.new _ _ _).call hb1);simp only [World.size_alloc]at hB1 hC1;obtain⟨hc1,hf1⟩:=hA1.walk;obtain⟨hc2,hf2⟩:=hB1.walk;(have hg1:=after (w:=w) (by go_grown) hb1);(have hs1:=hg1.size);(have hz1:w.heap.size+1+1 < w1.heap.size:=hC1.lt))
  go_meet
  exact⟨rfl,Blk.put (a:=a) hA1 n,Blk.put_far hB1 (by omega) n,Blk.put_far hC1 (by omega) n,Qh hg1 (by omega) n⟩
 obtain⟨rfl,hA,hB,hC,hg⟩:=hcut
 obtain⟨hc,hf⟩:=hA.walk
 obtain⟨hc2,hf2⟩:=hB.walk
 obtain⟨hc3,hf3⟩:=hC.walk
 have hs:=hg.size
 have hz:w.heap.size+1+1 < wc.heap.size:=hC.lt
 go_upto_region 2 with fail
 go_cut [6] (fun s6 wx=>s6= .pointer (some ⟨w.heap.size+1+1,0,none⟩)∧Blk wx w.heap.size 34 n.cs∧Blk wx (w.heap.size+1) 34 m.cs∧Blk wx (w.heap.size+1+1) 34 QV.cs∧Below w.heap.size w wx)
 case first=>
  go_wp2_with (go_at_call 96;(with_reducible refine(y _).mono ?_);rintro e w2 ⟨rfl,hb2⟩;(have hA2:=hA.call hb2);(have hB2:=hB.call hb2);(have hC2:=hC.call hb2);clear hc hf hc2 hf2 hc3 hf3;obtain⟨hc,hf⟩:=hA2.walk;obtain⟨hc2,hf2⟩:=hB2.walk;obtain⟨hc3,hf3⟩:=hC2.walk;(have hg2:=after hg hb2);(have hs2:=hg2.size);(have hz2:w.heap.size+1+1 < w2.heap.size:=hC2.lt))
  go_meet
  exact⟨rfl,Blk.put_far hA2 (by omega) m,Blk.put (a:=b) hB2 m,Blk.put_far hC2 (by omega) m,Qh hg2 (by omega) m⟩
 clear hA hB hC hg hc hf hc2 hf2 hc3 hf3 hs hz x y
 obtain⟨rfl,hA,hB,hC,hg⟩:=hcut
 obtain⟨hc,hf⟩:=hA.walk
 obtain⟨hc2,hf2⟩:=hB.walk
 obtain⟨hc3,hf3⟩:=hC.walk
 have hs:=hg.size
 have hz:w.heap.size+1+1 < wc.heap.size:=hC.lt
 have HBr:Below wc.heap.size wc wc:=Below.refl _ _
 obtain⟨ne,nt,nlo,nhi,nst⟩:=n
 obtain⟨me,mt,mlo,mhi,mst⟩:=m
 try dsimp only at *
 simp only [Qd.cs]at hc hc2 hc3
 replace en:=en.out
 try dsimp only at en
 replace em:=em.out
 try dsimp only at em
 replace tm:=tm.out
 try dsimp only at tm
 replace sm:=sm.out
 try dsimp only at sm
 subst en em tm sm
 simp only [Qd.val]at z
 replace hs:=hs.out
 try dsimp only at hs
 rcases hs with rfl|⟨rfl,h⟩
 all_goals
  go_wp2_with fail
  refine Qv4 4 (by kernel_rfl) (by kernel_rfl) ?_
  simp only [List.take_succ_cons,List.take_zero,List.drop_succ_cons,List.drop_zero]
  repeat (first|(refine wpStill_step (fun K hK=>?_);go_simp;refine⟨_,p _,hK _ ?_⟩;clear hK K)|still_step)
  refine wpStill_nil ?_
  have HB:=(Below.refl wc.heap.size wc).drew
  go_wp2_with (go_at_call 102;(with_reducible refine(z _).mono ?_);rintro e wk ⟨rfl,hb⟩;(first|(replace HB:=after HB hb)|(have HB:=hb));clear hc hf hc2 hf2 hc3 hf3;obtain⟨hc,hf⟩:=(hA.call HB).walk;obtain⟨hc2,hf2⟩:=(hB.call HB).walk;obtain⟨hc3,hf3⟩:=(hC.call HB).walk;simp only [Qd.cs]at hc hc2 hc3)
  exact bodyPost_ret (v:=(R).val) (Qt rfl rfl ((hC.call HB).put (a:=QV) R)) rfl ⟨rfl,Qh (after hg HB) (by omega) R⟩
set_option maxRecDepth 100000 in
set_option maxHeartbeats 8000000 in
theorem QwX(a b n m:Qd)(en:Hid (n.e=false))(em:Hid (m.e=false))(tm:Hid (m.t=false))(sm:Hid (m.st=0))(tn:Hid (n.t=true))
 (x:∀w,Calls Try.prog 96 #[a.val] w (Ret n.val w)) (y:∀w,Calls Try.prog 96 #[b.val] w (Ret m.val w)) (w:World) :
 Calls Try.prog 60 #[.int .i64 10,a.val,b.val] w (Ret Qy.val w):=by
 go_enter Try.func60,Try.ntmps60
 go_upto_region 1 with fail
 go_cut [6] (fun s6 wx=>s6= .pointer (some ⟨w.heap.size+1+1,0,none⟩)∧Blk wx w.heap.size 34 n.cs∧Blk wx (w.heap.size+1) 34 b.cs∧Blk wx (w.heap.size+1+1) 34 QV.cs∧Below w.heap.size w wx)
 case first=>
  go_wp2_with (go_at_call 96;(with_reducible refine(x _).mono ?_);rintro e w1 ⟨rfl,hb1⟩;(have hA1:=(((Blk.new _ _ _).alloc _).alloc _).call hb1);(have hB1:=((Blk.new _ _ _).alloc _).call hb1);(have hC1:=(Blk.new _ _ _).call hb1);simp only [World.size_alloc]at hB1 hC1;obtain⟨hc1,hf1⟩:=hA1.walk;obtain⟨hc2,hf2⟩:=hB1.walk;(have hg1:=after (w:=w) (by go_grown) hb1);(have hs1:=hg1.size);(have hz1:w.heap.size+1+1 < w1.heap.size:=hC1.lt))
  go_meet
  exact⟨rfl,Blk.put (a:=a) hA1 n,Blk.put_far hB1 (by omega) n,Blk.put_far hC1 (by omega) n,Qh hg1 (by omega) n⟩
 obtain⟨rfl,hA,hB,hC,hg⟩:=hcut
 obtain⟨hc,hf⟩:=hA.walk
 obtain⟨hc2,hf2⟩:=hB.walk
 obtain⟨hc3,hf3⟩:=hC.walk
 have hs:=hg.size
 have hz:w.heap.size+1+1 < wc.heap.size:=hC.lt
 go_upto_region 2 with fail
 go_cut [6] (fun s6 wx=>s6= .pointer (some ⟨w.heap.size+1+1,0,none⟩)∧Blk wx w.heap.size 34 n.cs∧Blk wx (w.heap.size+1) 34 m.cs∧Blk wx (w.heap.size+1+1) 34 QV.cs∧Below w.heap.size w wx)
 case first=>
  go_wp2_with (go_at_call 96;(with_reducible refine(y _).mono ?_);rintro e w2 ⟨rfl,hb2⟩;(have hA2:=hA.call hb2);(have hB2:=hB.call hb2);(have hC2:=hC.call hb2);clear hc hf hc2 hf2 hc3 hf3;obtain⟨hc,hf⟩:=hA2.walk;obtain⟨hc2,hf2⟩:=hB2.walk;obtain⟨hc3,hf3⟩:=hC2.walk;(have hg2:=after hg hb2);(have hs2:=hg2.size);(have hz2:w.heap.size+1+1 < w2.heap.size:=hC2.lt))
  go_meet
  exact⟨rfl,Blk.put_far hA2 (by omega) m,Blk.put (a:=b) hB2 m,Blk.put_far hC2 (by omega) m,Qh hg2 (by omega) m⟩
 clear hA hB hC hg hc hf hc2 hf2 hc3 hf3 hs hz x y
 obtain⟨rfl,hA,hB,hC,hg⟩:=hcut
 obtain⟨hc,hf⟩:=hA.walk
 obtain⟨hc2,hf2⟩:=hB.walk
 obtain⟨hc3,hf3⟩:=hC.walk
 have hs:=hg.size
 have hz:w.heap.size+1+1 < wc.heap.size:=hC.lt
 have HBr:Below wc.heap.size wc wc:=Below.refl _ _
 obtain⟨ne,nt,nlo,nhi,nst⟩:=n
 obtain⟨me,mt,mlo,mhi,mst⟩:=m
 try dsimp only at *
 simp only [Qd.cs]at hc hc2 hc3
 replace en:=en.out
 try dsimp only at en
 replace em:=em.out
 try dsimp only at em
 replace tm:=tm.out
 try dsimp only at tm
 replace sm:=sm.out
 try dsimp only at sm
 replace tn:=tn.out
 try dsimp only at tn
 subst en em tm sm tn
 go_wp2_with (go_at_call 63;(with_reducible refine(QdV _).mono ?_);rintro e wk ⟨rfl,hb⟩;(first|(replace HB:=after HB hb)|(have HB:=hb));clear hc hf hc2 hf2 hc3 hf3;obtain⟨hc,hf⟩:=(hA.call HB).walk;obtain⟨hc2,hf2⟩:=(hB.call HB).walk;obtain⟨hc3,hf3⟩:=(hC.call HB).walk;simp only [Qd.cs]at hc hc2 hc3)
 exact bodyPost_ret (v:=(Qy).val) (Qt rfl rfl ((hC.call HB).put (a:=QV) Qy)) rfl ⟨rfl,Qh (after hg HB) (by omega) Qy⟩
set_option maxRecDepth 100000 in
set_option maxHeartbeats 8000000 in
theorem QyG(a b n m:Qd)(hn:n.wf)(en:Hid (n.e=false))(em:Hid (m.e=false))(tm:Hid (m.t=false))(sm:Hid (m.st=0))(m0:0≤m.lo)(m1:m.lo < 4294967296)(tn:Hid (n.t=false))(sn:Hid ((n.st==0)=false))(P:Int)(P0:1≤P)(P1:P≤2147483648)(p:∀w,Calls Try.prog 103 #[.int .u32 m.lo] w fun e w'=>e= .returned (.int .i64 P)∧w=w')(R:Qd)(z:∀w,Calls Try.prog 98 #[.int .i64 (n.lo / P),.int .i64 (n.hi / P),.int .i64 1] w (Ret R.val w))
 (x:∀w,Calls Try.prog 96 #[a.val] w (Ret n.val w)) (y:∀w,Calls Try.prog 96 #[b.val] w (Ret m.val w)) (w:World) :
 Calls Try.prog 60 #[.int .i64 10,a.val,b.val] w (Ret R.val w):=by
 obtain⟨n0,n1,n2,n3,n4,n5⟩:=hn
 have Pn:P≠0:=by omega
 go_enter Try.func60,Try.ntmps60
 go_upto_region 1 with fail
 go_cut [6] (fun s6 wx=>s6= .pointer (some ⟨w.heap.size+1+1,0,none⟩)∧Blk wx w.heap.size 34 n.cs∧Blk wx (w.heap.size+1) 34 b.cs∧Blk wx (w.heap.size+1+1) 34 QV.cs∧Below w.heap.size w wx)
 case first=>
  go_wp2_with (go_at_call 96;(with_reducible refine(x _).mono ?_);rintro e w1 ⟨rfl,hb1⟩;(have hA1:=(((Blk.new _ _ _).alloc _).alloc _).call hb1);(have hB1:=((Blk.new _ _ _).alloc _).call hb1);(have hC1:=(Blk.new _ _ _).call hb1);simp only [World.size_alloc]at hB1 hC1;obtain⟨hc1,hf1⟩:=hA1.walk;obtain⟨hc2,hf2⟩:=hB1.walk;(have hg1:=after (w:=w) (by go_grown) hb1);(have hs1:=hg1.size);(have hz1:w.heap.size+1+1 < w1.heap.size:=hC1.lt))
  go_meet
  exact⟨rfl,Blk.put (a:=a) hA1 n,Blk.put_far hB1 (by omega) n,Blk.put_far hC1 (by omega) n,Qh hg1 (by omega) n⟩
 obtain⟨rfl,hA,hB,hC,hg⟩:=hcut
 obtain⟨hc,hf⟩:=hA.walk
 obtain⟨hc2,hf2⟩:=hB.walk
 obtain⟨hc3,hf3⟩:=hC.walk
 have hs:=hg.size
 have hz:w.heap.size+1+1 < wc.heap.size:=hC.lt
 go_upto_region 2 with fail
 go_cut [6] (fun s6 wx=>s6= .pointer (some ⟨w.heap.size+1+1,0,none⟩)∧Blk wx w.heap.size 34 n.cs∧Blk wx (w.heap.size+1) 34 m.cs∧Blk wx (w.heap.size+1+1) 34 QV.cs∧Below w.heap.size w wx)
 case first=>
  go_wp2_with (go_at_call 96;(with_reducible refine(y _).mono ?_);rintro e w2 ⟨rfl,hb2⟩;(have hA2:=hA.call hb2);(have hB2:=hB.call hb2);(have hC2:=hC.call hb2);clear hc hf hc2 hf2 hc3 hf3;obtain⟨hc,hf⟩:=hA2.walk;obtain⟨hc2,hf2⟩:=hB2.walk;obtain⟨hc3,hf3⟩:=hC2.walk;(have hg2:=after hg hb2);(have hs2:=hg2.size);(have hz2:w.heap.size+1+1 < w2.heap.size:=hC2.lt))
  go_meet
  exact⟨rfl,Blk.put_far hA2 (by omega) m,Blk.put (a:=b) hB2 m,Blk.put_far hC2 (by omega) m,Qh hg2 (by omega) m⟩
 clear hA hB hC hg hc hf hc2 hf2 hc3 hf3 hs hz x y
 obtain⟨rfl,hA,hB,hC,hg⟩:=hcut
 obtain⟨hc,hf⟩:=hA.walk
 obtain⟨hc2,hf2⟩:=hB.walk
 obtain⟨hc3,hf3⟩:=hC.walk
 have hs:=hg.size
 have hz:w.heap.size+1+1 < wc.heap.size:=hC.lt
 have HBr:Below wc.heap.size wc wc:=Below.refl _ _
 obtain⟨ne,nt,nlo,nhi,nst⟩:=n
 obtain⟨me,mt,mlo,mhi,mst⟩:=m
 try dsimp only at *
 simp only [Qd.cs]at hc hc2 hc3
 replace en:=en.out
 try dsimp only at en
 replace em:=em.out
 try dsimp only at em
 replace tm:=tm.out
 try dsimp only at tm
 replace sm:=sm.out
 try dsimp only at sm
 replace tn:=tn.out
 try dsimp only at tn
 subst en em tm sm tn
 replace sn:=sn.out
 try dsimp only at sn
 go_wp2_with (go_at_call 103;(with_reducible refine(p _).mono ?_);rintro e w3 ⟨rfl,rfl⟩)
 have q1:=IntWalk.i64_quo nlo P ⟨n0,by omega,P0⟩
 have q2:=IntWalk.i64_quo nhi P ⟨n2,by omega,P0⟩
 have q3:=IntWalk.i64_in nlo ⟨by omega,by omega⟩
 have q4:=IntWalk.i64_in nhi ⟨by omega,by omega⟩
 refine Qv4 10 (by kernel_rfl) (by kernel_rfl) ?_
 simp only [List.take_succ_cons,List.take_zero,List.drop_succ_cons,List.drop_zero]
 repeat still_step
 refine wpStill_nil ?_
 clear q1 q2 q3 q4
 have HB:=(Below.refl wc.heap.size wc).drew
 go_wp2_with (go_at_call 98;(with_reducible refine(z _).mono ?_);rintro e wk ⟨rfl,hb⟩;(first|(replace HB:=after HB hb)|(have HB:=hb));clear hc hf hc2 hf2 hc3 hf3;obtain⟨hc,hf⟩:=(hA.call HB).walk;obtain⟨hc2,hf2⟩:=(hB.call HB).walk;obtain⟨hc3,hf3⟩:=(hC.call HB).walk;simp only [Qd.cs]at hc hc2 hc3)
 exact bodyPost_ret (v:=(R).val) (Qt rfl rfl ((hC.call HB).put (a:=QV) R)) rfl ⟨rfl,Qh (after hg HB) (by omega) R⟩
end Go.Proofs.Yteplnamfpodmlaa
