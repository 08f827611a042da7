/-
  Part of the proof.
-/
import Derived.Test.YteplnamfpodmlaaRVaB
set_option linter.unusedVariables false
set_option linter.unusedSimpArgs false
set_option maxRecDepth 100000
open Go.ChangeShapes Go.WideShapes Go.ChangeAt Go.RowKit
namespace Go.Proofs.Yteplnamfpodmlaa
def QaQ(n m:Qd):Prop:=m.t=true∨(m.t=false∧(m.st==0)=false)∨(m.t=false∧m.st=0∧n.t=true)∨(m.t=false∧m.st=0∧n.t=false∧(n.st==0)=false)
set_option maxRecDepth 100000 in
set_option maxHeartbeats 8000000 in
theorem QyE(op:Int)(ho:op < 3∨(¬op < 3∧15 < op))(a b n m:Qd)(x:∀w,Calls Try.prog 96 #[a.val] w (Ret n.val w))(y:∀w,Calls Try.prog 96 #[b.val] w (Ret m.val w))(w:World) :
 Calls Try.prog 60 #[.int .i64 op,a.val,b.val] w (Ret Qy.val w):=by
 go_enter Try.func60,Try.ntmps60
 go_upto_region 1 with fail
 go_cut [6] (fun s6 wx=>s6= .pointer (some ⟨w.heap.size+1+1,0,none⟩)∧Blk wx w.heap.size 34 n.cs∧Blk wx (w.heap.size+1) 34 b.cs∧Blk wx (w.heap.size+1+1) 34 QV.cs∧Below w.heap.size w wx)
 case first=>
  go_wp2_with (go_at_call 96;(with_reducible refine(x _).mono ?_);rintro e w1 ⟨rfl,hb1⟩;(have hA1:=(((Blk.new _ _ _).alloc _).alloc _).call hb1);(have hB1:=((Blk.new _ _ _).alloc _).call hb1);(have hC1:=(Blk.new _ _ _).call hb1);simp only [World.size_alloc]at hB1 hC1;obtain⟨hc1,hf1⟩:=hA1.walk;obtain⟨hc2,hf2⟩:=hB1.walk;(have hg1:=after (w:=w) (by go_grown) hb1);(have hs1:=hg1.size);(have hz1:w.heap.size+1+1 < w1.heap.size:=hC1.lt))
  go_meet
  exact⟨rfl,Blk.put (a:=a) hA1 n,Blk.put_far hB1 (by omega) n,Blk.put_far hC1 (by omega) n,Qh hg1 (by omega) n⟩
 obtain⟨rfl,hA,hB,hC,hg⟩:=hcut
 obtain⟨hc,hf⟩:=hA.walk
 obtain⟨hc2,hf2⟩:=hB.walk
 obtain⟨hc3,hf3⟩:=hC.walk
 have hs:=hg.size
 have hz:w.heap.size+1+1 < wc.heap.size:=hC.lt
 go_upto_region 2 with fail
 go_cut [6] (fun s6 wx=>s6= .pointer (some ⟨w.heap.size+1+1,0,none⟩)∧Blk wx w.heap.size 34 n.cs∧Blk wx (w.heap.size+1) 34 m.cs∧Blk wx (w.heap.size+1+1) 34 QV.cs∧Below w.heap.size w wx)
 case first=>
  go_wp2_with (go_at_call 96;(with_reducible refine(y _).mono ?_);rintro e w2 ⟨rfl,hb2⟩;(have hA2:=hA.call hb2);(have hB2:=hB.call hb2);(have hC2:=hC.call hb2);clear hc hf hc2 hf2 hc3 hf3;obtain⟨hc,hf⟩:=hA2.walk;obtain⟨hc2,hf2⟩:=hB2.walk;obtain⟨hc3,hf3⟩:=hC2.walk;(have hg2:=after hg hb2);(have hs2:=hg2.size);(have hz2:w.heap.size+1+1 < w2.heap.size:=hC2.lt))
  go_meet
  exact⟨rfl,Blk.put_far hA2 (by omega) m,Blk.put (a:=b) hB2 m,Blk.put_far hC2 (by omega) m,Qh hg2 (by omega) m⟩
 clear hA hB hC hg hc hf hc2 hf2 hc3 hf3 hs hz x y
 obtain⟨rfl,hA,hB,hC,hg⟩:=hcut
 obtain⟨hc,hf⟩:=hA.walk
 obtain⟨hc2,hf2⟩:=hB.walk
 obtain⟨hc3,hf3⟩:=hC.walk
 have hs:=hg.size
 have hz:w.heap.size+1+1 < wc.heap.size:=hC.lt
 have HBr:Below wc.heap.size wc wc:=Below.refl _ _
 obtain⟨ne,nt,nlo,nhi,nst⟩:=n
 obtain⟨me,mt,mlo,mhi,mst⟩:=m
 try dsimp only at *
 simp only [Qd.cs]at hc hc2 hc3
 rcases ho with ho|⟨ho,ho2⟩
 ·go_wp2_with (go_at_call 63;(with_reducible refine(QdV _).mono ?_);rintro e wk ⟨rfl,hb⟩;(first|(replace HB:=after HB hb)|(have HB:=hb));clear hc hf hc2 hf2 hc3 hf3;obtain⟨hc,hf⟩:=(hA.call HB).walk;obtain⟨hc2,hf2⟩:=(hB.call HB).walk;obtain⟨hc3,hf3⟩:=(hC.call HB).walk;simp only [Qd.cs]at hc hc2 hc3)
  exact bodyPost_ret (v:=(Qy).val) (Qt rfl rfl ((hC.call HB).put (a:=QV) Qy)) rfl ⟨rfl,Qh (after hg HB) (by omega) Qy⟩
 ·go_wp2_with (go_at_call 63;(with_reducible refine(QdV _).mono ?_);rintro e wk ⟨rfl,hb⟩;(first|(replace HB:=after HB hb)|(have HB:=hb));clear hc hf hc2 hf2 hc3 hf3;obtain⟨hc,hf⟩:=(hA.call HB).walk;obtain⟨hc2,hf2⟩:=(hB.call HB).walk;obtain⟨hc3,hf3⟩:=(hC.call HB).walk;simp only [Qd.cs]at hc hc2 hc3)
  exact bodyPost_ret (v:=(Qy).val) (Qt rfl rfl ((hC.call HB).put (a:=QV) Qy)) rfl ⟨rfl,Qh (after hg HB) (by omega) Qy⟩
set_option maxRecDepth 100000 in
set_option maxHeartbeats 8000000 in
theorem Qya(op:Int)(o1:¬op < 3)(o2:¬15 < op)(a b n m:Qd)(he:n.e=true∨(n.e=false∧m.e=true))(x:∀w,Calls Try.prog 96 #[a.val] w (Ret n.val w))(y:∀w,Calls Try.prog 96 #[b.val] w (Ret m.val w))(w:World) :
 Calls Try.prog 60 #[.int .i64 op,a.val,b.val] w (Ret Q4.val w):=by
 go_enter Try.func60,Try.ntmps60
 go_upto_region 1 with fail
 go_cut [6] (fun s6 wx=>s6= .pointer (some ⟨w.heap.size+1+1,0,none⟩)∧Blk wx w.heap.size 34 n.cs∧Blk wx (w.heap.size+1) 34 b.cs∧Blk wx (w.heap.size+1+1) 34 QV.cs∧Below w.heap.size w wx)
 case first=>
  go_wp2_with (go_at_call 96;(with_reducible refine(x _).mono ?_);rintro e w1 ⟨rfl,hb1⟩;(have hA1:=(((Blk.new _ _ _).alloc _).alloc _).call hb1);(have hB1:=((Blk.new _ _ _).alloc _).call hb1);(have hC1:=(Blk.new _ _ _).call hb1);simp only [World.size_alloc]at hB1 hC1;obtain⟨hc1,hf1⟩:=hA1.walk;obtain⟨hc2,hf2⟩:=hB1.walk;(have hg1:=after (w:=w) (by go_grown) hb1);(have hs1:=hg1.size);(have hz1:w.heap.size+1+1 < w1.heap.size:=hC1.lt))
  go_meet
  exact⟨rfl,Blk.put (a:=a) hA1 n,Blk.put_far hB1 (by omega) n,Blk.put_far hC1 (by omega) n,Qh hg1 (by omega) n⟩
 obtain⟨rfl,hA,hB,hC,hg⟩:=hcut
 obtain⟨hc,hf⟩:=hA.walk
 obtain⟨hc2,hf2⟩:=hB.walk
 obtain⟨hc3,hf3⟩:=hC.walk
 have hs:=hg.size
 have hz:w.heap.size+1+1 < wc.heap.size:=hC.lt
 go_upto_region 2 with fail
 go_cut [6] (fun s6 wx=>s6= .pointer (some ⟨w.heap.size+1+1,0,none⟩)∧Blk wx w.heap.size 34 n.cs∧Blk wx (w.heap.size+1) 34 m.cs∧Blk wx (w.heap.size+1+1) 34 QV.cs∧Below w.heap.size w wx)
 case first=>
  go_wp2_with (go_at_call 96;(with_reducible refine(y _).mono ?_);rintro e w2 ⟨rfl,hb2⟩;(have hA2:=hA.call hb2);(have hB2:=hB.call hb2);(have hC2:=hC.call hb2);clear hc hf hc2 hf2 hc3 hf3;obtain⟨hc,hf⟩:=hA2.walk;obtain⟨hc2,hf2⟩:=hB2.walk;obtain⟨hc3,hf3⟩:=hC2.walk;(have hg2:=after hg hb2);(have hs2:=hg2.size);(have hz2:w.heap.size+1+1 < w2.heap.size:=hC2.lt))
  go_meet
  exact⟨rfl,Blk.put_far hA2 (by omega) m,Blk.put (a:=b) hB2 m,Blk.put_far hC2 (by omega) m,Qh hg2 (by omega) m⟩
 clear hA hB hC hg hc hf hc2 hf2 hc3 hf3 hs hz x y
 obtain⟨rfl,hA,hB,hC,hg⟩:=hcut
 obtain⟨hc,hf⟩:=hA.walk
 obtain⟨hc2,hf2⟩:=hB.walk
 obtain⟨hc3,hf3⟩:=hC.walk
 have hs:=hg.size
 have hz:w.heap.size+1+1 < wc.heap.size:=hC.lt
 have HBr:Below wc.heap.size wc wc:=Below.refl _ _
 obtain⟨ne,nt,nlo,nhi,nst⟩:=n
 obtain⟨me,mt,mlo,mhi,mst⟩:=m
 try dsimp only at *
 simp only [Qd.cs]at hc hc2 hc3
 rcases he with rfl|⟨rfl,rfl⟩
 ·go_wp2_with (go_at_call 82;(with_reducible refine(QdS _).mono ?_);rintro e wk ⟨rfl,hb⟩;(first|(replace HB:=after HB hb)|(have HB:=hb));clear hc hf hc2 hf2 hc3 hf3;obtain⟨hc,hf⟩:=(hA.call HB).walk;obtain⟨hc2,hf2⟩:=(hB.call HB).walk;obtain⟨hc3,hf3⟩:=(hC.call HB).walk;simp only [Qd.cs]at hc hc2 hc3)
  exact bodyPost_ret (v:=(Q4).val) (Qt rfl rfl ((hC.call HB).put (a:=QV) Q4)) rfl ⟨rfl,Qh (after hg HB) (by omega) Q4⟩
 ·go_wp2_with (go_at_call 82;(with_reducible refine(QdS _).mono ?_);rintro e wk ⟨rfl,hb⟩;(first|(replace HB:=after HB hb)|(have HB:=hb));clear hc hf hc2 hf2 hc3 hf3;obtain⟨hc,hf⟩:=(hA.call HB).walk;obtain⟨hc2,hf2⟩:=(hB.call HB).walk;obtain⟨hc3,hf3⟩:=(hC.call HB).walk;simp only [Qd.cs]at hc hc2 hc3)
  exact bodyPost_ret (v:=(Q4).val) (Qt rfl rfl ((hC.call HB).put (a:=QV) Q4)) rfl ⟨rfl,Qh (after hg HB) (by omega) Q4⟩
set_option maxRecDepth 100000 in
set_option maxHeartbeats 8000000 in
theorem QyD(op:Int)(o1:¬op < 3)(o2:¬15 < op)(a b n m:Qd)(en:Hid (n.e=false))(em:Hid (m.e=false))(tn:Hid (n.t=false))(tm:Hid (m.t=false))(sn:Hid (n.st=0))(sm:Hid (m.st=0))(V:Int)
 (z:∀w,Calls Try.prog 69 #[.int .i64 op,.int .u32 n.lo,.int .u32 m.lo] w (Ret (.tuple #[.int .u32 V,.int .i64 0]) w))
 (x:∀w,Calls Try.prog 96 #[a.val] w (Ret n.val w)) (y:∀w,Calls Try.prog 96 #[b.val] w (Ret m.val w)) (w:World) :
 Calls Try.prog 60 #[.int .i64 op,a.val,b.val] w (Ret (X2 V).val w):=by
 go_enter Try.func60,Try.ntmps60
 go_upto_region 1 with fail
 go_cut [6] (fun s6 wx=>s6= .pointer (some ⟨w.heap.size+1+1,0,none⟩)∧Blk wx w.heap.size 34 n.cs∧Blk wx (w.heap.size+1) 34 b.cs∧Blk wx (w.heap.size+1+1) 34 QV.cs∧Below w.heap.size w wx)
 case first=>
  go_wp2_with (go_at_call 96;(with_reducible refine(x _).mono ?_);rintro e w1 ⟨rfl,hb1⟩;(have hA1:=(((Blk.new _ _ _).alloc _).alloc _).call hb1);(have hB1:=((Blk.new _ _ _).alloc _).call hb1);(have hC1:=(Blk.new _ _ _).call hb1);simp only [World.size_alloc]at hB1 hC1;obtain⟨hc1,hf1⟩:=hA1.walk;obtain⟨hc2,hf2⟩:=hB1.walk;(have hg1:=after (w:=w) (by go_grown) hb1);(have hs1:=hg1.size);(have hz1:w.heap.size+1+1 < w1.heap.size:=hC1.lt))
  go_meet
  exact⟨rfl,Blk.put (a:=a) hA1 n,Blk.put_far hB1 (by omega) n,Blk.put_far hC1 (by omega) n,Qh hg1 (by omega) n⟩
 obtain⟨rfl,hA,hB,hC,hg⟩:=hcut
 obtain⟨hc,hf⟩:=hA.walk
 obtain⟨hc2,hf2⟩:=hB.walk
 obtain⟨hc3,hf3⟩:=hC.walk
 have hs:=hg.size
 have hz:w.heap.size+1+1 < wc.heap.size:=hC.lt
 go_upto_region 2 with fail
 go_cut [6] (fun s6 wx=>s6= .pointer (some ⟨w.heap.size+1+1,0,none⟩)∧Blk wx w.heap.size 34 n.cs∧Blk wx (w.heap.size+1) 34 m.cs∧Blk wx (w.heap.size+1+1) 34 QV.cs∧Below w.heap.size w wx)
 case first=>
  go_wp2_with (go_at_call 96;(with_reducible refine(y _).mono ?_);rintro e w2 ⟨rfl,hb2⟩;(have hA2:=hA.call hb2);(have hB2:=hB.call hb2);(have hC2:=hC.call hb2);clear hc hf hc2 hf2 hc3 hf3;obtain⟨hc,hf⟩:=hA2.walk;obtain⟨hc2,hf2⟩:=hB2.walk;obtain⟨hc3,hf3⟩:=hC2.walk;(have hg2:=after hg hb2);(have hs2:=hg2.size);(have hz2:w.heap.size+1+1 < w2.heap.size:=hC2.lt))
  go_meet
  exact⟨rfl,Blk.put_far hA2 (by omega) m,Blk.put (a:=b) hB2 m,Blk.put_far hC2 (by omega) m,Qh hg2 (by omega) m⟩
 clear hA hB hC hg hc hf hc2 hf2 hc3 hf3 hs hz x y
 obtain⟨rfl,hA,hB,hC,hg⟩:=hcut
 obtain⟨hc,hf⟩:=hA.walk
 obtain⟨hc2,hf2⟩:=hB.walk
 obtain⟨hc3,hf3⟩:=hC.walk
 have hs:=hg.size
 have hz:w.heap.size+1+1 < wc.heap.size:=hC.lt
 have HBr:Below wc.heap.size wc wc:=Below.refl _ _
 obtain⟨ne,nt,nlo,nhi,nst⟩:=n
 obtain⟨me,mt,mlo,mhi,mst⟩:=m
 try dsimp only at *
 simp only [Qd.cs]at hc hc2 hc3
 replace en:=en.out
 try dsimp only at en
 replace em:=em.out
 try dsimp only at em
 replace tn:=tn.out
 try dsimp only at tn
 replace tm:=tm.out
 try dsimp only at tm
 replace sn:=sn.out
 try dsimp only at sn
 replace sm:=sm.out
 try dsimp only at sm
 subst en em tn tm sn sm
 go_wp2_with (first|(go_at_call 69;(with_reducible refine(z _).mono ?_);rintro e wk ⟨rfl,hb⟩;(first|(replace HB:=after HB hb)|(have HB:=hb));clear hc hf hc2 hf2 hc3 hf3;obtain⟨hc,hf⟩:=(hA.call HB).walk;obtain⟨hc2,hf2⟩:=(hB.call HB).walk;obtain⟨hc3,hf3⟩:=(hC.call HB).walk;simp only [Qd.cs]at hc hc2 hc3)|(go_at_call 58;(with_reducible refine(QvA _ _).mono ?_);rintro e wk ⟨rfl,hb⟩;(first|(replace HB:=after HB hb)|(have HB:=hb));clear hc hf hc2 hf2 hc3 hf3;obtain⟨hc,hf⟩:=(hA.call HB).walk;obtain⟨hc2,hf2⟩:=(hB.call HB).walk;obtain⟨hc3,hf3⟩:=(hC.call HB).walk;simp only [Qd.cs]at hc hc2 hc3))
 exact bodyPost_ret (v:=((X2 V)).val) (Qt rfl rfl ((hC.call HB).put (a:=QV) (X2 V))) rfl ⟨rfl,Qh (after hg HB) (by omega) (X2 V)⟩
set_option maxRecDepth 100000 in
set_option maxHeartbeats 8000000 in
theorem QyB(op:Int)(ho:op=12∨op=13∨op=14∨op=15)(a b n m:Qd)(en:Hid (n.e=false))(em:Hid (m.e=false))(hs:Hid (QaQ n m))
 (x:∀w,Calls Try.prog 96 #[a.val] w (Ret n.val w)) (y:∀w,Calls Try.prog 96 #[b.val] w (Ret m.val w)) (w:World) :
 Calls Try.prog 60 #[.int .i64 op,a.val,b.val] w (Ret (Qs 0 1 1).val w):=by
 have B:=Qvy 0 1 1 (by omega) (by omega) (by omega) (by omega) (by omega) (by omega)
 generalize Qs 0 1 1=R at *
 go_enter Try.func60,Try.ntmps60
 go_upto_region 1 with fail
 go_cut [6] (fun s6 wx=>s6= .pointer (some ⟨w.heap.size+1+1,0,none⟩)∧Blk wx w.heap.size 34 n.cs∧Blk wx (w.heap.size+1) 34 b.cs∧Blk wx (w.heap.size+1+1) 34 QV.cs∧Below w.heap.size w wx)
 case first=>
  go_wp2_with (go_at_call 96;(with_reducible refine(x _).mono ?_);rintro e w1 ⟨rfl,hb1⟩;(have hA1:=(((Blk.new _ _ _).alloc _).alloc _).call hb1);(have hB1:=((Blk.new _ _ _).alloc _).call hb1);(have hC1:=(Blk.new _ _ _).call hb1);simp only [World.size_alloc]at hB1 hC1;obtain⟨hc1,hf1⟩:=hA1.walk;obtain⟨hc2,hf2⟩:=hB1.walk;(have hg1:=after (w:=w) (by go_grown) hb1);(have hs1:=hg1.size);(have hz1:w.heap.size+1+1 < w1.heap.size:=hC1.lt))
  go_meet
  exact⟨rfl,Blk.put (a:=a) hA1 n,Blk.put_far hB1 (by omega) n,Blk.put_far hC1 (by omega) n,Qh hg1 (by omega) n⟩
 obtain⟨rfl,hA,hB,hC,hg⟩:=hcut
 obtain⟨hc,hf⟩:=hA.walk
 obtain⟨hc2,hf2⟩:=hB.walk
 obtain⟨hc3,hf3⟩:=hC.walk
 have hs:=hg.size
 have hz:w.heap.size+1+1 < wc.heap.size:=hC.lt
 go_upto_region 2 with fail
 go_cut [6] (fun s6 wx=>s6= .pointer (some ⟨w.heap.size+1+1,0,none⟩)∧Blk wx w.heap.size 34 n.cs∧Blk wx (w.heap.size+1) 34 m.cs∧Blk wx (w.heap.size+1+1) 34 QV.cs∧Below w.heap.size w wx)
 case first=>
  go_wp2_with (go_at_call 96;(with_reducible refine(y _).mono ?_);rintro e w2 ⟨rfl,hb2⟩;(have hA2:=hA.call hb2);(have hB2:=hB.call hb2);(have hC2:=hC.call hb2);clear hc hf hc2 hf2 hc3 hf3;obtain⟨hc,hf⟩:=hA2.walk;obtain⟨hc2,hf2⟩:=hB2.walk;obtain⟨hc3,hf3⟩:=hC2.walk;(have hg2:=after hg hb2);(have hs2:=hg2.size);(have hz2:w.heap.size+1+1 < w2.heap.size:=hC2.lt))
  go_meet
  exact⟨rfl,Blk.put_far hA2 (by omega) m,Blk.put (a:=b) hB2 m,Blk.put_far hC2 (by omega) m,Qh hg2 (by omega) m⟩
 clear hA hB hC hg hc hf hc2 hf2 hc3 hf3 hs hz x y
 obtain⟨rfl,hA,hB,hC,hg⟩:=hcut
 obtain⟨hc,hf⟩:=hA.walk
 obtain⟨hc2,hf2⟩:=hB.walk
 obtain⟨hc3,hf3⟩:=hC.walk
 have hs:=hg.size
 have hz:w.heap.size+1+1 < wc.heap.size:=hC.lt
 have HBr:Below wc.heap.size wc wc:=Below.refl _ _
 obtain⟨ne,nt,nlo,nhi,nst⟩:=n
 obtain⟨me,mt,mlo,mhi,mst⟩:=m
 try dsimp only at *
 simp only [Qd.cs]at hc hc2 hc3
 replace en:=en.out
 try dsimp only at en
 replace em:=em.out
 try dsimp only at em
 subst en em
 replace hs:=hs.out
 unfold QaQ at hs
 try dsimp only at hs
 rcases ho with rfl|rfl|rfl|rfl
 all_goals
  rcases hs with rfl|⟨rfl,h⟩|⟨rfl,rfl,rfl⟩|⟨rfl,rfl,rfl,h⟩
  all_goals
   go_wp2_with (go_at_call 98;(with_reducible refine(B _).mono ?_);rintro e wk ⟨rfl,hb⟩;(first|(replace HB:=after HB hb)|(have HB:=hb));clear hc hf hc2 hf2 hc3 hf3;obtain⟨hc,hf⟩:=(hA.call HB).walk;obtain⟨hc2,hf2⟩:=(hB.call HB).walk;obtain⟨hc3,hf3⟩:=(hC.call HB).walk;simp only [Qd.cs]at hc hc2 hc3)
   exact bodyPost_ret (v:=(R).val) (Qt rfl rfl ((hC.call HB).put (a:=QV) R)) rfl ⟨rfl,Qh (after hg HB) (by omega) R⟩
set_option maxRecDepth 100000 in
set_option maxHeartbeats 8000000 in
theorem QyI(op:Int)(ho:op=7∨op=8∨op=11)(a b n m:Qd)(en:Hid (n.e=false))(em:Hid (m.e=false))(hs:Hid (QaQ n m))
 (x:∀w,Calls Try.prog 96 #[a.val] w (Ret n.val w)) (y:∀w,Calls Try.prog 96 #[b.val] w (Ret m.val w)) (w:World) :
 Calls Try.prog 60 #[.int .i64 op,a.val,b.val] w (Ret Qy.val w):=by
 go_enter Try.func60,Try.ntmps60
 go_upto_region 1 with fail
 go_cut [6] (fun s6 wx=>s6= .pointer (some ⟨w.heap.size+1+1,0,none⟩)∧Blk wx w.heap.size 34 n.cs∧Blk wx (w.heap.size+1) 34 b.cs∧Blk wx (w.heap.size+1+1) 34 QV.cs∧Below w.heap.size w wx)
 case first=>
  go_wp2_with (go_at_call 96;(with_reducible refine(x _).mono ?_);rintro e w1 ⟨rfl,hb1⟩;(have hA1:=(((Blk.new _ _ _).alloc _).alloc _).call hb1);(have hB1:=((Blk.new _ _ _).alloc _).call hb1);(have hC1:=(Blk.new _ _ _).call hb1);simp only [World.size_alloc]at hB1 hC1;obtain⟨hc1,hf1⟩:=hA1.walk;obtain⟨hc2,hf2⟩:=hB1.walk;(have hg1:=after (w:=w) (by go_grown) hb1);(have hs1:=hg1.size);(have hz1:w.heap.size+1+1 < w1.heap.size:=hC1.lt))
  go_meet
  exact⟨rfl,Blk.put (a:=a) hA1 n,Blk.put_far hB1 (by omega) n,Blk.put_far hC1 (by omega) n,Qh hg1 (by omega) n⟩
 obtain⟨rfl,hA,hB,hC,hg⟩:=hcut
 obtain⟨hc,hf⟩:=hA.walk
 obtain⟨hc2,hf2⟩:=hB.walk
 obtain⟨hc3,hf3⟩:=hC.walk
 have hs:=hg.size
 have hz:w.heap.size+1+1 < wc.heap.size:=hC.lt
 go_upto_region 2 with fail
 go_cut [6] (fun s6 wx=>s6= .pointer (some ⟨w.heap.size+1+1,0,none⟩)∧Blk wx w.heap.size 34 n.cs∧Blk wx (w.heap.size+1) 34 m.cs∧Blk wx (w.heap.size+1+1) 34 QV.cs∧Below w.heap.size w wx)
 case first=>
  go_wp2_with (go_at_call 96;(with_reducible refine(y _).mono ?_);rintro e w2 ⟨rfl,hb2⟩;(have hA2:=hA.call hb2);(have hB2:=hB.call hb2);(have hC2:=hC.call hb2);clear hc hf hc2 hf2 hc3 hf3;obtain⟨hc,hf⟩:=hA2.walk;obtain⟨hc2,hf2⟩:=hB2.walk;obtain⟨hc3,hf3⟩:=hC2.walk;(have hg2:=after hg hb2);(have hs2:=hg2.size);(have hz2:w.heap.size+1+1 < w2.heap.size:=hC2.lt))
  go_meet
  exact⟨rfl,Blk.put_far hA2 (by omega) m,Blk.put (a:=b) hB2 m,Blk.put_far hC2 (by omega) m,Qh hg2 (by omega) m⟩
 clear hA hB hC hg hc hf hc2 hf2 hc3 hf3 hs hz x y
 obtain⟨rfl,hA,hB,hC,hg⟩:=hcut
 obtain⟨hc,hf⟩:=hA.walk
 obtain⟨hc2,hf2⟩:=hB.walk
 obtain⟨hc3,hf3⟩:=hC.walk
 have hs:=hg.size
 have hz:w.heap.size+1+1 < wc.heap.size:=hC.lt
 have HBr:Below wc.heap.size wc wc:=Below.refl _ _
 obtain⟨ne,nt,nlo,nhi,nst⟩:=n
 obtain⟨me,mt,mlo,mhi,mst⟩:=m
 try dsimp only at *
 simp only [Qd.cs]at hc hc2 hc3
 replace en:=en.out
 try dsimp only at en
 replace em:=em.out
 try dsimp only at em
 subst en em
 replace hs:=hs.out
 unfold QaQ at hs
 try dsimp only at hs
 rcases ho with rfl|rfl|rfl
 all_goals
  rcases hs with rfl|⟨rfl,h⟩|⟨rfl,rfl,rfl⟩|⟨rfl,rfl,rfl,h⟩
  all_goals
   go_wp2_with (go_at_call 63;(with_reducible refine(QdV _).mono ?_);rintro e wk ⟨rfl,hb⟩;(first|(replace HB:=after HB hb)|(have HB:=hb));clear hc hf hc2 hf2 hc3 hf3;obtain⟨hc,hf⟩:=(hA.call HB).walk;obtain⟨hc2,hf2⟩:=(hB.call HB).walk;obtain⟨hc3,hf3⟩:=(hC.call HB).walk;simp only [Qd.cs]at hc hc2 hc3)
   exact bodyPost_ret (v:=(Qy).val) (Qt rfl rfl ((hC.call HB).put (a:=QV) Qy)) rfl ⟨rfl,Qh (after hg HB) (by omega) Qy⟩
set_option maxRecDepth 100000 in
set_option maxHeartbeats 8000000 in
theorem QyH(a b n m:Qd)(en:Hid (n.e=false))(em:Hid (m.e=false))(hs:Hid (QaQ n m))(R:Qd)(z:∀w,Calls Try.prog 100 #[n.val,m.val] w (Ret R.val w))
 (x:∀w,Calls Try.prog 96 #[a.val] w (Ret n.val w)) (y:∀w,Calls Try.prog 96 #[b.val] w (Ret m.val w)) (w:World) :
 Calls Try.prog 60 #[.int .i64 3,a.val,b.val] w (Ret R.val w):=by
 go_enter Try.func60,Try.ntmps60
 go_upto_region 1 with fail
 go_cut [6] (fun s6 wx=>s6= .pointer (some ⟨w.heap.size+1+1,0,none⟩)∧Blk wx w.heap.size 34 n.cs∧Blk wx (w.heap.size+1) 34 b.cs∧Blk wx (w.heap.size+1+1) 34 QV.cs∧Below w.heap.size w wx)
 case first=>
  go_wp2_with (go_at_call 96;(with_reducible refine(x _).mono ?_);rintro e w1 ⟨rfl,hb1⟩;(have hA1:=(((Blk.new _ _ _).alloc _).alloc _).call hb1);(have hB1:=((Blk.new _ _ _).alloc _).call hb1);(have hC1:=(Blk.new _ _ _).call hb1);simp only [World.size_alloc]at hB1 hC1;obtain⟨hc1,hf1⟩:=hA1.walk;obtain⟨hc2,hf2⟩:=hB1.walk;(have hg1:=after (w:=w) (by go_grown) hb1);(have hs1:=hg1.size);(have hz1:w.heap.size+1+1 < w1.heap.size:=hC1.lt))
  go_meet
  exact⟨rfl,Blk.put (a:=a) hA1 n,Blk.put_far hB1 (by omega) n,Blk.put_far hC1 (by omega) n,Qh hg1 (by omega) n⟩
 obtain⟨rfl,hA,hB,hC,hg⟩:=hcut
 obtain⟨hc,hf⟩:=hA.walk
 obtain⟨hc2,hf2⟩:=hB.walk
 obtain⟨hc3,hf3⟩:=hC.walk
 have hs:=hg.size
 have hz:w.heap.size+1+1 < wc.heap.size:=hC.lt
 go_upto_region 2 with fail
 go_cut [6] (fun s6 wx=>s6= .pointer (some ⟨w.heap.size+1+1,0,none⟩)∧Blk wx w.heap.size 34 n.cs∧Blk wx (w.heap.size+1) 34 m.cs∧Blk wx (w.heap.size+1+1) 34 QV.cs∧Below w.heap.size w wx)
 case first=>
  go_wp2_with (go_at_call 96;(with_reducible refine(y _).mono ?_);rintro e w2 ⟨rfl,hb2⟩;(have hA2:=hA.call hb2);(have hB2:=hB.call hb2);(have hC2:=hC.call hb2);clear hc hf hc2 hf2 hc3 hf3;obtain⟨hc,hf⟩:=hA2.walk;obtain⟨hc2,hf2⟩:=hB2.walk;obtain⟨hc3,hf3⟩:=hC2.walk;(have hg2:=after hg hb2);(have hs2:=hg2.size);(have hz2:w.heap.size+1+1 < w2.heap.size:=hC2.lt))
  go_meet
  exact⟨rfl,Blk.put_far hA2 (by omega) m,Blk.put (a:=b) hB2 m,Blk.put_far hC2 (by omega) m,Qh hg2 (by omega) m⟩
 clear hA hB hC hg hc hf hc2 hf2 hc3 hf3 hs hz x y
 obtain⟨rfl,hA,hB,hC,hg⟩:=hcut
 obtain⟨hc,hf⟩:=hA.walk
 obtain⟨hc2,hf2⟩:=hB.walk
 obtain⟨hc3,hf3⟩:=hC.walk
 have hs:=hg.size
 have hz:w.heap.size+1+1 < wc.heap.size:=hC.lt
 have HBr:Below wc.heap.size wc wc:=Below.refl _ _
 obtain⟨ne,nt,nlo,nhi,nst⟩:=n
 obtain⟨me,mt,mlo,mhi,mst⟩:=m
 try dsimp only at *
 simp only [Qd.cs]at hc hc2 hc3
 replace en:=en.out
 try dsimp only at en
 replace em:=em.out
 try dsimp only at em
 subst en em
 simp only [Qd.val]at z
 replace hs:=hs.out
 unfold QaQ at hs
 try dsimp only at hs
 rcases hs with rfl|⟨rfl,h⟩|⟨rfl,rfl,rfl⟩|⟨rfl,rfl,rfl,h⟩
 all_goals
  go_wp2_with (go_at_call 100;(with_reducible refine(z _).mono ?_);rintro e wk ⟨rfl,hb⟩;(first|(replace HB:=after HB hb)|(have HB:=hb));clear hc hf hc2 hf2 hc3 hf3;obtain⟨hc,hf⟩:=(hA.call HB).walk;obtain⟨hc2,hf2⟩:=(hB.call HB).walk;obtain⟨hc3,hf3⟩:=(hC.call HB).walk;simp only [Qd.cs]at hc hc2 hc3)
  exact bodyPost_ret (v:=(R).val) (Qt rfl rfl ((hC.call HB).put (a:=QV) R)) rfl ⟨rfl,Qh (after hg HB) (by omega) R⟩
set_option maxRecDepth 100000 in
set_option maxHeartbeats 8000000 in
theorem Qyv(a b n m:Qd)(en:Hid (n.e=false))(em:Hid (m.e=false))(hs:Hid (QaQ n m))(R:Qd)(z:∀w,Calls Try.prog 101 #[n.val,m.val] w (Ret R.val w))
 (x:∀w,Calls Try.prog 96 #[a.val] w (Ret n.val w)) (y:∀w,Calls Try.prog 96 #[b.val] w (Ret m.val w)) (w:World) :
 Calls Try.prog 60 #[.int .i64 4,a.val,b.val] w (Ret R.val w):=by
 go_enter Try.func60,Try.ntmps60
 go_upto_region 1 with fail
 go_cut [6] (fun s6 wx=>s6= .pointer (some ⟨w.heap.size+1+1,0,none⟩)∧Blk wx w.heap.size 34 n.cs∧Blk wx (w.heap.size+1) 34 b.cs∧Blk wx (w.heap.size+1+1) 34 QV.cs∧Below w.heap.size w wx)
 case first=>
  go_wp2_with (go_at_call 96;(with_reducible refine(x _).mono ?_);rintro e w1 ⟨rfl,hb1⟩;(have hA1:=(((Blk.new _ _ _).alloc _).alloc _).call hb1);(have hB1:=((Blk.new _ _ _).alloc _).call hb1);(have hC1:=(Blk.new _ _ _).call hb1);simp only [World.size_alloc]at hB1 hC1;obtain⟨hc1,hf1⟩:=hA1.walk;obtain⟨hc2,hf2⟩:=hB1.walk;(have hg1:=after (w:=w) (by go_grown) hb1);(have hs1:=hg1.size);(have hz1:w.heap.size+1+1 < w1.heap.size:=hC1.lt))
  go_meet
  exact⟨rfl,Blk.put (a:=a) hA1 n,Blk.put_far hB1 (by omega) n,Blk.put_far hC1 (by omega) n,Qh hg1 (by omega) n⟩
 obtain⟨rfl,hA,hB,hC,hg⟩:=hcut
 obtain⟨hc,hf⟩:=hA.walk
 obtain⟨hc2,hf2⟩:=hB.walk
 obtain⟨hc3,hf3⟩:=hC.walk
 have hs:=hg.size
 have hz:w.heap.size+1+1 < wc.heap.size:=hC.lt
 go_upto_region 2 with fail
 go_cut [6] (fun s6 wx=>s6= .pointer (some ⟨w.heap.size+1+1,0,none⟩)∧Blk wx w.heap.size 34 n.cs∧Blk wx (w.heap.size+1) 34 m.cs∧Blk wx (w.heap.size+1+1) 34 QV.cs∧Below w.heap.size w wx)
 case first=>
  go_wp2_with (go_at_call 96;(with_reducible refine(y _).mono ?_);rintro e w2 ⟨rfl,hb2⟩;(have hA2:=hA.call hb2);(have hB2:=hB.call hb2);(have hC2:=hC.call hb2);clear hc hf hc2 hf2 hc3 hf3;obtain⟨hc,hf⟩:=hA2.walk;obtain⟨hc2,hf2⟩:=hB2.walk;obtain⟨hc3,hf3⟩:=hC2.walk;(have hg2:=after hg hb2);(have hs2:=hg2.size);(have hz2:w.heap.size+1+1 < w2.heap.size:=hC2.lt))
  go_meet
  exact⟨rfl,Blk.put_far hA2 (by omega) m,Blk.put (a:=b) hB2 m,Blk.put_far hC2 (by omega) m,Qh hg2 (by omega) m⟩
 clear hA hB hC hg hc hf hc2 hf2 hc3 hf3 hs hz x y
 obtain⟨rfl,hA,hB,hC,hg⟩:=hcut
 obtain⟨hc,hf⟩:=hA.walk
 obtain⟨hc2,hf2⟩:=hB.walk
 obtain⟨hc3,hf3⟩:=hC.walk
 have hs:=hg.size
 have hz:w.heap.size+1+1 < wc.heap.size:=hC.lt
 have HBr:Below wc.heap.size wc wc:=Below.refl _ _
 obtain⟨ne,nt,nlo,nhi,nst⟩:=n
 obtain⟨me,mt,mlo,mhi,mst⟩:=m
 try dsimp only at *
 simp only [Qd.cs]at hc hc2 hc3
 replace en:=en.out
 try dsimp only at en
 replace em:=em.out
 try dsimp only at em
 subst en em
 simp only [Qd.val]at z
 replace hs:=hs.out
 unfold QaQ at hs
 try dsimp only at hs
 rcases hs with rfl|⟨rfl,h⟩|⟨rfl,rfl,rfl⟩|⟨rfl,rfl,rfl,h⟩
 all_goals
  go_wp2_with (go_at_call 101;(with_reducible refine(z _).mono ?_);rintro e wk ⟨rfl,hb⟩;(first|(replace HB:=after HB hb)|(have HB:=hb));clear hc hf hc2 hf2 hc3 hf3;obtain⟨hc,hf⟩:=(hA.call HB).walk;obtain⟨hc2,hf2⟩:=(hB.call HB).walk;obtain⟨hc3,hf3⟩:=(hC.call HB).walk;simp only [Qd.cs]at hc hc2 hc3)
  exact bodyPost_ret (v:=(R).val) (Qt rfl rfl ((hC.call HB).put (a:=QV) R)) rfl ⟨rfl,Qh (after hg HB) (by omega) R⟩
end Go.Proofs.Yteplnamfpodmlaa
