/-
  Part of the proof.
-/
import Derived.Test.YteplnamfpodmlaaGreatQVaB
import Derived.Deep.RegionHeld3
set_option linter.unusedVariables false
set_option linter.unusedSimpArgs false
set_option maxRecDepth 100000
open Go.ChangeShapes Go.WideShapes Go.ChangeAt Go.RowKit
namespace Go.Proofs.YteplnamfpodmlaaGreat
set_option maxRecDepth 100000 in
set_option maxHeartbeats 8000000 in
theorem Qcz(a b n m:Qd)(en:Hid (n.e=false))(em:Hid (m.e=false))(sn sm:Bool)(s1:∀w,Calls Tryz.prog 58 #[n.val] w (Ret (.bool sn) w))(s2:∀w,Calls Tryz.prog 58 #[m.val] w (Ret (.bool sm) w))(hss:Hid ((sn && sm)=false))(hc:Hid (n.t=true∨(n.t=false∧m.t=true)∨(n.t=false∧m.t=false∧4294967295 < n.hi+m.hi)))(h0:0≤n.hi∧n.hi < 4294967296∧0≤m.hi∧m.hi < 4294967296)(x:∀w,Calls Tryz.prog 52 #[a.val] w (Ret n.val w))(y:∀w,Calls Tryz.prog 52 #[b.val] w (Ret m.val w))(w:World) :
 Calls Tryz.prog 35 #[.int .i64 3,a.val,b.val] w (Ret Qp.val w):=by
 obtain⟨i1,i2,i3,i4⟩:=h0
 go_enter Tryz.func35,Tryz.ntmps35
 go_upto_region 1 with fail
 go_cut [6] (fun s6 wx=>s6= .pointer (some ⟨w.heap.size+1+1,0,none⟩)∧Blk wx w.heap.size 34 n.cs∧Blk wx (w.heap.size+1) 34 m.cs∧Blk wx (w.heap.size+1+1) 34 Qs.cs∧Below w.heap.size w wx)
 case first=>
  go_region_with (first|(go_at_call 52;(with_reducible refine(x _).mono ?_);rintro e w1 ⟨rfl,hb1⟩;(have hA:=(((Blk.new _ _ _).alloc _).alloc _).drew.call hb1);(have hB:=((Blk.new _ _ _).alloc _).drew.call hb1);(have hC:=(Blk.new _ _ _).drew.call hb1);simp only [World.size_alloc]at hB hC;obtain⟨hc,hf⟩:=hA.walk;obtain⟨hc2,hf2⟩:=hB.walk;(have hg:=after (w:=w) (by go_grown) hb1);(have hs1:=hg.size))|(go_at_call 52;(with_reducible refine(y _).mono ?_);rintro e w2 ⟨rfl,hb2⟩;(have hA2:=hA.call hb2);(have hB2:=hB.call hb2);(have hC2:=hC.call hb2);obtain⟨hc3,hf3⟩:=hA2.walk;obtain⟨hc4,hf4⟩:=hB2.walk;(have hg2:=after hg hb2);(have hs2:=hg2.size)))
  all_goals (go_wp2_with fail;go_meet;exact⟨rfl,(Blk.put (a:=a) hA2 n).put_far (by omega) m,(Blk.put_far hB2 (by omega) n).put (a:=b) m,(Blk.put_far hC2 (by omega) n).put_far (by omega) m,Qe (Qe hg2 (by omega) _) (by omega) _⟩)
 obtain⟨rfl,hA,hB,hC,hg⟩:=hcut;obtain⟨hcA,hfA⟩:=hA.walk;obtain⟨hcB,hfB⟩:=hB.walk;obtain⟨hcC,hfC⟩:=hC.walk;have hs:=hg.size;have hz:w.heap.size+1+1 < wc.heap.size:=hC.lt;clear x y;obtain⟨ne,nt,nlo,nhi,nst⟩:=n;obtain⟨me,mt,mlo,mhi,mst⟩:=m
 try dsimp only at *
 simp only [Qd.cs]at hcA hcB hcC;replace en:=en.out
 try dsimp only at en
 replace em:=em.out
 try dsimp only at em
 subst en em;replace hc:=hc.out
 try dsimp only at hc
 simp only [Qd.val]at s1 s2;have hs':=hss.out;rcases hc with rfl|⟨rfl,rfl⟩|⟨rfl,rfl,hc⟩
 all_goals
  cases sn
  all_goals
   cases sm
   all_goals first
    |(exfalso;simp at hs';done)
    |(clear hs'
      go_wp2_with (first|(go_at_call 58;(with_reducible refine(s1 _).mono ?_);rintro e wk ⟨rfl,hb⟩;(first|(replace HB:=after HB hb)|(replace HB:=after (Qn HB _) hb)|(have HB:=hb));clear hcA hfA hcB hfB hcC hfC;obtain⟨hcA,hfA⟩:=(hA.call HB).walk;obtain⟨hcB,hfB⟩:=(hB.call HB).walk;obtain⟨hcC,hfC⟩:=(hC.call HB).walk;simp only [Qd.cs]at hcA hcB hcC)|(go_at_call 58;(with_reducible refine(s2 _).mono ?_);rintro e wk ⟨rfl,hb⟩;(first|(replace HB:=after HB hb)|(replace HB:=after (Qn HB _) hb)|(have HB:=hb));clear hcA hfA hcB hfB hcC hfC;obtain⟨hcA,hfA⟩:=(hA.call HB).walk;obtain⟨hcB,hfB⟩:=(hB.call HB).walk;obtain⟨hcC,hfC⟩:=(hC.call HB).walk;simp only [Qd.cs]at hcA hcB hcC)|(go_at_call 36;(with_reducible refine(Xy _).mono ?_);rintro e wk ⟨rfl,hb⟩;(first|(replace HB:=after HB hb)|(replace HB:=after (Qn HB _) hb)|(have HB:=hb));clear hcA hfA hcB hfB hcC hfC;obtain⟨hcA,hfA⟩:=(hA.call HB).walk;obtain⟨hcB,hfB⟩:=(hB.call HB).walk;obtain⟨hcC,hfC⟩:=(hC.call HB).walk;simp only [Qd.cs]at hcA hcB hcC))
      exact bodyPost_ret (v:=(Qp).val) (Qf rfl rfl ((hC.call HB).put (a:=Qs) Qp)) rfl ⟨rfl,Qe (after hg HB) (by omega) Qp⟩
      )
set_option maxRecDepth 100000 in
set_option maxHeartbeats 8000000 in
theorem Qc0(a b n m:Qd)(en:Hid (n.e=false))(em:Hid (m.e=false))(sn sm:Bool)(s1:∀w,Calls Tryz.prog 58 #[n.val] w (Ret (.bool sn) w))(s2:∀w,Calls Tryz.prog 58 #[m.val] w (Ret (.bool sm) w))(hss:Hid ((sn && sm)=false))(hc:Hid (n.t=true∨(n.t=false∧m.t=true)∨(n.t=false∧m.t=false∧n.lo < m.hi)))(x:∀w,Calls Tryz.prog 52 #[a.val] w (Ret n.val w))(y:∀w,Calls Tryz.prog 52 #[b.val] w (Ret m.val w))(w:World) :
 Calls Tryz.prog 35 #[.int .i64 4,a.val,b.val] w (Ret Qp.val w):=by
 go_enter Tryz.func35,Tryz.ntmps35
 go_upto_region 1 with fail
 go_cut [6] (fun s6 wx=>s6= .pointer (some ⟨w.heap.size+1+1,0,none⟩)∧Blk wx w.heap.size 34 n.cs∧Blk wx (w.heap.size+1) 34 m.cs∧Blk wx (w.heap.size+1+1) 34 Qs.cs∧Below w.heap.size w wx)
 case first=>
  go_region_with (first|(go_at_call 52;(with_reducible refine(x _).mono ?_);rintro e w1 ⟨rfl,hb1⟩;(have hA:=(((Blk.new _ _ _).alloc _).alloc _).drew.call hb1);(have hB:=((Blk.new _ _ _).alloc _).drew.call hb1);(have hC:=(Blk.new _ _ _).drew.call hb1);simp only [World.size_alloc]at hB hC;obtain⟨hc,hf⟩:=hA.walk;obtain⟨hc2,hf2⟩:=hB.walk;(have hg:=after (w:=w) (by go_grown) hb1);(have hs1:=hg.size))|(go_at_call 52;(with_reducible refine(y _).mono ?_);rintro e w2 ⟨rfl,hb2⟩;(have hA2:=hA.call hb2);(have hB2:=hB.call hb2);(have hC2:=hC.call hb2);obtain⟨hc3,hf3⟩:=hA2.walk;obtain⟨hc4,hf4⟩:=hB2.walk;(have hg2:=after hg hb2);(have hs2:=hg2.size)))
  all_goals (go_wp2_with fail;go_meet;exact⟨rfl,(Blk.put (a:=a) hA2 n).put_far (by omega) m,(Blk.put_far hB2 (by omega) n).put (a:=b) m,(Blk.put_far hC2 (by omega) n).put_far (by omega) m,Qe (Qe hg2 (by omega) _) (by omega) _⟩)
 obtain⟨rfl,hA,hB,hC,hg⟩:=hcut;obtain⟨hcA,hfA⟩:=hA.walk;obtain⟨hcB,hfB⟩:=hB.walk;obtain⟨hcC,hfC⟩:=hC.walk;have hs:=hg.size;have hz:w.heap.size+1+1 < wc.heap.size:=hC.lt;clear x y;obtain⟨ne,nt,nlo,nhi,nst⟩:=n;obtain⟨me,mt,mlo,mhi,mst⟩:=m
 try dsimp only at *
 simp only [Qd.cs]at hcA hcB hcC;replace en:=en.out
 try dsimp only at en
 replace em:=em.out
 try dsimp only at em
 subst en em;replace hc:=hc.out
 try dsimp only at hc
 simp only [Qd.val]at s1 s2;have hs':=hss.out;rcases hc with rfl|⟨rfl,rfl⟩|⟨rfl,rfl,hc⟩
 all_goals
  cases sn
  all_goals
   cases sm
   all_goals first
    |(exfalso;simp at hs';done)
    |(clear hs'
      go_wp2_with (first|(go_at_call 58;(with_reducible refine(s1 _).mono ?_);rintro e wk ⟨rfl,hb⟩;(first|(replace HB:=after HB hb)|(replace HB:=after (Qn HB _) hb)|(have HB:=hb));clear hcA hfA hcB hfB hcC hfC;obtain⟨hcA,hfA⟩:=(hA.call HB).walk;obtain⟨hcB,hfB⟩:=(hB.call HB).walk;obtain⟨hcC,hfC⟩:=(hC.call HB).walk;simp only [Qd.cs]at hcA hcB hcC)|(go_at_call 58;(with_reducible refine(s2 _).mono ?_);rintro e wk ⟨rfl,hb⟩;(first|(replace HB:=after HB hb)|(replace HB:=after (Qn HB _) hb)|(have HB:=hb));clear hcA hfA hcB hfB hcC hfC;obtain⟨hcA,hfA⟩:=(hA.call HB).walk;obtain⟨hcB,hfB⟩:=(hB.call HB).walk;obtain⟨hcC,hfC⟩:=(hC.call HB).walk;simp only [Qd.cs]at hcA hcB hcC)|(go_at_call 36;(with_reducible refine(Xy _).mono ?_);rintro e wk ⟨rfl,hb⟩;(first|(replace HB:=after HB hb)|(replace HB:=after (Qn HB _) hb)|(have HB:=hb));clear hcA hfA hcB hfB hcC hfC;obtain⟨hcA,hfA⟩:=(hA.call HB).walk;obtain⟨hcB,hfB⟩:=(hB.call HB).walk;obtain⟨hcC,hfC⟩:=(hC.call HB).walk;simp only [Qd.cs]at hcA hcB hcC))
      exact bodyPost_ret (v:=(Qp).val) (Qf rfl rfl ((hC.call HB).put (a:=Qs) Qp)) rfl ⟨rfl,Qe (after hg HB) (by omega) Qp⟩
      )
set_option maxRecDepth 100000 in
set_option maxHeartbeats 8000000 in
theorem Qt8(a b n m:Qd)(en:Hid (n.e=false))(em:Hid (m.e=false))(tm:Hid (m.t=false))(s1:∀w,Calls Tryz.prog 58 #[n.val] w (Ret (.bool false) w))(s2:∀w,Calls Tryz.prog 58 #[m.val] w (Ret (.bool true) w))(P:Int)(p:∀w,Calls Tryz.prog 62 #[.int .u32 1,.int .u32 m.lo] w (Ret (.int .u32 P) w))(R:Qd)(z:∀w,Calls Tryz.prog 61 #[n.val,.int .u32 P] w (Ret R.val w))(x:∀w,Calls Tryz.prog 52 #[a.val] w (Ret n.val w))(y:∀w,Calls Tryz.prog 52 #[b.val] w (Ret m.val w))(w:World) :
 Calls Tryz.prog 35 #[.int .i64 9,a.val,b.val] w (Ret R.val w):=by
 go_enter Tryz.func35,Tryz.ntmps35
 go_upto_region 1 with fail
 go_cut [6] (fun s6 wx=>s6= .pointer (some ⟨w.heap.size+1+1,0,none⟩)∧Blk wx w.heap.size 34 n.cs∧Blk wx (w.heap.size+1) 34 m.cs∧Blk wx (w.heap.size+1+1) 34 Qs.cs∧Below w.heap.size w wx)
 case first=>
  go_region_with (first|(go_at_call 52;(with_reducible refine(x _).mono ?_);rintro e w1 ⟨rfl,hb1⟩;(have hA:=(((Blk.new _ _ _).alloc _).alloc _).drew.call hb1);(have hB:=((Blk.new _ _ _).alloc _).drew.call hb1);(have hC:=(Blk.new _ _ _).drew.call hb1);simp only [World.size_alloc]at hB hC;obtain⟨hc,hf⟩:=hA.walk;obtain⟨hc2,hf2⟩:=hB.walk;(have hg:=after (w:=w) (by go_grown) hb1);(have hs1:=hg.size))|(go_at_call 52;(with_reducible refine(y _).mono ?_);rintro e w2 ⟨rfl,hb2⟩;(have hA2:=hA.call hb2);(have hB2:=hB.call hb2);(have hC2:=hC.call hb2);obtain⟨hc3,hf3⟩:=hA2.walk;obtain⟨hc4,hf4⟩:=hB2.walk;(have hg2:=after hg hb2);(have hs2:=hg2.size)))
  all_goals (go_wp2_with fail;go_meet;exact⟨rfl,(Blk.put (a:=a) hA2 n).put_far (by omega) m,(Blk.put_far hB2 (by omega) n).put (a:=b) m,(Blk.put_far hC2 (by omega) n).put_far (by omega) m,Qe (Qe hg2 (by omega) _) (by omega) _⟩)
 obtain⟨rfl,hA,hB,hC,hg⟩:=hcut;obtain⟨hcA,hfA⟩:=hA.walk;obtain⟨hcB,hfB⟩:=hB.walk;obtain⟨hcC,hfC⟩:=hC.walk;have hs:=hg.size;have hz:w.heap.size+1+1 < wc.heap.size:=hC.lt;clear x y;obtain⟨ne,nt,nlo,nhi,nst⟩:=n;obtain⟨me,mt,mlo,mhi,mst⟩:=m
 try dsimp only at *
 simp only [Qd.cs]at hcA hcB hcC;replace en:=en.out
 try dsimp only at en
 replace em:=em.out
 try dsimp only at em
 subst en em;replace tm:=tm.out
 try dsimp only at tm
 subst tm;simp only [Qd.val]at s1 s2 z;have hz':w.heap.size+1+1≤wc.heap.size:=Nat.le_of_lt hz
 have mkS:∀w',Below (w.heap.size+1+1) wc w'→((∀o,w'.cell? ⟨w.heap.size,o,none⟩=(#[.bool false,.bool nt,.int .u32 nlo,.int .u32 nhi,.int .u32 nst]:Array Value)[o]?)∧(∀o,w'.cell? ⟨w.heap.size+1,o,none⟩=(#[.bool false,.bool false,.int .u32 mlo,.int .u32 mhi,.int .u32 mst]:Array Value)[o]?)):=fun w' hb=>⟨fun o=>(hA.below hb (by omega)).walk.1 o,fun o=>(hB.below hb (by omega)).walk.1 o⟩
 go_wp2_with (first|(go_at_call 58;(with_reducible refine(s1 _).mono ?_);rintro e wk ⟨rfl,hb⟩;(first|(replace HB:=after HB hb)|(replace HB:=after (Qn HB _) hb)|(have HB:=hb));clear hcA hfA hcB hfB hcC hfC;obtain⟨hcA,hfA⟩:=(hA.call HB).walk;obtain⟨hcB,hfB⟩:=(hB.call HB).walk;obtain⟨hcC,hfC⟩:=(hC.call HB).walk;simp only [Qd.cs]at hcA hcB hcC)|(go_at_call 58;(with_reducible refine(s2 _).mono ?_);rintro e wk ⟨rfl,hb⟩;(first|(replace HB:=after HB hb)|(replace HB:=after (Qn HB _) hb)|(have HB:=hb));clear hcA hfA hcB hfB hcC hfC;obtain⟨hcA,hfA⟩:=(hA.call HB).walk;obtain⟨hcB,hfB⟩:=(hB.call HB).walk;obtain⟨hcC,hfC⟩:=(hC.call HB).walk;simp only [Qd.cs]at hcA hcB hcC))
 go_region_held3 (fun w'=>(∀o,w'.cell? ⟨w.heap.size,o,none⟩=(#[.bool false,.bool nt,.int .u32 nlo,.int .u32 nhi,.int .u32 nst]:Array Value)[o]?)∧(∀o,w'.cell? ⟨w.heap.size+1,o,none⟩=(#[.bool false,.bool false,.int .u32 mlo,.int .u32 mhi,.int .u32 mst]:Array Value)[o]?))
  (first|with_reducible exact mkS _ (HB.drew.mono hz')|with_reducible exact mkS _ (HB4.mono hz')|with_reducible exact mkS _ (HB5.mono hz')|with_reducible exact mkS _ (Qe (HB5.mono hz') (Nat.le_refl _) R))
  (first|(go_at_call 62;(with_reducible refine(p _).mono ?_);rintro e w4 ⟨rfl,hb4⟩;(have HB4:=after HB.drew hb4))|(go_at_call 61;(with_reducible refine(z _).mono ?_);rintro e w5 ⟨rfl,hb5⟩;(have HB5:=after HB4 hb5);clear hcA hfA hcB hfB hcC hfC;obtain⟨hcC,hfC⟩:=(hC.call HB5).walk))
 go_wp2
 exact bodyPost_ret (v:=R.val) (Qf rfl rfl ((hC.call HB5).put (a:=Qs) R)) rfl ⟨rfl,Qe (after hg HB5) (by omega) R⟩
set_option maxRecDepth 100000 in
set_option maxHeartbeats 8000000 in
theorem Qt9(a b n m:Qd)(en:Hid (n.e=false))(em:Hid (m.e=false))(tn:Hid (n.t=false))(tm:Hid (m.t=false))(s1:∀w,Calls Tryz.prog 58 #[n.val] w (Ret (.bool false) w))(s2:∀w,Calls Tryz.prog 58 #[m.val] w (Ret (.bool true) w))(P Q:Int)(p:∀w,Calls Tryz.prog 64 #[.int .u32 n.lo,.int .u32 m.lo] w (Ret (.int .u32 P) w))(q:∀w,Calls Tryz.prog 64 #[.int .u32 n.hi,.int .u32 m.lo] w (Ret (.int .u32 Q) w))(R:Qd)(z:∀w,Calls Tryz.prog 31 #[.int .u32 P,.int .u32 Q,.int .u32 1] w (Ret R.val w))(x:∀w,Calls Tryz.prog 52 #[a.val] w (Ret n.val w))(y:∀w,Calls Tryz.prog 52 #[b.val] w (Ret m.val w))(w:World) :
 Calls Tryz.prog 35 #[.int .i64 10,a.val,b.val] w (Ret R.val w):=by
 go_enter Tryz.func35,Tryz.ntmps35
 go_upto_region 1 with fail
 go_cut [6] (fun s6 wx=>s6= .pointer (some ⟨w.heap.size+1+1,0,none⟩)∧Blk wx w.heap.size 34 n.cs∧Blk wx (w.heap.size+1) 34 m.cs∧Blk wx (w.heap.size+1+1) 34 Qs.cs∧Below w.heap.size w wx)
 case first=>
  go_region_with (first|(go_at_call 52;(with_reducible refine(x _).mono ?_);rintro e w1 ⟨rfl,hb1⟩;(have hA:=(((Blk.new _ _ _).alloc _).alloc _).drew.call hb1);(have hB:=((Blk.new _ _ _).alloc _).drew.call hb1);(have hC:=(Blk.new _ _ _).drew.call hb1);simp only [World.size_alloc]at hB hC;obtain⟨hc,hf⟩:=hA.walk;obtain⟨hc2,hf2⟩:=hB.walk;(have hg:=after (w:=w) (by go_grown) hb1);(have hs1:=hg.size))|(go_at_call 52;(with_reducible refine(y _).mono ?_);rintro e w2 ⟨rfl,hb2⟩;(have hA2:=hA.call hb2);(have hB2:=hB.call hb2);(have hC2:=hC.call hb2);obtain⟨hc3,hf3⟩:=hA2.walk;obtain⟨hc4,hf4⟩:=hB2.walk;(have hg2:=after hg hb2);(have hs2:=hg2.size)))
  all_goals (go_wp2_with fail;go_meet;exact⟨rfl,(Blk.put (a:=a) hA2 n).put_far (by omega) m,(Blk.put_far hB2 (by omega) n).put (a:=b) m,(Blk.put_far hC2 (by omega) n).put_far (by omega) m,Qe (Qe hg2 (by omega) _) (by omega) _⟩)
 obtain⟨rfl,hA,hB,hC,hg⟩:=hcut;obtain⟨hcA,hfA⟩:=hA.walk;obtain⟨hcB,hfB⟩:=hB.walk;obtain⟨hcC,hfC⟩:=hC.walk;have hs:=hg.size;have hz:w.heap.size+1+1 < wc.heap.size:=hC.lt;clear x y;obtain⟨ne,nt,nlo,nhi,nst⟩:=n;obtain⟨me,mt,mlo,mhi,mst⟩:=m
 try dsimp only at *
 simp only [Qd.cs]at hcA hcB hcC;replace en:=en.out
 try dsimp only at en
 replace em:=em.out
 try dsimp only at em
 subst en em;replace tn:=tn.out;replace tm:=tm.out
 try dsimp only at tn tm
 subst tn tm;simp only [Qd.val]at s1 s2;have hz':w.heap.size+1+1≤wc.heap.size:=Nat.le_of_lt hz
 have mkS:∀w',Below (w.heap.size+1+1) wc w'→((∀o,w'.cell? ⟨w.heap.size,o,none⟩=(#[.bool false,.bool false,.int .u32 nlo,.int .u32 nhi,.int .u32 nst]:Array Value)[o]?)∧(∀o,w'.cell? ⟨w.heap.size+1,o,none⟩=(#[.bool false,.bool false,.int .u32 mlo,.int .u32 mhi,.int .u32 mst]:Array Value)[o]?)):=fun w' hb=>⟨fun o=>(hA.below hb (by omega)).walk.1 o,fun o=>(hB.below hb (by omega)).walk.1 o⟩
 go_wp2_with (first|(go_at_call 58;(with_reducible refine(s1 _).mono ?_);rintro e wk ⟨rfl,hb⟩;(first|(replace HB:=after HB hb)|(replace HB:=after (Qn HB _) hb)|(have HB:=hb));clear hcA hfA hcB hfB hcC hfC;obtain⟨hcA,hfA⟩:=(hA.call HB).walk;obtain⟨hcB,hfB⟩:=(hB.call HB).walk;obtain⟨hcC,hfC⟩:=(hC.call HB).walk;simp only [Qd.cs]at hcA hcB hcC)|(go_at_call 58;(with_reducible refine(s2 _).mono ?_);rintro e wk ⟨rfl,hb⟩;(first|(replace HB:=after HB hb)|(replace HB:=after (Qn HB _) hb)|(have HB:=hb));clear hcA hfA hcB hfB hcC hfC;obtain⟨hcA,hfA⟩:=(hA.call HB).walk;obtain⟨hcB,hfB⟩:=(hB.call HB).walk;obtain⟨hcC,hfC⟩:=(hC.call HB).walk;simp only [Qd.cs]at hcA hcB hcC))
 go_region_held3 (fun w'=>(∀o,w'.cell? ⟨w.heap.size,o,none⟩=(#[.bool false,.bool false,.int .u32 nlo,.int .u32 nhi,.int .u32 nst]:Array Value)[o]?)∧(∀o,w'.cell? ⟨w.heap.size+1,o,none⟩=(#[.bool false,.bool false,.int .u32 mlo,.int .u32 mhi,.int .u32 mst]:Array Value)[o]?))
  (first|with_reducible exact mkS _ (HB.drew.mono hz')|with_reducible exact mkS _ (HB4.mono hz')|with_reducible exact mkS _ (HB5.mono hz')|with_reducible exact mkS _ (Qe (HB5.mono hz') (Nat.le_refl _) R))
  (first|(go_at_call 64;(first|(with_reducible refine(p _).mono ?_)|(with_reducible refine(q _).mono ?_));rintro e w4 ⟨rfl,hb4⟩;(first|(replace HB4:=after HB4 hb4)|(have HB4:=after HB.drew hb4)))|(go_at_call 31;(with_reducible refine(z _).mono ?_);rintro e w5 ⟨rfl,hb5⟩;(have HB5:=after HB4 hb5);clear hcA hfA hcB hfB hcC hfC;obtain⟨hcC,hfC⟩:=(hC.call HB5).walk))
 go_wp2
 exact bodyPost_ret (v:=R.val) (Qf rfl rfl ((hC.call HB5).put (a:=Qs) R)) rfl ⟨rfl,Qe (after hg HB5) (by omega) R⟩
end Go.Proofs.YteplnamfpodmlaaGreat
