/-
  Part of the proof.
-/
import Derived.Test.YteplnamfpodmlaaGreatQVaB
import Derived.Deep.RegionHeld3
set_option linter.unusedVariables false
set_option linter.unusedSimpArgs false
set_option maxRecDepth 100000
open Go.ChangeShapes Go.WideShapes Go.ChangeAt Go.RowKit
namespace Go.Proofs.YteplnamfpodmlaaGreat
set_option maxRecDepth 100000 in
set_option maxHeartbeats 8000000 in
theorem Qt2(a b n m:Qd)(en:Hid (n.e=false))(em:Hid (m.e=false))(sn sm:Bool)(s1:∀w,Calls Tryz.prog 58 #[n.val] w (Ret (.bool sn) w))(s2:∀w,Calls Tryz.prog 58 #[m.val] w (Ret (.bool sm) w))(hss:Hid ((sn && sm)=false))(hn:n.wf)(hm:m.wf)(tn:Hid (n.t=false))(tm:Hid (m.t=false))(ln:n.lo≤n.hi)(lm:m.lo≤m.hi)(hc:n.hi+m.hi≤4294967295)(R:Qd)(hR:Hid (R=Qj (n.lo+m.lo) (n.hi+m.hi) (Zr n.st m.st)))(x:∀w,Calls Tryz.prog 52 #[a.val] w (Ret n.val w))(y:∀w,Calls Tryz.prog 52 #[b.val] w (Ret m.val w))(w:World) :
 Calls Tryz.prog 35 #[.int .i64 3,a.val,b.val] w (Ret R.val w):=by
 obtain⟨n0,n1,n2,n3,n4,n5⟩:=hn;obtain⟨m0,m1,m2,m3,m4,m5⟩:=hm;have g0:=QT n.st m.st;have g1:=Jo n.st m.st 4294967295 n4 m4 (by omega) (by omega)
 have B0:=Z8 (n.lo+m.lo) (n.hi+m.hi) (Zr n.st m.st) (by omega) (by omega) (by omega) (by omega) g0 (by omega)
 rw [←hR.out]at B0;have z1:=Qbq n.st m.st n4 n5 m4 m5;generalize Zr n.st m.st=G at *;have B:∀p q r w,p=n.lo+m.lo→q=n.hi+m.hi→r=G→Calls Tryz.prog 31 #[.int .u32 p,.int .u32 q,.int .u32 r] w (Ret R.val w):=fun p q r w hp hq hr=>by subst hp hq hr;exact B0 w
 clear B0 hR
 go_enter Tryz.func35,Tryz.ntmps35
 go_upto_region 1 with fail
 go_cut [6] (fun s6 wx=>s6= .pointer (some ⟨w.heap.size+1+1,0,none⟩)∧Blk wx w.heap.size 34 n.cs∧Blk wx (w.heap.size+1) 34 m.cs∧Blk wx (w.heap.size+1+1) 34 Qs.cs∧Below w.heap.size w wx)
 case first=>
  go_region_with (first|(go_at_call 52;(with_reducible refine(x _).mono ?_);rintro e w1 ⟨rfl,hb1⟩;(have hA:=(((Blk.new _ _ _).alloc _).alloc _).drew.call hb1);(have hB:=((Blk.new _ _ _).alloc _).drew.call hb1);(have hC:=(Blk.new _ _ _).drew.call hb1);simp only [World.size_alloc]at hB hC;obtain⟨hc,hf⟩:=hA.walk;obtain⟨hc2,hf2⟩:=hB.walk;(have hg:=after (w:=w) (by go_grown) hb1);(have hs1:=hg.size))|(go_at_call 52;(with_reducible refine(y _).mono ?_);rintro e w2 ⟨rfl,hb2⟩;(have hA2:=hA.call hb2);(have hB2:=hB.call hb2);(have hC2:=hC.call hb2);obtain⟨hc3,hf3⟩:=hA2.walk;obtain⟨hc4,hf4⟩:=hB2.walk;(have hg2:=after hg hb2);(have hs2:=hg2.size)))
  all_goals (go_wp2_with fail;go_meet;exact⟨rfl,(Blk.put (a:=a) hA2 n).put_far (by omega) m,(Blk.put_far hB2 (by omega) n).put (a:=b) m,(Blk.put_far hC2 (by omega) n).put_far (by omega) m,Qe (Qe hg2 (by omega) _) (by omega) _⟩)
 obtain⟨rfl,hA,hB,hC,hg⟩:=hcut;obtain⟨hcA,hfA⟩:=hA.walk;obtain⟨hcB,hfB⟩:=hB.walk;obtain⟨hcC,hfC⟩:=hC.walk;have hs:=hg.size;have hz:w.heap.size+1+1 < wc.heap.size:=hC.lt;clear x y;obtain⟨ne,nt,nlo,nhi,nst⟩:=n;obtain⟨me,mt,mlo,mhi,mst⟩:=m
 try dsimp only at *
 simp only [Qd.cs]at hcA hcB hcC;replace en:=en.out
 try dsimp only at en
 replace em:=em.out
 try dsimp only at em
 subst en em;replace tn:=tn.out;replace tm:=tm.out
 try dsimp only at tn tm
 subst tn tm;simp only [Qd.val]at s1 s2;have hz':w.heap.size+1+1≤wc.heap.size:=Nat.le_of_lt hz
 have mkS:∀w',Below (w.heap.size+1+1) wc w'→((∀o,w'.cell? ⟨w.heap.size,o,none⟩=(#[.bool false,.bool false,.int .u32 nlo,.int .u32 nhi,.int .u32 nst]:Array Value)[o]?)∧(∀o,w'.cell? ⟨w.heap.size+1,o,none⟩=(#[.bool false,.bool false,.int .u32 mlo,.int .u32 mhi,.int .u32 mst]:Array Value)[o]?)):=fun w' hb=>⟨fun o=>(hA.below hb (by omega)).walk.1 o,fun o=>(hB.below hb (by omega)).walk.1 o⟩
 have hs':=hss.out;cases sn
 all_goals
  (try cases sm)
  all_goals first
   |(exfalso;simp at hs';done)
   |(clear hs'
     go_wp2_with (first|(go_at_call 58;(with_reducible refine(s1 _).mono ?_);rintro e wk ⟨rfl,hb⟩;(first|(replace HB:=after HB hb)|(replace HB:=after (Qn HB _) hb)|(have HB:=hb));clear hcA hfA hcB hfB hcC hfC;obtain⟨hcA,hfA⟩:=(hA.call HB).walk;obtain⟨hcB,hfB⟩:=(hB.call HB).walk;obtain⟨hcC,hfC⟩:=(hC.call HB).walk;simp only [Qd.cs]at hcA hcB hcC)|(go_at_call 58;(with_reducible refine(s2 _).mono ?_);rintro e wk ⟨rfl,hb⟩;(first|(replace HB:=after HB hb)|(replace HB:=after (Qn HB _) hb)|(have HB:=hb));clear hcA hfA hcB hfB hcC hfC;obtain⟨hcA,hfA⟩:=(hA.call HB).walk;obtain⟨hcB,hfB⟩:=(hB.call HB).walk;obtain⟨hcC,hfC⟩:=(hC.call HB).walk;simp only [Qd.cs]at hcA hcB hcC))
     go_region_held3 (fun w'=>(∀o,w'.cell? ⟨w.heap.size,o,none⟩=(#[.bool false,.bool false,.int .u32 nlo,.int .u32 nhi,.int .u32 nst]:Array Value)[o]?)∧(∀o,w'.cell? ⟨w.heap.size+1,o,none⟩=(#[.bool false,.bool false,.int .u32 mlo,.int .u32 mhi,.int .u32 mst]:Array Value)[o]?))
      (first|with_reducible exact mkS _ (HB.drew.mono hz')|with_reducible exact mkS _ ((Qn HB _).mono hz')|with_reducible exact mkS _ ((Qn HB.drew _).mono hz')|with_reducible exact mkS _ (HB5.mono hz')|with_reducible exact mkS _ (Qe (HB5.mono hz') (Nat.le_refl _) R))
      (first|(go_at_call 60;(with_reducible refine(z1 _).mono ?_);rintro e w3 ⟨rfl,qd,rfl⟩)|(go_at_call 31;(with_reducible refine(B _ _ _ _ (by first|rfl|omega|(simp only [IntKind.wrap_u32];omega)) (by first|rfl|omega|(simp only [IntKind.wrap_u32];omega)) rfl).mono ?_);rintro e w5 ⟨rfl,hb5⟩;(have HB5:=after (Qn HB _) hb5);clear hcA hfA hcB hfB hcC hfC;obtain⟨hcC,hfC⟩:=(hC.call HB5).walk))
     go_wp2
     exact bodyPost_ret (v:=R.val) (Qf rfl rfl ((hC.call HB5).put (a:=Qs) R)) rfl ⟨rfl,Qe (after hg HB5) (by omega) R⟩
     )
set_option maxRecDepth 100000 in
set_option maxHeartbeats 8000000 in
theorem QtA(a b n m:Qd)(en:Hid (n.e=false))(em:Hid (m.e=false))(sn sm:Bool)(s1:∀w,Calls Tryz.prog 58 #[n.val] w (Ret (.bool sn) w))(s2:∀w,Calls Tryz.prog 58 #[m.val] w (Ret (.bool sm) w))(hss:Hid ((sn && sm)=false))(hn:n.wf)(hm:m.wf)(tn:Hid (n.t=false))(tm:Hid (m.t=false))(ln:n.lo≤n.hi)(lm:m.lo≤m.hi)(hc:m.hi≤n.lo)(R:Qd)(hR:Hid (R=Qj (n.lo - m.hi) (n.hi - m.lo) (Zr n.st m.st)))(x:∀w,Calls Tryz.prog 52 #[a.val] w (Ret n.val w))(y:∀w,Calls Tryz.prog 52 #[b.val] w (Ret m.val w))(w:World) :
 Calls Tryz.prog 35 #[.int .i64 4,a.val,b.val] w (Ret R.val w):=by
 obtain⟨n0,n1,n2,n3,n4,n5⟩:=hn;obtain⟨m0,m1,m2,m3,m4,m5⟩:=hm;have g0:=QT n.st m.st;have g1:=Jo n.st m.st 4294967295 n4 m4 (by omega) (by omega)
 have B0:=Z8 (n.lo - m.hi) (n.hi - m.lo) (Zr n.st m.st) (by omega) (by omega) (by omega) (by omega) g0 (by omega)
 rw [←hR.out]at B0;have z1:=Qbq n.st m.st n4 n5 m4 m5;generalize Zr n.st m.st=G at *;have B:∀p q r w,p=n.lo - m.hi→q=n.hi - m.lo→r=G→Calls Tryz.prog 31 #[.int .u32 p,.int .u32 q,.int .u32 r] w (Ret R.val w):=fun p q r w hp hq hr=>by subst hp hq hr;exact B0 w
 clear B0 hR
 go_enter Tryz.func35,Tryz.ntmps35
 go_upto_region 1 with fail
 go_cut [6] (fun s6 wx=>s6= .pointer (some ⟨w.heap.size+1+1,0,none⟩)∧Blk wx w.heap.size 34 n.cs∧Blk wx (w.heap.size+1) 34 m.cs∧Blk wx (w.heap.size+1+1) 34 Qs.cs∧Below w.heap.size w wx)
 case first=>
  go_region_with (first|(go_at_call 52;(with_reducible refine(x _).mono ?_);rintro e w1 ⟨rfl,hb1⟩;(have hA:=(((Blk.new _ _ _).alloc _).alloc _).drew.call hb1);(have hB:=((Blk.new _ _ _).alloc _).drew.call hb1);(have hC:=(Blk.new _ _ _).drew.call hb1);simp only [World.size_alloc]at hB hC;obtain⟨hc,hf⟩:=hA.walk;obtain⟨hc2,hf2⟩:=hB.walk;(have hg:=after (w:=w) (by go_grown) hb1);(have hs1:=hg.size))|(go_at_call 52;(with_reducible refine(y _).mono ?_);rintro e w2 ⟨rfl,hb2⟩;(have hA2:=hA.call hb2);(have hB2:=hB.call hb2);(have hC2:=hC.call hb2);obtain⟨hc3,hf3⟩:=hA2.walk;obtain⟨hc4,hf4⟩:=hB2.walk;(have hg2:=after hg hb2);(have hs2:=hg2.size)))
  all_goals (go_wp2_with fail;go_meet;exact⟨rfl,(Blk.put (a:=a) hA2 n).put_far (by omega) m,(Blk.put_far hB2 (by omega) n).put (a:=b) m,(Blk.put_far hC2 (by omega) n).put_far (by omega) m,Qe (Qe hg2 (by omega) _) (by omega) _⟩)
 obtain⟨rfl,hA,hB,hC,hg⟩:=hcut;obtain⟨hcA,hfA⟩:=hA.walk;obtain⟨hcB,hfB⟩:=hB.walk;obtain⟨hcC,hfC⟩:=hC.walk;have hs:=hg.size;have hz:w.heap.size+1+1 < wc.heap.size:=hC.lt;clear x y;obtain⟨ne,nt,nlo,nhi,nst⟩:=n;obtain⟨me,mt,mlo,mhi,mst⟩:=m
 try dsimp only at *
 simp only [Qd.cs]at hcA hcB hcC;replace en:=en.out
 try dsimp only at en
 replace em:=em.out
 try dsimp only at em
 subst en em;replace tn:=tn.out;replace tm:=tm.out
 try dsimp only at tn tm
 subst tn tm;simp only [Qd.val]at s1 s2;have hz':w.heap.size+1+1≤wc.heap.size:=Nat.le_of_lt hz
 have mkS:∀w',Below (w.heap.size+1+1) wc w'→((∀o,w'.cell? ⟨w.heap.size,o,none⟩=(#[.bool false,.bool false,.int .u32 nlo,.int .u32 nhi,.int .u32 nst]:Array Value)[o]?)∧(∀o,w'.cell? ⟨w.heap.size+1,o,none⟩=(#[.bool false,.bool false,.int .u32 mlo,.int .u32 mhi,.int .u32 mst]:Array Value)[o]?)):=fun w' hb=>⟨fun o=>(hA.below hb (by omega)).walk.1 o,fun o=>(hB.below hb (by omega)).walk.1 o⟩
 have hs':=hss.out;cases sn
 all_goals
  (try cases sm)
  all_goals first
   |(exfalso;simp at hs';done)
   |(clear hs'
     go_wp2_with (first|(go_at_call 58;(with_reducible refine(s1 _).mono ?_);rintro e wk ⟨rfl,hb⟩;(first|(replace HB:=after HB hb)|(replace HB:=after (Qn HB _) hb)|(have HB:=hb));clear hcA hfA hcB hfB hcC hfC;obtain⟨hcA,hfA⟩:=(hA.call HB).walk;obtain⟨hcB,hfB⟩:=(hB.call HB).walk;obtain⟨hcC,hfC⟩:=(hC.call HB).walk;simp only [Qd.cs]at hcA hcB hcC)|(go_at_call 58;(with_reducible refine(s2 _).mono ?_);rintro e wk ⟨rfl,hb⟩;(first|(replace HB:=after HB hb)|(replace HB:=after (Qn HB _) hb)|(have HB:=hb));clear hcA hfA hcB hfB hcC hfC;obtain⟨hcA,hfA⟩:=(hA.call HB).walk;obtain⟨hcB,hfB⟩:=(hB.call HB).walk;obtain⟨hcC,hfC⟩:=(hC.call HB).walk;simp only [Qd.cs]at hcA hcB hcC))
     go_region_held3 (fun w'=>(∀o,w'.cell? ⟨w.heap.size,o,none⟩=(#[.bool false,.bool false,.int .u32 nlo,.int .u32 nhi,.int .u32 nst]:Array Value)[o]?)∧(∀o,w'.cell? ⟨w.heap.size+1,o,none⟩=(#[.bool false,.bool false,.int .u32 mlo,.int .u32 mhi,.int .u32 mst]:Array Value)[o]?))
      (first|with_reducible exact mkS _ (HB.drew.mono hz')|with_reducible exact mkS _ ((Qn HB _).mono hz')|with_reducible exact mkS _ ((Qn HB.drew _).mono hz')|with_reducible exact mkS _ (HB5.mono hz')|with_reducible exact mkS _ (Qe (HB5.mono hz') (Nat.le_refl _) R))
      (first|(go_at_call 60;(with_reducible refine(z1 _).mono ?_);rintro e w3 ⟨rfl,qd,rfl⟩)|(go_at_call 31;(with_reducible refine(B _ _ _ _ (by first|rfl|omega|(simp only [IntKind.wrap_u32];omega)) (by first|rfl|omega|(simp only [IntKind.wrap_u32];omega)) rfl).mono ?_);rintro e w5 ⟨rfl,hb5⟩;(have HB5:=after (Qn HB _) hb5);clear hcA hfA hcB hfB hcC hfC;obtain⟨hcC,hfC⟩:=(hC.call HB5).walk))
     go_wp2
     exact bodyPost_ret (v:=R.val) (Qf rfl rfl ((hC.call HB5).put (a:=Qs) R)) rfl ⟨rfl,Qe (after hg HB5) (by omega) R⟩
     )
end Go.Proofs.YteplnamfpodmlaaGreat
