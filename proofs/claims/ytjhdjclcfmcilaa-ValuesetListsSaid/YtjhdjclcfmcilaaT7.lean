/-
  The second machine on terms is right: stores, appends, makes. No program.
-/
import Derived.Test.YtjhdjclcfmcilaaT6
namespace Go.Proofs.Ytjhdjclcfmcilaa.T2
open Go.ChangeShapes Go.WideShapes Go.ChangeAt Go.RowKit
set_option linter.unusedVariables false
section
variable {P : Program} {C : List (Kon P)} {I : List (Nat → Env → Prop)} {G : Cfg} {e0 e e' : Env} {w0 w w' : World} {s : St} {a : Act} {ups : List (List Value)}
theorem iteL_den {g : SX} {x y z : LX} (h : iteL g x y = some z) : z.den e = if (g.den e).2 then x.den e else y.den e := by
  unfold iteL at h
  split at h
  · split at h
    · rename_i hk
      subst hk
      simp only [Option.some.injEq] at h
      subst h
      simp only [LX.den, SX.mkIt_den]
      split <;> rfl
    · cases h
  · simp only [Option.some.injEq] at h
    subst h
    simp only [LX.den, SX.mkIt_den]
    split <;> rfl
  · cases h
theorem updX_den {x : SX} {vs : List LX} {o n sz o2 k : Nat} (hx : (x.den e).1 = k) (hk : k < n) (hm : o2 + vs.length ≤ sz) : ∀ (cs : List LX) (j0 : Nat) (ys : List LX), updX x vs o n sz o2 j0 cs = some ys →
    ys.length = cs.length ∧ ∀ (i : Nat) (c : LX), cs[i]? = some c → ∃ y, ys[i]? = some y ∧
      ((o + k * sz + o2 ≤ j0 + i ∧ j0 + i < o + k * sz + o2 + vs.length → ∃ v, vs[j0 + i - (o + k * sz + o2)]? = some v ∧ y.den e = v.den e) ∧ (¬ (o + k * sz + o2 ≤ j0 + i ∧ j0 + i < o + k * sz + o2 + vs.length) → y.den e = c.den e))
  | [], j0, ys, h => by simp only [updX, Option.some.injEq] at h; subst h; exact ⟨rfl, fun i c hc => by simp at hc⟩
  | c0 :: cs, j0, ys, h => by
    unfold updX at h
    split at h
    · cases h
    · rename_i rest hrest
      obtain ⟨l1, l2⟩ := updX_den hx hk hm cs (j0 + 1) rest hrest
      have tail : ∀ (y : LX) (i : Nat) (c : LX), cs[i]? = some c → ∃ z, (y :: rest)[i + 1]? = some z ∧
          ((o + k * sz + o2 ≤ j0 + (i + 1) ∧ j0 + (i + 1) < o + k * sz + o2 + vs.length → ∃ v, vs[j0 + (i + 1) - (o + k * sz + o2)]? = some v ∧ z.den e = v.den e) ∧ (¬ (o + k * sz + o2 ≤ j0 + (i + 1) ∧ j0 + (i + 1) < o + k * sz + o2 + vs.length) → z.den e = c.den e)) := fun y i c hc => by
        have := l2 i c hc
        rw [show j0 + 1 + i = j0 + (i + 1) by omega] at this
        simpa using this
      have hkn : k * sz + sz ≤ n * sz := by
        have := Nat.mul_le_mul_right sz (show k + 1 ≤ n by omega)
        rwa [Nat.succ_mul] at this
      split at h
      · rename_i hcond
        obtain ⟨c1, c2, c3, c4⟩ := hcond
        have hdm := Nat.div_add_mod (j0 - o) sz
        split at h
        · rename_i v hv
          obtain ⟨y, hy, hys⟩ := opt_map h
          subst hys
          have hy' := iteL_den (e := e) hy
          refine ⟨by simp [l1], fun i c hc => ?_⟩
          cases i with
          | succ i => simp only [List.getElem?_cons_succ] at hc; exact tail y i c hc
          | zero =>
            simp at hc
            subst hc
            refine ⟨y, rfl, fun hin => ?_, fun hout => ?_⟩
            · have hq : (j0 - o) / sz = k := by
                have e1 : j0 - o = (j0 - o - k * sz) + k * sz := by omega
                have hlt : j0 - o - k * sz < sz := by omega
                rw [e1, Nat.add_mul_div_right _ _ (by omega), Nat.div_eq_of_lt hlt, Nat.zero_add]
              have hr : (j0 - o) % sz = j0 - o - k * sz := by rw [hq, Nat.mul_comm] at hdm; omega
              rw [hr] at hv
              refine ⟨v, by rw [← hv]; congr 1; omega, ?_⟩
              rw [hy']
              simp only [SX.den, cmI, hx, hq, beq_self_eq_true, if_true]
            · rw [hy']
              have hne : ((x.den e).1 == (((j0 - o) / sz : Nat) : Int)) = false := by
                rw [beq_eq_false_iff_ne, hx]
                intro hq
                have hq' : k = (j0 - o) / sz := by exact_mod_cast hq
                rw [← hq', Nat.mul_comm] at hdm
                apply hout
                omega
              simp only [SX.den, cmI, hne, Bool.false_eq_true, if_false]
        · cases h
      · rename_i hcond
        simp only [Option.some.injEq] at h
        subst h
        refine ⟨by simp [l1], fun i c hc => ?_⟩
        cases i with
        | succ i => simp only [List.getElem?_cons_succ] at hc; exact tail c0 i c hc
        | zero =>
          simp at hc
          subst hc
          refine ⟨c0, rfl, fun hin => ?_, fun _ => rfl⟩
          exfalso
          apply hcond
          have hq : (j0 - o) / sz = k := by
            have e1 : j0 - o = (j0 - o - k * sz) + k * sz := by omega
            have hlt : j0 - o - k * sz < sz := by omega
            rw [e1, Nat.add_mul_div_right _ _ (by omega), Nat.div_eq_of_lt hlt, Nat.zero_add]
          have hdm := Nat.div_add_mod (j0 - o) sz
          rw [hq, Nat.mul_comm] at hdm
          refine ⟨by omega, by omega, by omega, by omega⟩
theorem hp_fr {ok : Nat → Bool} (h : s.fr ok = true) {b : Bk} (hb : b ∈ s.hp) : b.fr ok = true := by
  simp only [St.fr, Bool.and_eq_true] at h
  exact List.all_eq_true.1 h.1.1.2 b hb
theorem row_fr {ok : Nat → Bool} (h : s.fr ok = true) {d ct : Nat} {ks : List (Option IntKind)} {len : SX} (hb : (⟨d, .row ks len ct⟩ : Bk) ∈ s.hp) : ok d = true ∧ len.fr ok = true ∧ ok ct = true := by
  have := hp_fr h hb
  simp only [Bk.fr, Bd.fr, Bool.and_eq_true] at this
  exact ⟨this.1, this.2.1, this.2.2⟩
theorem nr_fr {ok : Nat → Bool} (h : s.fr ok = true) {d ct : Nat} {ks : List (Option IntKind)} {len : SX} {hh : Option SX} (hb : (⟨d, .nr ks len ct hh⟩ : Bk) ∈ s.hp) : ok d = true ∧ len.fr ok = true ∧ ok ct = true ∧ ∀ x, hh = some x → x.fr ok = true := by
  have := hp_fr h hb
  simp only [Bk.fr, Bd.fr, Bool.and_eq_true] at this
  exact ⟨this.1, this.2.1.1, this.2.1.2, fun x hx => by subst hx; exact this.2.2⟩
theorem cells_fr {ok : Nat → Bool} (h : s.fr ok = true) {d ty : Nat} {cs : List LX} (hb : (⟨d, .cells ty cs⟩ : Bk) ∈ s.hp) : ok d = true ∧ cs.all (·.fr ok) = true := by
  have := hp_fr h hb
  simp only [Bk.fr, Bd.fr, Bool.and_eq_true] at this
  exact this
theorem set_nid {id x : Nat} {m : Nm} (h : nid id x = true) : (e.set id m).nm x = e.nm x := (Env.off_set e id m x h).symm
theorem nid_ne {id x : Nat} (h : nid id x = true) : x ≠ id := by rintro rfl; rw [nid_self] at h; cases h
theorem wrap_succ {x : Int} (h0 : 0 ≤ x) (h1 : x ≤ 1000000) : IntKind.i64.wrap (x + 1) = x + 1 := by rw [IntKind.wrap_i64]; omega
theorem den_succ (e : Env) {x : SX} (h0 : 0 ≤ (x.den e).1) (h1 : (x.den e).1 ≤ 1000000) : ((SX.mkO .add .i64 x (.i 1)).den e).1.toNat = (x.den e).1.toNat + 1 := by
  rw [SX.mkO_den]
  simp only [arI, SX.den]
  rw [wrap_succ h0 h1]
  omega
theorem Rel.nodup_del (hR : Rel C I G e0 w0 e s a ups w) (d : Nat) : ((delB s d).hp.map (·.id)).Nodup := ids_filter hR.nd _
theorem del_perm (hR : Rel C I G e0 w0 e s a ups w) {b : Bk} (hb : b ∈ s.hp) : s.hp.Perm ([b] ++ (delB s b.id).hp) := perm_one hR.nd hb
theorem ins_nodup {l : List Bk} (h : (l.map (·.id)).Nodup) {b : Bk} (hb : b.id ∉ l.map (·.id)) : ((insBk b l).map (·.id)).Nodup := by
  rw [((insBk_perm b l).map _).nodup_iff, List.map_cons, List.nodup_cons]
  exact ⟨hb, h⟩
theorem not_del {d x : Nat} (h : x ∉ s.hp.map (·.id)) : x ∉ (delB s d).hp.map (·.id) := fun hm => by
  obtain ⟨b, hb, rfl⟩ := List.mem_map.1 hm
  exact h (List.mem_map.2 ⟨b, (List.mem_filter.1 hb).1, rfl⟩)
theorem leafI_map_off {ok : Nat → Bool} (h : Env.off ok e e') {cs : List LX} (hf : cs.all (·.fr ok) = true) : cs.map (leafI e') = cs.map (leafI e) := (leavesI_off h hf).symm
theorem leafB_map_off {ok : Nat → Bool} (h : Env.off ok e e') {cs : List LX} (hf : cs.all (·.fr ok) = true) : cs.map (leafB e') = cs.map (leafB e) := (leavesB_off h hf).symm
/-- Into own cells. -/
theorem Rel.cells (hR : Rel C I G e0 w0 e s a ups w) {d ty : Nat} {bs cs : List LX} (hb : blockX s d = some (ty, bs)) {vs : List Value} {p : Nat} (hl : p + vs.length ≤ bs.length)
    (hcs : cs.map (·.den e) = (bs.map (·.den e)).take p ++ vs ++ (bs.map (·.den e)).drop (p + vs.length)) : Rel C I G e0 w0 e (setB s d (.cells ty cs)) a ups (w.setCells (e.adr d) p vs) := by
  have hm := blockX_mem hb
  have hB : w0.heap.size ≤ e.adr d ∧ Blk w (e.adr d) ty (bs.map (·.den e)).toArray := hR.hp _ hm
  refine hR.change hm (bd := .cells ty cs) ⟨hB.1, ?_⟩ (fun g hg => .inl hg) (fun g hg hn => setCells_block _ _ (fun h => hn h)) (setCells_below _ _ hR.bl hB.1)
  have := setCells_blk vs p hB.2 (by simpa using hl)
  show Blk _ (e.adr d) ty (cs.map (·.den e)).toArray
  rw [hcs]
  exact this
theorem storeX_sound (hR : Rel C I G e0 w0 e s a ups w) {id : Nat} {t : TypeId} {p : LX} {v : PX} {s' : St} {xs : List SX} (h : storeX P G.n0 s id t p v = some (s', xs)) (hx : ∀ x ∈ xs, (x.den e).2 = true) (hvf : s.fr (nid id) = true → v.fr (nid id) = true ∧ p.fr (nid id) = true) :
    ∃ ad e' w', p.den e = .pointer (some ad) ∧ (storeVar t ad (v.den e)).run P w = .ok () w' ∧ Rel C I G e0 w0 e' s' a ups w' := by
  unfold storeX at h
  split at h
  · cases h
  · rename_i m hi
    split at h
    · rename_i hl
      split at h
      · rename_i d o
        split at h
        · rename_i ty bs hb
          split at h
          · rename_i hbd
            simp only [Option.some.injEq, Prod.mk.injEq] at h
            obtain ⟨rfl, rfl⟩ := h
            have hB : Blk w (e.adr d) ty (bs.map (·.den e)).toArray := (hR.hp _ (blockX_mem hb)).2
            refine ⟨_, e, _, rfl, run_storeVar_at hB hi hl (by simpa using hbd), hR.cells hb (by simp only [List.length_map, hl]; exact hbd) ?_⟩
            simp only [List.map_append, List.map_take, List.map_drop, List.length_map, hl]
          · cases h
        · cases h
      · rename_i d o n sz x o2
        split at h
        · rename_i ty bs hb
          split at h
          · rename_i hbd
            obtain ⟨cs, hcs, hp⟩ := opt_map h
            simp only [Prod.mk.injEq] at hp
            obtain ⟨rfl, rfl⟩ := hp
            have g1 := geZ_den (hx _ (List.mem_cons_self ..))
            have g2 := lss_den (hx _ (List.mem_cons_of_mem _ (List.mem_cons_self ..)))
            simp only [SX.den] at g2
            obtain ⟨k, hk⟩ := Int.eq_ofNat_of_zero_le g1
            have hkn : k * sz + sz ≤ n * sz := by
              have := Nat.mul_le_mul_right sz (show k + 1 ≤ n by omega)
              rwa [Nat.succ_mul] at this
            have hB : Blk w (e.adr d) ty (bs.map (·.den e)).toArray := (hR.hp _ (blockX_mem hb)).2
            obtain ⟨l1, l2⟩ := updX_den hk (by omega) (by rw [hl]; exact hbd.2) bs 0 cs hcs
            have hkx : (x.den e).1.toNat = k := by rw [hk]; rfl
            refine ⟨_, e, _, rfl, run_storeVar_at (o := o + (x.den e).1.toNat * sz + o2) hB hi hl (by rw [hkx]; simp only [List.size_toArray, List.length_map]; omega), hR.cells hb (by rw [hkx]; simp only [List.length_map, hl]; omega) ?_⟩
            rw [hkx]
            apply List.ext_getElem?
            intro i
            rw [seg_get _ _ _ _ (by simp only [List.length_map, hl]; omega)]
            simp only [List.length_map, hl, List.getElem?_map]
            cases hc : bs[i]? with
            | none =>
              have h0 : bs.length ≤ i := by
                rcases Nat.lt_or_ge i bs.length with h1 | h1
                · rw [List.getElem?_eq_getElem h1] at hc; cases hc
                · exact h1
              rw [if_neg (by omega), if_neg (by omega), List.getElem?_eq_none (by omega)]
            | some c =>
              obtain ⟨y, hy, h1, h2⟩ := l2 i c hc
              rw [hy]
              simp only [Nat.zero_add, hl] at h1 h2
              by_cases c1 : i < o + k * sz + o2
              · rw [if_pos c1]; simp only [Option.map_some]; rw [h2 (by omega)]
              · rw [if_neg c1]
                by_cases c2 : i < o + k * sz + o2 + m
                · rw [if_pos c2]
                  obtain ⟨u, hu, he⟩ := h1 ⟨by omega, c2⟩
                  rw [hu]; simp only [Option.map_some]; rw [he]
                · rw [if_neg c2]; simp only [Option.map_some]; rw [h2 (by omega)]
          · cases h
        · cases h
      · rename_i d sz x o
        split at h
        · rename_i ks len ct hr
          split at h
          · rename_i hc
            obtain ⟨hks, hom, hkd, hid, hfr⟩ := hc
            simp only [Option.some.injEq, Prod.mk.injEq] at h
            obtain ⟨rfl, rfl⟩ := h
            subst hl
            subst hks
            have g1 := geZ_den (hx _ (List.mem_cons_self ..))
            have g2 := lss_den (hx _ (List.mem_cons_of_mem _ (List.mem_cons_self ..)))
            obtain ⟨g, hbase, hg, hrun, hown⟩ := (hR.own hr).put (P := P) (e := e) (i := (x.den e).1.toNat) (o := o) (by omega) hkd hom hi
            have hm := ownOf_mem hr
            obtain ⟨f1, f2, f3⟩ := row_fr hfr hm
            obtain ⟨vf, pf⟩ := hvf hfr
            simp only [LX.fr, Bool.and_eq_true] at pf
            have hoff := Env.off_set e id { Nm.zero with int := updC (e.int ct) ((x.den e).1.toNat * ks.length + o) (v.cells.map (leafI e)), bool := updC (e.bool ct) ((x.den e).1.toNat * ks.length + o) (v.cells.map (leafB e)) }
            have hR' := hR.off hoff hfr (lt_nid hid)
            have vcf : v.cells.all (·.fr (nid id)) = true := by cases v <;> simpa [PX.cells, PX.fr] using vf
            refine ⟨_, e.set id { Nm.zero with int := updC (e.int ct) ((x.den e).1.toNat * ks.length + o) (v.cells.map (leafI e)), bool := updC (e.bool ct) ((x.den e).1.toNat * ks.length + o) (v.cells.map (leafB e)) }, _, by simp only [LX.den]; rw [hbase]; rfl, hrun, ?_⟩
            refine Rel.cond1 (hR'.change hm (bd := .row ks len id) ?_ (fun g hg => .inl hg) (fun g' hg' hn => setCells_block _ _ fun h => hn ?_) (setCells_below _ _ hR.bl hg)) ?_
            · show Own _ _ (Env.base _ d) (len.den _).1.toNat (Env.cap _ d) ks (Env.int _ id) (Env.bool _ id)
              rw [← SX.den_off hoff len f2]
              simp only [Env.base, Env.cap, Env.int, Env.bool, set_nid f1, Env.set_at]
              exact hown
            · exact ⟨_, by simp only [Env.base, set_nid f1]; exact hbase, h.symm⟩
            · show _ ∧ _
              simp only [Env.int, Env.bool, Env.set_at, set_nid f3]
              rw [← SX.den_off hoff x pf.2, leafI_map_off hoff vcf, leafB_map_off hoff vcf]
              exact ⟨rfl, rfl⟩
          · cases h
        · split at h
          · rename_i ks len ct x' r rl hn
            split at h
            · rename_i ks' rl' rc hr
              split at h
              · rename_i hc
                obtain ⟨rfl, rfl, rfl, rfl, rfl, hrd, hid, hfr⟩ := hc
                simp only [Option.some.injEq, Prod.mk.injEq] at h
                obtain ⟨rfl, rfl⟩ := h
                have g1 := geZ_den (hx _ (List.mem_cons_self ..))
                have g2 := lss_den (hx _ (List.mem_cons_of_mem _ (List.mem_cons_self ..)))
                have g3 := geZ_den (hx _ (List.mem_cons_of_mem _ (List.mem_cons_of_mem _ (List.mem_cons_self ..))))
                have hmD := nrOf_mem hn
                have hmR := ownOf_mem hr
                obtain ⟨f1, f2, f3, f4⟩ := nr_fr hfr hmD
                have f4 := f4 x rfl
                obtain ⟨q1, q2, q3⟩ := row_fr hfr hmR
                obtain ⟨g, t', cs, hb, hg, hB, hsz, hcap, hi'⟩ := hR.hp _ hmD
                replace hb : e.base d = some ⟨g, 0, none⟩ := hb
                have hown := hR.own hr
                have hap : Apart e ⟨d, .nr ks len ct (some x)⟩ ⟨r, .row ks rl rc⟩ := pair_ne (fun x y h => Apart.symm h) hR.inj _ hmD _ hmR (by intro h; injection h with h1 h2; exact hrd h1.symm)
                have hm1 : m = 1 := by rw [← hl]; rfl
                subst hm1
                have hxl : (x.den e).1.toNat < cs.size := by rw [hsz]; show _ < (len.den e).1.toNat; omega
                have hrun : (storeVar t ⟨g, (x.den e).1.toNat, none⟩ ((PX.l (LX.sl r rl)).den e)).run P w = .ok () (w.setCells g (x.den e).1.toNat [(LX.sl r rl).den e]) :=
                  run_storeVar_at (v := .l (.sl r rl)) hB hi rfl (by omega)
                have hoff := Env.off_set e id { Nm.zero with int := updC (e.int ct) (x.den e).1.toNat [(rl.den e).1], nb := updC (e.nm ct).nb (x.den e).1.toNat [e.base r], nc := updC (e.nm ct).nc (x.den e).1.toNat [e.cap r], i2 := updC (e.nm ct).i2 (x.den e).1.toNat [e.int rc], b2 := updC (e.nm ct).b2 (x.den e).1.toNat [e.bool rc] }
                have hR' := hR.off hoff hfr (lt_nid hid)
                refine ⟨⟨g, (x.den e).1.toNat, none⟩, e.set id { Nm.zero with int := updC (e.int ct) (x.den e).1.toNat [(rl.den e).1], nb := updC (e.nm ct).nb (x.den e).1.toNat [e.base r], nc := updC (e.nm ct).nc (x.den e).1.toNat [e.cap r], i2 := updC (e.nm ct).i2 (x.den e).1.toNat [e.int rc], b2 := updC (e.nm ct).b2 (x.den e).1.toNat [e.bool rc] }, _, by simp only [LX.den]; rw [hb]; simp [add_mid], hrun, ?_⟩
                have at0 : ∀ {α : Type} (f : Nat → α) (y : α), updC f (x.den e).1.toNat [y] (x.den e).1.toNat = y := fun f y => updC_in (p := (x.den e).1.toNat) (j := 0) rfl
                have at1 : ∀ {α : Type} (f : Nat → α) (y : α) (i : Nat), i ≠ (x.den e).1.toNat → updC f (x.den e).1.toNat [y] i = f i := fun f y i hi => updC_out (by simp only [List.length_singleton]; omega)
                have hdr : (⟨d, .nr ks len ct (some x)⟩ : Bk) ∈ (delB s r).hp := List.mem_filter.2 ⟨hmD, by simpa using fun h : d = r => hrd h.symm⟩
                have hpm : (setB (delB s r) d (.nr ks len id none)).hp.Perm (⟨d, .nr ks len id none⟩ :: (delB s r).hp.filter fun y => !(y.id == d)) := setB_perm (hR.nodup_del r) hdr (.nr ks len id none)
                refine Rel.cond1 (hR'.turn (rem := [⟨r, .row ks rl rc⟩, ⟨d, .nr ks len ct (some x)⟩]) (kept := (delB s r).hp.filter fun y => !(y.id == d)) (new := [⟨d, .nr ks len id none⟩]) ?_ hpm ?_ ?_ (List.pairwise_singleton ..) ?_ ?_ (setCells_below _ _ hR.bl hg)) ?_
                · exact (perm_one hR.nd hmR).trans (List.Perm.cons _ (perm_one (hR.nodup_del r) hdr))
                · show ((setB (delB s r) d (.nr ks len id none)).hp.map (·.id)).Nodup
                  rw [(hpm.map _).nodup_iff]
                  have := (perm_one (hR.nodup_del r) hdr).map (·.id)
                  rw [List.map_cons] at this ⊢
                  exact this.nodup_iff.1 (hR.nodup_del r)
                · intro b hbm
                  rw [List.mem_singleton] at hbm
                  subst hbm
                  refine ⟨g, t', _, by simp only [Env.base, set_nid f1]; exact hb, hg, setCells_blk _ _ hB (by simp only [List.length_singleton]; omega), ?_, ?_, fun i hil _ => ?_⟩
                  · rw [← SX.den_off hoff len f2]
                    simp only [List.size_toArray, List.length_append, List.length_take, List.length_drop, Array.length_toList, List.length_singleton]
                    show _ = (len.den e).1.toNat
                    rw [← hsz]; omega
                  · simp only [Env.cap, set_nid f1]
                    rw [← SX.den_off hoff len f2]
                    exact hcap
                  · rw [← SX.den_off hoff len f2] at hil
                    simp only [Env.int, Env.set_at]
                    rw [List.getElem?_toArray, seg_get _ _ _ _ (by simp only [Array.length_toList, List.length_singleton]; omega)]
                    simp only [List.length_singleton]
                    by_cases hix : i = (x.den e).1.toNat
                    · subst hix
                      simp only [at0]
                      rw [if_neg (by omega), if_pos (by omega), Nat.sub_self]
                      refine ⟨rfl, g3, hown.keep fun a ha => setCells_block _ _ fun h => ?_, fun a ha h => ?_, fun j hj _ hne a a' ha ha' h => ?_⟩
                      · exact hap g (.inl ⟨_, hb, rfl⟩) ⟨a, ha, h⟩
                      · exact hap g (.inl ⟨_, hb, rfl⟩) ⟨a, ha, h⟩
                      · rw [at1 _ _ j (Ne.symm hne)] at ha'
                        rw [← SX.den_off hoff len f2] at hj
                        exact hap a'.block (.inr ⟨j, hj, fun y hy => by cases hy; exact Ne.symm (Ne.symm hne), a', ha', rfl⟩) ⟨a, ha, h⟩
                    · simp only [at1 _ _ i hix]
                      obtain ⟨c1, c2, c3, c4, c5⟩ := hi' i hil (fun y hy => by cases hy; exact Ne.symm hix)
                      refine ⟨?_, c2, c3.keep fun a ha => setCells_block _ _ (c4 a ha), c4, fun j hj _ hne a a' ha ha' h => ?_⟩
                      · have : cs.toList[i]? = some (.slice ((e.nm ct).nb i) (e.int ct i).toNat ((e.nm ct).nc i)) := by simpa using c1
                        split
                        · exact this
                        · rw [if_neg (by omega)]; exact this
                      · rw [← SX.den_off hoff len f2] at hj
                        by_cases hjx : j = (x.den e).1.toNat
                        · subst hjx
                          rw [at0] at ha'
                          exact hap a.block (.inr ⟨i, hil, fun y hy => by cases hy; exact Ne.symm hix, a, ha, rfl⟩) ⟨a', ha', h.symm⟩
                        · rw [at1 _ _ j hjx] at ha'
                          exact c5 j hj (fun y hy => by cases hy; exact Ne.symm hjx) hne a a' ha ha' h
                · intro b hbm g' hg'
                  rw [List.mem_singleton] at hbm
                  subst hbm
                  rcases hg' with ⟨a, ha, rfl⟩ | ⟨i, hil, _, a, ha, rfl⟩
                  · exact .inl ⟨_, List.mem_cons_of_mem _ (List.mem_singleton.2 rfl), .inl ⟨a, ha, rfl⟩⟩
                  · simp only [Env.set_at] at ha
                    by_cases hix : i = (x.den e).1.toNat
                    · subst hix
                      rw [at0] at ha
                      exact .inl ⟨_, List.mem_cons_self .., a, by simp only [Env.base, set_nid q1]; exact ha, rfl⟩
                    · rw [at1 _ _ i hix] at ha
                      refine .inl ⟨_, List.mem_cons_of_mem _ (List.mem_singleton.2 rfl), .inr ⟨i, hil, fun y hy => by cases hy; rw [← SX.den_off hoff x f4]; exact Ne.symm hix, a, by rw [set_nid f3]; exact ha, rfl⟩⟩
                · intro g' hg' hno
                  exact setCells_block _ _ fun h => hno _ (List.mem_cons_of_mem _ (List.mem_singleton.2 rfl)) (.inl ⟨⟨g, 0, none⟩, by simp only [Env.base, set_nid f1]; exact hb, h.symm⟩)
                · show _ ∧ _ ∧ _
                  simp only [Env.int, Env.bool, Env.set_at, set_nid f3, set_nid q3]
                  rw [← SX.den_off hoff x f4, ← SX.den_off hoff rl q2]
                  exact ⟨rfl, rfl, rfl⟩
              · cases h
            · cases h
          · cases h
      · cases h
    · cases h
/-- A new row in the place of objects. -/
theorem appendX_sound (hR : Rel C I G e0 w0 e s a ups w) {id : Nat} {t ty : TypeId} {dst src : LX} {s' : St} {v : LX} {xs : List SX} (h : appendX P G.n0 s id t dst src = some (s', v, xs)) (hx : ∀ x ∈ xs, (x.den e).2 = true) (hdf : s.fr (nid id) = true → dst.fr (nid id) = true) :
    ∃ e' w', (Builtin.append_ #[t, t] ty #[dst.den e, src.den e]).run P w = .ok (v.den e') w' ∧ Rel C I G e0 w0 e' s' a ups w' := by
  unfold appendX at h
  split at h
  · cases h
  · rename_i el sz hel
    split at h
    · rename_i hc
      obtain ⟨hid, hfr⟩ := hc
      have hni := not_id hfr (nid_self id)
      have hBw : w0.heap.size ≤ w.heap.size := hR.bl.size
      split at h
      · rename_i d2
        split at h
        · rename_i ty2 cs hb2
          split at h
          · rename_i ks hkc
            split at h
            · rename_i hsz
              have hkx := kindsOf_kindsX hkc
              obtain ⟨hlen, _⟩ := kindsX_leaf (e := e) hkx
              have hB2 : Blk w (e.adr d2) ty2 (cs.map (·.den e)).toArray := (hR.hp _ (blockX_mem hb2)).2
              have hks : ks.length = sz := by rw [← hlen]; exact hsz.1
              have csf := (cells_fr hfr (blockX_mem hb2)).2
              split at h
              · simp only [Option.some.injEq, Prod.mk.injEq] at h
                obtain ⟨rfl, rfl, rfl⟩ := h
                obtain ⟨base', cap', w', hrun, hown, hleft⟩ := Own.append1 (P := P) (e := e) (B := w0.heap.size) (w := w) (base := none) (len := 0) (cap := 0) (ks := ks) (int := fun _ => 0) (bool := fun _ => false) ⟨Nat.le_refl _, .inl ⟨rfl, rfl⟩⟩ hBw (ty := ty) hel hsz.2 hks hkx hB2 (by omega)
                have hoff := Env.off_set e id { Nm.zero with base := base', cap := cap', int := updC (fun _ => 0) (0 * ks.length) (cs.map (leafI e)), bool := updC (fun _ => false) (0 * ks.length) (cs.map (leafB e)) }
                refine ⟨_, w', ?_, Rel.cond1 ((hR.off hoff hfr (lt_nid hid)).push (b := ⟨id, .row ks (.i 1) id⟩) hni ?_ ?_ ?_) ?_⟩
                · simp only [LX.den, Env.base, Env.cap, Env.set_at]
                  exact hrun
                · exact ⟨hleft.os, hleft.tape, hleft.output, hleft.size, fun k hk => hleft.block k hk fun a ha => by cases ha⟩
                · show Own _ _ (Env.base _ id) _ (Env.cap _ id) ks (Env.int _ id) (Env.bool _ id)
                  simp only [Env.base, Env.cap, Env.int, Env.bool, Env.set_at]
                  exact hown
                · rintro g ⟨a', ha', rfl⟩
                  simp only [Env.base, Env.set_at] at ha'
                  rcases hleft.at_ with h1 | ⟨a1, h1, h2⟩
                  · rw [h1] at ha'; cases ha'
                  · rw [h1] at ha'; cases ha'; exact h2
                · show _ ∧ _
                  simp only [Env.int, Env.bool, Env.set_at, leafI_map_off hoff csf, leafB_map_off hoff csf, SX.den]
                  rw [← hks]
                  exact ⟨rfl, rfl⟩
              · rename_i d len
                split at h
                · rename_i ks' len' ct hr
                  split at h
                  · rename_i hkl
                    obtain ⟨rfl, rfl⟩ := hkl
                    simp only [Option.some.injEq, Prod.mk.injEq] at h
                    obtain ⟨rfl, rfl, rfl⟩ := h
                    have g1 := geZ_den (hx _ (List.mem_cons_self ..))
                    have g2 := leq_den (hx _ (List.mem_cons_of_mem _ (List.mem_cons_self ..)))
                    simp only [most, SX.den] at g2
                    have hm := ownOf_mem hr
                    obtain ⟨f1, f2, f3⟩ := row_fr hfr hm
                    obtain ⟨base', cap', w', hrun, hown, hleft⟩ := (hR.own hr).append1 (P := P) (e := e) hBw (ty := ty) hel hsz.2 hks hkx hB2 (by omega)
                    have hoff := Env.off_set e id { Nm.zero with base := base', cap := cap', int := updC (e.int ct) ((len'.den e).1.toNat * ks'.length) (cs.map (leafI e)), bool := updC (e.bool ct) ((len'.den e).1.toNat * ks'.length) (cs.map (leafB e)) }
                    have hR' := hR.off hoff hfr (lt_nid hid)
                    have hls : ((SX.mkO .add .i64 len' (.i 1)).den (e.set id { Nm.zero with base := base', cap := cap', int := updC (e.int ct) ((len'.den e).1.toNat * ks'.length) (cs.map (leafI e)), bool := updC (e.bool ct) ((len'.den e).1.toNat * ks'.length) (cs.map (leafB e)) })).1.toNat = (len'.den e).1.toNat + 1 := by
                      rw [den_succ _ (by rw [← SX.den_off hoff len' f2]; exact g1) (by rw [← SX.den_off hoff len' f2]; exact g2), ← SX.den_off hoff len' f2]
                    refine ⟨_, w', ?_, Rel.cond1 (hR'.turn (rem := [⟨d, .row ks' len' ct⟩]) (kept := (delB s d).hp) (new := [⟨id, .row ks' (SX.mkO .add .i64 len' (.i 1)) id⟩]) (del_perm hR hm) (insBk_perm _ _) (ins_nodup (hR.nodup_del d) (not_del hni)) ?_ (List.pairwise_singleton ..) ?_ ?_ ?_) ?_⟩
                    · show _ = Result.ok (Value.slice (Env.base _ id) ((SX.mkO .add .i64 len' (.i 1)).den _).1.toNat (Env.cap _ id)) w'
                      rw [hls]
                      simp only [Env.base, Env.cap, Env.set_at]
                      exact hrun
                    · intro b hb
                      rw [List.mem_singleton] at hb
                      subst hb
                      show Own _ _ (Env.base _ id) ((SX.mkO .add .i64 len' (.i 1)).den _).1.toNat (Env.cap _ id) ks' (Env.int _ id) (Env.bool _ id)
                      rw [hls]
                      simp only [Env.base, Env.cap, Env.int, Env.bool, Env.set_at]
                      exact hown
                    · intro b hb g hg
                      rw [List.mem_singleton] at hb
                      subst hb
                      obtain ⟨a', ha', rfl⟩ := hg
                      simp only [Env.base, Env.set_at] at ha'
                      rcases hleft.at_ with h1 | ⟨a1, h1, h2⟩
                      · exact .inl ⟨_, List.mem_singleton.2 rfl, a', by simp only [Env.base, set_nid f1]; exact h1.symm.trans ha', rfl⟩
                      · rw [h1] at ha'; cases ha'; exact .inr h2
                    · intro g hg hno
                      exact hleft.block g hg fun a' ha' hag => hno _ (List.mem_singleton.2 rfl) ⟨a', by simp only [Env.base, set_nid f1]; exact ha', hag⟩
                    · exact hleft.below hR.bl fun a' ha' => ((hR.own hr).fp ha').1
                    · show _ ∧ _
                      simp only [Env.int, Env.bool, Env.set_at, set_nid f3, leafI_map_off hoff csf, leafB_map_off hoff csf, ← SX.den_off hoff len' f2]
                      rw [← hks]
                      exact ⟨rfl, rfl⟩
                  · cases h
                · cases h
              · rename_i c y
                split at h
                · rename_i d ks' l hn
                  split at h
                  · rename_i hkk
                    subst hkk
                    simp only [Option.some.injEq, Prod.mk.injEq] at h
                    obtain ⟨rfl, rfl, rfl⟩ := h
                    have g1 := geZ_den (hx _ (List.mem_cons_self ..))
                    have g2 := lss_den (hx _ (List.mem_cons_of_mem _ (List.mem_cons_self ..)))
                    have g3 := leq_den (hx _ (List.mem_cons_of_mem _ (List.mem_cons_of_mem _ (List.mem_cons_self ..))))
                    simp only [most, SX.den, Nat.mul_one, Nat.add_zero] at g3
                    have hm := nrCt_mem hn
                    obtain ⟨f1, f2, f3, _⟩ := nr_fr hfr hm
                    have yf : y.fr (nid id) = true := by
                      have := hdf hfr
                      simp only [LX.fr, Bool.and_eq_true] at this
                      exact this.2
                    obtain ⟨g, t', bs, hb, hg, hB, hbs, hcap, hi'⟩ := hR.hp _ hm
                    replace hb : e.base d = some ⟨g, 0, none⟩ := hb
                    obtain ⟨c1, c2, c3, c4, c5⟩ := hi' (y.den e).1.toNat (by omega) (fun x hx => by cases hx)
                    obtain ⟨base', cap', w', hrun, hown, hleft⟩ := c3.append1 (P := P) (e := e) hBw (ty := ty) hel hsz.2 hks hkx hB2 (by omega)
                    have hoff := Env.off_set e id { Nm.zero with base := base', cap := cap', int := updC ((e.nm c).i2 (y.den e).1.toNat) ((e.int c (y.den e).1.toNat).toNat * ks'.length) (cs.map (leafI e)), bool := updC ((e.nm c).b2 (y.den e).1.toNat) ((e.int c (y.den e).1.toNat).toNat * ks'.length) (cs.map (leafB e)) }
                    have hR' := hR.off hoff hfr (lt_nid hid)
                    generalize hm' : ({ Nm.zero with base := base', cap := cap', int := updC ((e.nm c).i2 (y.den e).1.toNat) ((e.int c (y.den e).1.toNat).toNat * ks'.length) (cs.map (leafI e)), bool := updC ((e.nm c).b2 (y.den e).1.toNat) ((e.int c (y.den e).1.toNat).toNat * ks'.length) (cs.map (leafB e)) } : Nm) = m' at *
                    have m1 : m'.base = base' := by rw [← hm']
                    have m2 : m'.cap = cap' := by rw [← hm']
                    have m3 : m'.int = updC ((e.nm c).i2 (y.den e).1.toNat) ((e.int c (y.den e).1.toNat).toNat * ks'.length) (cs.map (leafI e)) := by rw [← hm']
                    have m4 : m'.bool = updC ((e.nm c).b2 (y.den e).1.toNat) ((e.int c (y.den e).1.toNat).toNat * ks'.length) (cs.map (leafB e)) := by rw [← hm']
                    clear hm'
                    have hyd : (y.den (e.set id m')) = y.den e := (SX.den_off hoff y yf).symm
                    have hls : ((SX.mkO .add .i64 (.r c 1 0 y) (.i 1)).den (e.set id m')).1.toNat = (e.int c (y.den e).1.toNat).toNat + 1 := by
                      have : ((SX.r c 1 0 y).den (e.set id m')).1 = e.int c (y.den e).1.toNat := by simp only [SX.den, Env.int, set_nid f3, hyd, Nat.mul_one, Nat.add_zero]
                      rw [den_succ _ (by rw [this]; exact c2) (by rw [this]; exact g3), this]
                    have inner : ∀ a', base' = some a' → (∃ a1, (e.nm c).nb (y.den e).1.toNat = some a1 ∧ a1.block = a'.block) ∨ w.heap.size ≤ a'.block := fun a' ha' => by
                      rcases hleft.at_ with h1 | ⟨a1, h1, h2⟩
                      · rw [h1] at ha'; exact .inl ⟨a', ha', rfl⟩
                      · rw [h1] at ha'; cases ha'; exact .inr h2
                    have hpm : (setB s d (.nr ks' l c (some y))).hp.Perm ([⟨d, .nr ks' l c (some y)⟩] ++ (delB s d).hp) := setB_perm hR.nd hm _
                    have hnid : id ∉ (setB s d (.nr ks' l c (some y))).hp.map (·.id) := fun hmm => by
                      obtain ⟨b, hb', hbe⟩ := List.mem_map.1 hmm
                      rcases List.mem_append.1 (hpm.mem_iff.1 hb') with h | h
                      · rw [List.mem_singleton] at h
                        subst h
                        exact nid_ne f1 hbe
                      · exact not_del (d := d) hni (List.mem_map.2 ⟨b, h, hbe⟩)
                    refine ⟨e.set id m', w', ?_, Rel.cond1 (hR'.turn (rem := [⟨d, .nr ks' l c none⟩]) (kept := (delB s d).hp) (new := [⟨id, .row ks' (SX.mkO .add .i64 (.r c 1 0 y) (.i 1)) id⟩, ⟨d, .nr ks' l c (some y)⟩]) (del_perm hR hm) ((insBk_perm _ _).trans (List.Perm.cons _ hpm)) ?_ ?_ ?_ ?_ ?_ ?_) ?_⟩
                    · show _ = Result.ok (Value.slice (Env.base _ id) ((SX.mkO .add .i64 (.r c 1 0 y) (.i 1)).den _).1.toNat (Env.cap _ id)) w'
                      rw [hls]
                      simp only [Env.base, Env.cap, Env.set_at, m1, m2]
                      exact hrun
                    · refine ins_nodup ?_ hnid
                      rw [(hpm.map _).nodup_iff]
                      have := (del_perm hR hm).map (·.id)
                      rw [List.map_append] at this ⊢
                      exact this.nodup_iff.1 hR.nd
                    · intro b hbm
                      rcases List.mem_cons.1 hbm with rfl | hbm
                      · show Own _ _ (Env.base _ id) ((SX.mkO .add .i64 (.r c 1 0 y) (.i 1)).den _).1.toNat (Env.cap _ id) ks' (Env.int _ id) (Env.bool _ id)
                        rw [hls]
                        simp only [Env.base, Env.cap, Env.int, Env.bool, Env.set_at, m1, m2, m3, m4]
                        exact hown
                      · rw [List.mem_singleton] at hbm
                        subst hbm
                        refine ⟨g, t', bs, by simp only [Env.base, set_nid f1]; exact hb, hg, (hleft.block g hB.lt fun a' ha' => c4 a' ha').trans hB, by rw [← SX.den_off hoff l f2]; exact hbs, by simp only [Env.cap, set_nid f1]; rw [← SX.den_off hoff l f2]; exact hcap, fun i hil hiy => ?_⟩
                        rw [← SX.den_off hoff l f2] at hil
                        have hiy' : i ≠ (y.den e).1.toNat := by
                          have := hiy y rfl
                          rw [hyd] at this
                          exact Ne.symm this
                        simp only [Env.int, set_nid f3]
                        obtain ⟨d1, d2', d3, d4, d5⟩ := hi' i hil (fun x hx => by cases hx)
                        refine ⟨d1, d2', d3.keep fun a' ha' => hleft.block _ (d3.fp ha').2 fun a1 ha1 => c5 i hil (fun x hx => by cases hx) (Ne.symm hiy') a1 a' ha1 ha', d4, fun j hj hjy hne a' a1 ha' ha1 => ?_⟩
                        rw [← SX.den_off hoff l f2] at hj
                        exact d5 j hj (fun x hx => by cases hx) hne a' a1 ha' ha1
                    · refine List.pairwise_cons.2 ⟨fun b hbm gg h1 h2 => ?_, List.pairwise_singleton ..⟩
                      rw [List.mem_singleton] at hbm
                      subst hbm
                      obtain ⟨a', ha', rfl⟩ := h1
                      simp only [Env.base, Env.set_at, m1] at ha'
                      rcases h2 with ⟨a1, ha1, hbl⟩ | ⟨i, hil, hiy, a1, ha1, hbl⟩
                      · simp only [Env.base, set_nid f1] at ha1
                        rw [show (e.nm d).base = _ from hb] at ha1
                        cases ha1
                        rcases inner a' ha' with ⟨a2, ha2, h3⟩ | h3
                        · exact c4 a2 ha2 (h3.trans hbl.symm)
                        · have := hB.lt; simp only at hbl; omega
                      · rw [← SX.den_off hoff l f2] at hil
                        have hiy' : i ≠ (y.den e).1.toNat := by
                          have := hiy y rfl
                          rw [hyd] at this
                          exact Ne.symm this
                        rw [set_nid f3] at ha1
                        obtain ⟨d1, d2', d3, d4, d5⟩ := hi' i hil (fun x hx => by cases hx)
                        rcases inner a' ha' with ⟨a2, ha2, h3⟩ | h3
                        · exact c5 i hil (fun x hx => by cases hx) (Ne.symm hiy') a2 a1 ha2 ha1 (h3.trans hbl.symm)
                        · have := (d3.fp ha1).2; omega
                    · intro b hbm gg hgg
                      rcases List.mem_cons.1 hbm with rfl | hbm
                      · obtain ⟨a', ha', rfl⟩ := hgg
                        simp only [Env.base, Env.set_at, m1] at ha'
                        rcases inner a' ha' with ⟨a2, ha2, h3⟩ | h3
                        · exact .inl ⟨_, List.mem_singleton.2 rfl, .inr ⟨(y.den e).1.toNat, by rw [← SX.den_off hoff l f2]; omega, (fun x hx => by cases hx), a2, by rw [set_nid f3]; exact ha2, h3⟩⟩
                        · exact .inr h3
                      · rw [List.mem_singleton] at hbm
                        subst hbm
                        refine .inl ⟨_, List.mem_singleton.2 rfl, ?_⟩
                        rcases hgg with h1 | ⟨i, hil, _, a1, ha1, hbl⟩
                        · exact .inl h1
                        · exact .inr ⟨i, hil, (fun x hx => by cases hx), a1, ha1, hbl⟩
                    · intro gg hgg hno
                      refine hleft.block gg hgg fun a' ha' hag => hno _ (List.mem_singleton.2 rfl) (.inr ⟨(y.den e).1.toNat, by rw [← SX.den_off hoff l f2]; omega, (fun x hx => by cases hx), a', by rw [set_nid f3]; exact ha', hag⟩)
                    · exact hleft.below hR.bl fun a' ha' => (c3.fp ha').1
                    · show _ ∧ _
                      simp only [Env.int, Env.bool, Env.set_at, set_nid f3, leafI_map_off hoff csf, leafB_map_off hoff csf, hyd, m3, m4]
                      rw [← hks]
                      exact ⟨rfl, rfl⟩
                  · cases h
                · cases h
              · cases h
            · cases h
          · cases h
        · cases h
      · rename_i d2 l2
        split at h
        · rename_i d1 ks l2' ct hr
          split at h
          · rename_i ty1 hb1
            split at h
            · rename_i hc
              obtain ⟨rfl, hks, hz, hne⟩ := hc
              simp only [Option.some.injEq, Prod.mk.injEq] at h
              obtain ⟨rfl, rfl, rfl⟩ := h
              have g1 := geZ_den (hx _ (List.mem_cons_self ..))
              have g2 := leq_den (hx _ (List.mem_cons_of_mem _ (List.mem_cons_self ..)))
              simp only [most, SX.den] at g2
              have hm := blockX_mem hb1
              have hB1 : w0.heap.size ≤ e.adr d1 ∧ Blk w (e.adr d1) ty1 (([] : List LX).map (·.den e)).toArray := hR.hp _ hm
              have hA := hR.rowAt hr
              obtain ⟨base', cap', w', hrun, hown, hleft⟩ := Own.appendAll (P := P) (ty := ty) (c2 := e.cap d2) hB1.1 hB1.2 hBw hel hz hks hA (fun hn => by
                rcases Nat.eq_zero_or_pos (l2'.den e).1.toNat with h | h
                · exact h
                · obtain ⟨a', ha', _⟩ := hA 0 h
                  rw [hn] at ha'; cases ha') (by omega)
              have hf2 : l2'.fr (nid id) = true ∧ nid id ct = true := by
                unfold rowOf at hr
                split at hr
                · rename_i id' ks' len' ct' ho
                  simp only [Option.some.injEq, Prod.mk.injEq] at hr
                  obtain ⟨rfl, rfl, rfl⟩ := hr
                  obtain ⟨hm2, rfl⟩ := objX_mem ho
                  exact ⟨(row_fr hfr hm2).2.1, (row_fr hfr hm2).2.2⟩
                · cases hr
                · split at hr
                  · rename_i r hr'
                    simp only [Option.some.injEq, Prod.mk.injEq] at hr
                    obtain ⟨rfl, rfl, rfl⟩ := hr
                    simp only [St.fr, Bool.and_eq_true] at hfr
                    have := List.all_eq_true.1 hfr.1.2 r (List.mem_of_find?_eq_some hr')
                    simp only [Rw.fr, Bool.and_eq_true] at this
                    exact ⟨this.2, this.1⟩
                  · cases hr
              obtain ⟨f1, _⟩ := cells_fr hfr hm
              have hoff := Env.off_set e id { Nm.zero with base := base', cap := cap' }
              have hR' := hR.off hoff hfr (lt_nid hid)
              refine ⟨_, w', ?_, hR'.turn (rem := [⟨d1, .cells ty1 []⟩]) (kept := (delB s d1).hp) (new := [⟨id, .row ks l2' ct⟩]) (del_perm hR hm) (insBk_perm _ _) (ins_nodup (hR.nodup_del d1) (not_del hni)) ?_ (List.pairwise_singleton ..) ?_ ?_ ?_⟩
              · show _ = Result.ok (Value.slice (Env.base _ id) (l2'.den _).1.toNat (Env.cap _ id)) w'
                rw [← SX.den_off hoff l2' hf2.1]
                simp only [Env.base, Env.cap, Env.set_at]
                exact hrun
              · intro b hb
                rw [List.mem_singleton] at hb
                subst hb
                show Own _ _ (Env.base _ id) (l2'.den _).1.toNat (Env.cap _ id) ks (Env.int _ ct) (Env.bool _ ct)
                rw [← SX.den_off hoff l2' hf2.1]
                simp only [Env.base, Env.cap, Env.int, Env.bool, Env.set_at, set_nid hf2.2]
                exact hown
              · intro b hb g hg
                rw [List.mem_singleton] at hb
                subst hb
                obtain ⟨a', ha', rfl⟩ := hg
                simp only [Env.base, Env.set_at] at ha'
                rcases hleft.at_ with h1 | ⟨a1, h1, h2⟩
                · refine .inl ⟨_, List.mem_singleton.2 rfl, ?_⟩
                  rw [h1] at ha'
                  cases ha'
                  show _ = Env.adr _ d1
                  simp only [Env.adr, set_nid f1]
                · rw [h1] at ha'; cases ha'; exact .inr h2
              · intro g hg hno
                refine hleft.block g hg fun a' ha' hag => hno _ (List.mem_singleton.2 rfl) ?_
                cases ha'
                show g = Env.adr _ d1
                simp only [Env.adr, set_nid f1]
                exact hag.symm
              · exact hleft.below hR.bl fun a' ha' => by cases ha'; exact hB1.1
            · cases h
          · cases h
        · cases h
      · split at h
        · rename_i d1
          split at h
          · rename_i ty1 ks hb1 hz
            split at h
            · rename_i hks
              simp only [Option.some.injEq, Prod.mk.injEq] at h
              obtain ⟨rfl, rfl, rfl⟩ := h
              have hm := blockX_mem hb1
              have hB1 : w0.heap.size ≤ e.adr d1 ∧ Blk w (e.adr d1) ty1 (([] : List LX).map (·.den e)).toArray := hR.hp _ hm
              obtain ⟨base', cap', w', hrun, hown, hleft⟩ := Own.appendAll (P := P) (ty := ty) (c2 := 0) (base := none) (len := 0) (int := fun _ => 0) (bool := fun _ => false) hB1.1 hB1.2 hBw hel hz hks (fun i hi => by omega) (fun _ => rfl) (by omega)
              obtain ⟨f1, _⟩ := cells_fr hfr hm
              have hoff := Env.off_set e id { Nm.zero with base := base', cap := cap' }
              have hR' := hR.off hoff hfr (lt_nid hid)
              refine ⟨_, w', ?_, Rel.cond1 (hR'.turn (rem := [⟨d1, .cells ty1 []⟩]) (kept := (delB s d1).hp) (new := [⟨id, .row ks (.i 0) id⟩]) (del_perm hR hm) (insBk_perm _ _) (ins_nodup (hR.nodup_del d1) (not_del hni)) ?_ (List.pairwise_singleton ..) ?_ ?_ ?_) ?_⟩
              · show _ = Result.ok (Value.slice (Env.base _ id) 0 (Env.cap _ id)) w'
                simp only [Env.base, Env.cap, Env.set_at]
                exact hrun
              · intro b hb
                rw [List.mem_singleton] at hb
                subst hb
                show Own _ _ (Env.base _ id) 0 (Env.cap _ id) ks (Env.int _ id) (Env.bool _ id)
                simp only [Env.base, Env.cap, Env.int, Env.bool, Env.set_at]
                exact hown
              · intro b hb g hg
                rw [List.mem_singleton] at hb
                subst hb
                obtain ⟨a', ha', rfl⟩ := hg
                simp only [Env.base, Env.set_at] at ha'
                rcases hleft.at_ with h1 | ⟨a1, h1, h2⟩
                · refine .inl ⟨_, List.mem_singleton.2 rfl, ?_⟩
                  rw [h1] at ha'
                  cases ha'
                  show _ = Env.adr _ d1
                  simp only [Env.adr, set_nid f1]
                · rw [h1] at ha'; cases ha'; exact .inr h2
              · intro g hg hno
                refine hleft.block g hg fun a' ha' hag => hno _ (List.mem_singleton.2 rfl) ?_
                cases ha'
                show g = Env.adr _ d1
                simp only [Env.adr, set_nid f1]
                exact hag.symm
              · exact hleft.below hR.bl fun a' ha' => by cases ha'; exact hB1.1
              · show _ ∧ _
                simp only [Env.int, Env.bool, Env.set_at]
                exact ⟨rfl, rfl⟩
            · cases h
          · cases h
        · cases h
      · rename_i d2 k2 _
        split at h
        · rename_i d1 m
          split at h
          · rename_i ty1 us ty2 vs q hb1 hb2 hz
            split at h
            · rename_i hc
              obtain ⟨rfl, ⟨rfl, rfl⟩, c3, c4, c5, c6⟩ := hc
              simp only [Option.some.injEq, Prod.mk.injEq] at h
              obtain ⟨rfl, rfl, rfl⟩ := h
              have hB1 : w0.heap.size ≤ e.adr d1 ∧ Blk w (e.adr d1) ty1 (us.map (·.den e)).toArray := hR.hp _ (blockX_mem hb1)
              have hB2 : w0.heap.size ≤ e.adr d2 ∧ Blk w (e.adr d2) ty2 (vs.map (·.den e)).toArray := hR.hp _ (blockX_mem hb2)
              obtain ⟨base', cap', int', bool', w', hrun, hown, hleft⟩ := Own.appendFull (P := P) (t := t) (ty := ty) hB1.2 hB2.2 hBw hel hz c5 c6 c3 c4
              have hoff := Env.off_set e id { Nm.zero with base := base', cap := cap', int := int', bool := bool' }
              refine ⟨_, w', ?_, (hR.off hoff hfr (lt_nid hid)).push (b := ⟨id, .row [q] (.i ((us.length + vs.length : Nat) : Int)) id⟩) hni ?_ ?_ ?_⟩
              · show _ = Result.ok (Value.slice (Env.base _ id) (((us.length + vs.length : Nat) : Int)).toNat (Env.cap _ id)) w'
                simp only [Env.base, Env.cap, Env.set_at, Int.toNat_natCast]
                exact hrun
              · exact ⟨hleft.os, hleft.tape, hleft.output, hleft.size, fun k hk => hleft.block k hk fun a ha => by cases ha⟩
              · show Own _ _ (Env.base _ id) (((us.length + vs.length : Nat) : Int)).toNat (Env.cap _ id) [q] (Env.int _ id) (Env.bool _ id)
                simp only [Env.base, Env.cap, Env.int, Env.bool, Env.set_at, Int.toNat_natCast]
                exact hown
              · rintro g ⟨a', ha', rfl⟩
                simp only [Env.base, Env.set_at] at ha'
                rcases hleft.at_ with h1 | ⟨a1, h1, h2⟩
                · rw [h1] at ha'; cases ha'
                · rw [h1] at ha'; cases ha'; exact h2
            · cases h
          · cases h
        · cases h
      · cases h
    · cases h
theorem makeX_sound (hR : Rel C I G e0 w0 e s a ups w) {id : Nat} {t : TypeId} {n : SX} {s' : St} {v : LX} {xs : List SX} (h : makeX P G.n0 s id t n = some (s', v, xs)) (hx : ∀ x ∈ xs, (x.den e).2 = true) (hnf : s.fr (nid id) = true → n.fr (nid id) = true) :
    ∃ e' w', (Instr.makeSlice t (.int .i64 (n.den e).1) (.int .i64 (n.den e).1)).run P w = .ok (v.den e') w' ∧ Rel C I G e0 w0 e' s' a ups w' := by
  unfold makeX at h
  split at h
  · cases h
  · rename_i el sz hel
    obtain ⟨i, hu, hi, hby, hisz⟩ := elemX_spec hel
    split at h
    · rename_i hc
      obtain ⟨hid, hfr⟩ := hc
      have hni := not_id hfr (nid_self id)
      have nf := hnf hfr
      have run : ∀ z, i.zero = some z → 0 ≤ (n.den e).1 → (n.den e).1 ≤ 1000000 → (Instr.makeSlice t (.int .i64 (n.den e).1) (.int .i64 (n.den e).1)).run P w = .ok (.slice (some ⟨w.heap.size, 0, none⟩) (n.den e).1.toNat (n.den e).1.toNat) (w.alloc (.cells (madeCells z.cells ((n.den e).1.toNat * i.size)) el)) := fun z hz h0 h1 =>
        run_make w t el i z hu hi hz .i64 .i64 _ _ h0 (by omega) (by
          have := Int.mul_le_mul (show (i.bytes : Int) ≤ 100000 by omega) h1 h0 (by omega)
          omega) (by omega)
      have below : ∀ o : Obj, Below w.heap.size w (w.alloc o) := fun o => (Below.refl _ w).alloc (Nat.le_refl _) o
      split at h
      · split at h
        · rename_i e2 ks hz hks
          split at h
          · rename_i hsz
            simp only [Option.some.injEq, Prod.mk.injEq] at h
            obtain ⟨rfl, rfl, rfl⟩ := h
            have g1 := geZ_den (hx _ (List.mem_cons_self ..))
            have g2 := leq_den (hx _ (List.mem_cons_of_mem _ (List.mem_cons_self ..)))
            simp only [most, SX.den] at g2
            obtain ⟨i', hi', hz'⟩ := Option.bind_eq_some_iff.1 hz
            rw [hi] at hi'
            cases hi'
            have hrun := run _ hz' g1 g2
            have hoff := Env.off_set e id { Nm.zero with base := some ⟨w.heap.size, 0, none⟩, cap := (n.den e).1.toNat }
            refine ⟨_, w.alloc (.cells (madeCells (Value.slice none 0 0).cells ((n.den e).1.toNat * i.size)) el), ?_, Rel.cond1 ((hR.off hoff hfr (lt_nid hid)).push (b := ⟨id, .nr ks n id none⟩) hni (below _) ?_ ?_) ?_⟩
            · show _ = Result.ok (Value.slice (Env.base _ id) (n.den _).1.toNat (Env.cap _ id)) _
              rw [← SX.den_off hoff n nf]
              simp only [Env.base, Env.cap, Env.set_at]
              exact hrun
            · refine ⟨w.heap.size, el, _, by simp only [Env.base, Env.set_at], hR.bl.size, Blk.new w _ _, ?_, ?_, fun j hj _ => ?_⟩
              · rw [← SX.den_off hoff n nf, size_madeCells, hisz, hsz, Nat.mul_one]
              · rw [← SX.den_off hoff n nf]; simp only [Env.cap, Env.set_at]
              · rw [← SX.den_off hoff n nf] at hj
                simp only [Env.int, Env.set_at]
                refine ⟨?_, Int.le_refl 0, ⟨Nat.le_refl _, .inl ⟨rfl, rfl⟩⟩, (fun a' ha' => by cases ha'), fun j' _ _ _ a' a1 ha' => by cases ha'⟩
                simp only [madeCells, Array.getElem?_map, hisz, hsz, Nat.mul_one]
                rw [Array.getElem?_eq_getElem (by simpa using hj)]
                simp [Value.cells, Nm.zero, Nat.mod_one]
            · rintro g (⟨a', ha', rfl⟩ | ⟨j, hj, _, a', ha', rfl⟩)
              · simp only [Env.base, Env.set_at] at ha'; cases ha'; exact Nat.le_refl _
              · simp only [Env.set_at] at ha'; cases ha'
            · show _ ∧ _
              simp only [Env.int, Env.bool, Env.set_at]
              exact ⟨rfl, rfl⟩
          · cases h
        · cases h
      · split at h
        · rename_i ks hks
          split at h
          · rename_i hsz
            simp only [Option.some.injEq, Prod.mk.injEq] at h
            obtain ⟨rfl, rfl, rfl⟩ := h
            have g1 := geZ_den (hx _ (List.mem_cons_self ..))
            have g2 := leq_den (hx _ (List.mem_cons_of_mem _ (List.mem_cons_self ..)))
            simp only [most, SX.den] at g2
            obtain ⟨i', z, hi', hz, hzs, hzc⟩ := zeroKs_spec hks
            rw [hi] at hi'
            cases hi'
            have hrun := run _ hz g1 g2
            rw [hisz, ← hsz] at hrun
            have hoff := Env.off_set e id { Nm.zero with base := some ⟨w.heap.size, 0, none⟩, cap := (n.den e).1.toNat }
            refine ⟨_, w.alloc (.cells (madeCells z.cells ((n.den e).1.toNat * ks.length)) el), ?_, Rel.cond1 ((hR.off hoff hfr (lt_nid hid)).push (b := ⟨id, .row ks n id⟩) hni (below _) ?_ ?_) ?_⟩
            · show _ = Result.ok (Value.slice (Env.base _ id) (n.den _).1.toNat (Env.cap _ id)) _
              rw [← SX.den_off hoff n nf]
              simp only [Env.base, Env.cap, Env.set_at]
              exact hrun
            · show Own _ _ (Env.base _ id) (n.den _).1.toNat (Env.cap _ id) ks (Env.int _ id) (Env.bool _ id)
              rw [← SX.den_off hoff n nf]
              simp only [Env.base, Env.cap, Env.int, Env.bool, Env.set_at]
              exact own_make hR.bl.size hzs hzc
            · rintro g ⟨a', ha', rfl⟩
              simp only [Env.base, Env.set_at] at ha'; cases ha'; exact Nat.le_refl _
            · show _ ∧ _
              simp only [Env.int, Env.bool, Env.set_at]
              exact ⟨rfl, rfl⟩
          · cases h
        · cases h
    · cases h
end
end Go.Proofs.Ytjhdjclcfmcilaa.T2
