/-
  The machine on terms from the middle of a walk on: from a region of the function to its end. No program.
-/
import Derived.Test.YtjhdjclcfmcilaaSx10
namespace Go.Proofs.Ytjhdjclcfmcilaa
open Go.ChangeShapes Go.WideShapes Go.ChangeAt Go.RowKit
set_option linter.unusedVariables false

/-- The slots: what is said of some, nothing of the others. -/
def tmOf (n : Nat) (l : List (Nat × VX)) : List VX := l.foldl (fun tm p => tm.set p.1 p.2) (List.replicate n .any)
theorem sats_any (e : Env) : ∀ (vs : List Value), Sats e (List.replicate vs.length .any) vs
  | [] => trivial
  | _ :: vs => ⟨trivial, sats_any e vs⟩
theorem Sats.set_at {e : Env} : ∀ {xs : List VX} {vs : List Value} (t : Nat) {x : VX} {v : Value}, Sats e xs vs → vs[t]? = some v → x.sat e v → Sats e (xs.set t x) vs
  | [], [], _, _, _, _, _, _ => trivial
  | [], _ :: _, _, _, _, h, _, _ => h.elim
  | _ :: _, [], _, _, _, h, _, _ => h.elim
  | _ :: _, _ :: _, 0, _, _, h, hv, hx => by
    simp only [List.getElem?_cons_zero, Option.some.injEq] at hv
    subst hv
    exact ⟨hx, h.2⟩
  | _ :: _, _ :: _, t + 1, _, _, h, hv, hx => ⟨h.1, Sats.set_at t h.2 (by simpa using hv) hx⟩
theorem sats_tmOf {e : Env} {vs : List Value} {n : Nat} (hn : vs.length = n) {l : List (Nat × VX)} (h : Each (fun p : Nat × VX => ∃ v, vs[p.1]? = some v ∧ p.2.sat e v) l) : Sats e (tmOf n l) vs := by
  subst hn
  unfold tmOf
  have key : ∀ (l : List (Nat × VX)) (tm : List VX), Sats e tm vs → Each (fun p : Nat × VX => ∃ v, vs[p.1]? = some v ∧ p.2.sat e v) l → Sats e (l.foldl (fun tm p => tm.set p.1 p.2) tm) vs := by
    intro l
    induction l with
    | nil => intro tm h _; exact h
    | cons p l ih =>
      intro tm h hp
      obtain ⟨⟨v, hv, hs⟩, hl⟩ := hp
      exact ih _ (h.set_at _ hv hs) hl
  exact key l _ (sats_any e vs) h
/-- The code from region n on. -/
def tailAt (n : Nat) : Code → Option Code
  | .region id ops draw => if id = n then some (.region id ops draw) else none
  | .seq a b => if isAt a then some (.seq a b) else (tailAt n a).or (tailAt n b)
  | .cond _ a b => (tailAt n a).or (tailAt n b)
  | .block _ c | .loop c | .scope c => tailAt n c
  | _ => none
where
  isAt : Code → Bool
    | .region id _ _ => decide (id = n)
    | _ => false
def tailX (P : Program) (G : Cfg) (fuel : Nat) (fn : Func) (n : Nat) (s : St) : Option (List Lf × List Ob) :=
  match fn.body.bind (tailAt n) with
  | some c =>
    match execX P G fuel c s with
    | some (es, os) => (leavesX P fn es).map (·, dedup os)
    | none => none
  | none => none
section
variable {P : Program} {C : List (Con P)} {I : List (Nat → Env → Prop)}
theorem leaves_post {fn : Func} {G : Cfg} {e0 : Env} {w0 : World} {es : List (Ex × St)} {ls : List Lf} (h : leavesX P fn es = some ls) {v : Value}
    (hl : Each (fun l : Lf => ∀ e u, Env.agr G.n0 e0 e → Each (Cd.holds C I e) l.cd → l.v.sat e u → u = v) ls) : ∀ x a w, Post C I G e0 w0 es x a w → bodyPost P fn (Ret v w0) x a w := fun x a w hx => by
  obtain ⟨y, s, hm, rfl, e, hR⟩ := hx
  obtain ⟨i1, v', i2, i3⟩ := leavesX_mem h hm
  obtain ⟨u, hu, hr⟩ := resX_sound hR i2
  have fin : a.defers = [] ∧ ∃ u, (results fn a.tmps).run P w = .ok u w ∧ Ret v w0 (.returned u) w := ⟨hR.df, u, hr, by rw [hl.all _ i3 e u hR.ex (Each.of hR.cd) hu], hR.bl⟩
  cases y with
  | nor => exact fin
  | rt => exact fin
  | ex id => exact absurd rfl (i1 id)
/-- From a region on, whose rest has been set aside. -/
theorem tail_of_sx (hmix : P.follows .mixedOrders = true) {G : Cfg} (hS : C.map (·.sg) = G.sg) {fn : Func} {n fuel : Nat} {x y : Code} {s : St} {ls : List Lf} {os : List Ob} (hc : fn.body.bind (tailAt n) = some (.seq x y))
    (hrun : tailX P G fuel fn n s = some (ls, os)) {v : Value} {w0 w : World} {a : Act} {K : Act → World → Prop} (hk : ∀ a w, y.wp P (bodyPost P fn (Ret v w0)) a w → K a w) (e0 : Env) (hR : Rel C I G e0 w0 e0 s a w)
    (hob : Each (fun o => ∀ e, Env.agr G.n0 e0 e → Owed C I e o) os)
    (hl : Each (fun l : Lf => ∀ e u, Env.agr G.n0 e0 e → Each (Cd.holds C I e) l.cd → l.v.sat e u → u = v) ls) : x.wp P (Exit.then K (bodyPost P fn (Ret v w0))) a w := by
  unfold tailX at hrun
  rw [hc] at hrun
  dsimp only at hrun
  split at hrun
  · rename_i es o1 h1
    obtain ⟨ls', h2, hp⟩ := opt_map hrun
    simp only [Prod.mk.injEq] at hp
    obtain ⟨rfl, rfl⟩ := hp
    have hob' : Oks C I G.n0 e0 o1 := fun o ho => Owed.ok (hob.all o (mem_dedup ho))
    cases fuel with
    | zero => unfold execX at h1; cases h1
    | succ m =>
      unfold execX at h1
      split at h1
      · rename_i es1 o2 h3
        obtain ⟨⟨r, o3⟩, h4, hp⟩ := opt_map h1
        simp only [Prod.mk.injEq] at hp
        obtain ⟨rfl, rfl⟩ := hp
        refine wp_mono (execX_sound hmix m x s G e0 e0 a w es1 o2 hS h3 hob'.left hR) fun z a' w' hz => ?_
        have := then_post h4 (K := K) (fun s' r' o' e' a'' w'' h5 h6 h7 hR' => hk _ _ (wp_mono (execX_sound hmix m y s' G e0 e' a'' w'' r' o' hS h5 (hob'.right.sub h7) hR') fun z a w hz => leaves_post h2 hl z a w (Post.mono h6 z a w hz))) z a' w' hz
        cases z with
        | normal => exact this
        | _ => exact leaves_post h2 hl _ _ _ this
      · cases h1
  · cases hrun
end
end Go.Proofs.Ytjhdjclcfmcilaa
