/-
  The machine on terms, for use: contracts out of theorems, sets, instructions and states as data. No program.
-/
import Derived.Test.YtjhdjclcfmcilaaSx9
namespace Go.Proofs.Ytjhdjclcfmcilaa
open Go.ChangeShapes Go.WideShapes Go.ChangeAt Go.RowKit
set_option linter.unusedVariables false

def setK : List (Option IntKind) := [none, none, some .u32, some .u32, some .u32]
def stK : List (Option IntKind) := [none, none, some .u32, some .u32, some .u32, none, none, some .u32, some .u32, some .u32, none, none, some .u32, some .u32, some .u32, none, none, some .u32, some .u32, some .u32, none, none, some .u32, some .u32, some .u32, none, none, some .u32, some .u32, some .u32, none, none, some .u32, some .u32, some .u32, none, none, some .u32, some .u32, some .u32]
def insK : List (Option IntKind) := [some .u32, some .u32, some .i64, some .i64, some .i64, some .i64, some .i64, some .i64, some .i64]
def regK : List (Option IntKind) := [some .u32, some .u32, some .u32, some .u32, some .u32, some .u32, some .u32, some .u32]
def flagK : List (Option IntKind) := [none, none, none, none]

/-! ### Data as functions of a cell's number. -/
def setInt (s : VSet) : Nat → Int
  | 2 => s.lo
  | 3 => s.hi
  | 4 => s.st
  | _ => 0
def setBool (s : VSet) : Nat → Bool
  | 0 => s.e
  | 1 => s.t
  | _ => false
theorem setInt_eqs (s : VSet) : setInt s 2 = s.lo ∧ setInt s 3 = s.hi ∧ setInt s 4 = s.st := ⟨rfl, rfl, rfl⟩
theorem setBool_eqs (s : VSet) : setBool s 0 = s.e ∧ setBool s 1 = s.t := ⟨rfl, rfl⟩
/-- The sets of the registers. -/
def stInt (s : Nat → VSet) (j : Nat) : Int := setInt (s (j / 5)) (j % 5)
def stBool (s : Nat → VSet) (j : Nat) : Bool := setBool (s (j / 5)) (j % 5)
structure Ins where
  addr : Int
  imm : Int
  op : Int
  form : Int
  width : Int
  cc : Int
  a : Int
  b : Int
  size : Int
  deriving DecidableEq
def i64R (x : Int) : Prop := -9223372036854775808 ≤ x ∧ x ≤ 9223372036854775807
def u32R (x : Int) : Prop := 0 ≤ x ∧ x < 4294967296
def Ins.wf (i : Ins) : Prop := u32R i.addr ∧ u32R i.imm ∧ i64R i.op ∧ i64R i.form ∧ i64R i.width ∧ i64R i.cc ∧ i64R i.a ∧ i64R i.b ∧ i64R i.size
def insInt (i : Ins) : Nat → Int
  | 0 => i.addr
  | 1 => i.imm
  | 2 => i.op
  | 3 => i.form
  | 4 => i.width
  | 5 => i.cc
  | 6 => i.a
  | 7 => i.b
  | 8 => i.size
  | _ => 0
def Ins.val (i : Ins) : Value := .agg (cellsD (insInt i) (fun _ => false) 0 insK).toArray
def stVal (s : Nat → VSet) : Value := .agg (cellsD (stInt s) (stBool s) 0 stK).toArray
def regVal (x : Nat → Int) : Value := .agg (cellsD x (fun _ => false) 0 regK).toArray
theorem set_val (s : VSet) : .agg (cellsD (setInt s) (setBool s) 0 setK).toArray = s.val := rfl

/-! ### Arguments, out of what a contract is handed. -/
def intV : Value → Int
  | .int _ n => n
  | _ => 0
def boolV : Value → Bool
  | .bool b => b
  | _ => false
def cellV (v : Value) (j : Nat) : Value :=
  match v with
  | .agg cs => cs.getD j undef
  | _ => undef
def setD (d : AD) : VSet := ⟨boolV (cellV d.val 0), boolV (cellV d.val 1), intV (cellV d.val 2), intV (cellV d.val 3), intV (cellV d.val 4)⟩
def stD (d : AD) : Nat → VSet := fun k => ⟨boolV (cellV d.val (5 * k)), boolV (cellV d.val (5 * k + 1)), intV (cellV d.val (5 * k + 2)), intV (cellV d.val (5 * k + 3)), intV (cellV d.val (5 * k + 4))⟩
def insD (d : AD) : Ins := ⟨intV (cellV d.val 0), intV (cellV d.val 1), intV (cellV d.val 2), intV (cellV d.val 3), intV (cellV d.val 4), intV (cellV d.val 5), intV (cellV d.val 6), intV (cellV d.val 7), intV (cellV d.val 8)⟩
def regD (d : AD) : Nat → Int := fun k => intV (cellV d.val k)
def numD (d : AD) : Int := intV d.val
def truD (d : AD) : Bool := boolV d.val
theorem fits_cells {w : World} {ks : List (Option IntKind)} {d : AD} (h : (SH.a ks).fits w d) : d.val = .agg (cellsD (fun j => intV (cellV d.val j)) (fun j => boolV (cellV d.val j)) 0 ks).toArray := by
  obtain ⟨cs, hv, hl, hc⟩ := h
  rw [hv]
  congr 2
  have key : ∀ (ks : List (Option IntKind)) (cs' : List Value) (j : Nat), cs'.length = ks.length → (∀ (i : Nat) (k : Option IntKind), ks[i]? = some k → ∃ n b, cs'[i]? = some (leafD k n b)) → (∀ i, cs'[i]? = cs[j + i]?) →
      cs' = cellsD (fun j => intV (cellV (.agg cs.toArray) j)) (fun j => boolV (cellV (.agg cs.toArray) j)) j ks := by
    intro ks
    induction ks with
    | nil => intro cs' j h _ _; simpa [cellsD] using h
    | cons k ks ih =>
      intro cs' j h hk hi
      match cs', h with
      | v :: vs, h =>
        obtain ⟨n, b, hv'⟩ := hk 0 k rfl
        simp only [List.getElem?_cons_zero, Option.some.injEq] at hv'
        have hj : cs[j]? = some v := (hi 0).symm
        have hcell : cellV (.agg cs.toArray) j = v := by simp [cellV, hj]
        simp only [cellsD]
        congr 1
        · rw [hcell, hv']; cases k <;> rfl
        · exact ih vs (j + 1) (by simpa using h) (fun i k' hk' => by have := hk (i + 1) k' (by simpa using hk'); simpa using this) (fun i => by have := hi (i + 1); rw [show j + 1 + i = j + (i + 1) by omega]; simpa using this)
  exact key ks cs 0 hl hc fun i => by rw [Nat.zero_add]
theorem fits_set {w : World} {d : AD} (h : (SH.a setK).fits w d) : d.val = (setD d).val := fits_cells h
theorem fits_st {w : World} {d : AD} (h : (SH.a stK).fits w d) : d.val = stVal (stD d) := (fits_cells h).trans rfl
theorem fits_ins {w : World} {d : AD} (h : (SH.a insK).fits w d) : d.val = (insD d).val := (fits_cells h).trans rfl
theorem fits_reg {w : World} {d : AD} (h : (SH.a regK).fits w d) : d.val = regVal (regD d) := (fits_cells h).trans rfl
theorem fits_num {w : World} {k : IntKind} {d : AD} (h : (SH.l (some k)).fits w d) : d.val = .int k (numD d) := by
  obtain ⟨n, hn⟩ := h
  simp [numD, hn, intV]
theorem fits_tru {w : World} {d : AD} (h : (SH.l none).fits w d) : d.val = .bool (truD d) := by
  obtain ⟨b, hb⟩ := h
  simp [truD, hb, boolV]
theorem fits_nil {w : World} {ads : List AD} (h : Fits w [] ads) : ads = [] := by
  cases ads with
  | nil => rfl
  | cons _ _ => exact h.elim
theorem fits_cons {w : World} {s : SH} {ss : List SH} {ads : List AD} (h : Fits w (s :: ss) ads) : ∃ d ds, ads = d :: ds ∧ s.fits w d ∧ Fits w ss ds := by
  cases ads with
  | nil => exact h.elim
  | cons d ds => exact ⟨d, ds, rfl, h.1, h.2⟩
/-- A contract out of a theorem. -/
def Con.mk' {P : Program} (sg : Sg) (pre : List AD → Prop) (int : List AD → Nat → Int) (bool : List AD → Nat → Bool)
    (body : ∃ fn, P.funcs[sg.f]? = some fn ∧ (fn.name == "runtime.NumGoroutine") = false ∧ fn.body.isNone = false)
    (h : ∀ (ads : List AD) (w : World), Fits w sg.args ads → pre ads → Calls P sg.f (ads.map (·.val)).toArray w (Ret (sg.res.val (int ads) (bool ads)) w)) : Con P :=
  ⟨sg, pre, fun ads i b => i = int ads ∧ b = bool ads, body, fun _ ads => ⟨_, _, rfl, rfl⟩, fun _ ads i b i' b' h h' => by rw [h.1, h.2, h'.1, h'.2], fun ads w hf hp => (h ads w hf hp).mono fun e w' ⟨he, hb⟩ => ⟨int ads, bool ads, he, hb, rfl, rfl⟩⟩

theorem Oks.nil {P : Program} {C : List (Con P)} {I : List (Nat → Env → Prop)} {n0 : Nat} {e0 : Env} : Oks C I n0 e0 [] := fun _ h => (List.not_mem_nil h).elim
theorem Oks.cons {P : Program} {C : List (Con P)} {I : List (Nat → Env → Prop)} {n0 : Nat} {e0 : Env} {o : Ob} {os : List Ob} (h : o.ok C I n0 e0) (hs : Oks C I n0 e0 os) : Oks C I n0 e0 (o :: os) := fun x hx => by
  rcases List.mem_cons.1 hx with rfl | hx
  · exact h
  · exact hs x hx
/-- Each of a list. -/
def Each {α : Type} (p : α → Prop) : List α → Prop
  | [] => True
  | x :: xs => p x ∧ Each p xs
theorem Each.all {α : Type} {p : α → Prop} : ∀ {xs : List α}, Each p xs → ∀ x ∈ xs, p x
  | _ :: _, h, y, hy => by
    rcases List.mem_cons.1 hy with rfl | hy
    · exact h.1
    · exact Each.all h.2 y hy
theorem Each.of {α : Type} {p : α → Prop} : ∀ {xs : List α}, (∀ x ∈ xs, p x) → Each p xs
  | [], _ => trivial
  | x :: xs, h => ⟨h x (List.mem_cons_self ..), Each.of fun y hy => h y (List.mem_cons_of_mem _ hy)⟩
def Owed {P : Program} (C : List (Con P)) (I : List (Nat → Env → Prop)) (e : Env) : Ob → Prop
  | .cl cd x => Each (Cd.holds C I e) cd → (x.den e).2 = true
  | .pre cd k args => Each (Cd.holds C I e) cd → match C[k]? with | some c => c.pre (args.map (·.dat e)) | none => False
  | .inv cd k d xs => Each (Cd.holds C I e) cd → match I[k]? with | some i => i d ((e.upd d xs).cut d) | none => False
theorem Owed.ok {P : Program} {C : List (Con P)} {I : List (Nat → Env → Prop)} {n0 : Nat} {e0 : Env} {o : Ob} (h : ∀ e, Env.agr n0 e0 e → Owed C I e o) : o.ok C I n0 e0 := by
  cases o with
  | cl cd x => exact fun e he hc => h e he (Each.of hc)
  | pre cd k args =>
    intro e he hc
    have := h e he (Each.of hc)
    unfold Owed at this
    cases hk : C[k]? with
    | none => rw [hk] at this; exact this.elim
    | some c => rw [hk] at this; exact ⟨c, rfl, this⟩
  | inv cd k d xs =>
    intro e he hc
    have := h e he (Each.of hc)
    unfold Owed at this
    cases hk : I[k]? with
    | none => rw [hk] at this; exact this.elim
    | some c => rw [hk] at this; exact ⟨c, rfl, this⟩
/-- THE LAW, for use: a call returns v; of what was there nothing changes. -/
theorem ret_of_sx {P : Program} {C : List (Con P)} {I : List (Nat → Env → Prop)} (hmix : P.follows .mixedOrders = true) {G : Cfg} (hS : C.map (·.sg) = G.sg) {f : FuncId} {fn : Func} (hf : P.funcs[f]? = some fn) {fuel : Nat} {args : List PX} {rws : List Rw} {ls : List Lf} {os : List Ob}
    (hrun : funcX P G fuel fn args rws = some (ls, os)) (e0 : Env) (w0 : World) {vs : Array Value} (hvs : (args.map (·.den e0)).toArray = vs) (hrw : ∀ r ∈ rws, r.ok e0 w0) (v : Value)
    (hob : Each (fun o => ∀ e, Env.agr G.n0 e0 e → Owed C I e o) os)
    (hl : Each (fun l : Lf => ∀ e u, Env.agr G.n0 e0 e → Each (Cd.holds C I e) l.cd → l.v.sat e u → u = v) ls) : Calls P f vs w0 (Ret v w0) := by
  subst hvs
  exact calls_of_sx hmix hS hf hrun e0 w0 hrw (fun o ho => Owed.ok (hob.all o ho)) _ fun l hm e u w' he hc hs hb => ⟨by rw [hl.all l hm e u he (Each.of hc) hs], hb⟩

/-! ### What the machine's terms say of sets, instructions, states. -/
section
variable {P : Program}
theorem mk'_sg (sg : Sg) (pre : List AD → Prop) (int : List AD → Nat → Int) (bool : List AD → Nat → Bool) (body) (h) : (Con.mk' (P := P) sg pre int bool body h).sg = sg := rfl
theorem mk'_pre (sg : Sg) (pre : List AD → Prop) (int : List AD → Nat → Int) (bool : List AD → Nat → Bool) (body) (h) (ads : List AD) : (Con.mk' (P := P) sg pre int bool body h).pre ads = pre ads := rfl
theorem mk'_post (sg : Sg) (pre : List AD → Prop) (int : List AD → Nat → Int) (bool : List AD → Nat → Bool) (body) (h) (ads : List AD) (i : Nat → Int) (b : Nat → Bool) : (Con.mk' (P := P) sg pre int bool body h).post ads i b = (i = int ads ∧ b = bool ads) := rfl
end
/-- The set in the variables d from number j on. -/
def setE (e : Env) (d j : Nat) : VSet := ⟨e.bool d j, e.bool d (j + 1), e.int d (j + 2), e.int d (j + 3), e.int d (j + 4)⟩
def insE (e : Env) (d : Nat) : Ins := ⟨e.int d 0, e.int d 1, e.int d 2, e.int d 3, e.int d 4, e.int d 5, e.int d 6, e.int d 7, e.int d 8⟩
def stE (e : Env) (d : Nat) : Nat → VSet := fun k => setE e d (5 * k)
theorem setD_cells (e : Env) (d j : Nat) : setD (PX.dat e (.a (cellsX d j setK))) = setE e d j := rfl
theorem insD_cells (e : Env) (d : Nat) : insD (PX.dat e (.a (cellsX d 0 insK))) = insE e d := rfl
theorem setD_list (e : Env) (x0 x1 x2 x3 x4 : SX) (k2 k3 k4 : IntKind) : setD (PX.dat e (.a [.t x0, .t x1, .n k2 x2, .n k3 x3, .n k4 x4])) = ⟨(x0.den e).2, (x1.den e).2, (x2.den e).1, (x3.den e).1, (x4.den e).1⟩ := rfl
theorem numD_leaf (e : Env) (k : IntKind) (x : SX) : numD (PX.dat e (.l (.n k x))) = (x.den e).1 := rfl
theorem truD_leaf (e : Env) (x : SX) : truD (PX.dat e (.l (.t x))) = (x.den e).2 := rfl
theorem setE_of {e : Env} {d : Nat} {s : VSet} (hi : e.int d = setInt s) (hb : e.bool d = setBool s) : setE e d 0 = s := by unfold setE; rw [hi, hb]; rfl
theorem insE_of {e : Env} {d : Nat} {i : Ins} (hi : e.int d = insInt i) : insE e d = i := by unfold insE; rw [hi]; rfl
theorem setE_st {e : Env} {d : Nat} {s : Nat → VSet} (hi : e.int d = stInt s) (hb : e.bool d = stBool s) (k : Nat) : setE e d (5 * k) = s k := by
  unfold setE
  rw [hi, hb]
  have h : ∀ c, c < 5 → (5 * k + c) / 5 = k ∧ (5 * k + c) % 5 = c := fun c hc => by omega
  have h0 := h 0 (by omega)
  simp only [Nat.add_zero] at h0
  simp only [stInt, stBool, h0, h 1 (by omega), h 2 (by omega), h 3 (by omega), h 4 (by omega), setInt, setBool]
theorem stVal_eq (s : Nat → VSet) : stVal s = .agg #[.bool (s 0).e, .bool (s 0).t, .int .u32 (s 0).lo, .int .u32 (s 0).hi, .int .u32 (s 0).st, .bool (s 1).e, .bool (s 1).t, .int .u32 (s 1).lo, .int .u32 (s 1).hi, .int .u32 (s 1).st, .bool (s 2).e, .bool (s 2).t, .int .u32 (s 2).lo, .int .u32 (s 2).hi, .int .u32 (s 2).st, .bool (s 3).e, .bool (s 3).t, .int .u32 (s 3).lo, .int .u32 (s 3).hi, .int .u32 (s 3).st, .bool (s 4).e, .bool (s 4).t, .int .u32 (s 4).lo, .int .u32 (s 4).hi, .int .u32 (s 4).st, .bool (s 5).e, .bool (s 5).t, .int .u32 (s 5).lo, .int .u32 (s 5).hi, .int .u32 (s 5).st, .bool (s 6).e, .bool (s 6).t, .int .u32 (s 6).lo, .int .u32 (s 6).hi, .int .u32 (s 6).st, .bool (s 7).e, .bool (s 7).t, .int .u32 (s 7).lo, .int .u32 (s 7).hi, .int .u32 (s 7).st] := rfl
theorem sat_v {e : Env} {x : PX} {u : Value} (h : (VX.v x).sat e u) : u = x.den e := h
theorem den_set (e : Env) (d j : Nat) : PX.den e (.a (cellsX d j setK)) = (setE e d j).val := rfl

/-! ### States as lists of sets. -/
theorem stVal_congr {s t : Nat → VSet} (h : ∀ k, k < 8 → s k = t k) : stVal s = stVal t := by
  rw [stVal_eq, stVal_eq, h 0 (by omega), h 1 (by omega), h 2 (by omega), h 3 (by omega), h 4 (by omega), h 5 (by omega), h 6 (by omega), h 7 (by omega)]
def refsE (e : Env) (l : List (Nat × Nat)) (k : Nat) : VSet := setE e (l.getD k (0, 0)).1 (l.getD k (0, 0)).2
theorem den_stOf (e : Env) (r0 r1 r2 r3 r4 r5 r6 r7 : Nat × Nat) : PX.den e (.a (stOf [r0, r1, r2, r3, r4, r5, r6, r7])) = stVal (refsE e [r0, r1, r2, r3, r4, r5, r6, r7]) := rfl
theorem ite_set (b : Bool) (s t : VSet) : (if b then s else t) = ⟨if b then s.e else t.e, if b then s.t else t.t, if b then s.lo else t.lo, if b then s.hi else t.hi, if b then s.st else t.st⟩ := by cases b <;> rfl
theorem den_it_n (e : Env) (g p q : SX) : ((SX.it g p q).den e).1 = if (g.den e).2 then (p.den e).1 else (q.den e).1 := by simp only [SX.den]; split <;> rfl
theorem den_it_t (e : Env) (g p q : SX) : ((SX.it g p q).den e).2 = if (g.den e).2 then (p.den e).2 else (q.den e).2 := by simp only [SX.den]; split <;> rfl
theorem den_stUpd (e : Env) (x : SX) (r r0 r1 r2 r3 r4 r5 r6 r7 : Nat × Nat) : PX.den e (.a (stUpd x r [r0, r1, r2, r3, r4, r5, r6, r7])) = stVal fun k => if (x.den e).1 == (k : Int) then setE e r.1 r.2 else refsE e [r0, r1, r2, r3, r4, r5, r6, r7] k := by
  rw [stVal_eq]
  simp only [ite_set]
  simp only [PX.den, stUpd, stUpdG, setX, cellsX, leafX, List.zipWith_cons_cons, List.zipWith_nil_left, itX, List.cons_append, List.nil_append, List.map_cons, List.map_nil, LX.den, den_it_n, den_it_t]
  rfl
theorem den_cells_st (e : Env) (d : Nat) : PX.den e (.a (cellsX d 0 stK)) = stVal fun k => setE e d (5 * k) := rfl
theorem setD_rx (e : Env) (d : Nat) (x : SX) : setD (PX.dat e (.a (setRx d x))) = setE e d ((x.den e).1.toNat * 5) := rfl
theorem den_rx (e : Env) (d : Nat) (x : SX) : PX.den e (.a (setRx d x)) = (setE e d ((x.den e).1.toNat * 5)).val := rfl
theorem stD_cells (e : Env) (d : Nat) : stD (PX.dat e (.a (cellsX d 0 stK))) 0 = setE e d 0 ∧ stD (PX.dat e (.a (cellsX d 0 stK))) 1 = setE e d 5 ∧ stD (PX.dat e (.a (cellsX d 0 stK))) 2 = setE e d 10 ∧ stD (PX.dat e (.a (cellsX d 0 stK))) 3 = setE e d 15 ∧
    stD (PX.dat e (.a (cellsX d 0 stK))) 4 = setE e d 20 ∧ stD (PX.dat e (.a (cellsX d 0 stK))) 5 = setE e d 25 ∧ stD (PX.dat e (.a (cellsX d 0 stK))) 6 = setE e d 30 ∧ stD (PX.dat e (.a (cellsX d 0 stK))) 7 = setE e d 35 := ⟨rfl, rfl, rfl, rfl, rfl, rfl, rfl, rfl⟩
/-- The sets of a state that a term spells, up to register 8. -/
theorem stD_st {e : Env} {d : Nat} {s : Nat → VSet} (hi : e.int d = stInt s) (hb : e.bool d = stBool s) (k : Nat) (hk : k < 8) : stD (PX.dat e (.a (cellsX d 0 stK))) k = s k := by
  have h := setE_st hi hb k
  rw [← h]
  match k, hk with
  | 0, _ => rfl
  | 1, _ => rfl
  | 2, _ => rfl
  | 3, _ => rfl
  | 4, _ => rfl
  | 5, _ => rfl
  | 6, _ => rfl
  | 7, _ => rfl
end Go.Proofs.Ytjhdjclcfmcilaa
