/-
  The second machine on terms, for use. No program.
-/
import Derived.Test.YtjhdjclcfmcilaaT10
namespace Go.Proofs.Ytjhdjclcfmcilaa.T2
open Go.ChangeShapes Go.WideShapes Go.ChangeAt Go.RowKit
set_option linter.unusedVariables false
theorem Oks.nil {P : Program} {C : List (Kon P)} {I : List (Nat → Env → Prop)} {n0 : Nat} {e0 : Env} : Oks C I n0 e0 [] := fun _ h => (List.not_mem_nil h).elim
theorem Oks.cons {P : Program} {C : List (Kon P)} {I : List (Nat → Env → Prop)} {n0 : Nat} {e0 : Env} {o : Ob} {os : List Ob} (h : o.ok C I n0 e0) (hs : Oks C I n0 e0 os) : Oks C I n0 e0 (o :: os) := fun x hx => by
  rcases List.mem_cons.1 hx with rfl | hx
  · exact h
  · exact hs x hx
def Owed {P : Program} (C : List (Kon P)) (I : List (Nat → Env → Prop)) (e : Env) : Ob → Prop
  | .cl cd x => Each (Cd.holds C I e) cd → (x.den e).2 = true
  | .pre cd k args => Each (Cd.holds C I e) cd → match C[k]? with | some c => c.pre (args.map (datP e)) | none => False
  | .inv cd k d xs ms => Each (Cd.holds C I e) cd → match I[k]? with | some i => i d ((e.sub d xs ms).cut (d + ms.length)) | none => False
theorem Owed.ok {P : Program} {C : List (Kon P)} {I : List (Nat → Env → Prop)} {n0 : Nat} {e0 : Env} {o : Ob} (h : ∀ e, Env.agr n0 e0 e → Owed C I e o) : o.ok C I n0 e0 := by
  cases o with
  | cl cd x => exact fun e he hc => h e he (Each.of hc)
  | pre cd k args =>
    intro e he hc
    have := h e he (Each.of hc)
    unfold Owed at this
    cases hk : C[k]? with
    | none => rw [hk] at this; exact this.elim
    | some c => rw [hk] at this; exact ⟨c, rfl, this⟩
  | inv cd k d xs ms =>
    intro e he hc
    have := h e he (Each.of hc)
    unfold Owed at this
    cases hk : I[k]? with
    | none => rw [hk] at this; exact this.elim
    | some c => rw [hk] at this; exact ⟨c, rfl, this⟩
/-- THE LAW, for use: a call returns v; of what was there nothing changes. -/
theorem ret_of_tx {P : Program} {C : List (Kon P)} {I : List (Nat → Env → Prop)} (hmix : P.follows .mixedOrders = true) {G : Cfg} (hS : C.map (·.sg) = G.sg) {f : FuncId} {fn : Func} (hf : P.funcs[f]? = some fn) {fuel depth : Nat} {args : List PX} {rws : List Rw} {ls : List Lf} {os : List Ob}
    (hrun : funcX P G fuel depth f fn args rws = some (ls, os)) (e0 : Env) (w0 : World) {vs : Array Value} (hvs : (args.map (·.den e0)).toArray = vs) (hrw : ∀ r ∈ rws, r.ok e0 w0) (v : Value)
    (hob : Each (fun o => ∀ e, Env.agr G.n0 e0 e → Owed C I e o) os)
    (hl : Each (fun l : Lf => ∀ e u, Env.agr G.n0 e0 e → Each (Cd.holds C I e) l.cd → l.v.sat e u → u = v) ls) : Calls P f vs w0 (Ret v w0) := by
  subst hvs
  exact calls_of_tx hmix hS hf hrun e0 w0 hrw (fun o ho => Owed.ok (hob.all o ho)) _ fun l hm e u w' he hc hs hb _ => ⟨by rw [hl.all l hm e u he (Each.of hc) hs], hb⟩
/-- .. of a function that hands out a slice. -/
theorem own_of_tx {P : Program} {C : List (Kon P)} {I : List (Nat → Env → Prop)} (hmix : P.follows .mixedOrders = true) {G : Cfg} (hS : C.map (·.sg) = G.sg) {f : FuncId} {fn : Func} (hf : P.funcs[f]? = some fn) {fuel depth : Nat} {args : List PX} {rws : List Rw} {ls : List Lf} {os : List Ob}
    (hrun : funcX P G fuel depth f fn args rws = some (ls, os)) (e0 : Env) (w0 : World) {vs : Array Value} (hvs : (args.map (·.den e0)).toArray = vs) (hrw : ∀ r ∈ rws, r.ok e0 w0) (r : RZ) (post : Nm → Nm → Prop)
    (hob : Each (fun o => ∀ e, Env.agr G.n0 e0 e → Owed C I e o) os)
    (hl : Each (fun l : Lf => ∀ e u w', Env.agr G.n0 e0 e → Each (Cd.holds C I e) l.cd → l.v.sat e u → Each (Bk.ok e w0.heap.size w') l.hp → ∃ m m', u = r.val m m' ∧ post m m' ∧ r.mem w0.heap.size w' m m') ls) :
    Calls P f vs w0 fun en w' => ∃ m m', en = .returned (r.val m m') ∧ Below w0.heap.size w0 w' ∧ post m m' ∧ r.mem w0.heap.size w' m m' := by
  subst hvs
  exact calls_of_tx hmix hS hf hrun e0 w0 hrw (fun o ho => Owed.ok (hob.all o ho)) _ fun l hm e u w' he hc hs hb hk => by
    obtain ⟨m, m', h1, h2, h3⟩ := hl.all l hm e u w' he (Each.of hc) hs (Each.of hk)
    exact ⟨m, m', by rw [h1], hb, h2, h3⟩

/-! ### What the terms say of sets, instructions, states. -/
def setE (e : Env) (d j : Nat) : VSet := ⟨e.bool d j, e.bool d (j + 1), e.int d (j + 2), e.int d (j + 3), e.int d (j + 4)⟩
def insE (e : Env) (d : Nat) : Ins := ⟨e.int d 0, e.int d 1, e.int d 2, e.int d 3, e.int d 4, e.int d 5, e.int d 6, e.int d 7, e.int d 8⟩
/-- Elements of contents. -/
def insAt (int : Nat → Int) (k : Nat) : Ins := ⟨int (k * 9), int (k * 9 + 1), int (k * 9 + 2), int (k * 9 + 3), int (k * 9 + 4), int (k * 9 + 5), int (k * 9 + 6), int (k * 9 + 7), int (k * 9 + 8)⟩
def stAt (int : Nat → Int) (bool : Nat → Bool) (k r : Nat) : VSet := ⟨bool (k * 40 + 5 * r), bool (k * 40 + (5 * r + 1)), int (k * 40 + (5 * r + 2)), int (k * 40 + (5 * r + 3)), int (k * 40 + (5 * r + 4))⟩
section
variable (e : Env) (d c : Nat)
theorem setD_cells (j : Nat) : setD (PX.dat e c (.a (cellsX d j setK))) = setE e d j := rfl
theorem insD_cells : insD (PX.dat e c (.a (cellsX d 0 insK))) = insE e d := rfl
theorem insD_rx (x : SX) : insD (PX.dat e c (.a (rxL d 9 x 0 insK))) = insAt (e.int d) (x.den e).1.toNat := rfl
theorem stD_rx (x : SX) : ∀ r, r < 8 → stD (PX.dat e c (.a (rxL d 40 x 0 stK))) r = stAt (e.int d) (e.bool d) (x.den e).1.toNat r
  | 0, _ | 1, _ | 2, _ | 3, _ | 4, _ | 5, _ | 6, _ | 7, _ => rfl
theorem stD_cells : ∀ r, r < 8 → stD (PX.dat e c (.a (cellsX d 0 stK))) r = setE e d (5 * r)
  | 0, _ | 1, _ | 2, _ | 3, _ | 4, _ | 5, _ | 6, _ | 7, _ => rfl
theorem setD_list (x0 x1 x2 x3 x4 : SX) (k2 k3 k4 : IntKind) : setD (PX.dat e c (.a [.t x0, .t x1, .n k2 x2, .n k3 x3, .n k4 x4])) = ⟨(x0.den e).2, (x1.den e).2, (x2.den e).1, (x3.den e).1, (x4.den e).1⟩ := rfl
theorem numD_leaf (k : IntKind) (x : SX) : numD (PX.dat e c (.l (.n k x))) = (x.den e).1 := rfl
theorem truD_leaf (x : SX) : truD (PX.dat e c (.l (.t x))) = (x.den e).2 := rfl
theorem setE_of {s : VSet} (hi : e.int d = setInt s) (hb : e.bool d = setBool s) : setE e d 0 = s := by unfold setE; rw [hi, hb]; rfl
theorem insE_of {i : Ins} (hi : e.int d = insInt i) : insE e d = i := by unfold insE; rw [hi]; rfl
theorem setE_st {s : Nat → VSet} (hi : e.int d = stInt s) (hb : e.bool d = stBool s) (k : Nat) : setE e d (5 * k) = s k := by
  unfold setE
  rw [hi, hb]
  have h : ∀ c, c < 5 → (5 * k + c) / 5 = k ∧ (5 * k + c) % 5 = c := fun c hc => by omega
  have h0 := h 0 (by omega)
  simp only [Nat.add_zero] at h0
  simp only [stInt, stBool, h0, h 1 (by omega), h 2 (by omega), h 3 (by omega), h 4 (by omega), setInt, setBool]
theorem den_cells_set (j : Nat) : PX.den e (.a (cellsX d j setK)) = (setE e d j).val := rfl
theorem den_cells_st : PX.den e (.a (cellsX d 0 stK)) = stVal fun k => setE e d (5 * k) := rfl
theorem den_cells_ins : PX.den e (.a (cellsX d 0 insK)) = (insE e d).val := rfl
theorem den_rx_st (x : SX) : PX.den e (.a (rxL d 40 x 0 stK)) = stVal (stAt (e.int d) (e.bool d) (x.den e).1.toNat) := rfl
theorem den_rx_ins (x : SX) : PX.den e (.a (rxL d 9 x 0 insK)) = (insAt (e.int d) (x.den e).1.toNat).val := rfl
end
theorem sat_v {e : Env} {x : PX} {u : Value} (h : (VX.v x).sat e u) : u = x.den e := h
/-- Names of arguments. -/
def nmI (int : Nat → Int) : Nm := { Nm.zero with int := int }
def nmB (int : Nat → Int) (bool : Nat → Bool) : Nm := { Nm.zero with int := int, bool := bool }
def nmN (n : Int) : Nm := nmI fun _ => n
def nmT (b : Bool) : Nm := nmB (fun _ => 0) fun _ => b
def nmR (base : Option Addr) (cap : Nat) (int : Nat → Int) (bool : Nat → Bool) : Nm := { Nm.zero with base := base, cap := cap, int := int, bool := bool }
def envOf (l : List Nm) : Env := ⟨fun d => (l[d]?).getD Nm.zero⟩
def lenV : Value → Nat
  | .slice _ n _ => n
  | _ => 0
def baseV : Value → Option Addr
  | .slice b _ _ => b
  | _ => none
def capV : Value → Nat
  | .slice _ _ c => c
  | _ => 0
theorem fits_sl {w : World} {ks : List (Option IntKind)} {d : AD} (h : (SH.sl ks).fits w d) : d.val = .slice (baseV d.val) (lenV d.val) (capV d.val) ∧ RowAt w (baseV d.val) (lenV d.val) ks d.int d.bool := by
  obtain ⟨A, len, cap, hv, hr⟩ := h
  rw [hv]
  exact ⟨rfl, hr⟩
/-- A contract whose result is no slice, as a function of the arguments' data. -/
def Kon.fn {P : Program} (f : FuncId) (args : List SH) (res : RS) (np : Bool) (pre : List AD → Prop) (int : List AD → Nat → Int) (bool : List AD → Nat → Bool) (body : ∃ fn, P.funcs[f]? = some fn ∧ (fn.name == "runtime.NumGoroutine") = false ∧ fn.body.isNone = false)
    (free : np = true → ∀ ads, pre ads) (h : ∀ (ads : List AD) (w : World), Fits w args ads → pre ads → Calls P f (ads.map (·.val)).toArray w (Ret (res.val (int ads) (bool ads)) w)) : Kon P where
  sg := ⟨f, args, .b res, true, np⟩
  pre := pre
  post ads m _ := m.int = int ads ∧ m.bool = bool ads
  body := body
  free := free
  flat _ := ⟨_, rfl⟩
  total _ ads := ⟨nmB (int ads) (bool ads), Nm.zero, rfl, rfl⟩
  same _ ads i j i' j' h1 h2 := by simp only [RZ.val]; rw [h1.1, h1.2, h2.1, h2.2]
  sound ads w hf hp := (h ads w hf hp).mono fun e w' ⟨he, hb⟩ => ⟨nmB (int ads) (bool ads), Nm.zero, he, hb, ⟨rfl, rfl⟩, trivial⟩
theorem Kon.fn_post {P : Program} {f : FuncId} {args : List SH} {res : RS} {np : Bool} {pre : List AD → Prop} {int : List AD → Nat → Int} {bool : List AD → Nat → Bool} {body} {free} {h} (ads : List AD) (m m' : Nm) : (Kon.fn (P := P) f args res np pre int bool body free h).post ads m m' = (m.int = int ads ∧ m.bool = bool ads) := rfl
theorem Kon.fn_pre {P : Program} {f : FuncId} {args : List SH} {res : RS} {np : Bool} {pre : List AD → Prop} {int : List AD → Nat → Int} {bool : List AD → Nat → Bool} {body} {free} {h} (ads : List AD) : (Kon.fn (P := P) f args res np pre int bool body free h).pre ads = pre ads := rfl
theorem Con.kon_post {P : Program} (c : Con P) (ads : List AD) (m m' : Nm) : c.kon.post ads m m' = c.post ads m.int m.bool := rfl
theorem Con.kon_pre {P : Program} (c : Con P) (ads : List AD) : c.kon.pre ads = c.pre ads := rfl
theorem Con.konT_post {P : Program} (c : Con P) (h) (ads : List AD) (m m' : Nm) : (c.konT h).post ads m m' = c.post ads m.int m.bool := rfl
theorem sub_int {e : Env} {d : Nat} {xs : List LX} {ms : List (Option (Nat × Nat))} : (e.sub d xs ms).int d = fun j => match xs[j]? with | some (.n _ y) => (y.den e).1 | _ => 0 := by simp only [Env.int, sub_eq]; rfl
theorem cut_nm {e : Env} {d x : Nat} (h : x ≤ d) : (e.cut d).nm x = e.nm x := by simp [Env.cut, h]
end Go.Proofs.Ytjhdjclcfmcilaa.T2
