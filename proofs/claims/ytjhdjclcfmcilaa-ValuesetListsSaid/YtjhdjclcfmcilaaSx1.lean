/-
  A machine that runs loop-free Go code on terms: the terms, what they stand for, what a state of terms says of a frame and a world. No program.
-/
import Derived.Test.YtjhdjclcfmcilaaSet
import Derived.Deep.MidRow
import Derived.Orders
namespace Go.Proofs.Ytjhdjclcfmcilaa
open Go.ChangeShapes Go.WideShapes Go.ChangeAt Go.RowKit
set_option linter.unusedVariables false

/-- Terms: numbers and bools. v: a variable; r: cell j of element x of row d (sz cells an element). -/
inductive SX where
  | i (n : Int) | b (v : Bool) | v (d j : Nat) | r (d sz j : Nat) (x : SX)
  | o (p : BinOp) (k : IntKind) (x y : SX) | c (p : BinOp) (x y : SX) | no (x : SX) | eq (x y : SX) | an (x y : SX)
  | it (c x y : SX) | cv (k : IntKind) (x : SX) | mx (x y : SX) | mn (x y : SX)
  deriving DecidableEq, Repr
structure Env where
  int : Nat → Nat → Int
  bool : Nat → Nat → Bool
  adr : Nat → Nat
  base : Nat → Option Addr
def arI (p : BinOp) (k : IntKind) (x y : Int) : Int :=
  match p with
  | .add => k.wrap (x + y)
  | .sub => k.wrap (x - y)
  | .mul => k.wrap (x * y)
  | .quo => k.wrap (x.tdiv y)
  | .rem => x.tmod y
  | .shl => k.wrap (x * 2 ^ (min y.toNat k.bits))
  | .shr => x.fdiv (2 ^ (min y.toNat k.bits))
  | p => bits p k x y
def cmI (p : BinOp) (x y : Int) : Bool :=
  match p with
  | .eql => x == y
  | .neq => x != y
  | .lss => decide (x < y)
  | .leq => decide (x ≤ y)
  | .gtr => decide (y < x)
  | .geq => decide (y ≤ x)
  | _ => false
def SX.den (e : Env) : SX → Int × Bool
  | .i n => (n, false)
  | .b u => (0, u)
  | .v d j => (e.int d j, e.bool d j)
  | .r d sz j x => (e.int d ((x.den e).1.toNat * sz + j), e.bool d ((x.den e).1.toNat * sz + j))
  | .o p k x y => (arI p k (x.den e).1 (y.den e).1, false)
  | .c p x y => (0, cmI p (x.den e).1 (y.den e).1)
  | .no x => (0, !(x.den e).2)
  | .eq x y => (0, (x.den e).2 == (y.den e).2)
  | .an x y => (0, (x.den e).2 && (y.den e).2)
  | .it g x y => if (g.den e).2 then x.den e else y.den e
  | .cv k x => (k.wrap (x.den e).1, false)
  | .mx x y => (if (y.den e).1 > (x.den e).1 then (y.den e).1 else (x.den e).1, false)
  | .mn x y => (if (y.den e).1 < (x.den e).1 then (y.den e).1 else (x.den e).1, false)
abbrev SX.int (x : SX) (e : Env) : Int := (x.den e).1
abbrev SX.bool (x : SX) (e : Env) : Bool := (x.den e).2

/-- Values of one cell. p: a pointer into the own block d; pi: at a computed element of an array there; q: into a row; sl: a slice; np, ns: nil. -/
inductive LX where
  | n (k : IntKind) (x : SX) | t (x : SX) | p (d o : Nat) | pi (d o n sz : Nat) (x : SX) (o2 : Nat) | q (d sz : Nat) (x : SX) (o : Nat)
  | sl (d : Nat) (len cap : SX) | np | ns
  deriving DecidableEq, Repr
def LX.den (e : Env) : LX → Value
  | .n k x => .int k (x.den e).1
  | .t x => .bool (x.den e).2
  | .p d o => .pointer (some ⟨e.adr d, o, none⟩)
  | .pi d o _ sz x o2 => .pointer (some ⟨e.adr d, o + (x.den e).1.toNat * sz + o2, none⟩)
  | .q d sz x o => .pointer (some (((e.base d).getD default).add ((x.den e).1.toNat * sz + o)))
  | .sl d len cap => .slice (e.base d) (len.den e).1.toNat (cap.den e).1.toNat
  | .np => .pointer none
  | .ns => .slice none 0 0
inductive PX where
  | l (x : LX) | a (xs : List LX)
  deriving DecidableEq, Repr
def PX.den (e : Env) : PX → Value
  | .l x => x.den e
  | .a xs => .agg (xs.map (·.den e)).toArray
/-- What a temporary holds: un: nothing; any: it is not known what; gd: x if c, else nothing. -/
inductive VX where
  | v (x : PX) | tp (xs : List PX) | un | any | gd (c : SX) (x : PX)
  deriving DecidableEq, Repr
def VX.sat (e : Env) : VX → Value → Prop
  | .v x, u => u = x.den e
  | .tp xs, u => u = .tuple (xs.map (·.den e)).toArray
  | .un, u => u = undef
  | .any, _ => True
  | .gd c x, u => ((c.den e).2 = true → u = x.den e) ∧ ((c.den e).2 = false → u = undef)

/-- A block of the call's own. -/
structure Bk where
  id : Nat
  ty : Nat
  cs : List LX
  deriving DecidableEq, Repr
/-- A row that is only read: the elements of a slice. none: a bool. -/
structure Rw where
  id : Nat
  ks : List (Option IntKind)
  len : SX
  deriving DecidableEq, Repr
/-- What is known on this way: a test; what a call returned; an invariant. -/
inductive Cd where
  | c (x : SX) (v : Bool) | f (d k : Nat) (args : List PX) | g (d k : Nat)
  deriving DecidableEq, Repr
structure St where
  tm : List VX
  hp : List Bk
  rw : List Rw
  cd : List Cd
  nx : Nat
  deriving DecidableEq, Repr

/-- Two environments that agree at the names that meet ok. -/
def Env.off (ok : Nat → Bool) (e e' : Env) : Prop := ∀ x, ok x = true → e.int x = e'.int x ∧ e.bool x = e'.bool x ∧ e.adr x = e'.adr x ∧ e.base x = e'.base x
def SX.fr (ok : Nat → Bool) : SX → Bool
  | .i _ | .b _ => true
  | .v x _ => ok x
  | .r x _ _ y => ok x && y.fr ok
  | .o _ _ x y | .c _ x y | .eq x y | .an x y | .mx x y | .mn x y => x.fr ok && y.fr ok
  | .no x | .cv _ x => x.fr ok
  | .it g x y => g.fr ok && x.fr ok && y.fr ok
def LX.fr (ok : Nat → Bool) : LX → Bool
  | .n _ x | .t x => x.fr ok
  | .p x _ => ok x
  | .pi y _ _ _ x _ | .q y _ x _ => ok y && x.fr ok
  | .sl y m u => ok y && m.fr ok && u.fr ok
  | .np | .ns => true
def PX.fr (ok : Nat → Bool) : PX → Bool
  | .l x => x.fr ok
  | .a xs => xs.all (·.fr ok)
def VX.fr (ok : Nat → Bool) : VX → Bool
  | .v x => x.fr ok
  | .tp xs => xs.all (·.fr ok)
  | .un | .any => true
  | .gd c x => c.fr ok && x.fr ok
def Bk.fr (ok : Nat → Bool) (b : Bk) : Bool := ok b.id && b.cs.all (·.fr ok)
def Rw.fr (ok : Nat → Bool) (r : Rw) : Bool := ok r.id && r.len.fr ok
def Cd.fr (ok : Nat → Bool) : Cd → Bool
  | .c x _ => x.fr ok
  | .f x _ args => ok x && args.all (·.fr ok)
  | .g x _ => (List.range (x + 1)).all ok
def St.fr (ok : Nat → Bool) (s : St) : Bool := s.tm.all (·.fr ok) && s.hp.all (·.fr ok) && s.rw.all (·.fr ok) && s.cd.all (·.fr ok)

section
variable {ok : Nat → Bool} {e e' : Env} (h : Env.off ok e e')
include h
theorem SX.den_off : ∀ (x : SX), x.fr ok = true → x.den e = x.den e'
  | .i _, _ => rfl
  | .b _, _ => rfl
  | .v x j, hf => by simp only [SX.fr] at hf; simp only [SX.den, (h x hf).1, (h x hf).2.1]
  | .r x sz j y, hf => by
    simp only [SX.fr, Bool.and_eq_true] at hf
    simp only [SX.den, (h x hf.1).1, (h x hf.1).2.1, SX.den_off y hf.2]
  | .o _ _ x y, hf => by simp only [SX.fr, Bool.and_eq_true] at hf; simp only [SX.den, SX.den_off x hf.1, SX.den_off y hf.2]
  | .c _ x y, hf => by simp only [SX.fr, Bool.and_eq_true] at hf; simp only [SX.den, SX.den_off x hf.1, SX.den_off y hf.2]
  | .eq x y, hf => by simp only [SX.fr, Bool.and_eq_true] at hf; simp only [SX.den, SX.den_off x hf.1, SX.den_off y hf.2]
  | .an x y, hf => by simp only [SX.fr, Bool.and_eq_true] at hf; simp only [SX.den, SX.den_off x hf.1, SX.den_off y hf.2]
  | .mx x y, hf => by simp only [SX.fr, Bool.and_eq_true] at hf; simp only [SX.den, SX.den_off x hf.1, SX.den_off y hf.2]
  | .mn x y, hf => by simp only [SX.fr, Bool.and_eq_true] at hf; simp only [SX.den, SX.den_off x hf.1, SX.den_off y hf.2]
  | .no x, hf => by simp only [SX.fr] at hf; simp only [SX.den, SX.den_off x hf]
  | .cv _ x, hf => by simp only [SX.fr] at hf; simp only [SX.den, SX.den_off x hf]
  | .it g x y, hf => by
    simp only [SX.fr, Bool.and_eq_true] at hf
    simp only [SX.den, SX.den_off g hf.1.1, SX.den_off x hf.1.2, SX.den_off y hf.2]
theorem LX.den_off (x : LX) (hf : x.fr ok = true) : x.den e = x.den e' := by
  cases x with
  | n k x => simp only [LX.den]; rw [SX.den_off h _ hf]
  | t x => simp only [LX.den]; rw [SX.den_off h _ hf]
  | p y o => simp only [LX.fr] at hf; simp only [LX.den]; rw [(h _ hf).2.2.1]
  | pi y o m sz x o2 => simp only [LX.fr, Bool.and_eq_true] at hf; simp only [LX.den]; rw [(h _ hf.1).2.2.1, SX.den_off h _ hf.2]
  | q y sz x o => simp only [LX.fr, Bool.and_eq_true] at hf; simp only [LX.den]; rw [(h _ hf.1).2.2.2, SX.den_off h _ hf.2]
  | sl y m u => simp only [LX.fr, Bool.and_eq_true] at hf; simp only [LX.den]; rw [(h _ hf.1.1).2.2.2, SX.den_off h _ hf.1.2, SX.den_off h _ hf.2]
  | np => rfl
  | ns => rfl
theorem map_den_off (xs : List LX) (hf : xs.all (·.fr ok) = true) : xs.map (·.den e) = xs.map (·.den e') :=
  List.map_congr_left fun x hx => LX.den_off h x (List.all_eq_true.1 hf x hx)
theorem PX.den_off (x : PX) (hf : x.fr ok = true) : x.den e = x.den e' := by
  cases x with
  | l x => exact LX.den_off h x hf
  | a xs => simp only [PX.den, map_den_off h xs hf]
theorem map_pden_off (xs : List PX) (hf : xs.all (·.fr ok) = true) : xs.map (·.den e) = xs.map (·.den e') :=
  List.map_congr_left fun x hx => PX.den_off h x (List.all_eq_true.1 hf x hx)
theorem VX.sat_off (x : VX) (hf : x.fr ok = true) (u : Value) (hs : x.sat e u) : x.sat e' u := by
  cases x with
  | v x => simp only [VX.sat] at hs ⊢; rw [hs, PX.den_off h x hf]
  | tp xs => simp only [VX.sat] at hs ⊢; rw [hs, map_pden_off h xs hf]
  | un => exact hs
  | any => trivial
  | gd c x =>
    simp only [VX.fr, Bool.and_eq_true] at hf
    simp only [VX.sat] at hs ⊢
    rw [← SX.den_off h c hf.1, ← PX.den_off h x hf.2]; exact hs
end

/-- The data of an argument: its value; of a slice also what its row holds. -/
structure AD where
  val : Value
  int : Nat → Int
  bool : Nat → Bool
def PX.dat (e : Env) : PX → AD
  | .l (.sl d len cap) => ⟨(LX.sl d len cap).den e, e.int d, e.bool d⟩
  | x => ⟨x.den e, fun _ => 0, fun _ => false⟩
theorem PX.dat_val (e : Env) (x : PX) : (x.dat e).val = x.den e := by
  cases x with
  | l x => cases x <;> rfl
  | a xs => rfl
theorem PX.dat_off {ok : Nat → Bool} {e e' : Env} (h : Env.off ok e e') (x : PX) (hf : x.fr ok = true) : x.dat e = x.dat e' := by
  have hd := PX.den_off h x hf
  cases x with
  | a xs => simp only [PX.dat, hd]
  | l x =>
    cases x <;> first | (simp only [PX.dat, hd]; done) | skip
    simp only [PX.fr, LX.fr, Bool.and_eq_true] at hf
    simp only [PX.den] at hd
    simp only [PX.dat, hd, (h _ hf.1.1).1, (h _ hf.1.1).2.1]
def leafD (k : Option IntKind) (n : Int) (b : Bool) : Value :=
  match k with
  | none => .bool b
  | some k => .int k n
/-- The elements of a row lie there. -/
def RowAt (w : World) (A : Option Addr) (len : Nat) (ks : List (Option IntKind)) (int : Nat → Int) (bool : Nat → Bool) : Prop :=
  ∀ i, i < len → ∃ a, A = some a ∧ a.block < w.heap.size ∧ ∀ (j : Nat) (k : Option IntKind), ks[j]? = some k → w.cell? (a.add (i * ks.length + j)) = some (leafD k (int (i * ks.length + j)) (bool (i * ks.length + j)))
theorem RowAt.keep {w w' : World} {A : Option Addr} {len : Nat} {ks : List (Option IntKind)} {int : Nat → Int} {bool : Nat → Bool} (h : RowAt w A len ks int bool)
    (hs : w.heap.size ≤ w'.heap.size) (hk : ∀ p : Addr, (∃ a, A = some a ∧ p.block = a.block) → p.block < w.heap.size → w'.cell? p = w.cell? p) : RowAt w' A len ks int bool := fun i hi => by
  obtain ⟨a, e, hb, hc⟩ := h i hi
  refine ⟨a, e, Nat.lt_of_lt_of_le hb hs, fun j k hj => ?_⟩
  have bl : ∀ n, (a.add n).block = a.block := fun n => by unfold Addr.add; split <;> rfl
  rw [hk _ ⟨a, e, bl _⟩ (by rw [bl]; exact hb)]
  exact hc j k hj
theorem RowAt.below {w w' : World} {A : Option Addr} {len : Nat} {ks : List (Option IntKind)} {int : Nat → Int} {bool : Nat → Bool} (h : RowAt w A len ks int bool) (hb : Below w.heap.size w w') : RowAt w' A len ks int bool :=
  h.keep hb.size fun p _ hp => hb.cell hp
def Rw.ok (e : Env) (w : World) (r : Rw) : Prop := RowAt w (e.base r.id) (r.len.den e).1.toNat r.ks (e.int r.id) (e.bool r.id)

/-- The shapes of arguments and results. -/
inductive SH where
  | l (k : Option IntKind) | a (ks : List (Option IntKind)) | sl (ks : List (Option IntKind))
  deriving DecidableEq, Repr
def SH.fits (w : World) (s : SH) (d : AD) : Prop :=
  match s with
  | .l none => ∃ b, d.val = .bool b
  | .l (some k) => ∃ n, d.val = .int k n
  | .a ks => ∃ cs : List Value, d.val = .agg cs.toArray ∧ cs.length = ks.length ∧ ∀ (j : Nat) (k : Option IntKind), ks[j]? = some k → ∃ n b, cs[j]? = some (leafD k n b)
  | .sl ks => ∃ A len cap, d.val = .slice A len cap ∧ RowAt w A len ks d.int d.bool
def Fits (w : World) : List SH → List AD → Prop
  | [], [] => True
  | s :: ss, d :: ds => s.fits w d ∧ Fits w ss ds
  | _, _ => False
/-- Results. -/
inductive RS where
  | no | l (k : Option IntKind) | a (ks : List (Option IntKind)) | tp (cs : List (Option IntKind ⊕ List (Option IntKind)))
  deriving DecidableEq, Repr
def cellsD (int : Nat → Int) (bool : Nat → Bool) : Nat → List (Option IntKind) → List Value
  | _, [] => []
  | j, k :: ks => leafD k (int j) (bool j) :: cellsD int bool (j + 1) ks
def partsD (int : Nat → Int) (bool : Nat → Bool) : Nat → List (Option IntKind ⊕ List (Option IntKind)) → List Value
  | _, [] => []
  | j, .inl k :: cs => leafD k (int j) (bool j) :: partsD int bool (j + 1) cs
  | j, .inr ks :: cs => .agg (cellsD int bool j ks).toArray :: partsD int bool (j + ks.length) cs
def RS.val (int : Nat → Int) (bool : Nat → Bool) : RS → Value
  | .no => .tuple #[]
  | .l k => leafD k (int 0) (bool 0)
  | .a ks => .agg (cellsD int bool 0 ks).toArray
  | .tp cs => .tuple (partsD int bool 0 cs).toArray
/-- The signature of a function that is met by its contract. -/
structure Sg where
  f : FuncId
  args : List SH
  res : RS
  /-- Like arguments have like results. -/
  det : Bool := false
  deriving DecidableEq, Repr
/-- The contract: for arguments of these shapes that meet pre the call returns what meets post; of what was there nothing changes. -/
structure Con (P : Program) where
  sg : Sg
  pre : List AD → Prop
  post : List AD → (Nat → Int) → (Nat → Bool) → Prop
  body : ∃ fn, P.funcs[sg.f]? = some fn ∧ (fn.name == "runtime.NumGoroutine") = false ∧ fn.body.isNone = false
  total : sg.det = true → ∀ ads, ∃ i b, post ads i b
  same : sg.det = true → ∀ ads i b i' b', post ads i b → post ads i' b' → sg.res.val i b = sg.res.val i' b'
  sound : ∀ (ads : List AD) (w : World), Fits w sg.args ads → pre ads →
    Calls P sg.f (ads.map (·.val)).toArray w fun en w' => ∃ int bool, en = .returned (sg.res.val int bool) ∧ Below w.heap.size w w' ∧ post ads int bool
end Go.Proofs.Ytjhdjclcfmcilaa
