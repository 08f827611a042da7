/-
  The second machine on terms: it also runs code that makes, writes and appends to slices, maps, slices of slices, and calls in place. The terms and what they stand for. No program.
-/
import Derived.Test.YtjhdjclcfmcilaaSx10
namespace Go.Proofs.Ytjhdjclcfmcilaa.T2
open Go.ChangeShapes Go.WideShapes Go.ChangeAt Go.RowKit
set_option linter.unusedVariables false

/-- Terms: numbers and bools. v: a variable; r: cell j of element x of content d (sz cells an element); r2: of the inner row y of content d. -/
inductive SX where
  | i (n : Int) | b (v : Bool) | v (d j : Nat) | r (d sz j : Nat) (x : SX) | r2 (d : Nat) (y : SX) (sz j : Nat) (x : SX)
  | o (p : BinOp) (k : IntKind) (x y : SX) | c (p : BinOp) (x y : SX) | no (x : SX) | eq (x y : SX) | an (x y : SX)
  | it (c x y : SX) | cv (k : IntKind) (x : SX) | mx (x y : SX) | mn (x y : SX)
  deriving DecidableEq, Repr
/-- What a name stands for. -/
structure Nm where
  int : Nat → Int
  bool : Nat → Bool
  adr : Nat
  base : Option Addr
  cap : Nat
  nb : Nat → Option Addr
  nc : Nat → Nat
  i2 : Nat → Nat → Int
  b2 : Nat → Nat → Bool
def Nm.zero : Nm := ⟨fun _ => 0, fun _ => false, 0, none, 0, fun _ => none, fun _ => 0, fun _ _ => 0, fun _ _ => false⟩
structure Env where
  nm : Nat → Nm
abbrev Env.int (e : Env) (d : Nat) : Nat → Int := (e.nm d).int
abbrev Env.bool (e : Env) (d : Nat) : Nat → Bool := (e.nm d).bool
abbrev Env.adr (e : Env) (d : Nat) : Nat := (e.nm d).adr
abbrev Env.base (e : Env) (d : Nat) : Option Addr := (e.nm d).base
abbrev Env.cap (e : Env) (d : Nat) : Nat := (e.nm d).cap
def SX.den (e : Env) : SX → Int × Bool
  | .i n => (n, false)
  | .b u => (0, u)
  | .v d j => (e.int d j, e.bool d j)
  | .r d sz j x => (e.int d ((x.den e).1.toNat * sz + j), e.bool d ((x.den e).1.toNat * sz + j))
  | .r2 d y sz j x => ((e.nm d).i2 (y.den e).1.toNat ((x.den e).1.toNat * sz + j), (e.nm d).b2 (y.den e).1.toNat ((x.den e).1.toNat * sz + j))
  | .o p k x y => (arI p k (x.den e).1 (y.den e).1, false)
  | .c p x y => (0, cmI p (x.den e).1 (y.den e).1)
  | .no x => (0, !(x.den e).2)
  | .eq x y => (0, (x.den e).2 == (y.den e).2)
  | .an x y => (0, (x.den e).2 && (y.den e).2)
  | .it g x y => if (g.den e).2 then x.den e else y.den e
  | .cv k x => (k.wrap (x.den e).1, false)
  | .mx x y => (if (y.den e).1 > (x.den e).1 then (y.den e).1 else (x.den e).1, false)
  | .mn x y => (if (y.den e).1 < (x.den e).1 then (y.den e).1 else (x.den e).1, false)
abbrev SX.int (x : SX) (e : Env) : Int := (x.den e).1
abbrev SX.bool (x : SX) (e : Env) : Bool := (x.den e).2

/-- Values of one cell. p: a pointer into the own block d; pi: at a computed element of an array there; q: into row d; qn: into the inner row y of content d; sl: a slice of row d; sb: of the own block d; sn: the inner slice x of content d; mp: a map; fn: a closure over own variables; np, ns: nil. -/
inductive LX where
  | n (k : IntKind) (x : SX) | t (x : SX) | p (d o : Nat) | pi (d o n sz : Nat) (x : SX) (o2 : Nat) | q (d sz : Nat) (x : SX) (o : Nat)
  | qn (d : Nat) (y : SX) (sz : Nat) (x : SX) (o : Nat) | sl (d : Nat) (len : SX) | sb (d n : Nat) | sn (d : Nat) (x : SX) | mp (d : Nat) | fn (f : Nat) (caps : List (Nat × Nat))
  | np | ns | nm
  deriving DecidableEq, Repr
def LX.den (e : Env) : LX → Value
  | .n k x => .int k (x.den e).1
  | .t x => .bool (x.den e).2
  | .p d o => .pointer (some ⟨e.adr d, o, none⟩)
  | .pi d o _ sz x o2 => .pointer (some ⟨e.adr d, o + (x.den e).1.toNat * sz + o2, none⟩)
  | .q d sz x o => .pointer (some (((e.base d).getD default).add ((x.den e).1.toNat * sz + o)))
  | .qn d y sz x o => .pointer (some ((((e.nm d).nb (y.den e).1.toNat).getD default).add ((x.den e).1.toNat * sz + o)))
  | .sl d len => .slice (e.base d) (len.den e).1.toNat (e.cap d)
  | .sb d m => .slice (some ⟨e.adr d, 0, none⟩) m m
  | .sn d x => .slice ((e.nm d).nb (x.den e).1.toNat) (e.int d (x.den e).1.toNat).toNat ((e.nm d).nc (x.den e).1.toNat)
  | .mp d => .map (some (e.adr d))
  | .fn f caps => .func (.func f) #[] (caps.map fun p => Value.pointer (some ⟨e.adr p.1, p.2, none⟩)).toArray
  | .np => .pointer none
  | .ns => .slice none 0 0
  | .nm => .map none
inductive PX where
  | l (x : LX) | a (xs : List LX)
  deriving DecidableEq, Repr
def PX.den (e : Env) : PX → Value
  | .l x => x.den e
  | .a xs => .agg (xs.map (·.den e)).toArray
/-- What a temporary holds: un: nothing; any: it is not known what; gd: x if c, else nothing. -/
inductive VX where
  | v (x : PX) | tp (xs : List PX) | un | any | gd (c : SX) (x : PX)
  deriving DecidableEq, Repr
def VX.sat (e : Env) : VX → Value → Prop
  | .v x, u => u = x.den e
  | .tp xs, u => u = .tuple (xs.map (·.den e)).toArray
  | .un, u => u = undef
  | .any, _ => True
  | .gd c x, u => ((c.den e).2 = true → u = x.den e) ∧ ((c.den e).2 = false → u = undef)

/-- What lies in an own block. row: a slice's elements (len of them are known); nr: a slice of slices; hole: of that one nothing is said. -/
inductive Bd where
  | cells (ty : Nat) (cs : List LX) | row (ks : List (Option IntKind)) (len : SX) (ct : Nat) | map (kk kv : IntKind) (ct : Nat) | nr (ks : List (Option IntKind)) (len : SX) (ct : Nat) (hole : Option SX)
  deriving DecidableEq, Repr
structure Bk where
  id : Nat
  bd : Bd
  deriving DecidableEq, Repr
/-- A row that is only read: the elements of an argument. -/
structure Rw where
  id : Nat
  ks : List (Option IntKind)
  len : SX
  deriving DecidableEq, Repr
/-- What is known on this way: a test; what a call returned; an invariant; contents: zero; another one's with cells cs at element x; of a map with v at x; an inner row's with cells; of slices with row r (its content rc, its length n) at x. -/
inductive Cd where
  | c (x : SX) (v : Bool) | f (d k : Nat) (args : List (PX × Nat)) | g (d m k : Nat)
  | z (d : Nat) | u (d : Nat) (src : Option Nat) (x : SX) (sz o : Nat) (cs : List LX) | w (d c : Nat) (x : SX) (v : LX) | a (d c : Nat) (y : SX) (sz : Nat) (cs : List LX) | nu (d c : Nat) (x : SX) (r rc : Nat) (n : SX)
  deriving DecidableEq, Repr
structure St where
  tm : List VX
  up : List (List VX)
  hp : List Bk
  rw : List Rw
  cd : List Cd
  nx : Nat
  deriving DecidableEq, Repr

/-- Two environments that agree at the names that meet ok. -/
def Env.off (ok : Nat → Bool) (e e' : Env) : Prop := ∀ x, ok x = true → e.nm x = e'.nm x
def SX.fr (ok : Nat → Bool) : SX → Bool
  | .i _ | .b _ => true
  | .v x _ => ok x
  | .r x _ _ y => ok x && y.fr ok
  | .r2 x y _ _ z => ok x && y.fr ok && z.fr ok
  | .o _ _ x y | .c _ x y | .eq x y | .an x y | .mx x y | .mn x y => x.fr ok && y.fr ok
  | .no x | .cv _ x => x.fr ok
  | .it g x y => g.fr ok && x.fr ok && y.fr ok
def LX.fr (ok : Nat → Bool) : LX → Bool
  | .n _ x | .t x => x.fr ok
  | .p x _ | .sb x _ | .mp x => ok x
  | .pi y _ _ _ x _ | .q y _ x _ | .sl y x | .sn y x => ok y && x.fr ok
  | .qn y x _ z _ => ok y && x.fr ok && z.fr ok
  | .fn _ caps => caps.all fun p => ok p.1
  | .np | .ns | .nm => true
def PX.fr (ok : Nat → Bool) : PX → Bool
  | .l x => x.fr ok
  | .a xs => xs.all (·.fr ok)
def VX.fr (ok : Nat → Bool) : VX → Bool
  | .v x => x.fr ok
  | .tp xs => xs.all (·.fr ok)
  | .un | .any => true
  | .gd c x => c.fr ok && x.fr ok
def Bd.fr (ok : Nat → Bool) : Bd → Bool
  | .cells _ cs => cs.all (·.fr ok)
  | .row _ len ct => len.fr ok && ok ct
  | .map _ _ ct => ok ct
  | .nr _ len ct hole => len.fr ok && ok ct && (match hole with | some x => x.fr ok | none => true)
def Bk.fr (ok : Nat → Bool) (b : Bk) : Bool := ok b.id && b.bd.fr ok
def Rw.fr (ok : Nat → Bool) (r : Rw) : Bool := ok r.id && r.len.fr ok
def Cd.fr (ok : Nat → Bool) : Cd → Bool
  | .c x _ => x.fr ok
  | .f x _ args => ok x && ok (x + 1) && args.all fun p => p.1.fr ok && ok p.2
  | .g x m _ => (List.range (x + m + 1)).all ok
  | .z d => ok d
  | .u d src x _ _ cs => ok d && (match src with | some y => ok y | none => true) && x.fr ok && cs.all (·.fr ok)
  | .w d d' x v => ok d && ok d' && x.fr ok && v.fr ok
  | .a d d' y _ cs => ok d && ok d' && y.fr ok && cs.all (·.fr ok)
  | .nu d d' x r rc k => ok d && ok d' && x.fr ok && ok r && ok rc && k.fr ok
def St.fr (ok : Nat → Bool) (s : St) : Bool := s.tm.all (·.fr ok) && s.up.all (·.all (·.fr ok)) && s.hp.all (·.fr ok) && s.rw.all (·.fr ok) && s.cd.all (·.fr ok)

section
variable {ok : Nat → Bool} {e e' : Env} (h : Env.off ok e e')
include h
theorem SX.den_off : ∀ (x : SX), x.fr ok = true → x.den e = x.den e'
  | .i _, _ => rfl
  | .b _, _ => rfl
  | .v x j, hf => by simp only [SX.fr] at hf; simp only [SX.den, Env.int, Env.bool, h x hf]
  | .r x sz j y, hf => by
    simp only [SX.fr, Bool.and_eq_true] at hf
    simp only [SX.den, Env.int, Env.bool, h x hf.1, SX.den_off y hf.2]
  | .r2 x y sz j z, hf => by
    simp only [SX.fr, Bool.and_eq_true] at hf
    simp only [SX.den, h x hf.1.1, SX.den_off y hf.1.2, SX.den_off z hf.2]
  | .o _ _ x y, hf => by simp only [SX.fr, Bool.and_eq_true] at hf; simp only [SX.den, SX.den_off x hf.1, SX.den_off y hf.2]
  | .c _ x y, hf => by simp only [SX.fr, Bool.and_eq_true] at hf; simp only [SX.den, SX.den_off x hf.1, SX.den_off y hf.2]
  | .eq x y, hf => by simp only [SX.fr, Bool.and_eq_true] at hf; simp only [SX.den, SX.den_off x hf.1, SX.den_off y hf.2]
  | .an x y, hf => by simp only [SX.fr, Bool.and_eq_true] at hf; simp only [SX.den, SX.den_off x hf.1, SX.den_off y hf.2]
  | .mx x y, hf => by simp only [SX.fr, Bool.and_eq_true] at hf; simp only [SX.den, SX.den_off x hf.1, SX.den_off y hf.2]
  | .mn x y, hf => by simp only [SX.fr, Bool.and_eq_true] at hf; simp only [SX.den, SX.den_off x hf.1, SX.den_off y hf.2]
  | .no x, hf => by simp only [SX.fr] at hf; simp only [SX.den, SX.den_off x hf]
  | .cv _ x, hf => by simp only [SX.fr] at hf; simp only [SX.den, SX.den_off x hf]
  | .it g x y, hf => by
    simp only [SX.fr, Bool.and_eq_true] at hf
    simp only [SX.den, SX.den_off g hf.1.1, SX.den_off x hf.1.2, SX.den_off y hf.2]
theorem LX.den_off (x : LX) (hf : x.fr ok = true) : x.den e = x.den e' := by
  cases x with
  | n k x => simp only [LX.den]; rw [SX.den_off h _ hf]
  | t x => simp only [LX.den]; rw [SX.den_off h _ hf]
  | p y o => simp only [LX.fr] at hf; simp only [LX.den, Env.adr, h _ hf]
  | sb y o => simp only [LX.fr] at hf; simp only [LX.den, Env.adr, h _ hf]
  | mp y => simp only [LX.fr] at hf; simp only [LX.den, Env.adr, h _ hf]
  | pi y o m sz x o2 => simp only [LX.fr, Bool.and_eq_true] at hf; simp only [LX.den, Env.adr]; rw [h _ hf.1, SX.den_off h _ hf.2]
  | q y sz x o => simp only [LX.fr, Bool.and_eq_true] at hf; simp only [LX.den, Env.base]; rw [h _ hf.1, SX.den_off h _ hf.2]
  | qn y x sz z o => simp only [LX.fr, Bool.and_eq_true] at hf; simp only [LX.den]; rw [h _ hf.1.1, SX.den_off h _ hf.1.2, SX.den_off h _ hf.2]
  | sl y m => simp only [LX.fr, Bool.and_eq_true] at hf; simp only [LX.den, Env.base, Env.cap]; rw [h _ hf.1, SX.den_off h _ hf.2]
  | sn y m => simp only [LX.fr, Bool.and_eq_true] at hf; simp only [LX.den, Env.int]; rw [h _ hf.1, SX.den_off h _ hf.2]
  | fn f caps =>
    simp only [LX.fr] at hf
    simp only [LX.den]
    congr 2
    refine List.map_congr_left fun p hp => ?_
    simp only [Env.adr, h _ (List.all_eq_true.1 hf p hp)]
  | np => rfl
  | ns => rfl
  | nm => rfl
theorem map_den_off (xs : List LX) (hf : xs.all (·.fr ok) = true) : xs.map (·.den e) = xs.map (·.den e') :=
  List.map_congr_left fun x hx => LX.den_off h x (List.all_eq_true.1 hf x hx)
theorem PX.den_off (x : PX) (hf : x.fr ok = true) : x.den e = x.den e' := by
  cases x with
  | l x => exact LX.den_off h x hf
  | a xs => simp only [PX.den, map_den_off h xs hf]
theorem map_pden_off (xs : List PX) (hf : xs.all (·.fr ok) = true) : xs.map (·.den e) = xs.map (·.den e') :=
  List.map_congr_left fun x hx => PX.den_off h x (List.all_eq_true.1 hf x hx)
theorem VX.sat_off (x : VX) (hf : x.fr ok = true) (u : Value) (hs : x.sat e u) : x.sat e' u := by
  cases x with
  | v x => simp only [VX.sat] at hs ⊢; rw [hs, PX.den_off h x hf]
  | tp xs => simp only [VX.sat] at hs ⊢; rw [hs, map_pden_off h xs hf]
  | un => exact hs
  | any => trivial
  | gd c x =>
    simp only [VX.fr, Bool.and_eq_true] at hf
    simp only [VX.sat] at hs ⊢
    rw [← SX.den_off h c hf.1, ← PX.den_off h x hf.2]; exact hs
end

/-- The data of an argument: its value; of a slice also what its row holds (c: its content). -/
def PX.dat (e : Env) (c : Nat) : PX → AD
  | .l (.sl d len) => ⟨(LX.sl d len).den e, e.int c, e.bool c⟩
  | x => ⟨x.den e, fun _ => 0, fun _ => false⟩
theorem PX.dat_val (e : Env) (c : Nat) (x : PX) : (x.dat e c).val = x.den e := by
  cases x with
  | l x => cases x <;> rfl
  | a xs => rfl
theorem PX.dat_off {ok : Nat → Bool} {e e' : Env} (h : Env.off ok e e') (x : PX) (c : Nat) (hf : x.fr ok = true) (hc : ok c = true) : x.dat e c = x.dat e' c := by
  have hd := PX.den_off h x hf
  cases x with
  | a xs => simp only [PX.dat, hd]
  | l x =>
    cases x <;> first | (simp only [PX.dat, hd]; done) | skip
    simp only [PX.den] at hd
    simp only [PX.dat, hd, Env.int, Env.bool, h _ hc]
abbrev datP (e : Env) (p : PX × Nat) : AD := p.1.dat e p.2
/-- The first elements of an own slice. -/
def Own (B : Nat) (w : World) (base : Option Addr) (len cap : Nat) (ks : List (Option IntKind)) (int : Nat → Int) (bool : Nat → Bool) : Prop :=
  len ≤ cap ∧ ((base = none ∧ cap = 0) ∨ ∃ g t cs, base = some ⟨g, 0, none⟩ ∧ B ≤ g ∧ Blk w g t cs ∧ cs.size = cap * ks.length ∧
    ∀ i, i < len → ∀ (j : Nat) (k : Option IntKind), ks[j]? = some k → cs[i * ks.length + j]? = some (leafD k (int (i * ks.length + j)) (bool (i * ks.length + j))))
theorem Own.keep {B : Nat} {w w' : World} {base : Option Addr} {len cap : Nat} {ks : List (Option IntKind)} {int : Nat → Int} {bool : Nat → Bool} (h : Own B w base len cap ks int bool)
    (hk : ∀ a, base = some a → w'.heap[a.block]? = w.heap[a.block]?) : Own B w' base len cap ks int bool := by
  obtain ⟨h1, h2⟩ := h
  refine ⟨h1, ?_⟩
  rcases h2 with h2 | ⟨g, t, cs, rfl, hg, hb, hs, hc⟩
  · exact .inl h2
  · exact .inr ⟨g, t, cs, rfl, hg, (hk _ rfl).trans hb, hs, hc⟩
theorem Own.has {B : Nat} {w : World} {base : Option Addr} {len cap : Nat} {ks : List (Option IntKind)} {int : Nat → Int} {bool : Nat → Bool} (h : Own B w base len cap ks int bool) (hl : 0 < len) : ∃ a, base = some a := by
  obtain ⟨h1, h2 | ⟨g, t, cs, rfl, _⟩⟩ := h
  · omega
  · exact ⟨_, rfl⟩
theorem Own.fp {B : Nat} {w : World} {base : Option Addr} {len cap : Nat} {ks : List (Option IntKind)} {int : Nat → Int} {bool : Nat → Bool} (h : Own B w base len cap ks int bool) {a : Addr} (ha : base = some a) : B ≤ a.block ∧ a.block < w.heap.size := by
  obtain ⟨h1, h2 | ⟨g, t, cs, hb, hg, hbk, _⟩⟩ := h
  · rw [h2.1] at ha; cases ha
  · rw [hb] at ha; cases ha; exact ⟨hg, hbk.lt⟩
theorem Own.rowAt {B : Nat} {w : World} {base : Option Addr} {len cap : Nat} {ks : List (Option IntKind)} {int : Nat → Int} {bool : Nat → Bool} (h : Own B w base len cap ks int bool) : RowAt w base len ks int bool := fun i hi => by
  obtain ⟨h1, h2 | ⟨g, t, cs, rfl, hg, hb, hs, hc⟩⟩ := h
  · omega
  · refine ⟨_, rfl, hb.lt, fun j k hj => ?_⟩
    rw [add_mid, hb.walk.1, Nat.zero_add]
    exact hc i hi j k hj
/-- The entries of a map. -/
def MapIs (kk kv : IntKind) (es : Array MapEntry) (int : Nat → Int) (bool : Nat → Bool) : Prop :=
  (∀ m ∈ es.toList, ∃ n v, 0 ≤ n ∧ m.key = .int kk n ∧ m.val = .int kv v) ∧
    ∀ n : Nat, ∃ r, Instr.findNow (.int kk) (.int kk n) es.toList 0 = some r ∧ (match r with | some (_, v) => bool n = true ∧ v = .int kv (int n) | none => bool n = false ∧ int n = 0)
/-- What is said of an own block. -/
def Bk.ok (e : Env) (B : Nat) (w : World) (b : Bk) : Prop :=
  match b.bd with
  | .cells ty cs => B ≤ e.adr b.id ∧ Blk w (e.adr b.id) ty (cs.map (·.den e)).toArray
  | .row ks len ct => Own B w (e.base b.id) (len.den e).1.toNat (e.cap b.id) ks (e.int ct) (e.bool ct)
  | .map kk kv ct => B ≤ e.adr b.id ∧ ∃ es cl, w.heap[e.adr b.id]? = some (.map es cl) ∧ MapIs kk kv es (e.int ct) (e.bool ct)
  | .nr ks len ct hole => ∃ g t cs, e.base b.id = some ⟨g, 0, none⟩ ∧ B ≤ g ∧ Blk w g t cs ∧ cs.size = (len.den e).1.toNat ∧ e.cap b.id = (len.den e).1.toNat ∧
      (∀ i, i < (len.den e).1.toNat → (∀ x, hole = some x → (x.den e).1.toNat ≠ i) → cs[i]? = some (.slice ((e.nm ct).nb i) (e.int ct i).toNat ((e.nm ct).nc i)) ∧ 0 ≤ e.int ct i ∧
        Own B w ((e.nm ct).nb i) (e.int ct i).toNat ((e.nm ct).nc i) ks ((e.nm ct).i2 i) ((e.nm ct).b2 i) ∧ (∀ a, (e.nm ct).nb i = some a → a.block ≠ g) ∧
        ∀ j, j < (len.den e).1.toNat → (∀ x, hole = some x → (x.den e).1.toNat ≠ j) → i ≠ j → ∀ a a', (e.nm ct).nb i = some a → (e.nm ct).nb j = some a' → a.block ≠ a'.block)
/-- The blocks that it speaks of. -/
def Bk.fp (e : Env) (b : Bk) (g : Nat) : Prop :=
  match b.bd with
  | .cells _ _ | .map _ _ _ => g = e.adr b.id
  | .row _ _ _ => ∃ a, e.base b.id = some a ∧ a.block = g
  | .nr _ len ct hole => (∃ a, e.base b.id = some a ∧ a.block = g) ∨ ∃ i, i < (len.den e).1.toNat ∧ (∀ x, hole = some x → (x.den e).1.toNat ≠ i) ∧ ∃ a, (e.nm ct).nb i = some a ∧ a.block = g
theorem Bk.ok.keep {e : Env} {B : Nat} {w w' : World} {b : Bk} (h : b.ok e B w) (hk : ∀ g, b.fp e g → w'.heap[g]? = w.heap[g]?) : b.ok e B w' := by
  obtain ⟨id, bd⟩ := b
  cases bd with
  | cells ty cs => exact ⟨h.1, (hk _ rfl).trans h.2⟩
  | row ks len ct => exact Own.keep h fun a ha => hk _ ⟨a, ha, rfl⟩
  | map kk kv ct =>
    obtain ⟨h1, es, cl, h2, h3⟩ := h
    exact ⟨h1, es, cl, (hk _ rfl).trans h2, h3⟩
  | nr ks len ct hole =>
    obtain ⟨g, t, cs, hb, hg, hB, hs, hcap, hi⟩ := h
    refine ⟨g, t, cs, hb, hg, (hk _ (.inl ⟨_, hb, rfl⟩)).trans hB, hs, hcap, fun i h1 h2 => ?_⟩
    obtain ⟨c1, c2, c3, c4⟩ := hi i h1 h2
    exact ⟨c1, c2, c3.keep fun a ha => hk _ (.inr ⟨i, h1, h2, a, ha, rfl⟩), c4⟩
theorem Bk.ok.fp {e : Env} {B : Nat} {w : World} {b : Bk} (h : b.ok e B w) {g : Nat} (hg : b.fp e g) : B ≤ g ∧ g < w.heap.size := by
  obtain ⟨id, bd⟩ := b
  cases bd with
  | cells ty cs => obtain rfl : g = e.adr id := hg; exact ⟨h.1, h.2.lt⟩
  | row ks len ct => obtain ⟨a, ha, rfl⟩ := hg; exact Own.fp h ha
  | map kk kv ct =>
    obtain rfl : g = e.adr id := hg
    obtain ⟨h1, es, cl, h2, h3⟩ := h
    refine ⟨h1, ?_⟩
    rcases Nat.lt_or_ge (e.adr id) w.heap.size with h0 | h0
    · exact h0
    · rw [Array.getElem?_eq_none h0] at h2; cases h2
  | nr ks len ct hole =>
    obtain ⟨g', t, cs, hb, hg', hB, hs, hcap, hi⟩ := h
    rcases hg with ⟨a, ha, rfl⟩ | ⟨i, h1, h2, a, ha, rfl⟩
    · replace ha : e.base id = some a := ha
      replace hb : e.base id = some _ := hb
      rw [hb] at ha; cases ha; exact ⟨hg', hB.lt⟩
    · exact (hi i h1 h2).2.2.1.fp ha
theorem Bd.off {ok : Nat → Bool} {e e' : Env} (h : Env.off ok e e') {b : Bk} (hf : b.fr ok = true) : (∀ B w, b.ok e B w → b.ok e' B w) ∧ (∀ g, b.fp e' g → b.fp e g) := by
  obtain ⟨id, bd⟩ := b
  simp only [Bk.fr, Bool.and_eq_true] at hf
  obtain ⟨h0, hf⟩ := hf
  have hid := h _ h0
  cases bd with
  | cells ty cs =>
    refine ⟨fun B w hk => ?_, fun g hg => ?_⟩
    · simp only [Bk.ok, Env.adr] at hk ⊢; rw [← hid, ← map_den_off h cs hf]; exact hk
    · simp only [Bk.fp, Env.adr] at hg ⊢; rw [hid]; exact hg
  | map kk kv ct =>
    refine ⟨fun B w hk => ?_, fun g hg => ?_⟩
    · simp only [Bk.ok, Env.adr, Env.int, Env.bool] at hk ⊢; rw [← hid, ← h _ hf]; exact hk
    · simp only [Bk.fp, Env.adr] at hg ⊢; rw [hid]; exact hg
  | row ks len ct =>
    simp only [Bd.fr, Bool.and_eq_true] at hf
    refine ⟨fun B w hk => ?_, fun g hg => ?_⟩
    · simp only [Bk.ok, Env.base, Env.cap, Env.int, Env.bool] at hk ⊢; rw [← hid, ← h _ hf.2, ← SX.den_off h _ hf.1]; exact hk
    · simp only [Bk.fp, Env.base] at hg ⊢; rw [hid]; exact hg
  | nr ks len ct hole =>
    simp only [Bd.fr, Bool.and_eq_true] at hf
    have hh : ∀ x, hole = some x → x.den e = x.den e' := fun x hx => by
      subst hx
      exact SX.den_off h x hf.2
    have hl := SX.den_off h _ hf.1.1
    have hc := h _ hf.1.2
    have hiff : ∀ i, (∀ x, hole = some x → (x.den e).1.toNat ≠ i) ↔ (∀ x, hole = some x → (x.den e').1.toNat ≠ i) := fun i =>
      ⟨fun hx x he => by rw [← hh x he]; exact hx x he, fun hx x he => by rw [hh x he]; exact hx x he⟩
    refine ⟨fun B w hk => ?_, fun g hg => ?_⟩
    · simp only [Bk.ok, Env.base, Env.cap, Env.int] at hk ⊢
      simp only [← hid, ← hl, ← hc, ← hiff]; exact hk
    · simp only [Bk.fp, Env.base] at hg ⊢
      simp only [hid, hl, hc, hiff]; exact hg

/-- Results: as before; a slice; a slice and something. -/
inductive RZ where
  | b (r : RS) | s (ks : List (Option IntKind)) | se (ks : List (Option IntKind)) (k : Option IntKind)
  deriving DecidableEq, Repr
def RZ.val (m m' : Nm) : RZ → Value
  | .b r => r.val m.int m.bool
  | .s _ => .slice m'.base (m.int 0).toNat m'.cap
  | .se _ k => .tuple #[.slice m'.base (m.int 0).toNat m'.cap, leafD k (m.int 1) (m.bool 1)]
def RZ.mem (B : Nat) (w : World) (m m' : Nm) : RZ → Prop
  | .b _ => True
  | .s ks | .se ks _ => Own B w m'.base (m.int 0).toNat m'.cap ks m'.int m'.bool
/-- The signature of a function that is met by its contract. -/
structure Sg where
  f : FuncId
  args : List SH
  res : RZ
  /-- Like arguments have like results. -/
  det : Bool := false
  /-- Nothing is asked of the arguments. -/
  np : Bool := false
  deriving DecidableEq, Repr
/-- The contract. -/
structure Kon (P : Program) where
  sg : Sg
  pre : List AD → Prop
  post : List AD → Nm → Nm → Prop
  body : ∃ fn, P.funcs[sg.f]? = some fn ∧ (fn.name == "runtime.NumGoroutine") = false ∧ fn.body.isNone = false
  free : sg.np = true → ∀ ads, pre ads
  flat : sg.det = true → ∃ r, sg.res = .b r
  total : sg.det = true → ∀ ads, ∃ i b, post ads i b
  same : sg.det = true → ∀ ads i j i' j', post ads i j → post ads i' j' → sg.res.val i j = sg.res.val i' j'
  sound : ∀ (ads : List AD) (w : World), Fits w sg.args ads → pre ads →
    Calls P sg.f (ads.map (·.val)).toArray w fun en w' => ∃ m m', en = .returned (sg.res.val m m') ∧ Below w.heap.size w w' ∧ post ads m m' ∧ sg.res.mem w.heap.size w' m m'
/-- An elder contract. -/
def _root_.Go.Proofs.Ytjhdjclcfmcilaa.Con.kon {P : Program} (c : Con P) : Kon P where
  sg := ⟨c.sg.f, c.sg.args, .b c.sg.res, c.sg.det, false⟩
  free h := by cases h
  pre := c.pre
  post ads m _ := c.post ads m.int m.bool
  body := c.body
  flat _ := ⟨_, rfl⟩
  total h ads := by obtain ⟨i, b, hp⟩ := c.total h ads; exact ⟨{ Nm.zero with int := i, bool := b }, Nm.zero, hp⟩
  same h ads i j i' j' h1 h2 := c.same h ads _ _ _ _ h1 h2
  sound ads w hf hp := (c.sound ads w hf hp).mono fun en w' ⟨int, bool, he, hb, hq⟩ => ⟨{ Nm.zero with int := int, bool := bool }, Nm.zero, he, hb, hq, trivial⟩
/-- An elder contract that asks nothing. -/
def _root_.Go.Proofs.Ytjhdjclcfmcilaa.Con.konT {P : Program} (c : Con P) (h : ∀ ads, c.pre ads) : Kon P :=
  { c.kon with sg := ⟨c.sg.f, c.sg.args, .b c.sg.res, c.sg.det, true⟩, free := fun _ => h }
end Go.Proofs.Ytjhdjclcfmcilaa.T2
