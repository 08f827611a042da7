/-
  The machine on terms: how it runs an operation, a region, a piece of code. No program, no proofs.
-/
import Derived.Test.YtjhdjclcfmcilaaSx1
namespace Go.Proofs.Ytjhdjclcfmcilaa
open Go.ChangeShapes Go.WideShapes Go.ChangeAt Go.RowKit
set_option linter.unusedVariables false

def SX.mkO (p : BinOp) (k : IntKind) (x y : SX) : SX :=
  match x, y with
  | .i m, .i n => .i (arI p k m n)
  | x, y => .o p k x y
def SX.mkC (p : BinOp) (x y : SX) : SX :=
  match x, y with
  | .i m, .i n => .b (cmI p m n)
  | x, y => if p = .eql ∧ x = y then .b true else .c p x y
def SX.mkNo (x : SX) : SX :=
  match x with
  | .b u => .b !u
  | .no y => y
  | y => .no y
def SX.mkCv (k : IntKind) (x : SX) : SX :=
  match x with
  | .i n => .i (k.wrap n)
  | y => .cv k y
def SX.mkEq (x y : SX) : SX :=
  match x, y with
  | .b u, .b u2 => .b (u == u2)
  | x, y => if x = y then .b true else .eq x y
def SX.mkAn (x y : SX) : SX :=
  match x, y with
  | .b true, y => y
  | .b false, _ => .b false
  | x, .b true => x
  | _, .b false => .b false
  | x, y => .an x y
def SX.mkIt (g x y : SX) : SX :=
  match g with
  | .b true => x
  | .b false => y
  | g => if x = y then x else .it g x y

/-- x if g, else y: bools. -/
def SX.mkSel (g x y : SX) : SX :=
  match x, y with
  | x, .b false => .mkAn g x
  | .b true, y => .mkNo (.mkAn (.mkNo g) (.mkNo y))
  | x, y => .mkIt g x y

/-! ### What is known decides tests. -/
def loOf (p : BinOp) (v : Bool) (m : Int) : Option Int :=
  match p, v with
  | .eql, true | .neq, false | .lss, false | .geq, true => some m
  | .leq, false | .gtr, true => some (m + 1)
  | _, _ => none
def hiOf (p : BinOp) (v : Bool) (m : Int) : Option Int :=
  match p, v with
  | .eql, true | .neq, false | .leq, true | .gtr, false => some m
  | .lss, true | .geq, false => some (m - 1)
  | _, _ => none
def above (lo : Option Int) (n : Int) : Bool := match lo with | some l => decide (n ≤ l) | none => false
def below (hi : Option Int) (n : Int) : Bool := match hi with | some h => decide (h ≤ n) | none => false
def askI (p : BinOp) (v : Bool) (m : Int) (q : BinOp) (n : Int) : Option Bool :=
  let lo := loOf p v m
  let hi := hiOf p v m
  let unlike := above lo (n + 1) || below hi (n - 1) || (m == n && ((p == .eql && !v) || (p == .neq && v)))
  let like := above lo n && below hi n
  match q with
  | .eql => if unlike then some false else if like then some true else none
  | .neq => if unlike then some true else if like then some false else none
  | .lss => if below hi (n - 1) then some true else if above lo n then some false else none
  | .leq => if below hi n then some true else if above lo (n + 1) then some false else none
  | .gtr => if above lo (n + 1) then some true else if below hi n then some false else none
  | .geq => if above lo n then some true else if below hi (n - 1) then some false else none
  | _ => none
def imp (y : SX) (v : Bool) (x : SX) : Option Bool :=
  if y = x then some v else
  match y, x with
  | .c p a (.i m), .c q b (.i n) => if a = b then askI p v m q n else none
  | _, _ => none
def askL : List Cd → SX → Option Bool
  | [], _ => none
  | .c y v :: cs, x => match imp y v x with | some r => some r | none => askL cs x
  | _ :: cs, x => askL cs x
def ask (cs : List Cd) (x : SX) : Option Bool :=
  match x with
  | .b u => some u
  | .no y => (askL cs y).map (!·)
  | x => askL cs x
def addCd : SX → Bool → List Cd
  | .no y, v => addCd y !v
  | .an x y, true => addCd x true ++ addCd y true
  | x, v => [.c x v]

/-! ### Values. -/
def ofL : Value → Option LX
  | .int k n => some (.n k (.i n))
  | .bool b => some (.t (.b b))
  | .pointer none => some .np
  | .slice none 0 0 => some .ns
  | _ => none
def ofLs : List Value → Option (List LX)
  | [] => some []
  | v :: vs => match ofL v, ofLs vs with | some x, some xs => some (x :: xs) | _, _ => none
def ofV : Value → Option PX
  | .agg cs => (ofLs cs.toList).map .a
  | v => (ofL v).map .l
/-- The parts of a conjunction. -/
def comps : SX → List SX
  | .an x y => comps x ++ comps y
  | .b true => []
  | x => [x]
def known (cs : List Cd) (hs : List SX) (c : SX) : Bool := (comps c).all fun y => decide (y ∈ hs) || ask cs y == some true
def evV (hs : List SX) (s : St) : Operand → Option VX
  | .tmp t => match s.tm[t]? with | some .any => none | some (.gd c x) => if known s.cd hs c = true then some (.v x) else none | x => x
  | .const v => (ofV v).map .v
  | _ => none
def evP (hs : List SX) (s : St) (x : Operand) : Option PX := match evV hs s x with | some (.v p) => some p | _ => none
def evPs (hs : List SX) (s : St) : List Operand → Option (List PX)
  | [] => some []
  | x :: xs => match evP hs s x, evPs hs s xs with | some p, some ps => some (p :: ps) | _, _ => none
def PX.cells : PX → List LX
  | .l x => [x]
  | .a xs => xs
def St.put (s : St) (dst : Option Tmp) (v : VX) : St := match dst with | some t => { s with tm := s.tm.set t v } | none => s

def rowT (P : Program) (t : TypeId) : Option Nat := match P.underlying t with | some (.struct _) | some (.array _ _) => (P.info? t).map (·.size) | _ => none
def leafT (P : Program) (t : TypeId) : Bool := match P.underlying t with | some (.struct _) | some (.array _ _) | none => false | _ => true
def geZ (x : SX) : SX := .mkC .geq x (.i 0)

def binI (p : BinOp) (k : IntKind) (a : SX) (k' : IntKind) (b : SX) : Option (VX × List SX) :=
  match p with
  | .add | .sub | .mul | .and | .or | .xor | .andNot => if k = k' then some (.v (.l (.n k (.mkO p k a b))), []) else none
  | .quo | .rem => if k = k' then some (.v (.l (.n k (.mkO p k a b))), [.mkC .neq b (.i 0)]) else none
  | .shl | .shr => some (.v (.l (.n k (.mkO p k a b))), [geZ b])
  | p => if k = k' then some (.v (.l (.t (.mkC p a b))), []) else none
def partX (P : Program) (t : TypeId) (xs : List LX) (off : Nat) : Option PX :=
  match rowT P t with
  | some n => if ((xs.drop off).take n).length = n then some (.a ((xs.drop off).take n)) else none
  | none => if leafT P t = true then (xs[off]?).map .l else none
def eqFs (g : TypeId → PX → PX → Option SX) (P : Program) (xs ys : List LX) : List Field → Option SX
  | [] => some (.b true)
  | f :: fs =>
    if f.name = "_" then none else
    match partX P f.type xs f.offset, partX P f.type ys f.offset with
    | some a, some b => match g f.type a b, eqFs g P xs ys fs with | some u, some v => some (.mkAn u v) | _, _ => none
    | _, _ => none
def eqAr (g : PX → PX → Option SX) (P : Program) (e : TypeId) (n : Nat) (xs ys : List LX) : List Nat → Option SX
  | [] => some (.b true)
  | i :: is =>
    match partX P e xs (i * n), partX P e ys (i * n) with
    | some a, some b => match g a b, eqAr g P e n xs ys is with | some u, some v => some (.mkAn u v) | _, _ => none
    | _, _ => none
/-- Two values of a type without memory are equal. -/
def eqX (P : Program) : Nat → TypeId → PX → PX → Option SX
  | 0, _, _, _ => none
  | d + 1, t, x, y =>
    match P.underlying t, x, y with
    | some .bool, .l (.t a), .l (.t b) => some (.mkEq a b)
    | some (.int _), .l (.n k a), .l (.n k' b) => if k = k' then some (.mkC .eql a b) else none
    | some (.struct fs), .a xs, .a ys => if P.stoodInHeld t = true then none else eqFs (eqX P d) P xs ys fs.toList
    | some (.array len e), .a xs, .a ys => match P.info? e with | some ie => eqAr (eqX P d e) P e ie.size xs ys (List.range len) | none => none
    | _, _, _ => none

/-- The parts of a build, one by one. -/
def fillX (place : Nat → Option (Nat × Nat)) (cells : List LX) : List (Nat × PX) → Option (List LX)
  | [] => some cells
  | (i, v) :: rest =>
    match place i with
    | none => none
    | some (off, size) =>
      if v.cells.length = size ∧ off + size ≤ cells.length then fillX place (cells.take off ++ v.cells ++ cells.drop (off + size)) rest else none
def partsX (hs : List SX) (s : St) : List (Nat × Operand) → Option (List (Nat × PX))
  | [] => some []
  | (i, x) :: xs => match evP hs s x, partsX hs s xs with | some p, some ps => some ((i, p) :: ps) | _, _ => none
def placesX (P : Program) : List Field → Option (List (Nat × Nat))
  | [] => some []
  | f :: fs => match P.info? f.type, placesX P fs with | some i, some ps => some ((f.offset, i.size) :: ps) | _, _ => none
def buildX (P : Program) (t : TypeId) (parts : List (Nat × PX)) : Option (List LX) :=
  match P.info? t, P.underlying t with
  | some it, some (.array _ e) =>
    match it.zero, P.info? e with
    | some z, some ie => match ofLs z.cells.toList with | some zs => fillX (fun i => some (i * ie.size, ie.size)) zs parts | none => none
    | _, _ => none
  | some it, some (.struct fields) =>
    match it.zero, placesX P fields.toList with
    | some z, some places => match ofLs z.cells.toList with | some zs => fillX (places.toArray[·]?) zs parts | none => none
    | _, _ => none
  | _, _ => none

/-- What an operation without memory yields, and what must hold. -/
def evPure (P : Program) (hs : List SX) (s : St) (o : Op) : Option (VX × List SX) :=
  match o with
  | .move x => (evV hs s x).map (·, [])
  | .assign x => (evV hs s x).map (·, [])
  | .pick c a b =>
    match evP hs s c with
    | some (.l (.t g)) =>
      match ask s.cd g with
      | some true => (evV (comps g ++ hs) s a).map (·, [])
      | some false => (evV (comps g.mkNo ++ hs) s b).map (·, [])
      | none => match evP (comps g ++ hs) s a, evP (comps g.mkNo ++ hs) s b with
        | some (.l (.t x)), some (.l (.t y)) => some (.v (.l (.t (.mkSel g x y))), [])
        | _, _ => none
    | _ => none
  | .unOp .not _ x => match evP hs s x with | some (.l (.t a)) => some (.v (.l (.t (.mkNo a))), []) | _ => none
  | .unOp .neg _ x => match evP hs s x with | some (.l (.n k a)) => some (.v (.l (.n k (.mkO .sub k (.i 0) a))), []) | _ => none
  | .binOp p t x y _ =>
    match evP hs s x, evP hs s y with
    | some (.l (.n k a)), some (.l (.n k' b)) => binI p k a k' b
    | some (.l (.t a)), some (.l (.t b)) =>
      match P.underlying t, p with
      | some .bool, .eql => some (.v (.l (.t (.mkEq a b))), [])
      | some .bool, .neq => some (.v (.l (.t (.mkNo (.mkEq a b)))), [])
      | _, _ => none
    | some (.a xs), some (.a ys) =>
      if P.eqGuardType P.depth t = true then none else
      match eqX P 6 t (.a xs) (.a ys), p with
      | some g, .eql => some (.v (.l (.t g)), [])
      | some g, .neq => some (.v (.l (.t (.mkNo g))), [])
      | _, _ => none
    | _, _ => none
  | .convert src dst x =>
    match P.underlying src, P.underlying dst, evP hs s x with
    | some _, some (.int k), some (.l (.n _ a)) => some (.v (.l (.n k (.mkCv k a))), [])
    | _, _, _ => none
  | .fieldAddr t x f =>
    match P.underlying t with
    | some (.struct fs) =>
      match fs[f]? with
      | some fd =>
        match P.info? fd.type with
        | some fi =>
          if fi.size = 0 then none else
          match evP hs s x with
          | some (.l (.p d o)) => some (.v (.l (.p d (o + fd.offset))), [])
          | some (.l (.pi d o n sz i o2)) => some (.v (.l (.pi d o n sz i (o2 + fd.offset))), [])
          | some (.l (.q d sz i o)) => some (.v (.l (.q d sz i (o + fd.offset))), [])
          | _ => none
        | none => none
      | none => none
    | _ => none
  | .indexAddr t x ix =>
    match P.underlying t, evP hs s x, evP hs s ix with
    | some (.array len e), some (.l (.p d o)), some (.l (.n _ i)) =>
      match P.info? e, i with
      | some ie, .i n => if 0 ≤ n ∧ n < (len : Int) then some (.v (.l (.p d (o + n.toNat * ie.size))), []) else none
      | some ie, i => some (.v (.l (.pi d o len ie.size i 0)), [geZ i, .mkC .lss i (.i len)])
      | _, _ => none
    | some (.array len e), some (.l (.q d sz y o)), some (.l (.n _ i)) =>
      match P.info? e, i with
      | some ie, .i n => if 0 ≤ n ∧ n < (len : Int) then some (.v (.l (.q d sz y (o + n.toNat * ie.size))), []) else none
      | _, _ => none
    | some (.slice e), some (.l (.sl d len _)), some (.l (.n _ i)) =>
      match P.info? e, s.rw.find? (·.id == d) with
      | some ie, some r => if r.len = len then some (.v (.l (.q d ie.size i 0)), [geZ i, .mkC .lss i len, geZ len]) else none
      | _, _ => none
    | _, _, _ => none
  | .field t x f =>
    match P.underlying t, evP hs s x with
    | some (.struct fs), some (.a xs) =>
      match fs[f]? with
      | some fd =>
        match rowT P fd.type with
        | some n => some (.v (.a ((xs.drop fd.offset).take n)), [])
        | none => if leafT P fd.type then (xs[fd.offset]?).map fun v => (.v (.l v), []) else none
      | none => none
    | _, _ => none
  | .build t parts =>
    match partsX hs s parts.toList with
    | some ps => (buildX P t ps).map fun cs => (.v (.a cs), [])
    | none => none
  | .extract x i => match evV hs s x with | some (.tp ps) => (ps[i]?).map fun p => (.v p, []) | _ => none
  | .nilCheck x =>
    match evP hs s x with
    | some (.l (.p d o)) => some (.v (.l (.p d o)), [])
    | _ => none
  | .call { callee := .builtin .len, args, argTypes } =>
    match args.toList, argTypes[0]? with
    | [x], some t =>
      match P.underlying t, evP hs s x with
      | some (.slice _), some (.l (.sl _ n _)) => some (.v (.l (.n .i64 n)), [geZ n])
      | some (.slice _), some (.l .ns) => some (.v (.l (.n .i64 (.i 0))), [])
      | _, _ => none
    | _, _ => none
  | .call { callee := .builtin .max, args, .. } =>
    match evPs hs s args.toList with
    | some [.l (.n k x), .l (.n k' y)] => if k = k' then some (.v (.l (.n k (.mx x y))), []) else none
    | _ => none
  | .call { callee := .builtin .min, args, .. } =>
    match evPs hs s args.toList with
    | some [.l (.n k x), .l (.n k' y)] => if k = k' then some (.v (.l (.n k (.mn x y))), []) else none
    | _ => none
  | _ => none

/-! ### Operations that read or make memory, and calls. -/
def blockX (s : St) (d : Nat) : Option Bk := s.hp.find? (·.id == d)
def rowX (s : St) (d : Nat) : Option Rw := s.rw.find? (·.id == d)
/-- The numbers of a list of cells of one kind. -/
def numsX (k : IntKind) : List LX → Option (List SX)
  | [] => some []
  | .n k' x :: xs => if k = k' then (numsX k xs).map (x :: ·) else none
  | _ => none
def boolsX : List LX → Option (List SX)
  | [] => some []
  | .t x :: xs => (boolsX xs).map (x :: ·)
  | _ => none
def itsX (x : SX) : Nat → List SX → SX
  | _, [] => .i 0
  | _, [y] => y
  | k, y :: ys => .it (.c .eql x (.i k)) y (itsX x (k + 1) ys)
/-- The x-th of a list. -/
def selS (x : SX) (ys : List SX) : SX :=
  match ys with
  | .v d j :: .v d' j' :: _ => if d = d' ∧ j < j' ∧ ys = (List.range ys.length).map (fun k => .v d (k * (j' - j) + j)) then .r d (j' - j) j x else itsX x 0 ys
  | ys => itsX x 0 ys
def selL (x : SX) (ys : List LX) : Option LX :=
  match ys with
  | .n k _ :: _ => (numsX k ys).map fun l => .n k (selS x l)
  | .t _ :: _ => (boolsX ys).map fun l => .t (selS x l)
  | _ => none
/-- The cells at offset c of the n elements. -/
def colX (cs : List LX) (o n sz c : Nat) : Option (List LX) := go (List.range n)
where
  go : List Nat → Option (List LX)
    | [] => some []
    | k :: ks => match cs[o + k * sz + c]?, go ks with | some x, some xs => some (x :: xs) | _, _ => none
def selsX (x : SX) (cs : List LX) (o n sz : Nat) : List Nat → Option (List LX)
  | [] => some []
  | c :: rest => match (colX cs o n sz c).bind (selL x), selsX x cs o n sz rest with | some y, some ys => some (y :: ys) | _, _ => none
def rowCells (d sz : Nat) (x : SX) (ks : List (Option IntKind)) : List Nat → Option (List LX)
  | [] => some []
  | j :: js => match ks[j]?, rowCells d sz x ks js with
    | some none, some ys => some (.t (.r d sz j x) :: ys)
    | some (some k), some ys => some (.n k (.r d sz j x) :: ys)
    | _, _ => none
def asVal (row : Bool) (cs : List LX) : Option PX := if row then some (.a cs) else match cs with | [c] => some (.l c) | _ => none
def sizeT (P : Program) (t : TypeId) : Option (Bool × Nat) :=
  match rowT P t with
  | some n => some (true, n)
  | none => if leafT P t = true then some (false, 1) else none
def loadX (P : Program) (s : St) (t : TypeId) (a : LX) : Option (PX × List SX) :=
  match sizeT P t with
  | none => none
  | some (row, m) =>
    match a with
    | .p d o =>
      match blockX s d with
      | some b => if ((b.cs.drop o).take m).length = m then (asVal row ((b.cs.drop o).take m)).map (·, []) else none
      | none => none
    | .pi d o n sz x o2 =>
      match blockX s d with
      | some b => match selsX x b.cs o n sz ((List.range m).map (o2 + ·)) with
        | some cs => (asVal row cs).map (·, [geZ x, .mkC .lss x (.i n)])
        | none => none
      | none => none
    | .q d sz x o =>
      match rowX s d with
      | some r => if r.ks.length = sz then match rowCells d sz x r.ks ((List.range m).map (o + ·)) with
        | some cs => (asVal row cs).map (·, [geZ x, .mkC .lss x r.len])
        | none => none else none
      | none => none
    | _ => none
def iteL (g : SX) (x y : LX) : Option LX :=
  match x, y with
  | .n k a, .n k' b => if k = k' then some (.n k (.mkIt g a b)) else none
  | .t a, .t b => some (.t (.mkIt g a b))
  | _, _ => none
/-- The cells with vs in place of those at offset o + x * sz + o2: cell by cell. -/
def updX (x : SX) (vs : List LX) (o n sz o2 : Nat) : Nat → List LX → Option (List LX)
  | _, [] => some []
  | j, c :: cs =>
    match updX x vs o n sz o2 (j + 1) cs with
    | none => none
    | some rest =>
      if o ≤ j ∧ j < o + n * sz ∧ o2 ≤ (j - o) % sz ∧ (j - o) % sz < o2 + vs.length then
        match vs[(j - o) % sz - o2]? with
        | some v => (iteL (.c .eql x (.i ((j - o) / sz : Nat))) v c).map (· :: rest)
        | none => none
      else some (c :: rest)
/-- The blocks stand in the order of their names: so states that differ in the order of their making are one. -/
def insBk (b : Bk) : List Bk → List Bk
  | [] => [b]
  | c :: cs => if b.id ≤ c.id then b :: c :: cs else c :: insBk b cs
def setB (s : St) (d : Nat) (cs : List LX) : St := { s with hp := s.hp.map fun b => if b.id = d then { b with cs := cs } else b }
def storeX (P : Program) (s : St) (t : TypeId) (a : LX) (v : PX) : Option (St × List SX) :=
  match (P.info? t).map (·.size) with
  | none => none
  | some m =>
    if v.cells.length = m then
      match a with
      | .p d o =>
        match blockX s d with
        | some b => if o + m ≤ b.cs.length then some (setB s d (b.cs.take o ++ v.cells ++ b.cs.drop (o + m)), []) else none
        | none => none
      | .pi d o n sz x o2 =>
        match blockX s d with
        | some b => if o + n * sz ≤ b.cs.length ∧ o2 + m ≤ sz then (updX x v.cells o n sz o2 0 b.cs).map fun cs => (setB s d cs, [geZ x, .mkC .lss x (.i n)]) else none
        | none => none
      | _ => none
    else none
def fitX (s : St) : SH → PX → Bool
  | .l none, .l (.t _) => true
  | .l (some k), .l (.n k' _) => k == k'
  | .a ks, .a xs => kindsX xs ks
  | .sl ks, .l (.sl d len _) => match rowX s d with | some r => decide (r.ks = ks ∧ r.len = len) | none => false
  | .sl _, .l .ns => true
  | _, _ => false
where
  kindsX : List LX → List (Option IntKind) → Bool
    | [], [] => true
    | .t _ :: xs, none :: ks => kindsX xs ks
    | .n k' _ :: xs, some k :: ks => k == k' && kindsX xs ks
    | _, _ => false
def fitsX (s : St) : List SH → List PX → Bool
  | [], [] => true
  | h :: hs, p :: ps => fitX s h p && fitsX s hs ps
  | _, _ => false
def leafX (d j : Nat) : Option IntKind → LX
  | none => .t (.v d j)
  | some k => .n k (.v d j)
def cellsX (d : Nat) : Nat → List (Option IntKind) → List LX
  | _, [] => []
  | j, k :: ks => leafX d j k :: cellsX d (j + 1) ks
def partsD' (d : Nat) : Nat → List (Option IntKind ⊕ List (Option IntKind)) → List PX
  | _, [] => []
  | j, .inl k :: cs => .l (leafX d j k) :: partsD' d (j + 1) cs
  | j, .inr ks :: cs => .a (cellsX d j ks) :: partsD' d (j + ks.length) cs
def RS.inst (d : Nat) : RS → VX
  | .no => .tp []
  | .l k => .v (.l (leafX d 0 k))
  | .a ks => .v (.a (cellsX d 0 ks))
  | .tp cs => .tp (partsD' d 0 cs)
def findSg (f : FuncId) : Nat → List Sg → Option (Nat × Sg)
  | _, [] => none
  | k, g :: gs => if g.f = f then some (k, g) else findSg f (k + 1) gs

/-- The result of an earlier like call. -/
def earlier (k : Nat) (ps : List PX) : List Cd → Option Nat
  | [] => none
  | .f d k' ps' :: cs => if k' = k ∧ ps' = ps then some d else earlier k ps cs
  | _ :: cs => earlier k ps cs
/-- What is owed. -/
inductive Ob where
  | cl (cd : List Cd) (x : SX) | pre (cd : List Cd) (k : Nat) (args : List PX) | inv (cd : List Cd) (k d : Nat) (xs : List LX)
  deriving DecidableEq, Repr
def owe (s : St) (xs : List SX) : List Ob := (xs.filter fun x => ask s.cd x != some true).map (Ob.cl s.cd ·)

/-- The settings: the first own name; the signatures of the functions that are met by contracts. -/
structure Cfg where
  n0 : Nat
  sg : List Sg
  /-- Loops by an invariant: the first region of the body; the invariant's number; the slots that it speaks of; the slot that counts and the term that it stays below. -/
  lp : List (Nat × Nat × List (Nat × Option IntKind) × Nat × SX)

def stepX (P : Program) (G : Cfg) (id : Nat) (o : Oper) (s : St) : Option (St × List Ob) :=
  match o.op with
  | .alloc t =>
    if G.n0 ≤ id ∧ s.fr (· != id) = true then
      match (P.info? t).bind (·.zero) with
      | some z => (ofLs z.cells.toList).map fun cs => ({ s with hp := insBk ⟨id, t, cs⟩ s.hp }.put o.dst (.v (.l (.p id 0))), [])
      | none => none
    else none
  | .box t x =>
    if G.n0 ≤ id ∧ s.fr (· != id) = true then (evP [] s x).map fun p => ({ s with hp := insBk ⟨id, t, p.cells⟩ s.hp }.put o.dst (.v (.l (.p id 0))), []) else none
  | .load t a =>
    match evP [] s a with
    | some (.l a) => (loadX P s t a).map fun (v, xs) => (s.put o.dst (.v v), owe s xs)
    | _ => none
  | .store t a x =>
    match evP [] s a, evP [] s x with
    | some (.l a), some v => (storeX P s t a v).map fun (s', xs) => (s'.put o.dst .un, owe s xs)
    | _, _ => none
  | .call { callee := .value (.func f), args, .. } =>
    match findSg f 0 G.sg, evPs [] s args.toList with
    | some (k, g), some ps =>
      match (if g.det then earlier k ps s.cd else none) with
      | some d => if fitsX s g.args ps = true then some (s.put o.dst (g.res.inst d), [.pre s.cd k ps]) else none
      | none =>
      if fitsX s g.args ps = true ∧ G.n0 ≤ id ∧ s.fr (· != id) = true then some ({ s with cd := .f id k ps :: s.cd }.put o.dst (g.res.inst id), [.pre s.cd k ps]) else none
    | _, _ => none
  | op => (evPure P [] s op).map fun (v, xs) => (s.put o.dst v, owe s xs)

/-- An operation behind a test that is not known, run as if: it leaves x if y. -/
def specX (P : Program) (G : Cfg) (id : Nat) (o : Oper) (y : SX) (s : St) : Option (St × List Ob) :=
  match o.op with
  | .load t a =>
    match evP (comps y) s a with
    | some (.l a) => match loadX P s t a with | some (v, []) => some (s.put o.dst (.gd y v), []) | _ => none
    | _ => none
  | .call { callee := .value (.func f), args, .. } =>
    match findSg f 0 G.sg, evPs (comps y) s args.toList with
    | some (k, g), some ps =>
      if g.det = true ∧ fitsX s g.args ps = true then
        match earlier k ps s.cd with
        | some d => match g.res.inst d with | .v x => some (s.put o.dst (.gd y x), [.pre s.cd k ps]) | _ => none
        | none =>
          if G.n0 ≤ id ∧ s.fr (· != id) = true ∧ y.fr (· != id) = true then
            match g.res.inst id with | .v x => some ({ s with cd := .f id k ps :: s.cd }.put o.dst (.gd y x), [.pre s.cd k ps]) | _ => none
          else none
      else none
    | _, _ => none
  | op => match evPure P (comps y) s op with | some (.v x, []) => some (s.put o.dst (.gd y x), []) | _ => none
inductive Md where
  | run | skip | spec (y : SX)
def ask3 (cs : List Cd) (y : SX) : Option Bool :=
  if (comps y).all (fun z => ask cs z == some true) then some true else if (comps y).any (fun z => ask cs z == some false) then some false else none
/-- The guard of an operation: runs it, leaves it, runs it as if, or parts. -/
def guardX (P : Program) (G : Cfg) (id : Nat) (ops : Array Oper) (o : Oper) (s : St) : Option (List (Md × St)) :=
  let on (y : SX) : Option (List (Md × St)) :=
    match ask3 s.cd y with
    | some true => some [(.run, s)]
    | some false => some [(.skip, s)]
    | none => if (specX P G id o y s).isSome then some [(.spec y, s)] else some [(.run, { s with cd := addCd y true ++ s.cd }), (.skip, { s with cd := addCd y false ++ s.cd })]
  match o.guard with
  | none => some [(.run, s)]
  | some (j, want) =>
    match ((ops[j]?).bind (·.dst)).bind (s.tm[·]?) with
    | some .un => some [(.skip, s)]
    | some (.v (.l (.t x))) => on (if want then x else x.mkNo)
    | some (.gd c (.l (.t x))) => on (.mkAn c (if want then x else x.mkNo))
    | _ => none
def operX (P : Program) (G : Cfg) (ops : Array Oper) (id : Nat) (o : Oper) : List (Md × St) → Option (List St × List Ob)
  | [] => some ([], [])
  | (.run, s) :: rest => match stepX P G id o s, operX P G ops id o rest with | some (s', os), some (ss, os') => some (s' :: ss, os ++ os') | _, _ => none
  | (.spec y, s) :: rest => match specX P G id o y s, operX P G ops id o rest with | some (s', os), some (ss, os') => some (s' :: ss, os ++ os') | _, _ => none
  | (.skip, s) :: rest => match operX P G ops id o rest with | some (ss, os') => some (s.put o.dst .un :: ss, os') | none => none
def runX (P : Program) (G : Cfg) (ops : Array Oper) (id : Nat) (o : Oper) : List St → Option (List St × List Ob)
  | [] => some ([], [])
  | s :: rest => match (guardX P G id ops o s).bind (operX P G ops id o), runX P G ops id o rest with | some (a, x), some (b, y) => some (a ++ b, x ++ y) | _, _ => none
/-- A region in the order of the text. -/
def textX (P : Program) (G : Cfg) (ops : Array Oper) (nx : Nat) : List Nat → List St → Option (List St × List Ob)
  | [], ss => some (ss, [])
  | i :: is, ss =>
    match ops[i]? with
    | none => none
    | some o => match runX P G ops (nx + i) o ss with
      | some (ss', os) => (textX P G ops nx is ss').map fun (r, os') => (r, os ++ os')
      | none => none
def isPure : Op → Bool
  | .move _ | .assign _ | .pick .. | .unOp .. | .binOp .. | .convert .. | .fieldAddr .. | .indexAddr .. | .field .. | .build .. | .extract .. => true
  | .call { callee := .builtin .len, .. } | .call { callee := .builtin .max, .. } | .call { callee := .builtin .min, .. } => true
  | _ => false
def dedup {α : Type} [DecidableEq α] : List α → List α
  | [] => []
  | x :: xs => if x ∈ xs then dedup xs else x :: dedup xs
/-! Equality by truth values: cheap for the kernel. -/
def bqL {α : Type} (f : α → α → Bool) : List α → List α → Bool
  | [], [] => true
  | x :: xs, y :: ys => f x y && bqL f xs ys
  | _, _ => false
def SX.bq : SX → SX → Bool
  | .i m, .i m' => decide (m = m')
  | .b m, .b m' => m == m'
  | .v d j, .v d' j' => d == d' && j == j'
  | .r d sz j x, .r d' sz' j' x' => d == d' && sz == sz' && j == j' && SX.bq x x'
  | .o p k x y, .o p' k' x' y' => decide (p = p') && decide (k = k') && SX.bq x x' && SX.bq y y'
  | .c p x y, .c p' x' y' => decide (p = p') && SX.bq x x' && SX.bq y y'
  | .no x, .no x' => SX.bq x x'
  | .eq x y, .eq x' y' => SX.bq x x' && SX.bq y y'
  | .an x y, .an x' y' => SX.bq x x' && SX.bq y y'
  | .it g x y, .it g' x' y' => SX.bq g g' && SX.bq x x' && SX.bq y y'
  | .cv k x, .cv k' x' => decide (k = k') && SX.bq x x'
  | .mx x y, .mx x' y' => SX.bq x x' && SX.bq y y'
  | .mn x y, .mn x' y' => SX.bq x x' && SX.bq y y'
  | _, _ => false
def LX.bq : LX → LX → Bool
  | .n k x, .n k' x' => decide (k = k') && x.bq x'
  | .t x, .t x' => x.bq x'
  | .p d z, .p d' z' => d == d' && z == z'
  | .pi d z m sz x z2, .pi d' z' m' sz' x' z2' => d == d' && z == z' && m == m' && sz == sz' && z2 == z2' && x.bq x'
  | .q d sz x z, .q d' sz' x' z' => d == d' && sz == sz' && z == z' && x.bq x'
  | .sl d l u, .sl d' l' u' => d == d' && l.bq l' && u.bq u'
  | .np, .np => true
  | .ns, .ns => true
  | _, _ => false
def PX.bq : PX → PX → Bool
  | .l x, .l y => x.bq y
  | .a xs, .a ys => bqL LX.bq xs ys
  | _, _ => false
def VX.bq : VX → VX → Bool
  | .v x, .v y => x.bq y
  | .tp xs, .tp ys => bqL PX.bq xs ys
  | .un, .un => true
  | .any, .any => true
  | .gd g x, .gd g' x' => g.bq g' && x.bq x'
  | _, _ => false
def Bk.bq (b c : Bk) : Bool := b.id == c.id && b.ty == c.ty && bqL LX.bq b.cs c.cs
def Cd.bq : Cd → Cd → Bool
  | .c x v, .c x' v' => v == v' && x.bq x'
  | .f d k xs, .f d' k' xs' => d == d' && k == k' && bqL PX.bq xs xs'
  | .g d k, .g d' k' => d == d' && k == k'
  | _, _ => false
def St.bq (s t : St) : Bool := bqL VX.bq s.tm t.tm && bqL Bk.bq s.hp t.hp && bqL Cd.bq s.cd t.cd && s.nx == t.nx && decide (s.rw = t.rw)
/-- States by what is done: a tree. -/
inductive Tr where
  | nil | node (ss : List St) (a b : Tr)
def addS (s : St) : List St → List St
  | [] => [s]
  | t :: ts => if s.bq t then t :: ts else t :: addS s ts
def Tr.ins (s : St) : List Bool → Tr → Tr
  | [], .nil => .node [s] .nil .nil
  | [], .node ss a b => .node (addS s ss) a b
  | true :: l, .nil => .node [] (Tr.ins s l .nil) .nil
  | false :: l, .nil => .node [] .nil (Tr.ins s l .nil)
  | true :: l, .node ss a b => .node ss (Tr.ins s l a) b
  | false :: l, .node ss a b => .node ss a (Tr.ins s l b)
def Tr.all (pre : List Bool) : Tr → List (List Bool × St)
  | .nil => []
  | .node ss a b => ss.map (fun s => (pre.reverse, s)) ++ (Tr.all (true :: pre) a ++ Tr.all (false :: pre) b)
def Tr.fill : List (List Bool × St) → Tr → Tr
  | [], t => t
  | e :: es, t => Tr.fill es (t.ins e.2 e.1)
def dedupT (es : List (List Bool × St)) : List (List Bool × St) := (Tr.fill es .nil).all []
/-- The operations that an operation waits for; which may be next: Region.ready, cheaper for the kernel. -/
def depsL (ops : Array Oper) : List (List Nat) := ops.toList.map fun o => (o.after.toList.filter (Region.binds .any)).map (·.on)
def readyF (ops : Array Oper) (l : List Bool) : List Nat :=
  (List.range ops.size).filter fun i => !l.getD i true && (((depsL ops)[i]?).map fun ds => ds.all fun d => l.getD d false).getD false
/-- The operations that must be done before i may be taken first: Region.free, cheaper for the kernel. -/
def waitsL (ops : Array Oper) : List (List Nat) := (List.range ops.size).map fun i => match ops[i]? with
  | none => []
  | some oi => (List.range ops.size).filter fun j => !(j == i || match ops[j]? with
      | some oj => oj.after.any (fun e => Region.binds .any e && e.on == i) || oi.apart ops oj
      | none => true)
def freeF (ops : Array Oper) (l : List Bool) (i : Nat) : Bool := (ops[i]?).isSome && (((waitsL ops)[i]?).getD []).all fun j => l.getD j true
/-- One operation more, in each order that the edges allow. -/
def moreX (P : Program) (G : Cfg) (ops : Array Oper) (nx : Nat) (l : List Bool) (s : St) : Option (List (List Bool × St) × List Ob) :=
  let rs := readyF ops l
  match rs with
  | [] => some ([(l, s)], [])
  | rs =>
    match rs.find? fun i => ((ops[i]?).map fun o => isPure o.op).getD false && freeF ops l i with
    | some i => one i
    | none => all rs
where
  one (i : Nat) : Option (List (List Bool × St) × List Ob) :=
    match ops[i]? with
    | none => none
    | some o => (runX P G ops (nx + i) o [s]).map fun (ss, os) => (ss.map fun s' => (l.set i true, s'), os)
  all : List Nat → Option (List (List Bool × St) × List Ob)
    | [] => some ([], [])
    | i :: is => match one i, all is with | some (a, x), some (b, y) => some (a ++ b, x ++ y) | _, _ => none
def layerX (P : Program) (G : Cfg) (ops : Array Oper) (nx : Nat) : List (List Bool × St) → Option (List (List Bool × St) × List Ob)
  | [] => some ([], [])
  | (l, s) :: rest => match moreX P G ops nx l s, layerX P G ops nx rest with | some (a, x), some (b, y) => some (a ++ b, x ++ y) | _, _ => none
def drawX (P : Program) (G : Cfg) (ops : Array Oper) (nx : Nat) : Nat → List (List Bool × St) → Option (List St × List Ob)
  | 0, es => if es.all (fun e => (readyF ops e.1).isEmpty) then some (dedup (es.map (·.2)), []) else none
  | n + 1, es =>
    match layerX P G ops nx es with
    | some (es', os) => (drawX P G ops nx n (dedupT es')).map fun (r, os') => (r, os ++ os')
    | none => none
def regionX (P : Program) (G : Cfg) (ops : Array Oper) (draw : Bool) (s : St) : Option (List St × List Ob) :=
  let r := if draw then (if Region.noSelect ops then drawX P G ops s.nx ops.size [(List.replicate ops.size false, s)] else none) else textX P G ops s.nx (List.range ops.size) [s]
  r.map fun (ss, os) => (ss.map fun s' => { s' with nx := s.nx + ops.size }, dedup os)

inductive Ex where
  | nor | ex (id : Nat) | rt
  deriving DecidableEq, Repr
/-- The first region of a piece of code. -/
def tagX : Code → Nat
  | .region id _ _ => id
  | .seq a _ => tagX a
  | .block _ c | .loop c | .scope c => tagX c
  | _ => 0
def dstsX : Code → List Nat
  | .region _ ops _ => ops.toList.filterMap (·.dst)
  | .seq a b => dstsX a ++ dstsX b
  | .cond _ a b => dstsX a ++ dstsX b
  | .block _ c | .loop c | .scope c => dstsX c
  | _ => []
def havocT (d : Nat) (tm : List VX) : Nat → List (Nat × Option IntKind) → List VX
  | _, [] => tm
  | j, (t, k) :: r => (havocT d tm (j + 1) r).set t (.v (.l (leafX d j k)))
def anyT (tm : List VX) : List Nat → List VX
  | [] => tm
  | t :: ts => (anyT tm ts).set t .any
/-- What the slots hold, if it is of the kinds. -/
def slotsX (s : St) : List (Nat × Option IntKind) → Option (List LX)
  | [] => some []
  | (t, k) :: r => match s.tm[t]?, k, slotsX s r with
    | some (.v (.l (.n k' x))), some k, some l => if k = k' then some (.n k' x :: l) else none
    | some (.v (.l (.t x))), none, some l => some (.t x :: l)
    | _, _, _ => none
def sameT : List VX → List VX → Bool
  | [], [] => true
  | x :: xs, y :: ys => (x == .any || x == y) && sameT xs ys
  | _, _ => false
def numAt (s : St) (t : Nat) : Option SX := match s.tm[t]? with | some (.v (.l (.n _ x))) => some x | _ => none
def thenX (f : St → Option (List (Ex × St) × List Ob)) : List (Ex × St) → Option (List (Ex × St) × List Ob)
  | [] => some ([], [])
  | (.nor, s) :: r => match f s, thenX f r with | some (a, x), some (b, y) => some (a ++ b, x ++ y) | _, _ => none
  | x :: r => (thenX f r).map fun (b, y) => (x :: b, y)
def unrollX (f : St → Option (List (Ex × St) × List Ob)) : Nat → St → Option (List (Ex × St) × List Ob)
  | 0, _ => none
  | m + 1, s =>
    match f s with
    | some (es, os) => (thenX (unrollX f m) es).map fun (r, os') => (r, os ++ os')
    | none => none
/-- The ends of a round: what is owed. -/
def roundX (k d : Nat) (sl : List (Nat × Option IntKind)) (c : Nat) (up : SX) (tm0 : List VX) (h : St) (hp0 : List Bk) (rw0 : List Rw) : List (Ex × St) → Option (List (Ex × St) × List Ob)
  | [] => some ([], [])
  | (.nor, s) :: r =>
    match slotsX s sl, numAt h c, numAt s c, roundX k d sl c up tm0 h hp0 rw0 r with
    | some xs, some x, some x', some (b, y) =>
      if sameT tm0 s.tm = true ∧ hp0.all (fun b => decide (b ∈ s.hp)) = true ∧ rw0 = s.rw ∧ x.fr (fun z => decide (z < d + 1)) = true then
        some (b, .inv s.cd k d xs :: .cl s.cd (.mkC .lss x x') :: .cl s.cd (.mkC .lss x up) :: y) else none
    | _, _, _, _ => none
  | x :: r => (roundX k d sl c up tm0 h hp0 rw0 r).map fun (b, y) => (x :: b, y)
def execX (P : Program) (G : Cfg) : Nat → Code → St → Option (List (Ex × St) × List Ob)
  | 0, _, _ => none
  | n + 1, .skip, s => some ([(.nor, s)], [])
  | n + 1, .region _ ops draw, s => (regionX P G ops draw s).map fun (ss, os) => (ss.map (Ex.nor, ·), os)
  | n + 1, .seq a b, s =>
    match execX P G n a s with
    | some (es, os) => (thenX (execX P G n b) es).map fun (r, os') => (r, os ++ os')
    | none => none
  | n + 1, .cond c a b, s =>
    match evP [] s c with
    | some (.l (.t x)) =>
      match ask s.cd x with
      | some true => execX P G n a s
      | some false => execX P G n b s
      | none =>
        match execX P G n a { s with cd := addCd x true ++ s.cd }, execX P G n b { s with cd := addCd x false ++ s.cd } with
        | some (r, os), some (r', os') => some (r ++ r', os ++ os')
        | _, _ => none
    | _ => none
  | n + 1, .block id c, s => (execX P G n c s).map fun (es, os) => (es.map fun (x, s') => (if x = .ex id then .nor else x, s'), os)
  | n + 1, .loop c, s =>
    match G.lp.find? (·.1 == tagX c) with
    | some (_, k, sl, t, up) =>
      let tm0 := anyT s.tm (sl.map (·.1) ++ dstsX c)
      match slotsX s sl with
      | some xs =>
        if G.n0 ≤ s.nx ∧ s.fr (fun x => decide (x < s.nx)) = true ∧ up.fr (fun x => decide (x < s.nx)) = true then
          match execX P { G with n0 := s.nx + 1 } n c { s with tm := havocT s.nx tm0 0 sl, cd := .g s.nx k :: s.cd, nx := s.nx + 1 } with
          | some (es, os) => (roundX k s.nx sl t up tm0 { s with tm := havocT s.nx tm0 0 sl } s.hp s.rw es).map fun (r, os') => (r, .inv s.cd k s.nx xs :: os ++ os')
          | none => none
        else none
      | none => none
    | none => unrollX (execX P G n c) n s
  | n + 1, .exit id, s => some ([(.ex id, s)], [])
  | n + 1, .ret, s => some ([(.rt, s)], [])
  | _ + 1, _, _ => none

/-- A function's results. -/
def resX (P : Program) (fn : Func) (s : St) : Option VX :=
  match fn.results.toList with
  | [] => some (.tp [])
  | [.tmp t] => match s.tm[t]? with | some (.v p) => some (.v p) | _ => none
  | [.cell t ty] => match s.tm[t]? with
    | some (.v (.l (.p d o))) => match loadX P s ty (.p d o) with | some (v, []) => some (.v v) | _ => none
    | _ => none
  | rs => (go rs).map .tp
where
  go : List ResultVar → Option (List PX)
    | [] => some []
    | .tmp t :: r => match s.tm[t]?, go r with | some (.v p), some ps => some (p :: ps) | _, _ => none
    | .cell t ty :: r => match s.tm[t]?, go r with
      | some (.v (.l (.p d o))), some ps => match loadX P s ty (.p d o) with | some (v, []) => some (v :: ps) | _ => none
      | _, _ => none
structure Lf where
  cd : List Cd
  v : VX
  deriving DecidableEq, Repr
def leavesX (P : Program) (fn : Func) : List (Ex × St) → Option (List Lf)
  | [] => some []
  | (.ex _, _) :: _ => none
  | (_, s) :: r => match resX P fn s, leavesX P fn r with | some v, some l => some (⟨s.cd, v⟩ :: l) | _, _ => none
/-- A call of a function: the ways and what each returns; what is owed. -/
def funcX (P : Program) (G : Cfg) (fuel : Nat) (fn : Func) (args : List PX) (rw : List Rw) : Option (List Lf × List Ob) :=
  match fn.body with
  | some c =>
    match execX P G fuel c ⟨args.map .v ++ List.replicate (fn.ntmps - args.length) .un, [], rw, [], G.n0⟩ with
    | some (es, os) => (leavesX P fn es).map (·, dedup os)
    | none => none
  | none => none

/-! ### Short spellings of states. -/
def setX (r : Nat × Nat) : List LX := cellsX r.1 r.2 [none, none, some .u32, some .u32, some .u32]
def stOf (l : List (Nat × Nat)) : List LX := l.flatMap setX
def itX (x : SX) (k : Nat) (a b : LX) : LX :=
  match a, b with
  | .t p, .t q => .t (.it (.c .eql x (.i k)) p q)
  | .n kd p, .n _ q => .n kd (.it (.c .eql x (.i k)) p q)
  | a, _ => a
def stUpdG (x : SX) (r : Nat × Nat) : Nat → List (Nat × Nat) → List LX
  | _, [] => []
  | k, q :: qs => List.zipWith (itX x k) (setX r) (setX q) ++ stUpdG x r (k + 1) qs
def stUpd (x : SX) (r : Nat × Nat) (l : List (Nat × Nat)) : List LX := stUpdG x r 0 l
/-- The x-th set of a state. -/
def setRx (d : Nat) (x : SX) : List LX := [.t (.r d 5 0 x), .t (.r d 5 1 x), .n .u32 (.r d 5 2 x), .n .u32 (.r d 5 3 x), .n .u32 (.r d 5 4 x)]
end Go.Proofs.Ytjhdjclcfmcilaa
