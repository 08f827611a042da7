/-
  The second machine on terms: how it runs an operation, a region, a piece of code, a call in place. No program, no proofs.
-/
import Derived.Test.YtjhdjclcfmcilaaT1
namespace Go.Proofs.Ytjhdjclcfmcilaa.T2
open Go.ChangeShapes Go.WideShapes Go.ChangeAt Go.RowKit
set_option linter.unusedVariables false

def SX.mkO (p : BinOp) (k : IntKind) (x y : SX) : SX :=
  match x, y with
  | .i m, .i n => .i (arI p k m n)
  | x, y => .o p k x y
def SX.mkC (p : BinOp) (x y : SX) : SX :=
  match x, y with
  | .i m, .i n => .b (cmI p m n)
  | x, y => if p = .eql ∧ x = y then .b true else .c p x y
def SX.mkNo (x : SX) : SX :=
  match x with
  | .b u => .b !u
  | .no y => y
  | y => .no y
def SX.mkCv (k : IntKind) (x : SX) : SX :=
  match x with
  | .i n => .i (k.wrap n)
  | y => .cv k y
def SX.mkEq (x y : SX) : SX :=
  match x, y with
  | .b u, .b u2 => .b (u == u2)
  | x, y => if x = y then .b true else .eq x y
def SX.mkAn (x y : SX) : SX :=
  match x, y with
  | .b true, y => y
  | .b false, _ => .b false
  | x, .b true => x
  | _, .b false => .b false
  | x, y => .an x y
def SX.mkIt (g x y : SX) : SX :=
  match g with
  | .b true => x
  | .b false => y
  | g => if x = y then x else .it g x y

/-- x if g, else y: bools. -/
def SX.mkSel (g x y : SX) : SX :=
  match x, y with
  | x, .b false => .mkAn g x
  | .b true, y => .mkNo (.mkAn (.mkNo g) (.mkNo y))
  | x, y => .mkIt g x y

/-! ### What is known decides tests. -/
def imp (y : SX) (v : Bool) (x : SX) : Option Bool :=
  if y = x then some v else
  match y, x with
  | .c p a (.i m), .c q b (.i n) => if a = b then askI p v m q n else none
  | _, _ => none
def askL : List Cd → SX → Option Bool
  | [], _ => none
  | .c y v :: cs, x => match imp y v x with | some r => some r | none => askL cs x
  | _ :: cs, x => askL cs x
def ask (cs : List Cd) (x : SX) : Option Bool :=
  match x with
  | .b u => some u
  | .no y => (askL cs y).map (!·)
  | x => askL cs x
def addCd : SX → Bool → List Cd
  | .no y, v => addCd y !v
  | .an x y, true => addCd x true ++ addCd y true
  | x, v => [.c x v]

/-! ### Values. -/
def ofL : Value → Option LX
  | .int k n => some (.n k (.i n))
  | .bool b => some (.t (.b b))
  | .pointer none => some .np
  | .slice none 0 0 => some .ns
  | .map none => some .nm
  | _ => none
def ofLs : List Value → Option (List LX)
  | [] => some []
  | v :: vs => match ofL v, ofLs vs with | some x, some xs => some (x :: xs) | _, _ => none
def ofV : Value → Option PX
  | .agg cs => (ofLs cs.toList).map .a
  | v => (ofL v).map .l
/-- The parts of a conjunction. -/
def comps : SX → List SX
  | .an x y => comps x ++ comps y
  | .b true => []
  | x => [x]
def known (cs : List Cd) (hs : List SX) (c : SX) : Bool := (comps c).all fun y => decide (y ∈ hs) || ask cs y == some true
def evV (hs : List SX) (s : St) : Operand → Option VX
  | .tmp t => match s.tm[t]? with | some .any => none | some (.gd c x) => if known s.cd hs c = true then some (.v x) else none | x => x
  | .const v => (ofV v).map .v
  | _ => none
def evP (hs : List SX) (s : St) (x : Operand) : Option PX := match evV hs s x with | some (.v p) => some p | _ => none
def evPs (hs : List SX) (s : St) : List Operand → Option (List PX)
  | [] => some []
  | x :: xs => match evP hs s x, evPs hs s xs with | some p, some ps => some (p :: ps) | _, _ => none
def PX.cells : PX → List LX
  | .l x => [x]
  | .a xs => xs
def St.put (s : St) (dst : Option Tmp) (v : VX) : St := match dst with | some t => { s with tm := s.tm.set t v } | none => s

def geZ (x : SX) : SX := .mkC .geq x (.i 0)
/-- Names that an operation may give: id .. id + 3. -/
def nid (id x : Nat) : Bool := decide (x < id) || decide (id + 4 ≤ x)

def binI (p : BinOp) (k : IntKind) (a : SX) (k' : IntKind) (b : SX) : Option (VX × List SX) :=
  match p with
  | .add | .sub | .mul | .and | .or | .xor | .andNot => if k = k' then some (.v (.l (.n k (.mkO p k a b))), []) else none
  | .quo | .rem => if k = k' then some (.v (.l (.n k (.mkO p k a b))), [.mkC .neq b (.i 0)]) else none
  | .shl | .shr => some (.v (.l (.n k (.mkO p k a b))), [geZ b])
  | p => if k = k' then some (.v (.l (.t (.mkC p a b))), []) else none
def partX (P : Program) (t : TypeId) (xs : List LX) (off : Nat) : Option PX :=
  match rowT P t with
  | some n => if ((xs.drop off).take n).length = n then some (.a ((xs.drop off).take n)) else none
  | none => if leafT P t = true then (xs[off]?).map .l else none
def eqFs (g : TypeId → PX → PX → Option SX) (P : Program) (xs ys : List LX) : List Field → Option SX
  | [] => some (.b true)
  | f :: fs =>
    if f.name = "_" then none else
    match partX P f.type xs f.offset, partX P f.type ys f.offset with
    | some a, some b => match g f.type a b, eqFs g P xs ys fs with | some u, some v => some (.mkAn u v) | _, _ => none
    | _, _ => none
def eqAr (g : PX → PX → Option SX) (P : Program) (e : TypeId) (n : Nat) (xs ys : List LX) : List Nat → Option SX
  | [] => some (.b true)
  | i :: is =>
    match partX P e xs (i * n), partX P e ys (i * n) with
    | some a, some b => match g a b, eqAr g P e n xs ys is with | some u, some v => some (.mkAn u v) | _, _ => none
    | _, _ => none
/-- Two values of a type without memory are equal. -/
def eqX (P : Program) : Nat → TypeId → PX → PX → Option SX
  | 0, _, _, _ => none
  | d + 1, t, x, y =>
    match P.underlying t, x, y with
    | some .bool, .l (.t a), .l (.t b) => some (.mkEq a b)
    | some (.int _), .l (.n k a), .l (.n k' b) => if k = k' then some (.mkC .eql a b) else none
    | some (.struct fs), .a xs, .a ys => if P.stoodInHeld t = true then none else eqFs (eqX P d) P xs ys fs.toList
    | some (.array len e), .a xs, .a ys => match P.info? e with | some ie => eqAr (eqX P d e) P e ie.size xs ys (List.range len) | none => none
    | _, _, _ => none

/-- The parts of a build, one by one. -/
def fillX (place : Nat → Option (Nat × Nat)) (cells : List LX) : List (Nat × PX) → Option (List LX)
  | [] => some cells
  | (i, v) :: rest =>
    match place i with
    | none => none
    | some (off, size) =>
      if v.cells.length = size ∧ off + size ≤ cells.length then fillX place (cells.take off ++ v.cells ++ cells.drop (off + size)) rest else none
def partsX (hs : List SX) (s : St) : List (Nat × Operand) → Option (List (Nat × PX))
  | [] => some []
  | (i, x) :: xs => match evP hs s x, partsX hs s xs with | some p, some ps => some ((i, p) :: ps) | _, _ => none
def placesX (P : Program) : List Field → Option (List (Nat × Nat))
  | [] => some []
  | f :: fs => match P.info? f.type, placesX P fs with | some i, some ps => some ((f.offset, i.size) :: ps) | _, _ => none
def buildX (P : Program) (t : TypeId) (parts : List (Nat × PX)) : Option (List LX) :=
  match P.info? t, P.underlying t with
  | some it, some (.array _ e) =>
    match it.zero, P.info? e with
    | some z, some ie => match ofLs z.cells.toList with | some zs => fillX (fun i => some (i * ie.size, ie.size)) zs parts | none => none
    | _, _ => none
  | some it, some (.struct fields) =>
    match it.zero, placesX P fields.toList with
    | some z, some places => match ofLs z.cells.toList with | some zs => fillX (places.toArray[·]?) zs parts | none => none
    | _, _ => none
  | _, _ => none

/-! ### The objects. -/
def objX (s : St) (d : Nat) : Option Bk := s.hp.find? (·.id == d)
def blockX (s : St) (d : Nat) : Option (Nat × List LX) := match objX s d with | some ⟨_, .cells ty cs⟩ => some (ty, cs) | _ => none
/-- A row: kinds, length, content. -/
def rowOf (s : St) (d : Nat) : Option (List (Option IntKind) × SX × Nat) :=
  match objX s d with
  | some ⟨_, .row ks len ct⟩ => some (ks, len, ct)
  | some _ => none
  | none => match s.rw.find? (·.id == d) with | some r => some (r.ks, r.len, r.id) | none => none
def ownOf (s : St) (d : Nat) : Option (List (Option IntKind) × SX × Nat) := match objX s d with | some ⟨_, .row ks len ct⟩ => some (ks, len, ct) | _ => none
def nrOf (s : St) (d : Nat) : Option (List (Option IntKind) × SX × Nat × Option SX) := match objX s d with | some ⟨_, .nr ks len ct h⟩ => some (ks, len, ct, h) | _ => none
def mapOf (s : St) (d : Nat) : Option (IntKind × IntKind × Nat) := match objX s d with | some ⟨_, .map kk kv ct⟩ => some (kk, kv, ct) | _ => none
def isNr (c : Nat) (b : Bk) : Bool := match b.bd with | .nr _ _ ct none => ct == c | _ => false
/-- Slices of slices by their content. -/
def nrCt (s : St) (c : Nat) : Option (Nat × List (Option IntKind) × SX) := match s.hp.find? (isNr c) with | some ⟨d, .nr ks len _ none⟩ => some (d, ks, len) | _ => none
def lenOk (s : St) (d : Nat) (len : SX) : Bool :=
  match rowOf s d with
  | some (_, l, _) => decide (l = len)
  | none => match nrOf s d with | some (_, l, _, _) => decide (l = len) | none => false
def ctOfP (s : St) : PX → Nat
  | .l (.sl d _) => match rowOf s d with | some (_, _, ct) => ct | none => d
  | _ => 0
def lenLX (s : St) : LX → Option (SX × List SX)
  | .sl _ m => some (m, [geZ m])
  | .ns => some (.i 0, [])
  | .sb _ m => some (.i m, [])
  | .sn c y => match nrCt s c with | some (_, _, l) => some (.r c 1 0 y, [geZ y, .mkC .lss y l]) | none => none
  | _ => none
def capsX : List PX → Option (List (Nat × Nat))
  | [] => some []
  | .l (.p d o) :: ps => (capsX ps).map ((d, o) :: ·)
  | _ => none
/-- What an operation without memory yields, and what must hold. -/
def evPure (P : Program) (hs : List SX) (s : St) (o : Op) : Option (VX × List SX) :=
  match o with
  | .move x => (evV hs s x).map (·, [])
  | .assign x => (evV hs s x).map (·, [])
  | .pick c a b =>
    match evP hs s c with
    | some (.l (.t g)) =>
      match ask s.cd g with
      | some true => (evV (comps g ++ hs) s a).map (·, [])
      | some false => (evV (comps g.mkNo ++ hs) s b).map (·, [])
      | none => match evP (comps g ++ hs) s a, evP (comps g.mkNo ++ hs) s b with
        | some (.l (.t x)), some (.l (.t y)) => some (.v (.l (.t (.mkSel g x y))), [])
        | _, _ => none
    | _ => none
  | .unOp .not _ x => match evP hs s x with | some (.l (.t a)) => some (.v (.l (.t (.mkNo a))), []) | _ => none
  | .unOp .neg _ x => match evP hs s x with | some (.l (.n k a)) => some (.v (.l (.n k (.mkO .sub k (.i 0) a))), []) | _ => none
  | .binOp p t x y _ =>
    match evP hs s x, evP hs s y with
    | some (.l (.n k a)), some (.l (.n k' b)) => binI p k a k' b
    | some (.l (.t a)), some (.l (.t b)) =>
      match P.underlying t, p with
      | some .bool, .eql => some (.v (.l (.t (.mkEq a b))), [])
      | some .bool, .neq => some (.v (.l (.t (.mkNo (.mkEq a b)))), [])
      | _, _ => none
    | some (.a xs), some (.a ys) =>
      if P.eqGuardType P.depth t = true then none else
      match eqX P 6 t (.a xs) (.a ys), p with
      | some g, .eql => some (.v (.l (.t g)), [])
      | some g, .neq => some (.v (.l (.t (.mkNo g))), [])
      | _, _ => none
    | _, _ => none
  | .convert src dst x =>
    match P.underlying src, P.underlying dst, evP hs s x with
    | some _, some (.int k), some (.l (.n _ a)) => some (.v (.l (.n k (.mkCv k a))), [])
    | _, _, _ => none
  | .fieldAddr t x f =>
    match P.underlying t with
    | some (.struct fs) =>
      match fs[f]? with
      | some fd =>
        match P.info? fd.type with
        | some fi =>
          if fi.size = 0 then none else
          match evP hs s x with
          | some (.l (.p d o)) => some (.v (.l (.p d (o + fd.offset))), [])
          | some (.l (.pi d o n sz i o2)) => some (.v (.l (.pi d o n sz i (o2 + fd.offset))), [])
          | some (.l (.q d sz i o)) => some (.v (.l (.q d sz i (o + fd.offset))), [])
          | some (.l (.qn d y sz i o)) => some (.v (.l (.qn d y sz i (o + fd.offset))), [])
          | _ => none
        | none => none
      | none => none
    | _ => none
  | .indexAddr t x ix =>
    match P.underlying t, evP hs s x, evP hs s ix with
    | some (.array len e), some (.l (.p d o)), some (.l (.n _ i)) =>
      match P.info? e, i with
      | some ie, .i n => if 0 ≤ n ∧ n < (len : Int) then some (.v (.l (.p d (o + n.toNat * ie.size))), []) else none
      | some ie, i => some (.v (.l (.pi d o len ie.size i 0)), [geZ i, .mkC .lss i (.i len)])
      | _, _ => none
    | some (.array len e), some (.l (.q d sz y o)), some (.l (.n _ i)) =>
      match P.info? e, i with
      | some ie, .i n => if 0 ≤ n ∧ n < (len : Int) then some (.v (.l (.q d sz y (o + n.toNat * ie.size))), []) else none
      | _, _ => none
    | some (.slice e), some (.l (.sl d len)), some (.l (.n _ i)) =>
      match P.info? e with
      | some ie =>
        if lenOk s d len = true then some (.v (.l (.q d ie.size i 0)), [geZ i, .mkC .lss i len, geZ len]) else none
      | _ => none
    | some (.slice e), some (.l (.sn c y)), some (.l (.n _ i)) =>
      match P.info? e, nrCt s c with
      | some ie, some (_, _, l) => some (.v (.l (.qn c y ie.size i 0)), [geZ y, .mkC .lss y l, geZ i, .mkC .lss i (.r c 1 0 y)])
      | _, _ => none
    | _, _, _ => none
  | .field t x f =>
    match P.underlying t, evP hs s x with
    | some (.struct fs), some (.a xs) =>
      match fs[f]? with
      | some fd =>
        match rowT P fd.type with
        | some n => some (.v (.a ((xs.drop fd.offset).take n)), [])
        | none => if leafT P fd.type then (xs[fd.offset]?).map fun v => (.v (.l v), []) else none
      | none => none
    | _, _ => none
  | .build t parts =>
    match partsX hs s parts.toList with
    | some ps => (buildX P t ps).map fun cs => (.v (.a cs), [])
    | none => none
  | .extract x i => match evV hs s x with | some (.tp ps) => (ps[i]?).map fun p => (.v p, []) | _ => none
  | .nilCheck x =>
    match evP hs s x with
    | some (.l (.p d o)) => some (.v (.l (.p d o)), [])
    | _ => none
  | .call { callee := .builtin .len, args, argTypes } =>
    match args.toList, argTypes[0]? with
    | [x], some t =>
      match P.underlying t, evP hs s x with
      | some (.slice _), some (.l y) => (lenLX s y).map fun (m, xs) => (.v (.l (.n .i64 m)), xs)
      | _, _ => none
    | _, _ => none
  | .makeFunc (.func f) first captured =>
    match first.toList, evPs hs s captured.toList with
    | [], some ps => (capsX ps).map fun c => (.v (.l (.fn f c)), [])
    | _, _ => none
  | .call { callee := .builtin .max, args, .. } =>
    match evPs hs s args.toList with
    | some [.l (.n k x), .l (.n k' y)] => if k = k' then some (.v (.l (.n k (.mx x y))), []) else none
    | _ => none
  | .call { callee := .builtin .min, args, .. } =>
    match evPs hs s args.toList with
    | some [.l (.n k x), .l (.n k' y)] => if k = k' then some (.v (.l (.n k (.mn x y))), []) else none
    | _ => none
  | _ => none

/-! ### Operations that read or make memory, and calls. -/
/-- The numbers of a list of cells of one kind. -/
def numsX (k : IntKind) : List LX → Option (List SX)
  | [] => some []
  | .n k' x :: xs => if k = k' then (numsX k xs).map (x :: ·) else none
  | _ => none
def boolsX : List LX → Option (List SX)
  | [] => some []
  | .t x :: xs => (boolsX xs).map (x :: ·)
  | _ => none
def itsX (x : SX) : Nat → List SX → SX
  | _, [] => .i 0
  | _, [y] => y
  | k, y :: ys => .it (.c .eql x (.i k)) y (itsX x (k + 1) ys)
/-- The x-th of a list. -/
def selS (x : SX) (ys : List SX) : SX :=
  match ys with
  | .v d j :: .v d' j' :: _ => if d = d' ∧ j < j' ∧ ys = (List.range ys.length).map (fun k => .v d (k * (j' - j) + j)) then .r d (j' - j) j x else itsX x 0 ys
  | ys => itsX x 0 ys
def selL (x : SX) (ys : List LX) : Option LX :=
  match ys with
  | .n k _ :: _ => (numsX k ys).map fun l => .n k (selS x l)
  | .t _ :: _ => (boolsX ys).map fun l => .t (selS x l)
  | _ => none
/-- The cells at offset c of the n elements. -/
def colX (cs : List LX) (o n sz c : Nat) : Option (List LX) := go (List.range n)
where
  go : List Nat → Option (List LX)
    | [] => some []
    | k :: ks => match cs[o + k * sz + c]?, go ks with | some x, some xs => some (x :: xs) | _, _ => none
def selsX (x : SX) (cs : List LX) (o n sz : Nat) : List Nat → Option (List LX)
  | [] => some []
  | c :: rest => match (colX cs o n sz c).bind (selL x), selsX x cs o n sz rest with | some y, some ys => some (y :: ys) | _, _ => none
def rowCells (d sz : Nat) (x : SX) (ks : List (Option IntKind)) : List Nat → Option (List LX)
  | [] => some []
  | j :: js => match ks[j]?, rowCells d sz x ks js with
    | some none, some ys => some (.t (.r d sz j x) :: ys)
    | some (some k), some ys => some (.n k (.r d sz j x) :: ys)
    | _, _ => none
def rowCells2 (d : Nat) (y : SX) (sz : Nat) (x : SX) (ks : List (Option IntKind)) : List Nat → Option (List LX)
  | [] => some []
  | j :: js => match ks[j]?, rowCells2 d y sz x ks js with
    | some none, some ys => some (.t (.r2 d y sz j x) :: ys)
    | some (some k), some ys => some (.n k (.r2 d y sz j x) :: ys)
    | _, _ => none
def asVal (row : Bool) (cs : List LX) : Option PX := if row then some (.a cs) else match cs with | [c] => some (.l c) | _ => none
def loadX (P : Program) (s : St) (t : TypeId) (a : LX) : Option (PX × List SX) :=
  match sizeT P t with
  | none => none
  | some (row, m) =>
    match a with
    | .p d o =>
      match blockX s d with
      | some (_, cs) => if ((cs.drop o).take m).length = m then (asVal row ((cs.drop o).take m)).map (·, []) else none
      | none => none
    | .pi d o n sz x o2 =>
      match blockX s d with
      | some (_, bs) => match selsX x bs o n sz ((List.range m).map (o2 + ·)) with
        | some cs => (asVal row cs).map (·, [geZ x, .mkC .lss x (.i n)])
        | none => none
      | none => none
    | .q d sz x o =>
      match rowOf s d with
      | some (ks, len, ct) => if ks.length = sz then match rowCells ct sz x ks ((List.range m).map (o + ·)) with
        | some cs => (asVal row cs).map (·, [geZ x, .mkC .lss x len])
        | none => none else none
      | none =>
        match nrOf s d with
        | some (_, len, ct, none) => if sz = 1 ∧ o = 0 ∧ row = false then some (.l (.sn ct x), [geZ x, .mkC .lss x len]) else none
        | _ => none
    | .qn c y sz x o =>
      match nrCt s c with
      | some (_, ks, len) => if ks.length = sz then match rowCells2 c y sz x ks ((List.range m).map (o + ·)) with
        | some cs => (asVal row cs).map (·, [geZ y, .mkC .lss y len, geZ x, .mkC .lss x (.r c 1 0 y)])
        | none => none else none
      | none => none
    | _ => none
def iteL (g : SX) (x y : LX) : Option LX :=
  match x, y with
  | .n k a, .n k' b => if k = k' then some (.n k (.mkIt g a b)) else none
  | .t a, .t b => some (.t (.mkIt g a b))
  | _, _ => none
/-- The cells with vs in place of those at offset o + x * sz + o2: cell by cell. -/
def updX (x : SX) (vs : List LX) (o n sz o2 : Nat) : Nat → List LX → Option (List LX)
  | _, [] => some []
  | j, c :: cs =>
    match updX x vs o n sz o2 (j + 1) cs with
    | none => none
    | some rest =>
      if o ≤ j ∧ j < o + n * sz ∧ o2 ≤ (j - o) % sz ∧ (j - o) % sz < o2 + vs.length then
        match vs[(j - o) % sz - o2]? with
        | some v => (iteL (.c .eql x (.i ((j - o) / sz : Nat))) v c).map (· :: rest)
        | none => none
      else some (c :: rest)
/-- The blocks stand in the order of their names: so states that differ in the order of their making are one. -/
def insBk (b : Bk) : List Bk → List Bk
  | [] => [b]
  | c :: cs => if b.id ≤ c.id then b :: c :: cs else c :: insBk b cs
def setB (s : St) (d : Nat) (bd : Bd) : St := { s with hp := s.hp.map fun b => if b.id = d then { b with bd := bd } else b }
def delB (s : St) (d : Nat) : St := { s with hp := s.hp.filter fun b => !(b.id == d) }
def kindsX : List LX → List (Option IntKind) → Bool
  | [], [] => true
  | .t _ :: xs, none :: ks => kindsX xs ks
  | .n k' _ :: xs, some k :: ks => k == k' && kindsX xs ks
  | _, _ => false
def kindsOf : List LX → Option (List (Option IntKind))
  | [] => some []
  | .t _ :: xs => (kindsOf xs).map (none :: ·)
  | .n k _ :: xs => (kindsOf xs).map (some k :: ·)
  | _ => none
/-- A new content for the object d. -/
def recon (bd : Bd) (ct : Nat) : Bd :=
  match bd with
  | .row ks len _ => .row ks len ct
  | .map kk kv _ => .map kk kv ct
  | .nr ks len _ h => .nr ks len ct h
  | bd => bd
def storeX (P : Program) (G0 : Nat) (s : St) (id : Nat) (t : TypeId) (a : LX) (v : PX) : Option (St × List SX) :=
  match (P.info? t).map (·.size) with
  | none => none
  | some m =>
    if v.cells.length = m then
      match a with
      | .p d o =>
        match blockX s d with
        | some (ty, bs) => if o + m ≤ bs.length then some (setB s d (.cells ty (bs.take o ++ v.cells ++ bs.drop (o + m))), []) else none
        | none => none
      | .pi d o n sz x o2 =>
        match blockX s d with
        | some (ty, bs) => if o + n * sz ≤ bs.length ∧ o2 + m ≤ sz then (updX x v.cells o n sz o2 0 bs).map fun cs => (setB s d (.cells ty cs), [geZ x, .mkC .lss x (.i n)]) else none
        | none => none
      | .q d sz x o =>
        match ownOf s d with
        | some (ks, len, ct) =>
          if ks.length = sz ∧ o + m ≤ sz ∧ kindsX v.cells ((ks.drop o).take m) = true ∧ G0 ≤ id ∧ s.fr (nid id) = true then
            some ({ setB s d (.row ks len id) with cd := .u id (some ct) x sz o v.cells :: s.cd }, [geZ x, .mkC .lss x len])
          else none
        | none =>
          match nrOf s d, v with
          | some (ks, len, ct, some x'), .l (.sl r rl) =>
            match ownOf s r with
            | some (ks', rl', rc) =>
              if sz = 1 ∧ o = 0 ∧ x = x' ∧ ks = ks' ∧ rl = rl' ∧ r ≠ d ∧ G0 ≤ id ∧ s.fr (nid id) = true then
                some ({ setB (delB s r) d (.nr ks len id none) with cd := .nu id ct x r rc rl :: s.cd }, [geZ x, .mkC .lss x len, geZ rl])
              else none
            | none => none
          | _, _ => none
      | _ => none
    else none
def fitX (s : St) : SH → PX → Bool
  | .l none, .l (.t _) => true
  | .l (some k), .l (.n k' _) => k == k'
  | .a ks, .a xs => kindsX xs ks
  | .sl ks, .l (.sl d len) => match rowOf s d with | some (ks', l, _) => decide (ks' = ks ∧ l = len) | none => false
  | .sl _, .l .ns => true
  | _, _ => false
def fitsX (s : St) : List SH → List PX → Bool
  | [], [] => true
  | h :: hs, p :: ps => fitX s h p && fitsX s hs ps
  | _, _ => false
def leafX (d j : Nat) : Option IntKind → LX
  | none => .t (.v d j)
  | some k => .n k (.v d j)
def cellsX (d : Nat) : Nat → List (Option IntKind) → List LX
  | _, [] => []
  | j, k :: ks => leafX d j k :: cellsX d (j + 1) ks
def partsD' (d : Nat) : Nat → List (Option IntKind ⊕ List (Option IntKind)) → List PX
  | _, [] => []
  | j, .inl k :: cs => .l (leafX d j k) :: partsD' d (j + 1) cs
  | j, .inr ks :: cs => .a (cellsX d j ks) :: partsD' d (j + ks.length) cs
def RS.inst (d : Nat) : RS → VX
  | .no => .tp []
  | .l k => .v (.l (leafX d 0 k))
  | .a ks => .v (.a (cellsX d 0 ks))
  | .tp cs => .tp (partsD' d 0 cs)
def RZ.inst (d : Nat) : RZ → VX
  | .b r => RS.inst d r
  | .s _ => .v (.l (.sl (d + 1) (.v d 0)))
  | .se _ k => .tp [.l (.sl (d + 1) (.v d 0)), .l (leafX d 1 k)]
def RZ.blk (d : Nat) : RZ → List Bk
  | .b _ => []
  | .s ks | .se ks _ => [⟨d + 1, .row ks (.v d 0) (d + 1)⟩]
def findSg (f : FuncId) : Nat → List Sg → Option (Nat × Sg)
  | _, [] => none
  | k, g :: gs => if g.f = f then some (k, g) else findSg f (k + 1) gs
/-- The result of an earlier like call. -/
def earlier (k : Nat) (ps : List (PX × Nat)) : List Cd → Option Nat
  | [] => none
  | .f d k' ps' :: cs => if k' = k ∧ ps' = ps then some d else earlier k ps cs
  | _ :: cs => earlier k ps cs
/-- What is owed. -/
inductive Ob where
  | cl (cd : List Cd) (x : SX) | pre (cd : List Cd) (k : Nat) (args : List (PX × Nat)) | inv (cd : List Cd) (k d : Nat) (xs : List LX) (ms : List (Option (Nat × Nat)))
  deriving DecidableEq, Repr
def owe (s : St) (xs : List SX) : List Ob := (xs.filter fun x => ask s.cd x != some true).map (Ob.cl s.cd ·)
/-- What is owed where hs hold besides. -/
def oweH (s : St) (hs xs : List SX) : List Ob := (xs.filter fun x => !(known s.cd hs x)).map (Ob.cl (hs.map (Cd.c · true) ++ s.cd) ·)

/-- Places: a slot; a cell of the own block to which a slot points; a cell of the block to which that cell points. -/
inductive HL where
  | s (t : Nat) | c (t o : Nat)
  deriving DecidableEq, Repr
/-- What a loop may turn: a number or bool; the content of the object there; a slice (nil or own), with its row. -/
inductive Hv where
  | num (l : HL) (k : Option IntKind) | ct (l : HL) | row (l : HL) (ks : List (Option IntKind))
  deriving DecidableEq, Repr
/-- A loop by an invariant: the function, the first region of the body, the invariant's number, what it may turn, the slot that counts and what it stays below (a slot, or a term). -/
structure Lp where
  f : FuncId
  tag : Nat
  k : Nat
  hv : List Hv
  c : Nat
  up : Nat ⊕ SX
  /-- What was known ahead of the loop is kept. -/
  keep : Bool := false
  deriving DecidableEq, Repr
/-- Where ways meet: the function, the first region of what follows, the invariant's number, what differs from way to way, the slots that are kept. -/
structure Mg where
  f : FuncId
  tag : Nat
  k : Nat
  hv : List Hv
  keep : List Nat
  deriving DecidableEq, Repr
/-- The settings: the first own name; the signatures of the functions that are met by contracts; the loops; the functions that are run in place. -/
structure Cfg where
  n0 : Nat
  sg : List Sg
  lp : List Lp
  inl : List FuncId
  mg : List Mg := []
abbrev Inl := Cfg → FuncId → List PX → St → Option (List (VX × St) × List Ob)

def zeroL : LX → Bool
  | .n _ (.i 0) | .t (.b false) => true
  | _ => false
/-- The kinds of a type's cells, if its zero is all zero. -/
def zeroKs (P : Program) (t : TypeId) : Option (List (Option IntKind)) :=
  match (P.info? t).bind (·.zero) with
  | some z => match ofLs z.cells.toList with | some cs => if cs.all zeroL = true then kindsOf cs else none | none => none
  | none => none
/-- The zero of a type of one cell. -/
def oneZ (P : Program) (t : TypeId) : Option LX :=
  match (P.info? t).bind (·.zero) with
  | some z => match ofLs z.cells.toList with | some [x] => some x | _ => none
  | none => none
/-- A slice type whose elements are not too many bytes: the element and its cells. -/
def elemX (P : Program) (t : TypeId) : Option (TypeId × Nat) :=
  match P.underlying t with
  | some (.slice e) => match P.info? e with | some i => if i.bytes ≤ 100000 then some (e, i.size) else none | none => none
  | _ => none
def most : SX := .i 1000000
def appendX (P : Program) (G0 : Nat) (s : St) (id : Nat) (t : TypeId) (dst src : LX) : Option (St × LX × List SX) :=
  match elemX P t with
  | none => none
  | some (e, sz) =>
    if G0 ≤ id ∧ s.fr (nid id) = true then
      match src with
      | .sb d2 1 =>
        match blockX s d2 with
        | some (_, cs) =>
          match kindsOf cs with
          | some ks =>
            if cs.length = sz ∧ zeroKs P e = some ks then
              match dst with
              | .ns => some ({ s with hp := insBk ⟨id, .row ks (.i 1) id⟩ s.hp, cd := .u id none (.i 0) sz 0 cs :: s.cd }, .sl id (.i 1), [])
              | .sl d len =>
                match ownOf s d with
                | some (ks', len', ct) =>
                  if ks' = ks ∧ len' = len then some ({ s with hp := insBk ⟨id, .row ks (.mkO .add .i64 len (.i 1)) id⟩ (delB s d).hp, cd := .u id (some ct) len sz 0 cs :: s.cd }, .sl id (.mkO .add .i64 len (.i 1)), [geZ len, .mkC .leq len most]) else none
                | none => none
              | .sn c y =>
                match nrCt s c with
                | some (d, ks', l) =>
                  if ks' = ks then some ({ s with hp := insBk ⟨id, .row ks (.mkO .add .i64 (.r c 1 0 y) (.i 1)) id⟩ (setB s d (.nr ks l c (some y))).hp, cd := .a id c y sz cs :: s.cd }, .sl id (.mkO .add .i64 (.r c 1 0 y) (.i 1)), [geZ y, .mkC .lss y l, .mkC .leq (.r c 1 0 y) most]) else none
                | none => none
              | _ => none
            else none
          | none => none
        | none => none
      | .sl d2 l2 =>
        match dst, rowOf s d2 with
        | .sb d1 0, some (ks, l2', ct) =>
          match blockX s d1 with
          | some (_, []) => if l2' = l2 ∧ ks.length = sz ∧ zeroKs P e = some ks ∧ d1 ≠ d2 then some ({ s with hp := insBk ⟨id, .row ks l2 ct⟩ (delB s d1).hp }, .sl id l2, [geZ l2, .mkC .leq l2 most]) else none
          | _ => none
        | _, _ => none
      | .ns =>
        match dst with
        | .sb d1 0 =>
          match blockX s d1, zeroKs P e with
          | some (_, []), some ks => if ks.length = sz then some ({ s with hp := insBk ⟨id, .row ks (.i 0) id⟩ (delB s d1).hp, cd := .z id :: s.cd }, .sl id (.i 0), []) else none
          | _, _ => none
        | _ => none
      | .sb d2 k2 =>
        match dst with
        | .sb d1 m =>
          match blockX s d1, blockX s d2, zeroKs P e with
          | some (_, xs), some (_, ys), some [q] =>
            if sz = 1 ∧ (xs.length = m ∧ ys.length = k2) ∧ 0 < ys.length ∧ xs.length + ys.length ≤ 1000 ∧ kindsX xs (List.replicate xs.length q) = true ∧ kindsX ys (List.replicate ys.length q) = true then
              some ({ s with hp := insBk ⟨id, .row [q] (.i ((xs.length + ys.length : Nat) : Int)) id⟩ s.hp }, .sl id (.i ((xs.length + ys.length : Nat) : Int)), [])
            else none
          | _, _, _ => none
        | _ => none
      | _ => none
    else none
def makeX (P : Program) (G0 : Nat) (s : St) (id : Nat) (t : TypeId) (n : SX) : Option (St × LX × List SX) :=
  match elemX P t with
  | none => none
  | some (e, sz) =>
    if G0 ≤ id ∧ s.fr (nid id) = true then
      match P.underlying e with
      | some (.slice e2) =>
        match (P.info? e).bind (·.zero), zeroKs P e2 with
        | some (.slice none 0 0), some ks => if sz = 1 then some ({ s with hp := insBk ⟨id, .nr ks n id none⟩ s.hp, cd := .z id :: s.cd }, .sl id n, [geZ n, .mkC .leq n most]) else none
        | _, _ => none
      | _ =>
        match zeroKs P e with
        | some ks => if ks.length = sz then some ({ s with hp := insBk ⟨id, .row ks n id⟩ s.hp, cd := .z id :: s.cd }, .sl id n, [geZ n, .mkC .leq n most]) else none
        | none => none
    else none
def stepX (P : Program) (inl : Inl) (G : Cfg) (id : Nat) (o : Oper) (s : St) : Option (List St × List Ob) :=
  match o.op with
  | .alloc t =>
    if G.n0 ≤ id ∧ s.fr (nid id) = true then
      match (P.info? t).bind (·.zero) with
      | some z => (ofLs z.cells.toList).map fun cs => ([{ s with hp := insBk ⟨id, .cells t cs⟩ s.hp }.put o.dst (.v (.l (.p id 0)))], [])
      | none => none
    else none
  | .box t x =>
    if G.n0 ≤ id ∧ s.fr (nid id) = true then (evP [] s x).map fun p => ([{ s with hp := insBk ⟨id, .cells t p.cells⟩ s.hp }.put o.dst (.v (.l (.p id 0)))], []) else none
  | .buildSlice t n parts =>
    match elemX P t, partsX [] s parts.toList with
    | some (e, sz), some ps =>
      if G.n0 ≤ id ∧ s.fr (nid id) = true then
        if sz = 1 ∧ 2 ≤ n ∧ n ≤ 1000 then
          match (oneZ P e).bind fun z => fillX (fun i => some (i * 1, 1)) (List.replicate n z) ps with
          | some cs => some ([{ s with hp := insBk ⟨id, .cells e cs⟩ s.hp }.put o.dst (.v (.l (.sb id n)))], [])
          | none => none
        else
        match n, ps with
        | 0, [] => some ([{ s with hp := insBk ⟨id, .cells e []⟩ s.hp }.put o.dst (.v (.l (.sb id 0)))], [])
        | 1, [(0, p)] =>
          match zeroKs P e with
          | some ks => if p.cells.length = sz ∧ ks.length = sz ∧ 0 < sz ∧ sz ≤ 1000 then some ([{ s with hp := insBk ⟨id, .cells e p.cells⟩ s.hp }.put o.dst (.v (.l (.sb id 1)))], []) else none
          | none => none
        | 2, [(0, p), (1, q)] =>
          match zeroKs P e with
          | some ks => if kindsOf p.cells = some ks ∧ kindsOf q.cells = some ks ∧ ks.length = sz ∧ 0 < sz ∧ sz ≤ 1000 then some ([{ s with hp := insBk ⟨id, .row ks (.i 2) id⟩ s.hp, cd := .u id none (.i 0) sz 0 (p.cells ++ q.cells) :: s.cd }.put o.dst (.v (.l (.sl id (.i 2))))], []) else none
          | none => none
        | _, _ => none
      else none
    | _, _ => none
  | .makeSlice t len cap =>
    match evP [] s len, evP [] s cap with
    | some (.l (.n .i64 n)), some (.l (.n .i64 n')) => if n = n' then (makeX P G.n0 s id t n).map fun (s', v, xs) => ([s'.put o.dst (.v (.l v))], owe s xs) else none
    | _, _ => none
  | .makeMap t none =>
    match P.underlying t with
    | some (.map kt et) =>
      match P.underlying kt, P.underlying et with
      | some (.int kk), some (.int kv) => if G.n0 ≤ id ∧ s.fr (nid id) = true then some ([{ s with hp := insBk ⟨id, .map kk kv id⟩ s.hp, cd := .z id :: s.cd }.put o.dst (.v (.l (.mp id)))], []) else none
      | _, _ => none
    | _ => none
  | .lookup t x ix ok =>
    match P.underlying t, evP [] s x, evP [] s ix with
    | some (.map kt et), some (.l (.mp d)), some (.l (.n k i)) =>
      match mapOf s d, P.underlying kt, (P.info? et).bind (·.zero) with
      | some (kk, kv, ct), some (.int kk'), some (.int kv' 0) =>
        if kk = k ∧ kk' = kk ∧ kv = kv' then some ([s.put o.dst (if ok then .tp [.l (.n kv (.r ct 1 0 i)), .l (.t (.r ct 1 0 i))] else .v (.l (.n kv (.r ct 1 0 i))))], owe s [geZ i]) else none
      | _, _, _ => none
    | _, _, _ => none
  | .mapUpdate t x ix v =>
    match P.underlying t, evP [] s x, evP [] s ix, evP [] s v with
    | some (.map kt _), some (.l (.mp d)), some (.l (.n k i)), some (.l (.n kv' y)) =>
      match mapOf s d, P.underlying kt with
      | some (kk, kv, ct), some (.int kk') =>
        if kk = k ∧ kk' = kk ∧ kv = kv' ∧ G.n0 ≤ id ∧ s.fr (nid id) = true then some ([{ setB s d (.map kk kv id) with cd := .w id ct i (.n kv y) :: s.cd }.put o.dst .un], owe s [geZ i]) else none
      | _, _ => none
    | _, _, _, _ => none
  | .slice t x none (some h) none =>
    match P.underlying t, evP [] s x, evP [] s h with
    | some (.slice _), some (.l (.sl d len)), some (.l (.n _ i)) =>
      match ownOf s d with
      | some (ks, len', ct) => if len' = len ∧ (elemX P t).isSome = true then some ([(setB s d (.row ks i ct)).put o.dst (.v (.l (.sl d i)))], owe s [geZ i, .mkC .leq i len]) else none
      | none => none
    | _, _, _ => none
  | .load t a =>
    match evP [] s a with
    | some (.l a) => (loadX P s t a).map fun (v, xs) => ([s.put o.dst (.v v)], owe s xs)
    | _ => none
  | .store t a x =>
    match evP [] s a, evP [] s x with
    | some (.l a), some v => (storeX P G.n0 s id t a v).map fun (s', xs) => ([s'.put o.dst .un], owe s xs)
    | _, _ => none
  | .call { callee := .builtin .append, args, argTypes } =>
    match evPs [] s args.toList, argTypes.toList with
    | some [.l dst, .l src], [t, t'] => if t = t' then (appendX P G.n0 s id t dst src).map fun (s', v, xs) => ([s'.put o.dst (.v (.l v))], owe s xs) else none
    | _, _ => none
  | .call { callee := .value (.func f), args, .. } =>
    match evPs [] s args.toList with
    | none => none
    | some ps =>
      match findSg f 0 G.sg with
      | some (k, g) =>
        let ads := ps.map fun p => (p, ctOfP s p)
        match (if g.det then earlier k ads s.cd else none) with
        | some d => if fitsX s g.args ps = true then some ([s.put o.dst (g.res.inst d)], if g.np then [] else [.pre s.cd k ads]) else none
        | none =>
          if fitsX s g.args ps = true ∧ G.n0 ≤ id ∧ s.fr (nid id) = true then some ([{ s with cd := .f id k ads :: s.cd, hp := g.res.blk id ++ s.hp }.put o.dst (g.res.inst id)], if g.np then [] else [.pre s.cd k ads]) else none
      | none => if f ∈ G.inl then (inl G f ps s).map fun (rs, os) => (rs.map fun (v, s') => s'.put o.dst v, os) else none
  | .call { callee := .value (.tmp t), args, .. } =>
    match evP [] s (.tmp t), evPs [] s args.toList with
    | some (.l (.fn f caps)), some ps => if f ∈ G.inl then (inl G f (ps ++ caps.map fun p => .l (.p p.1 p.2)) s).map fun (rs, os) => (rs.map fun (v, s') => s'.put o.dst v, os) else none
    | _, _ => none
  | op => (evPure P [] s op).map fun (v, xs) => ([s.put o.dst v], owe s xs)

def clX : Ob → Option SX
  | .cl _ x => some x
  | _ => none
def isCall : Op → Bool
  | .call { callee := .value _, .. } => true
  | _ => false
def St.plus (s : St) (xs : List SX) : St := { s with cd := xs.map (Cd.c · true) ++ s.cd }
/-- An operation; what is owed is known from then on. -/
def stepY (P : Program) (inl : Inl) (G : Cfg) (id : Nat) (o : Oper) (s : St) : Option (List St × List Ob) :=
  match stepX P inl G id o s with
  | none => none
  | some (ss, os) =>
    if isCall o.op then some (ss, os) else
    match os with
    | [] => some (ss, os)
    | _ => (stepX P inl G id o (s.plus (os.filterMap clX))).map fun (ss', os') => (ss', os ++ os')
/-- An operation behind a test that is not known, run as if: it leaves x if y. -/
def specX (P : Program) (G : Cfg) (id : Nat) (o : Oper) (y : SX) (s : St) : Option (St × List Ob) :=
  match o.op with
  | .load t a =>
    match evP (comps y) s a with
    | some (.l a) => match loadX P s t a with | some (v, xs) => some (s.put o.dst (.gd y v), oweH s (comps y) xs) | _ => none
    | _ => none
  | .call { callee := .value (.func f), args, .. } =>
    match findSg f 0 G.sg, evPs (comps y) s args.toList with
    | some (k, g), some ps =>
      let ads := ps.map fun p => (p, ctOfP s p)
      if g.det = true ∧ fitsX s g.args ps = true then
        match earlier k ads s.cd with
        | some d => match g.res.inst d with | .v x => some (s.put o.dst (.gd y x), if g.np then [] else [.pre ((comps y).map (Cd.c · true) ++ s.cd) k ads]) | _ => none
        | none =>
          if G.n0 ≤ id ∧ s.fr (nid id) = true ∧ y.fr (nid id) = true then
            match g.res.inst id with | .v x => some ({ s with cd := .f id k ads :: s.cd }.put o.dst (.gd y x), if g.np then [] else [.pre ((comps y).map (Cd.c · true) ++ s.cd) k ads]) | _ => none
          else none
      else none
    | _, _ => none
  | op => match evPure P (comps y) s op with | some (.v x, xs) => some (s.put o.dst (.gd y x), oweH s (comps y) xs) | _ => none
inductive Md where
  | run | skip | spec (y : SX)
def ask3 (cs : List Cd) (y : SX) : Option Bool :=
  if (comps y).all (fun z => ask cs z == some true) then some true else if (comps y).any (fun z => ask cs z == some false) then some false else if ask cs y = some false then some false else none
/-- The guard of an operation: runs it, leaves it, runs it as if, or parts. -/
def guardX (P : Program) (G : Cfg) (id : Nat) (ops : Array Oper) (o : Oper) (s : St) : Option (List (Md × St)) :=
  let on (y : SX) : Option (List (Md × St)) :=
    match ask3 s.cd y with
    | some true => some [(.run, s)]
    | some false => some [(.skip, s)]
    | none => if (specX P G id o y s).isSome then some [(.spec y, s)] else some [(.run, { s with cd := addCd y true ++ s.cd }), (.skip, { s with cd := addCd y false ++ s.cd })]
  match o.guard with
  | none => some [(.run, s)]
  | some (j, want) =>
    match ((ops[j]?).bind (·.dst)).bind (s.tm[·]?) with
    | some .un => some [(.skip, s)]
    | some (.v (.l (.t x))) => on (if want then x else x.mkNo)
    | some (.gd c (.l (.t x))) => on (.mkAn c (if want then x else x.mkNo))
    | _ => none
def operX (P : Program) (inl : Inl) (G : Cfg) (ops : Array Oper) (id : Nat) (o : Oper) : List (Md × St) → Option (List St × List Ob)
  | [] => some ([], [])
  | (.run, s) :: rest => match stepY P inl G id o s, operX P inl G ops id o rest with | some (s', os), some (ss, os') => some (s' ++ ss, os ++ os') | _, _ => none
  | (.spec y, s) :: rest => match specX P G id o y s, operX P inl G ops id o rest with | some (s', os), some (ss, os') => some (s' :: ss, os ++ os') | _, _ => none
  | (.skip, s) :: rest => match operX P inl G ops id o rest with | some (ss, os') => some (s.put o.dst .un :: ss, os') | none => none
def runX (P : Program) (inl : Inl) (G : Cfg) (ops : Array Oper) (id : Nat) (o : Oper) : List St → Option (List St × List Ob)
  | [] => some ([], [])
  | s :: rest => match (guardX P G id ops o s).bind (operX P inl G ops id o), runX P inl G ops id o rest with | some (a, x), some (b, y) => some (a ++ b, x ++ y) | _, _ => none
/-- A region in the order of the text. -/
def textX (P : Program) (inl : Inl) (G : Cfg) (ops : Array Oper) (nx : Nat) : List Nat → List St → Option (List St × List Ob)
  | [], ss => some (ss, [])
  | i :: is, ss =>
    match ops[i]? with
    | none => none
    | some o => match runX P inl G ops (nx + 4 * i) o ss with
      | some (ss', os) => (textX P inl G ops nx is ss').map fun (r, os') => (r, os ++ os')
      | none => none
def isPure : Op → Bool
  | .move _ | .assign _ | .pick .. | .unOp .. | .binOp .. | .convert .. | .fieldAddr .. | .indexAddr .. | .field .. | .build .. | .extract .. | .nilCheck _ => true
  | .call { callee := .builtin .len, .. } | .call { callee := .builtin .max, .. } | .call { callee := .builtin .min, .. } => true
  | _ => false
/-! Equality by truth values: cheap for the kernel. -/
def SX.bq : SX → SX → Bool
  | .i m, .i m' => decide (m = m')
  | .b m, .b m' => m == m'
  | .v d j, .v d' j' => d == d' && j == j'
  | .r d sz j x, .r d' sz' j' x' => d == d' && sz == sz' && j == j' && SX.bq x x'
  | .r2 d y sz j x, .r2 d' y' sz' j' x' => d == d' && sz == sz' && j == j' && SX.bq y y' && SX.bq x x'
  | .o p k x y, .o p' k' x' y' => decide (p = p') && decide (k = k') && SX.bq x x' && SX.bq y y'
  | .c p x y, .c p' x' y' => decide (p = p') && SX.bq x x' && SX.bq y y'
  | .no x, .no x' => SX.bq x x'
  | .eq x y, .eq x' y' => SX.bq x x' && SX.bq y y'
  | .an x y, .an x' y' => SX.bq x x' && SX.bq y y'
  | .it g x y, .it g' x' y' => SX.bq g g' && SX.bq x x' && SX.bq y y'
  | .cv k x, .cv k' x' => decide (k = k') && SX.bq x x'
  | .mx x y, .mx x' y' => SX.bq x x' && SX.bq y y'
  | .mn x y, .mn x' y' => SX.bq x x' && SX.bq y y'
  | _, _ => false
def LX.bq : LX → LX → Bool
  | .n k x, .n k' x' => decide (k = k') && x.bq x'
  | .t x, .t x' => x.bq x'
  | .p d z, .p d' z' => d == d' && z == z'
  | .pi d z m sz x z2, .pi d' z' m' sz' x' z2' => d == d' && z == z' && m == m' && sz == sz' && z2 == z2' && x.bq x'
  | .q d sz x z, .q d' sz' x' z' => d == d' && sz == sz' && z == z' && x.bq x'
  | .qn d y sz x z, .qn d' y' sz' x' z' => d == d' && sz == sz' && z == z' && y.bq y' && x.bq x'
  | .sl d l, .sl d' l' => d == d' && l.bq l'
  | .sb d l, .sb d' l' => d == d' && l == l'
  | .sn d l, .sn d' l' => d == d' && l.bq l'
  | .mp d, .mp d' => d == d'
  | .fn d l, .fn d' l' => decide (d = d') && decide (l = l')
  | .np, .np => true
  | .ns, .ns => true
  | .nm, .nm => true
  | _, _ => false
def PX.bq : PX → PX → Bool
  | .l x, .l y => x.bq y
  | .a xs, .a ys => bqL LX.bq xs ys
  | _, _ => false
def VX.bq : VX → VX → Bool
  | .v x, .v y => x.bq y
  | .tp xs, .tp ys => bqL PX.bq xs ys
  | .un, .un => true
  | .any, .any => true
  | .gd g x, .gd g' x' => g.bq g' && x.bq x'
  | _, _ => false
def kbq : Option IntKind → Option IntKind → Bool
  | none, none => true
  | some a, some b => decide (a = b)
  | _, _ => false
def obq {α : Type} (f : α → α → Bool) : Option α → Option α → Bool
  | none, none => true
  | some a, some b => f a b
  | _, _ => false
def Bd.bq : Bd → Bd → Bool
  | .cells t cs, .cells t' cs' => t == t' && bqL LX.bq cs cs'
  | .row ks l c, .row ks' l' c' => bqL kbq ks ks' && l.bq l' && c == c'
  | .map a b c, .map a' b' c' => decide (a = a') && decide (b = b') && c == c'
  | .nr ks l c h, .nr ks' l' c' h' => bqL kbq ks ks' && l.bq l' && c == c' && obq SX.bq h h'
  | _, _ => false
def Bk.bq (b c : Bk) : Bool := b.id == c.id && b.bd.bq c.bd
def argBq (p q : PX × Nat) : Bool := p.1.bq q.1 && p.2 == q.2
def Cd.bq : Cd → Cd → Bool
  | .c x v, .c x' v' => v == v' && x.bq x'
  | .f d k xs, .f d' k' xs' => d == d' && k == k' && bqL argBq xs xs'
  | .g d m k, .g d' m' k' => d == d' && m == m' && k == k'
  | .z d, .z d' => d == d'
  | .u d s x sz o cs, .u d' s' x' sz' o' cs' => d == d' && obq (fun p q => p == q) s s' && x.bq x' && sz == sz' && o == o' && bqL LX.bq cs cs'
  | .w d y x v, .w d' y' x' v' => d == d' && y == y' && x.bq x' && v.bq v'
  | .a d y x o cs, .a d' y' x' o' cs' => d == d' && y == y' && x.bq x' && o == o' && bqL LX.bq cs cs'
  | .nu d y x r q m, .nu d' y' x' r' q' m' => d == d' && y == y' && x.bq x' && r == r' && q == q' && m.bq m'
  | _, _ => false
def St.bq (s t : St) : Bool := bqL VX.bq s.tm t.tm && bqL Bk.bq s.hp t.hp && bqL Cd.bq s.cd t.cd && s.nx == t.nx && decide (s.rw = t.rw) && bqL (bqL VX.bq) s.up t.up
/-- States by what is done: a tree. -/
inductive Tr where
  | nil | node (ss : List St) (a b : Tr)
def addS (s : St) : List St → List St
  | [] => [s]
  | t :: ts => if s.bq t then t :: ts else t :: addS s ts
def Tr.ins (s : St) : List Bool → Tr → Tr
  | [], .nil => .node [s] .nil .nil
  | [], .node ss a b => .node (addS s ss) a b
  | true :: l, .nil => .node [] (Tr.ins s l .nil) .nil
  | false :: l, .nil => .node [] .nil (Tr.ins s l .nil)
  | true :: l, .node ss a b => .node ss (Tr.ins s l a) b
  | false :: l, .node ss a b => .node ss a (Tr.ins s l b)
def Tr.all (pre : List Bool) : Tr → List (List Bool × St)
  | .nil => []
  | .node ss a b => ss.map (fun s => (pre.reverse, s)) ++ (Tr.all (true :: pre) a ++ Tr.all (false :: pre) b)
def Tr.fill : List (List Bool × St) → Tr → Tr
  | [], t => t
  | e :: es, t => Tr.fill es (t.ins e.2 e.1)
def dedupT (es : List (List Bool × St)) : List (List Bool × St) := (Tr.fill es .nil).all []
/-! What is known stands in an order that does not hang on the order of its coming. -/
def SX.key : SX → Nat
  | .i n => n.natAbs * 7 + 1
  | .b u => if u then 2 else 3
  | .v d j => (d * 1009 + j) * 11 + 4
  | .r d sz j x => (SX.key x * 31 + d * 1013 + sz * 17 + j) * 13 % 1000000007
  | .r2 d y sz j x => (SX.key x * 37 + SX.key y * 41 + d * 1013 + sz * 17 + j) * 17 % 1000000007
  | .o _ _ x y => (SX.key x * 43 + SX.key y * 47 + 5) % 1000000007
  | .c _ x y => (SX.key x * 53 + SX.key y * 59 + 6) % 1000000007
  | .no x => (SX.key x * 61 + 7) % 1000000007
  | .eq x y => (SX.key x * 67 + SX.key y * 71 + 8) % 1000000007
  | .an x y => (SX.key x * 73 + SX.key y * 79 + 9) % 1000000007
  | .it g x y => (SX.key g * 83 + SX.key x * 89 + SX.key y * 97 + 10) % 1000000007
  | .cv _ x => (SX.key x * 101 + 11) % 1000000007
  | .mx x y => (SX.key x * 103 + SX.key y * 107 + 12) % 1000000007
  | .mn x y => (SX.key x * 109 + SX.key y * 113 + 13) % 1000000007
def Cd.key : Cd → Nat
  | .c x v => SX.key x * 2 + (if v then 1 else 0)
  | .f d _ _ | .g d _ _ | .z d | .u d _ _ _ _ _ | .w d _ _ _ | .a d _ _ _ _ | .nu d _ _ _ _ _ => 3000000000 + d
def insC (c : Cd) : List Cd → List Cd
  | [] => [c]
  | d :: ds => if d.key ≤ c.key then c :: d :: ds else d :: insC c ds
def sortC : List Cd → List Cd
  | [] => []
  | c :: cs => insC c (sortC cs)
def St.norm (s : St) : St := { s with cd := sortC s.cd }
/-- One operation more, in each order that the edges allow. -/
def moreX (P : Program) (inl : Inl) (G : Cfg) (ops : Array Oper) (nx : Nat) (l : List Bool) (s : St) : Option (List (List Bool × St) × List Ob) :=
  let rs := readyF ops l
  match rs with
  | [] => some ([(l, s)], [])
  | rs =>
    match rs.find? fun i => ((ops[i]?).map fun o => isPure o.op).getD false && freeF ops l i with
    | some i => one i
    | none => all rs
where
  one (i : Nat) : Option (List (List Bool × St) × List Ob) :=
    match ops[i]? with
    | none => none
    | some o => (runX P inl G ops (nx + 4 * i) o [s]).map fun (ss, os) => (ss.map fun s' => (l.set i true, s'.norm), os)
  all : List Nat → Option (List (List Bool × St) × List Ob)
    | [] => some ([], [])
    | i :: is => match one i, all is with | some (a, x), some (b, y) => some (a ++ b, x ++ y) | _, _ => none
def layerX (P : Program) (inl : Inl) (G : Cfg) (ops : Array Oper) (nx : Nat) : List (List Bool × St) → Option (List (List Bool × St) × List Ob)
  | [] => some ([], [])
  | (l, s) :: rest => match moreX P inl G ops nx l s, layerX P inl G ops nx rest with | some (a, x), some (b, y) => some (a ++ b, x ++ y) | _, _ => none
def drawX (P : Program) (inl : Inl) (G : Cfg) (ops : Array Oper) (nx : Nat) : Nat → List (List Bool × St) → Option (List St × List Ob)
  | 0, es => if es.all (fun e => (readyF ops e.1).isEmpty) then some (dedup (es.map (·.2)), []) else none
  | n + 1, es =>
    match layerX P inl G ops nx es with
    | some (es', os) => (drawX P inl G ops nx n (dedupT es')).map fun (r, os') => (r, os ++ os')
    | none => none
def regionX (P : Program) (inl : Inl) (G : Cfg) (ops : Array Oper) (draw : Bool) (s : St) : Option (List St × List Ob) :=
  let s1 : St := { s with nx := s.nx + 4 * ops.size }
  let r := if draw then (if Region.noSelect ops then drawX P inl G ops s.nx ops.size [(List.replicate ops.size false, s1)] else none) else textX P inl G ops s.nx (List.range ops.size) [s1]
  r.map fun (ss, os) => (ss, dedup os)

def havocT (d : Nat) (tm : List VX) (t j : Nat) (k : Option IntKind) : List VX := tm.set t (.v (.l (leafX d j k)))
def anyT (tm : List VX) : List Nat → List VX
  | [] => tm
  | t :: ts => (anyT tm ts).set t .any
def sameT : List VX → List VX → Bool
  | [], [] => true
  | .any :: xs, _ :: ys => sameT xs ys
  | x :: xs, y :: ys => x.bq y && sameT xs ys
  | _, _ => false
def numAt (s : St) (t : Nat) : Option SX := match s.tm[t]? with | some (.v (.l (.n _ x))) => some x | _ => none

/-! ### Loops by an invariant: the state at the head. -/
/-- What stands at a place. -/
def atX (s : St) : HL → Option LX
  | .s t => match s.tm[t]? with | some (.v (.l x)) => some x | _ => none
  | .c t o => match s.tm[t]? with | some (.v (.l (.p d 0))) => (match blockX s d with | some (_, cs) => cs[o]? | none => none) | _ => none
def putAt (s : St) (l : HL) (x : LX) : St :=
  match l with
  | .s t => { s with tm := s.tm.set t (.v (.l x)) }
  | .c t o => match s.tm[t]? with | some (.v (.l (.p d 0))) => (match blockX s d with | some (ty, cs) => setB s d (.cells ty (cs.set o x)) | none => s) | _ => s
/-- The state at the head: the places are turned into variables: scalars j, j + 1, .. of the name d; contents and rows: the names m, m + 1, .. -/
def headX (d : Nat) : List Hv → Nat → Nat → St → Option St
  | [], _, _, s => some s
  | .num l k :: r, j, m, s => headX d r (j + 1) m (putAt s l (leafX d j k))
  | .ct l :: r, j, m, s =>
    match atX s l with
    | some (.sl b _) | some (.mp b) => match objX s b with | some ⟨_, bd⟩ => headX d r j (m + 1) (setB s b (recon bd m)) | none => none
    | _ => none
  | .row l ks :: r, j, m, s =>
    match atX s l with
    | some (.sl b _) => headX d r (j + 1) (m + 1) (putAt { (delB s b) with hp := insBk ⟨m, .row ks (.v d j) m⟩ (delB s b).hp } l (.sl m (.v d j)))
    | some .ns => headX d r (j + 1) (m + 1) (putAt { s with hp := insBk ⟨m, .row ks (.v d j) m⟩ s.hp } l (.sl m (.v d j)))
    | _ => none
def names : List Hv → Nat
  | [] => 0
  | .num _ _ :: r => names r
  | _ :: r => names r + 1
/-- What the variables of the head stand for in another state: the scalars; the objects (of a slice: its row and content). -/
def takeX (s : St) : List Hv → Option (List LX × List (Option (Nat × Nat)))
  | [] => some ([], [])
  | .num l k :: r =>
    match atX s l, k, takeX s r with
    | some (.n k' x), some k, some (xs, ms) => if k = k' then some (.n k' x :: xs, ms) else none
    | some (.t x), none, some (xs, ms) => some (.t x :: xs, ms)
    | _, _, _ => none
  | .ct l :: r =>
    match atX s l, takeX s r with
    | some (.sl b _), some (xs, ms) | some (.mp b), some (xs, ms) => match objX s b with
      | some ⟨_, .row _ _ ct⟩ | some ⟨_, .map _ _ ct⟩ | some ⟨_, .nr _ _ ct _⟩ => some (xs, some (ct, ct) :: ms)
      | _ => none
    | _, _ => none
  | .row l ks :: r =>
    match atX s l, takeX s r with
    | some .ns, some (xs, ms) => some (.n .i64 (.i 0) :: xs, none :: ms)
    | some (.sl b len), some (xs, ms) => match ownOf s b with | some (_, _, ct) => some (.n .i64 len :: xs, some (b, ct) :: ms) | none => none
    | _, _ => none
/-- A term of the head is, in the other state, this one. -/
def eqS (d : Nat) (xs : List LX) (h c : SX) : Bool := (h.bq c && h.fr fun x => decide (x < d)) || match h with | .v d' j => d' == d && (match xs[j]? with | some (.n _ y) => y.bq c | _ => false) | _ => false
def eqL (d : Nat) (xs : List LX) (ms : List (Option (Nat × Nat))) (h c : LX) : Bool :=
  (h.bq c && h.fr fun x => decide (x < d)) ||
  match h, c with
  | .n k (.v d' j), .n k' y => d' == d && decide (k = k') && (match xs[j]? with | some (.n _ z) => z.bq y | _ => false)
  | .t (.v d' j), .t y => d' == d && (match xs[j]? with | some (.t z) => z.bq y | _ => false)
  | .sl m (.v d' j), .sl b len => decide (d < m) && d' == d && (match xs[j]? with | some (.n _ z) => z.bq len | _ => false) && (match ms[m - (d + 1)]? with | some (some (b', _)) => b' == b | _ => false)
  | .sl m (.v d' j), .ns => decide (d < m) && d' == d && (match xs[j]? with | some (.n _ (.i 0)) => true | _ => false) && (match ms[m - (d + 1)]? with | some none => true | _ => false)
  | _, _ => false
def eqLs (d : Nat) (xs : List LX) (ms : List (Option (Nat × Nat))) : List LX → List LX → Bool
  | [], [] => true
  | h :: hs, c :: cs => eqL d xs ms h c && eqLs d xs ms hs cs
  | _, _ => false
/-- A content of the head is, in the other state, this one. -/
def eqC (d : Nat) (ms : List (Option (Nat × Nat))) (h c : Nat) : Bool := (h == c && decide (h < d)) || (decide (d < h) && match ms[h - (d + 1)]? with | some (some (_, c')) => c' == c | _ => false)
def zeroAt (xs : List LX) (j : Nat) : Bool := match xs[j]? with | some (.n _ (.i 0)) => true | _ => false
/-- The object of the other state that stands for one of the head; none: a nil slice; the outer none: there is no such. -/
def mateX (d : Nat) (xs : List LX) (ms : List (Option (Nat × Nat))) (s : St) (b : Bk) : Option (Option Bk) :=
  match b with
  | ⟨id, .cells ty hs⟩ => match objX s id with | some ⟨id', .cells ty' cs⟩ => if decide (id < d) && ty == ty' && eqLs d xs ms hs cs then some (some ⟨id', .cells ty' cs⟩) else none | _ => none
  | ⟨id, .map kk kv ct⟩ => match objX s id with | some ⟨id', .map kk' kv' ct'⟩ => if decide (id < d) && decide (kk = kk') && decide (kv = kv') && eqC d ms ct ct' then some (some ⟨id', .map kk' kv' ct'⟩) else none | _ => none
  | ⟨id, .nr ks len ct none⟩ => match objX s id with | some ⟨id', .nr ks' len' ct' none⟩ => if decide (id < d) && bqL kbq ks ks' && eqS d xs len len' && eqC d ms ct ct' then some (some ⟨id', .nr ks' len' ct' none⟩) else none | _ => none
  | ⟨_, .nr _ _ _ (some _)⟩ => none
  | ⟨id, .row ks len ct⟩ =>
    if id < d then match objX s id with | some ⟨id', .row ks' len' ct'⟩ => if bqL kbq ks ks' && eqS d xs len len' && eqC d ms ct ct' then some (some ⟨id', .row ks' len' ct'⟩) else none | _ => none
    else if id == d || !(ct == id) then none else
    match ms[id - (d + 1)]?, len with
    | some none, .v d' j => if d' == d && zeroAt xs j then some none else none
    | some (some (b, c)), len => match objX s b with | some ⟨id', .row ks' len' ct'⟩ => if bqL kbq ks ks' && eqS d xs len len' && c == ct' then some (some ⟨id', .row ks' len' ct'⟩) else none | _ => none
    | _, _ => none
def matesX (d : Nat) (xs : List LX) (ms : List (Option (Nat × Nat))) (s : St) : List Bk → Option (List (Option Bk))
  | [] => some []
  | b :: bs => match mateX d xs ms s b, matesX d xs ms s bs with | some m, some l => some (m :: l) | _, _ => none
def nodupX : List (Option Bk) → Bool
  | [] => true
  | none :: l => nodupX l
  | some b :: l => l.all (fun c => match c with | some c => !(c.id == b.id) | none => true) && nodupX l
/-- The slots of the head are, in the other state, these. -/
def slotsX (d : Nat) (xs : List LX) (ms : List (Option (Nat × Nat))) : List VX → List VX → Bool
  | [], [] => true
  | .any :: hs, _ :: cs => slotsX d xs ms hs cs
  | .v (.l h) :: hs, .v (.l c) :: cs => eqL d xs ms h c && slotsX d xs ms hs cs
  | h :: hs, c :: cs => h.bq c && h.fr (fun x => decide (x < d)) && slotsX d xs ms hs cs
  | _, _ => false
def nodN : List Nat → Bool
  | [] => true
  | x :: xs => xs.all (fun y => !(y == x)) && nodN xs
/-- The other state is one of the head's. -/
def meetX (d : Nat) (hv : List Hv) (h s : St) : Option (List LX × List (Option (Nat × Nat))) :=
  match takeX s hv with
  | some (xs, ms) =>
    match matesX d xs ms s h.hp with
    | some l => if nodupX l && nodN (h.hp.map (·.id)) && slotsX d xs ms h.tm s.tm && ms.length == names hv && decide (h.rw = s.rw) && h.rw.all (·.fr fun x => decide (x < d)) then some (xs, ms) else none
    | none => none
  | none => none
def thenX (f : St → Option (List (Ex × St) × List Ob)) : List (Ex × St) → Option (List (Ex × St) × List Ob)
  | [] => some ([], [])
  | (.nor, s) :: r => match f s, thenX f r with | some (a, x), some (b, y) => some (a ++ b, x ++ y) | _, _ => none
  | x :: r => (thenX f r).map fun (b, y) => (x :: b, y)
def unrollX (f : St → Option (List (Ex × St) × List Ob)) : Nat → St → Option (List (Ex × St) × List Ob)
  | 0, _ => none
  | m + 1, s =>
    match f s with
    | some (es, os) => (thenX (unrollX f m) es).map fun (r, os') => (r, os ++ os')
    | none => none
def upX (s : St) : Nat ⊕ SX → Option SX
  | .inl t => numAt s t
  | .inr x => some x
/-- The ends of a round: what is owed. -/
def roundX (d : Nat) (l : Lp) (up : SX) (h : St) : List (Ex × St) → Option (List (Ex × St) × List Ob)
  | [] => some ([], [])
  | (.nor, s) :: r =>
    match meetX d l.hv h s, numAt h l.c, numAt s l.c, roundX d l up h r with
    | some (xs, ms), some x, some x', some (b, y) =>
      if x.fr (fun z => decide (z < d + names l.hv + 1)) = true then
        some (b, .inv s.cd l.k d xs ms :: .cl s.cd (.mkC .lss x x') :: .cl s.cd (.mkC .lss x up) :: y) else none
    | _, _, _, _ => none
  | x :: r => (roundX d l up h r).map fun (b, y) => (x :: b, y)
def hvSlots : List Hv → List Nat
  | [] => []
  | .num (.s t) _ :: r | .ct (.s t) :: r | .row (.s t) _ :: r => t :: hvSlots r
  | _ :: r => hvSlots r
/-! What is not reached from the slots is forgotten. -/
def LX.ids : LX → List Nat
  | .p d _ | .pi d _ _ _ _ _ | .q d _ _ _ | .sl d _ | .sb d _ | .mp d => [d]
  | .fn _ c => c.map (·.1)
  | _ => []
def PX.ids : PX → List Nat
  | .l x => x.ids
  | .a xs => xs.flatMap LX.ids
def VX.ids : VX → List Nat
  | .v x => x.ids
  | .tp xs => xs.flatMap PX.ids
  | .gd _ x => x.ids
  | _ => []
def memN (x : Nat) : List Nat → Bool
  | [] => false
  | y :: ys => x == y || memN x ys
def growN (hp : List Bk) (l : List Nat) : List Nat :=
  hp.foldl (fun l b => if memN b.id l then (match b.bd with | .cells _ cs => (cs.flatMap LX.ids).foldl (fun l x => if memN x l then l else x :: l) l | _ => l) else l) l
def St.gc (s : St) : St :=
  let l0 := (s.tm.flatMap VX.ids ++ s.up.flatMap (·.flatMap VX.ids)).foldl (fun l x => if memN x l then l else x :: l) []
  let l := growN s.hp (growN s.hp l0)
  { s with hp := s.hp.filter fun b => memN b.id l }
def keepT (l : List Nat) : Nat → List VX → List VX
  | _, [] => []
  | i, v :: vs => (if memN i l then v else .any) :: keepT l (i + 1) vs
def norX : List (Ex × St) → List St
  | [] => []
  | (.nor, s) :: r => s :: norX r
  | _ :: r => norX r
def othX : List (Ex × St) → List (Ex × St)
  | [] => []
  | (.nor, _) :: r => othX r
  | x :: r => x :: othX r
/-- Each of the ways is one of the head's. -/
def meetsX (d : Nat) (m : Mg) (h : St) : List St → Option (List Ob)
  | [] => some []
  | s :: ss =>
    match meetX d m.hv h s, meetsX d m h ss with
    | some (xs, ms), some os => if s.fr (fun x => decide (x < d)) = true ∧ bqL (bqL VX.bq) h.up s.up = true then some (.inv s.cd m.k d xs ms :: os) else none
    | _, _ => none
def joinX (m : Mg) (d : Nat) (s : St) : Option St :=
  (headX d m.hv 0 (d + 1) s).map fun h => { St.gc { h with tm := keepT (hvSlots m.hv ++ m.keep) 0 h.tm } with cd := [.g d (names m.hv) m.k], nx := d + names m.hv + 1, up := s.up, rw := s.rw }
def mergeX (G : Cfg) (f tag : Nat) (es : List (Ex × St)) : Option (List (Ex × St) × List Ob) :=
  match G.mg.find? (fun m => m.f == f && m.tag == tag) with
  | none => some (es, [])
  | some m =>
    match norX es with
    | [] => some (es, [])
    | s :: ss =>
      let d := (s :: ss).foldl (fun a s => if a ≤ s.nx then s.nx else a) G.n0
      match joinX m d s with
      | none => none
      | some h => (meetsX d m h (s :: ss)).map fun os => ((.nor, h) :: othX es, os)
/-- The state at the head of a loop. -/
def topX (l : Lp) (c : Code) (s : St) : Option St :=
  (headX s.nx l.hv 0 (s.nx + 1) s).map fun h => { St.gc { h with tm := anyT h.tm ((dstsX c).filter fun t => !(memN t (hvSlots l.hv))) } with cd := .g s.nx (names l.hv) l.k :: (if l.keep then s.cd else []), nx := s.nx + names l.hv + 1, up := s.up, rw := s.rw }
def execX (P : Program) (inl : Inl) (f : FuncId) (G : Cfg) : Nat → Code → St → Option (List (Ex × St) × List Ob)
  | 0, _, _ => none
  | n + 1, .skip, s => some ([(.nor, s)], [])
  | n + 1, .region _ ops draw, s => (regionX P inl G ops draw s).map fun (ss, os) => (ss.map (Ex.nor, ·), os)
  | n + 1, .seq a b, s =>
    match execX P inl f G n a s with
    | some (es0, os) =>
      match mergeX G f (tagX b) es0 with
      | some (es, om) => (thenX (execX P inl f G n b) es).map fun (r, os') => (r, os ++ (om ++ os'))
      | none => none
    | none => none
  | n + 1, .cond c a b, s =>
    match evP [] s c with
    | some (.l (.t x)) =>
      match ask s.cd x with
      | some true => execX P inl f G n a s
      | some false => execX P inl f G n b s
      | none =>
        match execX P inl f G n a { s with cd := addCd x true ++ s.cd }, execX P inl f G n b { s with cd := addCd x false ++ s.cd } with
        | some (r, os), some (r', os') => some (r ++ r', os ++ os')
        | _, _ => none
    | _ => none
  | n + 1, .block id c, s => (execX P inl f G n c s).map fun (es, os) => (es.map fun (x, s') => (if x = .ex id then .nor else x, s'), os)
  | n + 1, .loop c, s =>
    match G.lp.find? (fun l => l.f == f && l.tag == tagX c) with
    | some l =>
      match topX l c s, upX s l.up with
      | some h, some up =>
        match meetX s.nx l.hv h s with
        | some (xs, ms) =>
          if G.n0 ≤ s.nx ∧ s.fr (fun x => decide (x < s.nx)) = true ∧ up.fr (fun x => decide (x < s.nx)) = true then
            match execX P inl f { G with n0 := s.nx + names l.hv + 1 } n c h with
            | some (es, os) => (roundX s.nx l up h es).map fun (r, os') => (r, .inv s.cd l.k s.nx xs ms :: os ++ os')
            | none => none
          else none
        | none => none
      | _, _ => none
    | none => unrollX (execX P inl f G n c) n s
  | n + 1, .exit id, s => some ([(.ex id, s)], [])
  | n + 1, .ret, s => some ([(.rt, s)], [])
  | _ + 1, _, _ => none

/-- A function's results. -/
def resX (P : Program) (fn : Func) (s : St) : Option VX :=
  match fn.results.toList with
  | [] => some (.tp [])
  | [.tmp t] => match s.tm[t]? with | some (.v p) => some (.v p) | _ => none
  | [.cell t ty] => match s.tm[t]? with
    | some (.v (.l (.p d o))) => match loadX P s ty (.p d o) with | some (v, []) => some (.v v) | _ => none
    | _ => none
  | rs => (go rs).map .tp
where
  go : List ResultVar → Option (List PX)
    | [] => some []
    | .tmp t :: r => match s.tm[t]?, go r with | some (.v p), some ps => some (p :: ps) | _, _ => none
    | .cell t ty :: r => match s.tm[t]?, go r with
      | some (.v (.l (.p d o))), some ps => match loadX P s ty (.p d o) with | some (v, []) => some (v :: ps) | _ => none
      | _, _ => none
structure Lf where
  cd : List Cd
  v : VX
  hp : List Bk
def leavesX (P : Program) (fn : Func) : List (Ex × St) → Option (List Lf)
  | [] => some []
  | (.ex _, _) :: _ => none
  | (_, s) :: r => match resX P fn s, leavesX P fn r with | some v, some l => some (⟨s.cd, v, s.hp⟩ :: l) | _, _ => none
/-- Back from a call in place. -/
def backX (P : Program) (fn : Func) (s0 : St) : List (Ex × St) → Option (List (VX × St))
  | [] => some []
  | (.ex _, _) :: _ => none
  | (_, s) :: r => match resX P fn s, s.up, backX P fn s0 r with | some v, tm :: up, some l => some ((v, { s with tm := tm, up := up }) :: l) | _, _, _ => none
/-- A call in place, to the depth d. -/
def inlX (P : Program) (fuel : Nat) : Nat → Inl
  | 0 => fun _ _ _ _ => none
  | d + 1 => fun G f ps s =>
    match P.funcs[f]? with
    | some fn =>
      match fn.body with
      | some c =>
        if (fn.name == "runtime.NumGoroutine") = false then
          match execX P (inlX P fuel d) f G fuel c { s with tm := ps.map .v ++ List.replicate (fn.ntmps - ps.length) .un, up := s.tm :: s.up } with
          | some (es, os) => (backX P fn s es).map (·, os)
          | none => none
        else none
      | none => none
    | none => none
/-- A call of a function: the ways and what each returns; what is owed. -/
def funcX (P : Program) (G : Cfg) (fuel depth : Nat) (f : FuncId) (fn : Func) (args : List PX) (rw : List Rw) : Option (List Lf × List Ob) :=
  match fn.body with
  | some c =>
    match execX P (inlX P fuel depth) f G fuel c ⟨args.map .v ++ List.replicate (fn.ntmps - args.length) .un, [], [], rw, [], G.n0⟩ with
    | some (es, os) => (leavesX P fn es).map (·, dedup os)
    | none => none
  | none => none

/-! ### Short spellings of states. -/
def setX (r : Nat × Nat) : List LX := cellsX r.1 r.2 [none, none, some .u32, some .u32, some .u32]
def stOf (l : List (Nat × Nat)) : List LX := l.flatMap setX
def itX (x : SX) (k : Nat) (a b : LX) : LX :=
  match a, b with
  | .t p, .t q => .t (.it (.c .eql x (.i k)) p q)
  | .n kd p, .n _ q => .n kd (.it (.c .eql x (.i k)) p q)
  | a, _ => a
def stUpdG (x : SX) (r : Nat × Nat) : Nat → List (Nat × Nat) → List LX
  | _, [] => []
  | k, q :: qs => List.zipWith (itX x k) (setX r) (setX q) ++ stUpdG x r (k + 1) qs
def stUpd (x : SX) (r : Nat × Nat) (l : List (Nat × Nat)) : List LX := stUpdG x r 0 l
/-- Cells of the element x of content d (sz cells an element), from j on; of an inner row. -/
def rxL (d sz : Nat) (x : SX) : Nat → List (Option IntKind) → List LX
  | _, [] => []
  | j, none :: ks => .t (.r d sz j x) :: rxL d sz x (j + 1) ks
  | j, some k :: ks => .n k (.r d sz j x) :: rxL d sz x (j + 1) ks
/-- The cells of a state in the block to which slot t points. -/
def stHvG (t : Nat) : Nat → List (Option IntKind) → List Hv
  | _, [] => []
  | j, k :: ks => .num (.c t j) k :: stHvG t (j + 1) ks
def stHv (t : Nat) : List Hv := stHvG t 0 stK
/-- The x-th set of a state. -/
def setRx (d : Nat) (x : SX) : List LX := [.t (.r d 5 0 x), .t (.r d 5 1 x), .n .u32 (.r d 5 2 x), .n .u32 (.r d 5 3 x), .n .u32 (.r d 5 4 x)]
end Go.Proofs.Ytjhdjclcfmcilaa.T2
