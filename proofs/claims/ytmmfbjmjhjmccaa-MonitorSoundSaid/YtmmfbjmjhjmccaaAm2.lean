/-
  The abstract machine, part 2: its operations and what they give (a function of plain data, reckoned by simp).
-/
import Derived.Test.YtmmfbjmjhjmccaaAm1
namespace Go.Proofs.Ytmmfbjmjhjmccaa.Am
set_option linter.unusedSimpArgs false
set_option linter.unusedVariables false
open Go

/-- A place in abstract memory: a cell of a box, an array. -/
inductive Loc where
  | c (n : Nm) (j : Nat)
  | a (n : Nm)
  deriving DecidableEq, Inhabited

abbrev Hp := List (Loc × AV)
abbrev Env := List (Nat × AV)

def lk : Env → Nat → AV
  | [], _ => .un
  | (k, x) :: r, t => if k = t then x else lk r t
def hl : Hp → Loc → Option AV
  | [], _ => none
  | (k, x) :: r, l => if k = l then some x else hl r l

inductive Opd where
  | t (n : Nat)
  | k (x : AV)
  deriving Inhabited

/-- What '==' compares: the cells one by one. -/
inductive TK where
  | int | bool | str | cells (n : Nat) | other
  deriving Inhabited, DecidableEq

inductive AK where
  | mv (x : Opd)
  | pick (c a b : Opd)
  | box (n : Nat) (x : Opd)
  | alloc (zs : List AV)
  | build (zs : List AV) (parts : List (Nat × Nat × Opd))
  | bsl (sz len : Nat) (zs : List AV) (parts : List (Nat × Opd))
  | ld (sz : Nat) (ag : Bool) (x : Opd)
  | st (sz : Nat) (a x : Opd)
  | fa (off : Nat) (x : Opd)
  | fld (off sz : Nat) (ag : Bool) (x : Opd)
  | ia (sz : Nat) (x i : Opd)
  | iaA (n sz : Nat) (x i : Opd)
  | idxA (n sz : Nat) (ag : Bool) (x i : Opd)
  | bin (op : BinOp) (tk : TK) (x y : Opd)
  | un (op : UnOp) (x : Opd)
  | ext (x : Opd) (i : Nat)
  | call (f : Nat) (args : List Opd)
  | cv (x : Opd) (args : List Opd)
  | len (x : Opd)
  | app (sz bytes : Nat) (zs : List AV) (s x : Opd)
  | mm (isMax : Bool) (xs : List Opd)
  | mkf (fn : Fn) (first caps : List Opd)
  | slc (sz : Nat) (x : Opd) (lo hi mx : Option Opd)
  | nilc (x : Opd)
  | cnv (k : IntKind) (x : Opd)
  | bad
  deriving Inhabited

structure AOp where
  d : Option Nat
  g : Option (Nat × Bool)
  k : AK
  deriving Inhabited

def inR (k : IntKind) (n : Int) : Prop :=
  match k with
  | .i64 => -9223372036854775808 ≤ n ∧ n ≤ 9223372036854775807
  | k => k.wrap n = n

def imp (g b : Bool) : Bool := !g || b
@[simp] theorem imp_self (b : Bool) : imp b b = true := by cases b <;> rfl
@[simp] theorem imp_true (b : Bool) : imp true b = b := by cases b <;> rfl
@[simp] theorem imp_right (b : Bool) : imp b true = true := by cases b <;> rfl
@[simp] theorem imp_false (b : Bool) : imp false b = true := rfl
@[simp] theorem imp_and_left (a b : Bool) : imp (a && b) a = true := by cases a <;> cases b <;> rfl
@[simp] theorem imp_and_right (a b : Bool) : imp (a && b) b = true := by cases a <;> cases b <;> rfl

def ung (g : Bool) : AV → AV
  | .gd b x => bif imp g b then x else .un
  | x => x

def opv (env : Env) : Opd → AV
  | .t n => lk env n
  | .k x => x

def gb (want : Bool) : AV → Option Bool
  | .v (.bool b) => some (b == want)
  | .gd c (.v (.bool b)) => some (c && (b == want))
  | _ => none

def gval (env : Env) : Option (Nat × Bool) → Option Bool
  | none => some true
  | some (t, want) => gb want (lk env t)

/-- sz of the cells from off on. -/
def cut : Nat → Nat → List AV → Option (List AV)
  | 0, 0, _ => some []
  | 0, _ + 1, [] => none
  | 0, n + 1, c :: cs => (cut 0 n cs).map (c :: ·)
  | _ + 1, _, [] => none
  | o + 1, n, _ :: cs => cut o n cs

/-- The cells of a value. -/
def AV.cells : AV → Option (List AV)
  | .agg cs => some cs
  | .v x => if oneC x = true then some [.v x] else none
  | .sl sz f r d => some [.sl sz f r d]
  | .ro c o => some [.ro c o]
  | .clo a b c => some [.clo a b c]
  | .box n o => some [.box n o]
  | .own n l => some [.own n l]
  | _ => none

def mkv (ag : Bool) (cs : List AV) : Option AV :=
  match ag, cs with
  | true, cs => some (.agg cs)
  | false, [c] => some c
  | _, _ => none

def hcut (hp : Hp) (n : Nm) : Nat → Nat → Option (List AV)
  | _, 0 => some []
  | o, k + 1 =>
    match hl hp (.c n o) with
    | some c => (hcut hp n (o + 1) k).map (c :: ·)
    | none => none

def rowAt (rows : List (List AV)) (d : List AV) (i : Nat) : List AV := rows.getD i d

/-- Places for the cells of a store. -/
def sput (hp : Hp) (n : Nm) : Nat → List AV → Option Hp
  | _, [] => some []
  | o, c :: cs =>
    match hl hp (.c n o) with
    | some _ => (sput hp n (o + 1) cs).map ((.c n o, c) :: ·)
    | none => none

def newc (n : Nm) : Nat → List AV → Hp
  | _, [] => []
  | o, c :: cs => (.c n o, c) :: newc n (o + 1) cs

/-- The cells ds laid over cs from o on. -/
def over : List AV → Nat → List AV → Option (List AV)
  | cs, 0, [] => some cs
  | c :: cs, o + 1, ds => (over cs o ds).map (c :: ·)
  | _ :: cs, 0, d :: ds => (over cs 0 ds).map (d :: ·)
  | [], _ + 1, _ => none
  | [], 0, _ :: _ => none

def res1 (hp : Hp) : AV → AV
  | .own n _ => match hl hp (.a n) with
    | some (.sl sz _ rows d) => .sl sz false rows d
    | _ => .un
  | x => x
def rvc1 (hp : Hp) : AV → Prop
  | .own n l => match hl hp (.a n) with
    | some (.sl _ _ rows _) => l = rows.length
    | _ => False
  | _ => True
def rvc1L (hp : Hp) : List AV → Prop
  | [] => True
  | c :: cs => rvc1 hp c ∧ rvc1L hp cs
/-- The cells of a box, as many as there are. -/
def bcells (hp : Hp) (n : Nm) : Nat → Nat → List AV
  | _, 0 => []
  | o, k + 1 =>
    match hl hp (.c n o) with
    | some c => c :: bcells hp n (o + 1) k
    | none => []

mutual
/-- Owned arrays as the lists that they hold, boxes as what lies in them. -/
def res (hp : Hp) : AV → AV
  | .own n _ => match hl hp (.a n) with
    | some (.sl sz _ rows d) => .sl sz false rows d
    | _ => .un
  | .box n o => .ro ((bcells hp n 0 40).map (res1 hp)) o
  | .agg cs => .agg (resL hp cs)
  | .tup cs => .tup (resL hp cs)
  | .clo f xs ys => .clo f (resL hp xs) (resL hp ys)
  | x => x
def resL (hp : Hp) : List AV → List AV
  | [] => []
  | c :: cs => res hp c :: resL hp cs
end
mutual
/-- .. under which condition. -/
def rvc (hp : Hp) : AV → Prop
  | .own n l => match hl hp (.a n) with
    | some (.sl _ _ rows _) => l = rows.length
    | _ => False
  | .box n _ => rvc1L hp (bcells hp n 0 40) ∧ pureL ((bcells hp n 0 40).map (res1 hp)) = true ∧ (bcells hp n 0 40).isEmpty = false
  | .agg cs => rvcL hp cs
  | .tup cs => rvcL hp cs
  | .clo _ xs ys => rvcL hp xs ∧ rvcL hp ys
  | _ => True
def rvcL (hp : Hp) : List AV → Prop
  | [] => True
  | c :: cs => rvc hp c ∧ rvcL hp cs
end
mutual
def ons : AV → List Nm
  | .own n _ => [n]
  | .agg cs => onsL cs
  | .tup cs => onsL cs
  | .clo _ xs ys => onsL xs ++ onsL ys
  | _ => []
def onsL : List AV → List Nm
  | [] => []
  | c :: cs => ons c ++ onsL cs
end
mutual
def nob : AV → Bool
  | .box _ _ => false
  | .agg cs => nobL cs
  | .tup cs => nobL cs
  | .clo _ xs ys => nobL xs && nobL ys
  | _ => true
def nobL : List AV → Bool
  | [] => true
  | c :: cs => nob c && nobL cs
end
mutual
def flat : AV → Bool
  | .v _ => true
  | .agg cs => flatL cs
  | .tup cs => flatL cs
  | _ => false
def flatL : List AV → Bool
  | [] => true
  | c :: cs => flat c && flatL cs
end

/-- The arrays of these names are written no more. -/
def frz (hp : Hp) : List Nm → Hp
  | [] => []
  | n :: ns => match hl hp (.a n) with
    | some (.sl sz _ rows d) => (.a n, .sl sz false rows d) :: frz hp ns
    | _ => frz hp ns

abbrev Tab := Nat → List AV → Option (Prop × AV)

/-- The rows of an appended value. -/
def srows (hp : Hp) (sz : Nat) : AV → Option (Prop × List (List AV))
  | .sl z _ rows _ => some (z = sz ∨ rows = [], rows)
  | .own n l => match hl hp (.a n) with
    | some (.sl z _ rows _) => some (l = rows.length ∧ z = sz, rows)
    | _ => none
  | _ => none

def cmpB (op : BinOp) (x y : Int) : Option Bool :=
  match op with
  | .eql => some (decide (x = y))
  | .neq => some (decide (x ≠ y))
  | .lss => some (decide (x < y))
  | .leq => some (decide (x ≤ y))
  | .gtr => some (decide (y < x))
  | .geq => some (decide (y ≤ x))
  | _ => none

def arB (op : BinOp) (k : IntKind) (x y : Int) : Option (Prop × Int) :=
  match op with
  | .add => some (inR k (x + y), x + y)
  | .sub => some (inR k (x - y), x - y)
  | .mul => some (inR k (x * y), x * y)
  | .quo => some (y ≠ 0 ∧ inR k (x.tdiv y), x.tdiv y)
  | .rem => some (y ≠ 0, x.tmod y)
  | _ => none

/-- Are the cells equal, one by one? -/
def eqCells : List AV → List AV → Option Bool
  | [], [] => some true
  | .v (.int _ x) :: xs, .v (.int _ y) :: ys => (eqCells xs ys).map (decide (x = y) && ·)
  | .v (.bool x) :: xs, .v (.bool y) :: ys => (eqCells xs ys).map ((x == y) && ·)
  | _, _ => none

def exBin (op : BinOp) (tk : TK) (x y : AV) : Option (Prop × AV) :=
  match tk, x, y with
  | .int, .v (.int k x), .v (.int k' y) =>
    match cmpB op x y with
    | some b => some (k = k', .v (.bool b))
    | none => match arB op k x y with
      | some (vc, z) => some (k = k' ∧ vc, .v (.int k z))
      | none => none
  | .bool, .v (.bool x), .v (.bool y) =>
    match op with
    | .eql => some (True, .v (.bool (x == y)))
    | .neq => some (True, .v (.bool (x != y)))
    | _ => none
  | _, _, _ => none

def exUn (op : UnOp) (x : AV) : Option (Prop × AV) :=
  match op, x with
  | .not, .v (.bool b) => some (True, .v (.bool (!b)))
  | .neg, .v (.int k n) => some (inR k (-n), .v (.int k (-n)))
  | _, _ => none

def mm2 (isMax : Bool) (x y : AV) : Option AV :=
  match x, y with
  | .v (.int k x), .v (.int _ y) => some (.v (.int k (bif isMax then max x y else min x y)))
  | _, _ => none

def mmL (isMax : Bool) : AV → List AV → Option AV
  | x, [] => some x
  | x, y :: r => match mm2 isMax x y with
    | some z => mmL isMax z r
    | none => none

def fillA : List AV → List (Nat × Nat × AV) → Option (List AV)
  | cs, [] => some cs
  | cs, (off, size, x) :: r =>
    match x.cells with
    | some xs => if xs.length = size then (match over cs off xs with
      | some cs' => fillA cs' r
      | none => none) else none
    | none => none

def fillR (sz : Nat) : List (List AV) → List (Nat × AV) → Option (List (List AV))
  | rows, [] => some rows
  | rows, (i, x) :: r =>
    match x.cells with
    | some xs => if xs.length = sz ∧ i < rows.length then fillR sz (rows.set i xs) r else none
    | none => none

def asI : AV → Option Int
  | .v (.int _ n) => some n
  | _ => none

/-- A call, its arguments at hand. -/
def exCall (S : Tab) (hp : Hp) (f : Nat) (args : List AV) : Option (Prop × AV × Hp) :=
  match S f (resL hp args) with
  | some (vc, r) =>
    bif flat r then some (rvcL hp args ∧ pureL (resL hp args) = true ∧ vc, r, [])
    else bif nobL args then some (rvcL hp args ∧ pureL (resL hp args) = true ∧ vc, r, frz hp (onsL args)) else none
  | none => none

def exApp (hp : Hp) (nm : Nm) (sz bytes : Nat) (zs : List AV) (s x : AV) : Option (Prop × AV × Hp) :=
  match srows hp sz x with
  | none => none
  | some (vx, rx) =>
    match s with
    | .own n l => match hl hp (.a n) with
      | some (.sl z live rows d) => some (vx ∧ z = sz ∧ l = rows.length ∧ live = true ∧ (rows ++ rx).length * bytes ≤ 140737488355328,
          .own n (rows ++ rx).length, [(.a n, .sl sz true (rows ++ rx) d)])
      | _ => none
    | .sl z full rows d => some (vx ∧ (z = sz ∨ rows = []) ∧ full = true ∧ (rows ++ rx).length * bytes ≤ 140737488355328,
          .own nm (rows ++ rx).length, [(.a nm, .sl sz (!rx.isEmpty || rows.isEmpty) (rows ++ rx) (bif d.isEmpty then zs else d))])
    | _ => none

def loB : Option AV → Option Int
  | none => some 0
  | some x => asI x

/-- The part of a slice: conditions, is it full, its rows. -/
def slRows (full : Bool) (rows : List (List AV)) (lo : Option AV) (hi mx : Option AV) : Option (Prop × Bool × List (List AV)) :=
  match loB lo, hi, mx with
  | some l, none, none => some (0 ≤ l ∧ l ≤ rows.length, full, rows.drop l.toNat)
  | some l, some h, none => match asI h with
    | some h => some (0 ≤ l ∧ l ≤ h ∧ h ≤ rows.length, full && decide (h = rows.length), (rows.drop l.toNat).take (h.toNat - l.toNat))
    | none => none
  | some l, some h, some m => match asI h, asI m with
    | some h, some m => some (0 ≤ l ∧ l ≤ h ∧ h ≤ m ∧ m ≤ rows.length, decide (h = m), (rows.drop l.toNat).take (h.toNat - l.toNat))
    | _, _ => none
  | _, _, _ => none

def exSlc (hp : Hp) (sz : Nat) (x : AV) (lo : Option AV) (hi mx : Option AV) : Option (Prop × AV × Hp) :=
  match x with
  | .sl sz' full rows d => match slRows full rows lo hi mx with
    | some (vc, f, rs) => some ((sz' = sz ∨ rows = []) ∧ vc, .sl sz' f rs d, [])
    | none => none
  | .own n l => match hl hp (.a n) with
    | some (.sl sz' _ rows d) => match slRows false rows lo hi mx with
      | some (vc, f, rs) => some (sz' = sz ∧ l = rows.length ∧ vc, .sl sz' f rs d, frz hp [n])
      | none => none
    | _ => none
  | _ => none

def vr (o : Option (Prop × AV)) : Option (Prop × AV × Hp) :=
  match o with
  | some (vc, r) => some (vc, r, [])
  | none => none

def exPick (g : Bool) (c a b : AV) : Option (Prop × AV × Hp) :=
  match ung g c with
  | .v (.bool cb) =>
    match ung (g && cb) a, ung (g && !cb) b with
    | .v (.bool x), .v (.bool y) => some (True, .v (.bool (bif cb then x else y)), [])
    | a, b => some (True, (bif cb then a else b), [])
  | _ => none

def exBox (nm : Nm) (n : Nat) (x : AV) : Option (Prop × AV × Hp) :=
  match x.cells with
  | some cs => if cs.length = n then some (True, .box nm 0, newc nm 0 cs) else none
  | none => none

def exBuild (zs : List AV) (parts : List (Nat × Nat × AV)) : Option (Prop × AV × Hp) :=
  match fillA zs parts with
  | some cs => some (True, .agg cs, [])
  | none => none

def exBsl (hp : Hp) (nm : Nm) (sz len : Nat) (zs : List AV) (parts : List (Nat × AV)) : Option (Prop × AV × Hp) :=
  match fillR sz (List.replicate len zs) (parts.map fun (i, x) => (i, res hp x)) with
  | some rows => some (rvcL hp (parts.map (·.2)) ∧ nobL (parts.map (·.2)) = true ∧ (rows.all pureL) = true, .own nm len, (.a nm, .sl sz true rows zs) :: frz hp (onsL (parts.map (·.2))))
  | none => none

def exLd (hp : Hp) (sz : Nat) (ag : Bool) : AV → Option (Prop × AV × Hp)
  | .box n o => match hcut hp n o sz with
    | some cs => vr ((mkv ag cs).map fun r => (True, r))
    | none => none
  | .ro cs o => match cut o sz cs with
    | some ds => vr ((mkv ag ds).map fun r => (True, r))
    | none => none
  | .elem n l es i o => match hl hp (.a n) with
    | some (.sl sz' _ rows d) => match cut o sz (rowAt rows d i) with
      | some ds => vr ((mkv ag ds).map fun r => (es = sz' ∧ l = rows.length ∧ i < rows.length, r))
      | none => none
    | _ => none
  | _ => none

def exSt (hp : Hp) (sz : Nat) (a x : AV) : Option (Prop × AV × Hp) :=
  match x.cells with
  | none => none
  | some cs => if cs.length = sz then
      match a with
      | .box n o => match sput hp n o cs with
        | some ws => some (True, .un, ws)
        | none => none
      | .elem n l es i o => match hl hp (.a n) with
        | some (.sl sz' live rows d) => match over (rowAt rows d i) o (resL hp cs) with
          | some row => some (rvcL hp cs ∧ nobL cs = true ∧ pureL row = true ∧ onsL cs = [] ∧ live = true ∧ es = sz' ∧ l = rows.length ∧ i < rows.length, .un, [(.a n, .sl sz' true (rows.set i row) d)])
          | none => none
        | _ => none
      | _ => none
    else none

def exFa (off : Nat) : AV → Option (Prop × AV × Hp)
  | .box n o => some (True, .box n (o + off), [])
  | .ro cs o => some (True, .ro cs (o + off), [])
  | .elem n l sz i o => some (True, .elem n l sz i (o + off), [])
  | _ => none

def exFld (off sz : Nat) (ag : Bool) : AV → Option (Prop × AV × Hp)
  | .agg cs => match cut off sz cs with
    | some ds => vr ((mkv ag ds).map fun r => (True, r))
    | none => none
  | _ => none

def exIa (hp : Hp) (sz : Nat) : AV → AV → Option (Prop × AV × Hp)
  | .sl sz' _ rows d, .v (.int _ i) => some (sz' = sz ∧ 0 ≤ i ∧ i < rows.length, .ro (rowAt rows d i.toNat) 0, [])
  | .own n l, .v (.int _ i) => match hl hp (.a n) with
    | some (.sl sz' _ rows _) => some (sz' = sz ∧ l = rows.length ∧ 0 ≤ i ∧ i < rows.length, .elem n l sz i.toNat 0, [])
    | _ => none
  | _, _ => none

def exIaA (n sz : Nat) : AV → AV → Option (Prop × AV × Hp)
  | .box m o, .v (.int _ i) => some (0 ≤ i ∧ i < n, .box m (o + i.toNat * sz), [])
  | .ro cs o, .v (.int _ i) => some (0 ≤ i ∧ i < n, .ro cs (o + i.toNat * sz), [])
  | .elem m l es k o, .v (.int _ i) => some (0 ≤ i ∧ i < n, .elem m l es k (o + i.toNat * sz), [])
  | _, _ => none

def exIdxA (n sz : Nat) (ag : Bool) : AV → AV → Option (Prop × AV × Hp)
  | .agg cs, .v (.int _ i) => match cut (i.toNat * sz) sz cs with
    | some ds => vr ((mkv ag ds).map fun r => (0 ≤ i ∧ i < n, r))
    | none => none
  | _, _ => none

def exEqs (n : Nat) (op : BinOp) : AV → AV → Option (Prop × AV × Hp)
  | .agg xs, .agg ys => if xs.length = n ∧ ys.length = n then
      match op, eqCells xs ys with
      | .eql, some b => some (True, .v (.bool b), [])
      | .neq, some b => some (True, .v (.bool (!b)), [])
      | _, _ => none
    else none
  | _, _ => none

def exExt (i : Nat) : AV → Option (Prop × AV × Hp)
  | .tup cs => match cs[i]? with
    | some r => some (True, r, [])
    | none => none
  | _ => none

def exLen (hp : Hp) : AV → Option (Prop × AV × Hp)
  | .sl _ _ rows _ => some (True, .v (.int .i64 rows.length), [])
  | .own n l => match hl hp (.a n) with
    | some (.sl _ _ rows _) => some (l = rows.length, .v (.int .i64 rows.length), [])
    | _ => none
  | _ => none

def exMm (isMax : Bool) : List AV → Option (Prop × AV × Hp)
  | x :: r => match mmL isMax x r with
    | some z => some (True, z, [])
    | none => none
  | [] => none

def exNil : AV → Option (Prop × AV × Hp)
  | .box n o => some (True, .box n o, [])
  | .ro cs o => some (True, .ro cs o, [])
  | .clo (.func f) a b => some (True, .clo (.func f) a b, [])
  | _ => none

def exCnv (k : IntKind) : AV → Option (Prop × AV × Hp)
  | .v (.int _ n) => some (inR k n, .v (.int k n), [])
  | _ => none

def exCv (S : Tab) (hp : Hp) (x : AV) (args : List AV) : Option (Prop × AV × Hp) :=
  match x with
  | .clo (.func f) first caps => exCall S hp f (first ++ args ++ caps)
  | _ => none

/-- One operation: what it asks, its result, what it lays down. -/
def exK (S : Tab) (env : Env) (hp : Hp) (nm : Nm) (g : Bool) : AK → Option (Prop × AV × Hp)
  | .mv x => some (True, ung g (opv env x), [])
  | .pick c a b => exPick g (opv env c) (opv env a) (opv env b)
  | .box n x => exBox nm n (ung g (opv env x))
  | .alloc zs => some (True, .box nm 0, newc nm 0 zs)
  | .build zs parts => exBuild zs (parts.map fun (o, s, x) => (o, s, ung g (opv env x)))
  | .bsl sz len zs parts => exBsl hp nm sz len zs (parts.map fun (i, x) => (i, ung g (opv env x)))
  | .ld sz ag x => exLd hp sz ag (ung g (opv env x))
  | .st sz a x => exSt hp sz (ung g (opv env a)) (ung g (opv env x))
  | .fa off x => exFa off (ung g (opv env x))
  | .fld off sz ag x => exFld off sz ag (ung g (opv env x))
  | .ia sz x i => exIa hp sz (ung g (opv env x)) (ung g (opv env i))
  | .iaA n sz x i => exIaA n sz (ung g (opv env x)) (ung g (opv env i))
  | .idxA n sz ag x i => exIdxA n sz ag (ung g (opv env x)) (ung g (opv env i))
  | .bin op (.cells n) x y => exEqs n op (ung g (opv env x)) (ung g (opv env y))
  | .bin op tk x y => vr (exBin op tk (ung g (opv env x)) (ung g (opv env y)))
  | .un op x => vr (exUn op (ung g (opv env x)))
  | .ext x i => exExt i (ung g (opv env x))
  | .call f args => exCall S hp f (args.map fun x => ung g (opv env x))
  | .cv x args => exCv S hp (ung g (opv env x)) (args.map fun x => ung g (opv env x))
  | .len x => exLen hp (ung g (opv env x))
  | .app sz bytes zs s x => exApp hp nm sz bytes zs (ung g (opv env s)) (ung g (opv env x))
  | .mm isMax xs => exMm isMax (xs.map fun x => ung g (opv env x))
  | .mkf fn first caps => some (True, .clo fn (first.map fun x => ung g (opv env x)) (caps.map fun x => ung g (opv env x)), [])
  | .slc sz x lo hi mx => exSlc hp sz (ung g (opv env x)) (lo.map fun x => ung g (opv env x)) (hi.map fun x => ung g (opv env x)) (mx.map fun x => ung g (opv env x))
  | .nilc x => exNil (ung g (opv env x))
  | .cnv k x => exCnv k (ung g (opv env x))
  | .bad => none

def putE (d : Option Nat) (x : AV) (env : Env) : Env :=
  match d with
  | none => env
  | some d => (d, x) :: env

/-- An operation with its guard. -/
def exop (S : Tab) (nm : Nm) (env : Env) (hp : Hp) (o : AOp) : Option (Prop × AV × Hp) :=
  match o.g with
  | none => exK S env hp nm true o.k
  | some tw =>
    match gval env (some tw) with
    | none => none
    | some g =>
      match exK S env hp nm g o.k with
      | none => some (g = false, .v undef, [])
      | some (vc, r, []) => some (g = true → vc, .gd g r, [])
      | some (vc, r, w :: ws) => some (g = true ∧ vc, r, w :: ws)

def exops (S : Tab) (ver : Nat) : Nat → List AOp → Env → Hp → Option (Prop × Env × Hp)
  | _, [], env, hp => some (True, env, hp)
  | k, o :: r, env, hp =>
    match exop S (k, ver) env hp o with
    | none => none
    | some (vc, x, ws) =>
      match exops S ver (k + 1) r (putE o.d x env) (ws ++ hp) with
      | none => none
      | some (vcs, e, h) => some (vc ∧ vcs, e, h)
end Go.Proofs.Ytmmfbjmjhjmccaa.Am
