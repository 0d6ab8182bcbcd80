/-
  The abstract machine: which operations of a region that draws its order must not be exchanged.
-/
import Derived.Test.YtmmfbjmjhjmccaaAm12
import Derived.CheckFast
namespace Go.Proofs.Ytmmfbjmjhjmccaa.Am
set_option linter.unusedSimpArgs false
set_option linter.unusedVariables false
open Go

def opdT : Opd → List Nat
  | .t n => [n]
  | .k _ => []
def opdsT (xs : List Opd) : List Nat := xs.flatMap opdT

def akT : AK → List Nat
  | .mv x => opdT x
  | .pick c a b => opdT c ++ opdT a ++ opdT b
  | .box _ x => opdT x
  | .alloc _ => []
  | .build _ ps => ps.flatMap fun p => opdT p.2.2
  | .bsl _ _ _ ps => ps.flatMap fun p => opdT p.2
  | .ld _ _ x => opdT x
  | .st _ a x => opdT a ++ opdT x
  | .fa _ x => opdT x
  | .fld _ _ _ x => opdT x
  | .ia _ x i => opdT x ++ opdT i
  | .iaA _ _ x i => opdT x ++ opdT i
  | .idxA _ _ _ x i => opdT x ++ opdT i
  | .bin _ _ x y => opdT x ++ opdT y
  | .un _ x => opdT x
  | .ext x _ => opdT x
  | .call _ as => opdsT as
  | .cv x as => opdT x ++ opdsT as
  | .len x => opdT x
  | .app _ _ _ s x => opdT s ++ opdT x
  | .mm _ xs => opdsT xs
  | .mkf _ a b => opdsT a ++ opdsT b
  | .slc _ x l h m => opdT x ++ opdsT l.toList ++ opdsT h.toList ++ opdsT m.toList
  | .nilc x => opdT x
  | .cnv _ x => opdT x
  | .bad => []

def aopT (o : AOp) : List Nat :=
  (match o.g with | some (t, _) => [t] | none => []) ++ akT o.k

def hw : AK → Bool
  | .box _ _ | .alloc _ | .bsl _ _ _ _ | .st _ _ _ | .call _ _ | .cv _ _ | .app _ _ _ _ _ | .slc _ _ _ _ _ => true
  | _ => false
def ht : AK → Bool
  | .ld _ _ _ | .ia _ _ _ | .len _ => true
  | k => hw k

def edgesOf (o : Oper) : List Nat := (o.after.toList.filter fun e => Region.binds .any e).map (·.on)
def maskOf (B : List Nat) (es : List Nat) : Nat := es.foldl (fun s e => s ||| 2 ^ e ||| B.getD e 0) 0
def befOK (B : List Nat) : Nat → List Oper → Bool
  | _, [] => true
  | j, o :: r => (edgesOf o).all (fun e => decide (e < j)) && (B.getD j 0 == maskOf B (edgesOf o)) && befOK B (j + 1) r

def tFree (a b : AOp) : Bool :=
  (match a.d with | none => true | some t => !(aopT b).contains t && b.d != some t) && (match b.d with | none => true | some t => !(aopT a).contains t)

/-- Pairs that are not ordered, k before the j of this row. -/
def rowOK (B : Nat) (o : AOp) : Nat → List AOp → Bool
  | _, [] => true
  | k, p :: r => (B.testBit k || tFree p o) && rowOK B o (k + 1) r
def rowUn (B : Nat) (j : Nat) (o : AOp) : Nat → List AOp → List (Nat × Nat)
  | _, [] => []
  | k, p :: r => bif !B.testBit k && ((hw p.k && ht o.k) || (ht p.k && hw o.k)) then (k, j) :: rowUn B j o (k + 1) r else rowUn B j o (k + 1) r
def tOK (B : List Nat) (all : List AOp) : Nat → List AOp → Bool
  | _, [] => true
  | j, o :: r => rowOK (B.getD j 0) o 0 (all.take j) && tOK B all (j + 1) r
def unl (B : List Nat) (all : List AOp) : Nat → List AOp → List (Nat × Nat)
  | _, [] => []
  | j, o :: r => rowUn (B.getD j 0) j o 0 (all.take j) ++ unl B all (j + 1) r

def forceL {α : Type} : List Nat → (List Nat → α) → α
  | [], k => k []
  | x :: xs, k => CheckFast.force x fun v => forceL xs fun vs => k (v :: vs)
theorem forceL_eq {α : Type} : ∀ (l : List Nat) (k : List Nat → α), forceL l k = k l
  | [], _ => rfl
  | x :: xs, k => by simp only [forceL, CheckFast.force_eq, forceL_eq xs]

/-- The unordered pairs of a region of which its order must not matter; none: not covered. -/
def cDraw (ops : Array Oper) (l : List AOp) : Option (List (Nat × Nat)) :=
  forceL (CheckFast.beforeF ops).toList fun B => bif befOK B 0 ops.toList && tOK B l 0 l then some (unl B l 0 l) else none

end Go.Proofs.Ytmmfbjmjhjmccaa.Am
