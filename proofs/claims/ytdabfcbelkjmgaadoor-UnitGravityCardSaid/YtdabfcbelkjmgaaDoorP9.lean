import Derived.Test.YtdabfcbelkjmgaaDoorP7
import Derived.Test.YtdabfcbelkjmgaaDoorP8
/-
  unit: Encode and Decode for callers.
-/
namespace Go.Proofs.YtdabfcbelkjmgaaDoor.Am
open Go
attribute [local irreducible] awp seqK blkK backK endK inlK restK rngK asgK itK
set_option maxRecDepth 100000
set_option maxHeartbeats 8000000
set_option linter.unusedSimpArgs false
set_option linter.unusedVariables false
/-! putlog/unit.Encode -/
def D_unit_Encode (N : Nat) (a b c : Int) (l : List (Int × Int)) (p q : Int) : Option (List UInt8 × Int) :=
  (D_unit_Valid N a b c l p q).bind fun v =>
  gd (l.length ≤ 1000000) <|
  some (bif v then encS a b c l p q else [], bif v then 0 else 80)
theorem D_unit_Encode_ok (N : Nat) (a b c : Int) (l : List (Int × Int)) (p q : Int) (r : List UInt8 × Int) (h : D_unit_Encode N a b c l p q = some r) :
    PCall Tryd.prog 21 [.agg [.i a, .i b, .i c, .sl 2 false (l.map e_ii) [.i 0, .i 0], .i p, .i q]] (.tup [.v (.string (sB r.1)), .i r.2]) := by
  unfold D_unit_Encode at h
  obtain ⟨v, h1, h2⟩ := Option.bind_eq_some_iff.1 h
  simp only [gd_some] at h2
  obtain ⟨h3, h2⟩ := h2
  cases h2
  exact encode_ok N a b c l p q v h1 h3
def s21 (N : Nat) : Spec
  | [.agg [.v (.int .i64 a), .v (.int .i64 b), .v (.int .i64 c), .sl yl _ l _, .v (.int .i64 p), .v (.int .i64 q)]] => some (((yl = 2 ∨ l = []) ∧ l = (l.map d_ii).map e_ii) ∧ (D_unit_Encode N a b c (l.map d_ii) p q).isSome = true, .tup [.v (.string (sB ((D_unit_Encode N a b c (l.map d_ii) p q).getD ([], 0)).1)), .i ((D_unit_Encode N a b c (l.map d_ii) p q).getD ([], 0)).2])
  | _ => none
theorem fok21 (N : Nat) : FOK Tryd.prog 21 (s21 N) := ⟨of21, by
  intro args vc r h hv
  unfold s21 at h
  split at h
  · cases h
    obtain ⟨⟨hy0, hr0⟩, hs⟩ := hv
    obtain ⟨r, hr⟩ := Option.isSome_iff_exists.1 hs
    have hk := D_unit_Encode_ok N _ _ _ _ _ _ r hr
    simp only [hr, Option.getD_some]
    refine PCall.arg ?_ hk
    simp only [wkL, wk, and_true, true_and, Bool.false_eq_true, false_implies, implies_true]
    repeat' (first | exact True.intro | assumption | apply And.intro)
  · simp at h⟩
/-! putlog/unit.Decode -/
def D_unit_Decode (N : Nat) (s : List UInt8) : Option ((Int × Int × Int × List (Int × Int) × Int × Int) × Int) :=
  (dN N s 0).bind fun (a, p1) =>
  (dN N s p1).bind fun (b, p2) =>
  (dN N s p2).bind fun (c, p3) =>
  (dN N s p3).bind fun (f, p4) =>
  (dN N s p4).bind fun (g, p5) =>
  (dN N s p5).bind fun (n, p6) =>
  gd (3 ≤ n ∧ n ≤ 8) <|
  (dP N s n.toNat p6 []).bind fun (l, p7) =>
  gd ((s.length : Int) ≤ p7) <|
  (D_unit_Valid N a b c l f g).bind fun v =>
  gd (v = true) <|
  some ((a, b, c, l, f, g), 0)
theorem D_unit_Decode_ok (N : Nat) (s : List UInt8) (r : (Int × Int × Int × List (Int × Int) × Int × Int) × Int) (h : D_unit_Decode N s = some r) :
    PCall Tryd.prog 22 [.v (.string (sB s))] (.tup [.agg [.i r.1.1, .i r.1.2.1, .i r.1.2.2.1, .sl 2 false (r.1.2.2.2.1.map e_ii) [.i 0, .i 0], .i r.1.2.2.2.2.1, .i r.1.2.2.2.2.2], .i r.2]) := by
  unfold D_unit_Decode at h
  simp only [gd_some, Option.bind_eq_some_iff] at h
  obtain ⟨⟨a, p1⟩, h1, ⟨b, p2⟩, h2, ⟨c, p3⟩, h3, ⟨f, p4⟩, h4, ⟨g, p5⟩, h5, ⟨n, p6⟩, h6, hn, ⟨l, p7⟩, h7, h8, v, h9, rfl, h10⟩ := h
  obtain rfl := Option.some.inj h10
  exact decode_ok N s a b c f g n p1 p2 p3 p4 p5 p6 p7 l h1 h2 h3 h4 h5 h6 hn h7 h8 h9
def s22 (N : Nat) : Spec
  | [.v (.string s)] => some ((D_unit_Decode N (bL s)).isSome = true, .tup [.agg [.i ((D_unit_Decode N (bL s)).getD ((0, 0, 0, [], 0, 0), 0)).1.1, .i ((D_unit_Decode N (bL s)).getD ((0, 0, 0, [], 0, 0), 0)).1.2.1, .i ((D_unit_Decode N (bL s)).getD ((0, 0, 0, [], 0, 0), 0)).1.2.2.1, .sl 2 false (((D_unit_Decode N (bL s)).getD ((0, 0, 0, [], 0, 0), 0)).1.2.2.2.1.map e_ii) [.i 0, .i 0], .i ((D_unit_Decode N (bL s)).getD ((0, 0, 0, [], 0, 0), 0)).1.2.2.2.2.1, .i ((D_unit_Decode N (bL s)).getD ((0, 0, 0, [], 0, 0), 0)).1.2.2.2.2.2], .i ((D_unit_Decode N (bL s)).getD ((0, 0, 0, [], 0, 0), 0)).2])
  | _ => none
theorem fok22 (N : Nat) : FOK Tryd.prog 22 (s22 N) := ⟨of22, by
  intro args vc r h hv
  unfold s22 at h
  split at h
  · cases h
    obtain ⟨r, hr⟩ := Option.isSome_iff_exists.1 hv
    have hk := D_unit_Decode_ok N _ r hr
    simp only [hr, Option.getD_some]
    rw [sB_bL] at hk
    exact hk
  · simp at h⟩
end Go.Proofs.YtdabfcbelkjmgaaDoor.Am
