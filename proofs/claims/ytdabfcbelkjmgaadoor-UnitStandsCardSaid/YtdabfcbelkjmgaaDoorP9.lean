import Derived.Test.YtdabfcbelkjmgaaDoorE3
import Derived.Test.YtdabfcbelkjmgaaDoorP7
/-
  unit: reading a number; the decoding of what can be decoded.
-/
namespace Go.Proofs.YtdabfcbelkjmgaaDoor.Am
open Go
attribute [local irreducible] awp seqK blkK backK endK inlK restK rngK asgK itK
set_option maxRecDepth 100000
set_option maxHeartbeats 8000000
set_option linter.unusedSimpArgs false
set_option linter.unusedVariables false
def S45 (N : Nat) : List (Nat × Spec) := [(63, s63 N)]
theorem S45_ok (N : Nat) : TabOK Tryd.prog (tabOf (S45 N)) := tab_cons (fok63 N) tab_nil

theorem number_e (N : Nat) (m : Nm) (s : List UInt8) (p n q : Int) (h : D_wire_Int N s p = some (n, q, 0)) : ECall Tryd.prog 45 m [.box m 0] [.v (.string (sB s)), .i p] (.i n) [(1, .i q)] := by
  refine ecall_fn (S45_ok N) _ Tryd.func45 ok45 nt45 (by simp) fun hb => ?_
  have hS := S45_ok N
  unfold ac45 rv45
  repeat' (first
    | ((first | with_reducible apply awp_sr5 | with_reducible apply awp_r5 | with_reducible apply awp_sd | with_reducible apply awp_d | with_reducible apply inlR_n5 | with_reducible apply inlR_r5); (· (first | exact Ctx.fn_ok hS | exact Ctx.rd_ok hS | assumption | exact True.intro)); iterate 2 (· (simp only [go_sem, seval, Am.S45, Am.s63, h, Option.isSome_some] <;> eq_refl)))
    | (first | with_reducible apply awp_scp | with_reducible apply awp_sn | with_reducible apply awp_nop | with_reducible apply awp_ret | with_reducible apply awp_exit | with_reducible apply awp_block | with_reducible apply awp_seq | with_reducible apply seqK_n | with_reducible apply seqK_r | with_reducible apply seqK_x | with_reducible apply blkK_n | with_reducible apply blkK_r | with_reducible apply blkK_x)
    | (with_reducible apply blkK_y; (· first | rfl | decide))
    | (first | with_reducible apply backK_x | with_reducible apply backK_r | with_reducible apply asgK_n | with_reducible apply rngK_x | with_reducible apply rngK_r | with_reducible apply True.intro | with_reducible apply And.intro True.intro True.intro)
    | (fail_if_success with_reducible apply K_id); (fail_if_success with_reducible apply awp_id); first | omega | (simp only [go_sem, seval, Am.S45, Am.s63, h, Option.isSome_some]; done)
    | fail)
  refine awp_cf (by simp only [go_sem, seval] <;> eq_refl) ?_
  repeat' (first
    | ((first | with_reducible apply awp_sr5 | with_reducible apply awp_r5 | with_reducible apply awp_sd | with_reducible apply awp_d | with_reducible apply inlR_n5 | with_reducible apply inlR_r5); (· (first | exact Ctx.fn_ok hS | exact Ctx.rd_ok hS | assumption | exact True.intro)); iterate 2 (· (simp only [go_sem, seval] <;> eq_refl)))
    | (first | with_reducible apply awp_scp | with_reducible apply awp_sn | with_reducible apply awp_nop | with_reducible apply awp_ret | with_reducible apply awp_exit | with_reducible apply awp_block | with_reducible apply awp_seq | with_reducible apply seqK_n | with_reducible apply seqK_r | with_reducible apply seqK_x | with_reducible apply blkK_n | with_reducible apply blkK_r | with_reducible apply blkK_x)
    | (with_reducible apply blkK_y; (· first | rfl | decide))
    | (first | with_reducible apply backK_x | with_reducible apply backK_r | with_reducible apply asgK_n | with_reducible apply rngK_x | with_reducible apply rngK_r | with_reducible apply True.intro | with_reducible apply And.intro True.intro True.intro)
    | (fail_if_success with_reducible apply K_id); (fail_if_success with_reducible apply awp_id); first | omega | (simp only [go_sem, seval]; done)
    | fail)
  exact inlK_r (by simp only [go_sem, seval] <;> eq_refl) True.intro ⟨by simp only [go_sem, seval], fun j c h => h⟩
def eNum (N : Nat) : ESpec
  | [.box _ 0], [.v (.string s), .v (.int .i64 p)] => some ((D_wire_Int N (bL s) p).isSome = true ∧ ((D_wire_Int N (bL s) p).getD (0, 0, 1)).2.2 = 0, .i ((D_wire_Int N (bL s) p).getD (0, 0, 1)).1, [(1, .i ((D_wire_Int N (bL s) p).getD (0, 0, 1)).2.1)])
  | _, _ => none
theorem eNum_ok (N : Nat) : EOK Tryd.prog 45 (eNum N) := ⟨of45, by
  intro args cells vc r us n h hv hb
  unfold eNum at h
  split at h
  · cases h
    simp only [boxOf, Option.some.injEq] at hb
    subst hb
    rename_i m s p
    obtain ⟨h1, h2⟩ := hv
    obtain ⟨⟨a, b, c⟩, hr⟩ := Option.isSome_iff_exists.1 h1
    simp only [hr, Option.getD_some] at h2 ⊢
    subst h2
    have := number_e N m (bL s) p a b hr
    rw [sB_bL] at this
    exact this
  · simp at h⟩
def S22 (N : Nat) : List (Nat × Spec) := [(23, s23 N), (46, s46 N)]
def E22 (N : Nat) : List (Nat × ESpec) := [(45, eNum N)]
theorem S22_ok (N : Nat) : TabOK Tryd.prog (tabX (S22 N) (E22 N) []) := tabX_ok (tab_cons (fok23 N) (tab_cons (fok46 N) tab_nil)) (by
  intro x hx
  simp only [E22, List.mem_singleton] at hx
  subst hx
  exact eNum_ok N) (by intro x hx; cases hx)

/-- The next number, and where the one after it stands. -/
def dN (N : Nat) (s : List UInt8) (p : Int) : Option (Int × Int) := (D_wire_Int N s p).bind fun (n, q, e) => gd (e = 0) <| some (n, q)
theorem dN_some {N : Nat} {s : List UInt8} {p n q : Int} (h : dN N s p = some (n, q)) : D_wire_Int N s p = some (n, q, 0) := by
  unfold dN at h
  obtain ⟨⟨a, b, c⟩, h1, h2⟩ := Option.bind_eq_some_iff.1 h
  simp only [gd_some] at h2
  obtain ⟨rfl, h2⟩ := h2
  cases h2
  exact h1
def dP (N : Nat) (s : List UInt8) : Nat → Int → List (Int × Int) → Option (List (Int × Int) × Int)
  | 0, p, l => some (l, p)
  | k + 1, p, l => (dN N s p).bind fun (x, q) => (dN N s q).bind fun (y, r) => dP N s k r (l ++ [(x, y)])

attribute [local go_sem] S22 E22 eNum s46 s23 D_unit_isIn de_ii e_ii Option.isSome_some
theorem decode_ok (N : Nat) (s : List UInt8) (a b c f g n p1 p2 p3 p4 p5 p6 p7 : Int) (l : List (Int × Int)) (h1 : dN N s 0 = some (a, p1)) (h2 : dN N s p1 = some (b, p2)) (h3 : dN N s p2 = some (c, p3)) (h4 : dN N s p3 = some (f, p4)) (h5 : dN N s p4 = some (g, p5)) (h6 : dN N s p5 = some (n, p6))
    (hn : 3 ≤ n ∧ n ≤ 8) (h7 : dP N s n.toNat p6 [] = some (l, p7)) (h8 : (s.length : Int) ≤ p7) (h9 : D_unit_Valid N a b c l f g = some true) :
    PCall Tryd.prog 22 [.v (.string (sB s))] (.tup [.agg [.i a, .i b, .i c, .sl 2 false (l.map e_ii) [.i 0, .i 0], .i f, .i g], .i 0]) := by
  refine pcall_fd (S22_ok N) _ Tryd.func22 ok22 nt22 (by simp) fun hb => ?_
  have hS := S22_ok N
  have hOK := Ctx.fd_ok (nt := 64) (hb := hb) hS
  have k1 := dN_some h1
  have k2 := dN_some h2
  have k3 := dN_some h3
  have k4 := dN_some h4
  have k5 := dN_some h5
  have k6 := dN_some h6
  have F := fc k1 (fc k2 (fc k3 (fc k4 (fc k5 (fc k6 (fc h9 f0))))))
  unfold ac22 rv22
  refine go hS F ?_
  refine awp_dfr hS 1 rfl rfl (by simp only [go_sem, seval] <;> eq_refl) True.intro (by simp only [go_sem, seval] <;> eq_refl) (by simp only [go_sem, seval] <;> eq_refl) ?_
  refine go hS F ?_
  refine awp_unroll 30 ?_
  refine go hS F ?_
  refine ct F ?_
  refine go hS F ?_
  refine ct F ?_
  refine go hS F ?_
  refine ct F ?_
  refine go hS F ?_
  refine ct F ?_
  refine go hS F ?_
  refine ct F ?_
  refine go hS F ?_
  refine cf F ?_
  refine go hS F ?_
  have c3 : decide ((3 : Int) ≤ n) = true := by simpa using hn.1
  have c8 : decide (n ≤ (8 : Int)) = true := by simpa using hn.2
  refine cf (fc c3 (fc c8 F)) ?_
  refine go hS F ?_
  refine awp_le (s' := ⟨[(35, .i 0), (34, .i n), (4, .box (202, 3) 0), (3, .box (1, 1) 0), (2, .box (0, 1) 0), (2000064, .gd false (.clo (.func 44) [] [.box (0, 1) 0, .box (1, 1) 0])), (0, .v (.string (sB s)))],
    [(.c (202, 3) 1, .i p6), (.c (202, 3) 0, .v (.string (sB s))), (.c (1, 1) 0, .i 0), (.c (0, 1) 0, .i a), (.c (0, 1) 1, .i b), (.c (0, 1) 2, .i c), (.c (0, 1) 3, .sl 0 true [] []), (.c (0, 1) 4, .i f), (.c (0, 1) 5, .i g)], 100⟩) (leF F) ?_
  refine awp_claimCk 1 (0, 1) 3 2 [.i 0, .i 0] (by omega) (by simp only [go_sem, seval] <;> eq_refl) ?_
  refine awp_loop (fun x : Nat × Nat × Int × List (Int × Int) × Nat => ⟨[(35, .i x.2.1), (34, .i n), (4, .box (202, 3) 0), (3, .box (1, 1) 0), (2, .box (0, 1) 0), (2000064, .gd false (.clo (.func 44) [] [.box (0, 1) 0, .box (1, 1) 0])), (0, .v (.string (sB s)))],
    [(.c (202, 3) 1, .i x.2.2.1), (.c (202, 3) 0, .v (.string (sB s))), (.c (1, 1) 0, .i 0), (.c (0, 1) 0, .i a), (.c (0, 1) 1, .i b), (.c (0, 1) 2, .i c), (.c (0, 1) 3, .own (1, 101) x.2.2.2.1.length), (.a (1, 101), .sl 2 true (x.2.2.2.1.map e_ii) [.i 0, .i 0]), (.c (0, 1) 4, .i f), (.c (0, 1) 5, .i g)], x.2.2.2.2⟩)
    (fun x => dP N s x.1 x.2.2.1 x.2.2.2.1 = some (l, p7) ∧ x.2.1 + x.1 = n.toNat ∧ x.2.2.2.1.length = x.2.1) (fun x => x.1) (n.toNat, 0, p6, [], 101) ⟨h7, by simp, rfl⟩ ?_ ?_
  · exact leF F
  · rintro ⟨k, j, p, ls, cc⟩ ⟨hd, hj, hls⟩
    simp only at hd hj hls
    refine go hS F ?_
    refine cb F (decide ((j : Int) < n)) (fun hc => ?_) fun hc => ?_
    · have hc := of_decide_eq_true hc
      obtain _ | k := k
      · omega
      simp only [dP] at hd
      obtain ⟨⟨x, q⟩, d1, hd⟩ := Option.bind_eq_some_iff.1 hd
      simp only at hd
      obtain ⟨⟨y, r⟩, d2, hd⟩ := Option.bind_eq_some_iff.1 hd
      simp only at hd
      have m1 := dN_some d1
      have m2 := dN_some d2
      refine go hS (fc m1 (fc m2 F)) ?_
      refine backK_n (k, j + 1, r, ls ++ [(x, y)], cc + 100) ⟨hd, by simp only; omega, by simp [hls]⟩ (Nat.lt_succ_self _) (Le.of ?_ ?_ ?_)
      · simp only [go_sem, seval, F] <;> simp
      · simp only [go_sem, seval, F, List.map_append, List.map_cons, List.map_nil]
      · simp
    · have hc := of_decide_eq_false hc
      have hk : k = 0 := by omega
      subst hk
      simp only [dP, Option.some.injEq, Prod.mk.injEq] at hd
      obtain ⟨rfl, rfl⟩ := hd
      have c9 : decide (p < (s.length : Int)) = false := by simp; omega
      refine go hS (fc c9 F) ?_
      refine cf (fc c9 F) ?_
      refine go hS F ?_
      refine .inr ⟨_, _, (by simp only [go_sem, seval] <;> eq_refl), ?_⟩
      refine ⟨_, _, _, _, _, Tryd.func44, ok44, nt44, by simp, of44, fun hb2 => ?_⟩
      have hOK2 := Ctx.fd_ok (nt := 12) (hb := hb2) hS
      refine go hS F ?_
      refine ct F ?_
      refine go hS F ?_
      refine endD_n ⟨by simp only [go_sem, seval], _, _, (by simp only [go_sem, seval] <;> eq_refl), by simp only [go_sem, seval], by simp only [go_sem, seval], ?_, rfl⟩
      simp only [go_sem, seval]
end Go.Proofs.YtdabfcbelkjmgaaDoor.Am
/-
  unit: Encode and Decode for callers.
-/
namespace Go.Proofs.YtdabfcbelkjmgaaDoor.Am
open Go
attribute [local irreducible] awp seqK blkK backK endK inlK restK rngK asgK itK
set_option maxRecDepth 100000
set_option maxHeartbeats 8000000
set_option linter.unusedSimpArgs false
set_option linter.unusedVariables false
/-! putlog/unit.Encode -/
def D_unit_Encode (N : Nat) (a b c : Int) (l : List (Int × Int)) (p q : Int) : Option (List UInt8 × Int) :=
  (D_unit_Valid N a b c l p q).bind fun v =>
  gd (l.length ≤ 1000000) <|
  some (bif v then encS a b c l p q else [], bif v then 0 else 80)
theorem D_unit_Encode_ok (N : Nat) (a b c : Int) (l : List (Int × Int)) (p q : Int) (r : List UInt8 × Int) (h : D_unit_Encode N a b c l p q = some r) :
    PCall Tryd.prog 21 [.agg [.i a, .i b, .i c, .sl 2 false (l.map e_ii) [.i 0, .i 0], .i p, .i q]] (.tup [.v (.string (sB r.1)), .i r.2]) := by
  unfold D_unit_Encode at h
  obtain ⟨v, h1, h2⟩ := Option.bind_eq_some_iff.1 h
  simp only [gd_some] at h2
  obtain ⟨h3, h2⟩ := h2
  cases h2
  exact encode_ok N a b c l p q v h1 h3
def s21 (N : Nat) : Spec
  | [.agg [.v (.int .i64 a), .v (.int .i64 b), .v (.int .i64 c), .sl yl _ l _, .v (.int .i64 p), .v (.int .i64 q)]] => some (((yl = 2 ∨ l = []) ∧ l = (l.map d_ii).map e_ii) ∧ (D_unit_Encode N a b c (l.map d_ii) p q).isSome = true, .tup [.v (.string (sB ((D_unit_Encode N a b c (l.map d_ii) p q).getD ([], 0)).1)), .i ((D_unit_Encode N a b c (l.map d_ii) p q).getD ([], 0)).2])
  | _ => none
theorem fok21 (N : Nat) : FOK Tryd.prog 21 (s21 N) := ⟨of21, by
  intro args vc r h hv
  unfold s21 at h
  split at h
  · cases h
    obtain ⟨⟨hy0, hr0⟩, hs⟩ := hv
    obtain ⟨r, hr⟩ := Option.isSome_iff_exists.1 hs
    have hk := D_unit_Encode_ok N _ _ _ _ _ _ r hr
    simp only [hr, Option.getD_some]
    refine PCall.arg ?_ hk
    simp only [wkL, wk, and_true, true_and, Bool.false_eq_true, false_implies, implies_true]
    repeat' (first | exact True.intro | assumption | apply And.intro)
  · simp at h⟩
/-! putlog/unit.Decode -/
def D_unit_Decode (N : Nat) (s : List UInt8) : Option ((Int × Int × Int × List (Int × Int) × Int × Int) × Int) :=
  (dN N s 0).bind fun (a, p1) =>
  (dN N s p1).bind fun (b, p2) =>
  (dN N s p2).bind fun (c, p3) =>
  (dN N s p3).bind fun (f, p4) =>
  (dN N s p4).bind fun (g, p5) =>
  (dN N s p5).bind fun (n, p6) =>
  gd (3 ≤ n ∧ n ≤ 8) <|
  (dP N s n.toNat p6 []).bind fun (l, p7) =>
  gd ((s.length : Int) ≤ p7) <|
  (D_unit_Valid N a b c l f g).bind fun v =>
  gd (v = true) <|
  some ((a, b, c, l, f, g), 0)
theorem D_unit_Decode_ok (N : Nat) (s : List UInt8) (r : (Int × Int × Int × List (Int × Int) × Int × Int) × Int) (h : D_unit_Decode N s = some r) :
    PCall Tryd.prog 22 [.v (.string (sB s))] (.tup [.agg [.i r.1.1, .i r.1.2.1, .i r.1.2.2.1, .sl 2 false (r.1.2.2.2.1.map e_ii) [.i 0, .i 0], .i r.1.2.2.2.2.1, .i r.1.2.2.2.2.2], .i r.2]) := by
  unfold D_unit_Decode at h
  simp only [gd_some, Option.bind_eq_some_iff] at h
  obtain ⟨⟨a, p1⟩, h1, ⟨b, p2⟩, h2, ⟨c, p3⟩, h3, ⟨f, p4⟩, h4, ⟨g, p5⟩, h5, ⟨n, p6⟩, h6, hn, ⟨l, p7⟩, h7, h8, v, h9, rfl, h10⟩ := h
  obtain rfl := Option.some.inj h10
  exact decode_ok N s a b c f g n p1 p2 p3 p4 p5 p6 p7 l h1 h2 h3 h4 h5 h6 hn h7 h8 h9
def s22 (N : Nat) : Spec
  | [.v (.string s)] => some ((D_unit_Decode N (bL s)).isSome = true, .tup [.agg [.i ((D_unit_Decode N (bL s)).getD ((0, 0, 0, [], 0, 0), 0)).1.1, .i ((D_unit_Decode N (bL s)).getD ((0, 0, 0, [], 0, 0), 0)).1.2.1, .i ((D_unit_Decode N (bL s)).getD ((0, 0, 0, [], 0, 0), 0)).1.2.2.1, .sl 2 false (((D_unit_Decode N (bL s)).getD ((0, 0, 0, [], 0, 0), 0)).1.2.2.2.1.map e_ii) [.i 0, .i 0], .i ((D_unit_Decode N (bL s)).getD ((0, 0, 0, [], 0, 0), 0)).1.2.2.2.2.1, .i ((D_unit_Decode N (bL s)).getD ((0, 0, 0, [], 0, 0), 0)).1.2.2.2.2.2], .i ((D_unit_Decode N (bL s)).getD ((0, 0, 0, [], 0, 0), 0)).2])
  | _ => none
theorem fok22 (N : Nat) : FOK Tryd.prog 22 (s22 N) := ⟨of22, by
  intro args vc r h hv
  unfold s22 at h
  split at h
  · cases h
    obtain ⟨r, hr⟩ := Option.isSome_iff_exists.1 hv
    have hk := D_unit_Decode_ok N _ r hr
    simp only [hr, Option.getD_some]
    rw [sB_bL] at hk
    exact hk
  · simp at h⟩
end Go.Proofs.YtdabfcbelkjmgaaDoor.Am
