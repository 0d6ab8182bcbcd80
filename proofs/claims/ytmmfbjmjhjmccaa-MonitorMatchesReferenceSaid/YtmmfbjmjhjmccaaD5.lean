import Derived.Test.YtmmfbjmjhjmccaaP14
namespace Go.Proofs.Ytmmfbjmjhjmccaa.Am
open Go
attribute [local irreducible] awp seqK blkK backK endK inlK restK rngK asgK itK
set_option maxRecDepth 100000
set_option maxHeartbeats 8000000
set_option linter.unusedSimpArgs false
set_option linter.unusedVariables false
/-! putlog/putlogref05.Valid -/
def D_putlogref05_Valid_L1 (N : Nat) (c912 : List (Int × Int × Int)) : Nat → Int → Option (Sum Unit Bool)
  | 0, _ => none
  | n + 1, i919 =>
    bif decide (i919 < (c912.length : Int)) then (
      (nth c912 i919).bind fun (x920, x921, x922) =>
      gd ((decide (0 < i919)) = true → (I64 (i919 - 1))) <|
      gd ((decide (0 < i919)) = true → (0 ≤ i919 - 1 ∧ i919 - 1 < (c912.length : Int))) <|
      bif (((((decide (x920 < 0)) || (decide (10000000 < x920))) || (decide (x921 < 0))) || (decide (x922 < x921))) || (decide (10000000 < x922))) || ((decide (0 < i919)) && (decide (x920 ≤ (c912.getD (i919 - 1).toNat (0, 0, 0)).1))) then (
        some (.inr false))
      else (
        gd (I64 (i919 + 1)) <|
        D_putlogref05_Valid_L1 N c912 n (i919 + 1)))
    else (
      some (.inl ()))

def D_putlogref05_Valid (N : Nat) (c911 : Int) (c912 : List (Int × Int × Int)) : Option Bool :=
  bif ((decide (c911 < 0)) || (decide (100 < c911))) || (decide (12 < (c912.length : Int))) then (
    some false)
  else (
    (D_putlogref05_Valid_L1 N c912 N 0).bind fun o928 => match o928 with
      | .inl () => (
        some true)
      | .inr r927 => (
        some r927))

def T39 (N : Nat) : List (Nat × Spec) := []
theorem T39_ok (N : Nat) : TabOK Try.prog (tabOf (T39 N)) := tab_nil

section
attribute [local go_sem] T39 row1 dec1 dec1_row1 rb_row1 row2 dec2 dec2_row2 rb_row2 row3 dec3 dec3_row3 rb_row3 List.length_set Option.isSome_some
theorem D_putlogref05_Valid_ok (N : Nat) (c911 : Int) (c912 : List (Int × Int × Int)) (r : Bool) (h : D_putlogref05_Valid N c911 c912 = some r) : PCall Try.prog 39 [.agg [.i c911, .sl 3 false (c912.map row3) [.i 0, .i 0, .i 0]]] (.b r) := by
  refine pcall_fn (T39_ok N) _ Try.func39 ok39 nt39 (by simp) fun _ => ?_
  have hS := T39_ok N
  unfold ac39 rv39
  unfold D_putlogref05_Valid at h
  repeat' (first
 | (with_reducible (first | apply awp_sr5 | apply awp_r5 | apply awp_sd | apply awp_d | apply inlR_n5 | apply inlR_r5); (· (first | exact Ctx.fn_ok hS | exact Ctx.rd_ok hS | assumption | exact True.intro)); iterate 2 (· (simp only [go_sem, seval] <;> eq_refl)))
 | with_reducible (first | apply awp_scp | apply awp_sn | apply awp_nop | apply awp_ret | apply awp_exit | apply awp_block | apply awp_seq | apply seqK_n | apply seqK_r | apply seqK_x | apply blkK_n | apply blkK_r | apply blkK_x)
 | (with_reducible apply blkK_y; (· first | rfl | decide))
 | (with_reducible apply cutK_o; (· simp))
 | with_reducible (first | apply backK_x | apply backK_r | apply asgK_n | apply rngK_x | apply rngK_r | apply True.intro | apply And.intro True.intro True.intro)
 | (fail_if_success with_reducible apply K_id); (fail_if_success with_reducible apply awp_id); first | omega | (simp only [go_sem, seval]; done) | with_reducible assumption | (refine And.intro ?_ ?_) | (intro hg; simp_all; done) | grind)
  refine awp_cb (B' := ((decide (c911 < 0)) || (decide (100 < c911))) || (decide (12 < (c912.length : Int)))) (by simp only [go_sem, seval] <;> eq_refl) (by first | rfl | (simp; done) | grind) (fun hc1 => ?_) (fun hc1 => ?_)
  · rw [hc1, cond_true] at h
    obtain rfl := Option.some.inj h
    repeat' (first
 | (with_reducible (first | apply awp_sr5 | apply awp_r5 | apply awp_sd | apply awp_d | apply inlR_n5 | apply inlR_r5); (· (first | exact Ctx.fn_ok hS | exact Ctx.rd_ok hS | assumption | exact True.intro)); iterate 2 (· (simp only [go_sem, seval] <;> eq_refl)))
 | with_reducible (first | apply awp_scp | apply awp_sn | apply awp_nop | apply awp_ret | apply awp_exit | apply awp_block | apply awp_seq | apply seqK_n | apply seqK_r | apply seqK_x | apply blkK_n | apply blkK_r | apply blkK_x)
 | (with_reducible apply blkK_y; (· first | rfl | decide))
 | (with_reducible apply cutK_o; (· simp))
 | with_reducible (first | apply backK_x | apply backK_r | apply asgK_n | apply rngK_x | apply rngK_r | apply True.intro | apply And.intro True.intro True.intro)
 | (fail_if_success with_reducible apply K_id); (fail_if_success with_reducible apply awp_id); first | omega | (simp only [go_sem, seval]; done) | with_reducible assumption | (refine And.intro ?_ ?_) | (intro hg; simp_all; done) | grind)
    first | refine endK_r (by simp only [go_sem, seval] <;> eq_refl) (by simp only [go_sem, seval]) (by simp only [go_sem, seval]) ?_ rfl | refine endK_n (by simp only [go_sem, seval] <;> eq_refl) (by simp only [go_sem, seval]) (by simp only [go_sem, seval]) ?_ rfl
    first | (simp only [go_sem, seval]; done) | (simp only [go_sem, seval, List.map_append, List.map_cons, List.map_nil, List.map_set, List.map_take, List.map_drop]; done) | (simp []; done)
  · rw [hc1, cond_false] at h
    try simp only [gd_some, Option.bind_eq_some_iff] at h
    obtain ⟨o928, hL2, h⟩ := h
    repeat' (first
 | (with_reducible (first | apply awp_sr5 | apply awp_r5 | apply awp_sd | apply awp_d | apply inlR_n5 | apply inlR_r5); (· (first | exact Ctx.fn_ok hS | exact Ctx.rd_ok hS | assumption | exact True.intro)); iterate 2 (· (simp only [go_sem, seval] <;> eq_refl)))
 | with_reducible (first | apply awp_scp | apply awp_sn | apply awp_nop | apply awp_ret | apply awp_exit | apply awp_block | apply awp_seq | apply seqK_n | apply seqK_r | apply seqK_x | apply blkK_n | apply blkK_r | apply blkK_x)
 | (with_reducible apply blkK_y; (· first | rfl | decide))
 | (with_reducible apply cutK_o; (· simp))
 | with_reducible (first | apply backK_x | apply backK_r | apply asgK_n | apply rngK_x | apply rngK_r | apply True.intro | apply And.intro True.intro True.intro)
 | (fail_if_success with_reducible apply K_id); (fail_if_success with_reducible apply awp_id); first | omega | (simp only [go_sem, seval]; done) | with_reducible assumption | (refine And.intro ?_ ?_) | (intro hg; simp_all; done) | grind)
    refine awp_cut (fun z : Nat => ⟨[], [], z⟩) (fun z => (.inl () : Sum Unit Bool) = o928) (.x 0) ?_ ?_
    · refine awp_loop (fun y : Nat × Int × Nat => ⟨[(1, .box (0, 1) 0), (3, .i y.2.1)], [(.c (0, 1) 0, .i c911), (.c (0, 1) 1, .sl 3 false (c912.map row3) [.i 0, .i 0, .i 0])], y.2.2⟩) (fun y => D_putlogref05_Valid_L1 N c912 y.1 y.2.1 = some o928) (fun y => y.1) (N, 0, 3) hL2 ?_ ?_
      · refine Le.of ?_ ?_ (by first | exact Nat.le_refl _ | (simp; omega) | simp) <;> first | (simp only [go_sem, seval]; done) | (simp only [go_sem, seval, List.map_append, List.map_cons, List.map_nil, List.map_set, List.map_take, List.map_drop]; done) | (simp [List.map_append, List.map_set]; done)
      · rintro ⟨n, i919, c918⟩ hB3
        try simp only at hB3
        obtain _ | n := n
        · exact absurd hB3 (by simp [D_putlogref05_Valid_L1])
        rw [D_putlogref05_Valid_L1] at hB3
        repeat' (first
 | (with_reducible (first | apply awp_sr5 | apply awp_r5 | apply awp_sd | apply awp_d | apply inlR_n5 | apply inlR_r5); (· (first | exact Ctx.fn_ok hS | exact Ctx.rd_ok hS | assumption | exact True.intro)); iterate 2 (· (simp only [go_sem, seval] <;> eq_refl)))
 | with_reducible (first | apply awp_scp | apply awp_sn | apply awp_nop | apply awp_ret | apply awp_exit | apply awp_block | apply awp_seq | apply seqK_n | apply seqK_r | apply seqK_x | apply blkK_n | apply blkK_r | apply blkK_x)
 | (with_reducible apply blkK_y; (· first | rfl | decide))
 | (with_reducible apply cutK_o; (· simp))
 | with_reducible (first | apply backK_x | apply backK_r | apply asgK_n | apply rngK_x | apply rngK_r | apply True.intro | apply And.intro True.intro True.intro)
 | (fail_if_success with_reducible apply K_id); (fail_if_success with_reducible apply awp_id); first | omega | (simp only [go_sem, seval]; done) | with_reducible assumption | (refine And.intro ?_ ?_) | (intro hg; simp_all; done) | grind)
        refine awp_cb (B' := decide (i919 < (c912.length : Int))) (by simp only [go_sem, seval] <;> eq_refl) (by first | rfl | (simp; done) | grind) (fun hc4 => ?_) (fun hc4 => ?_)
        · rw [hc4, cond_true] at hB3
          try simp only [gd_some, Option.bind_eq_some_iff] at hB3
          obtain ⟨⟨x920, x921, x922⟩, hn922, hB3⟩ := hB3
          have hx922 : c912.getD i919.toNat (0, 0, 0) = (x920, x921, x922) := ixs hn922 _
          have hb922 := (nth_some hn922).1
          try simp only [gd_some, Option.bind_eq_some_iff] at hB3
          obtain ⟨hv5, hv6, hB3⟩ := hB3
          simp only [I64] at hv5
          repeat' (first
 | (with_reducible (first | apply awp_sr5 | apply awp_r5 | apply awp_sd | apply awp_d | apply inlR_n5 | apply inlR_r5); (· (first | exact Ctx.fn_ok hS | exact Ctx.rd_ok hS | assumption | exact True.intro)); iterate 2 (· (simp only [go_sem, seval, hx922] <;> eq_refl)))
 | with_reducible (first | apply awp_scp | apply awp_sn | apply awp_nop | apply awp_ret | apply awp_exit | apply awp_block | apply awp_seq | apply seqK_n | apply seqK_r | apply seqK_x | apply blkK_n | apply blkK_r | apply blkK_x)
 | (with_reducible apply blkK_y; (· first | rfl | decide))
 | (with_reducible apply cutK_o; (· simp))
 | with_reducible (first | apply backK_x | apply backK_r | apply asgK_n | apply rngK_x | apply rngK_r | apply True.intro | apply And.intro True.intro True.intro)
 | (fail_if_success with_reducible apply K_id); (fail_if_success with_reducible apply awp_id); first | omega | (simp only [go_sem, seval, hx922]; done) | with_reducible assumption | (refine And.intro ?_ ?_) | (intro hg; simp_all; done) | grind)
          refine awp_cb (B' := (((((decide (x920 < 0)) || (decide (10000000 < x920))) || (decide (x921 < 0))) || (decide (x922 < x921))) || (decide (10000000 < x922))) || ((decide (0 < i919)) && (decide (x920 ≤ (c912.getD (i919 - 1).toNat (0, 0, 0)).1)))) (by simp only [go_sem, seval, hx922] <;> eq_refl) (by first | rfl | (simp; done) | grind) (fun hc7 => ?_) (fun hc7 => ?_)
          · rw [hc7, cond_true] at hB3
            obtain rfl := Option.some.inj hB3
            try simp only at h
            obtain rfl := Option.some.inj h
            repeat' (first
 | (with_reducible (first | apply awp_sr5 | apply awp_r5 | apply awp_sd | apply awp_d | apply inlR_n5 | apply inlR_r5); (· (first | exact Ctx.fn_ok hS | exact Ctx.rd_ok hS | assumption | exact True.intro)); iterate 2 (· (simp only [go_sem, seval, hx922] <;> eq_refl)))
 | with_reducible (first | apply awp_scp | apply awp_sn | apply awp_nop | apply awp_ret | apply awp_exit | apply awp_block | apply awp_seq | apply seqK_n | apply seqK_r | apply seqK_x | apply blkK_n | apply blkK_r | apply blkK_x)
 | (with_reducible apply blkK_y; (· first | rfl | decide))
 | (with_reducible apply cutK_o; (· simp))
 | with_reducible (first | apply backK_x | apply backK_r | apply asgK_n | apply rngK_x | apply rngK_r | apply True.intro | apply And.intro True.intro True.intro)
 | (fail_if_success with_reducible apply K_id); (fail_if_success with_reducible apply awp_id); first | omega | (simp only [go_sem, seval, hx922]; done) | with_reducible assumption | (refine And.intro ?_ ?_) | (intro hg; simp_all; done) | grind)
            first | refine endK_r (by simp only [go_sem, seval, hx922] <;> eq_refl) (by simp only [go_sem, seval, hx922]) (by simp only [go_sem, seval, hx922]) ?_ rfl | refine endK_n (by simp only [go_sem, seval, hx922] <;> eq_refl) (by simp only [go_sem, seval, hx922]) (by simp only [go_sem, seval, hx922]) ?_ rfl
            first | (simp only [go_sem, seval, hx922]; done) | (simp only [go_sem, seval, hx922, List.map_append, List.map_cons, List.map_nil, List.map_set, List.map_take, List.map_drop]; done) | (simp [hx922]; done)
          · rw [hc7, cond_false] at hB3
            try simp only [gd_some, Option.bind_eq_some_iff] at hB3
            obtain ⟨hv8, hB3⟩ := hB3
            simp only [I64] at hv8
            repeat' (first
 | (with_reducible (first | apply awp_sr5 | apply awp_r5 | apply awp_sd | apply awp_d | apply inlR_n5 | apply inlR_r5); (· (first | exact Ctx.fn_ok hS | exact Ctx.rd_ok hS | assumption | exact True.intro)); iterate 2 (· (simp only [go_sem, seval, hx922] <;> eq_refl)))
 | with_reducible (first | apply awp_scp | apply awp_sn | apply awp_nop | apply awp_ret | apply awp_exit | apply awp_block | apply awp_seq | apply seqK_n | apply seqK_r | apply seqK_x | apply blkK_n | apply blkK_r | apply blkK_x)
 | (with_reducible apply blkK_y; (· first | rfl | decide))
 | (with_reducible apply cutK_o; (· simp))
 | with_reducible (first | apply backK_x | apply backK_r | apply asgK_n | apply rngK_x | apply rngK_r | apply True.intro | apply And.intro True.intro True.intro)
 | (fail_if_success with_reducible apply K_id); (fail_if_success with_reducible apply awp_id); first | omega | (simp only [go_sem, seval, hx922]; done) | with_reducible assumption | (refine And.intro ?_ ?_) | (intro hg; simp_all; done) | grind)
            refine backK_n (n, i919 + 1, c918 + 1 + 1 + 1 + 1) hB3 (Nat.lt_succ_self _) ?_
            refine Le.of ?_ ?_ (by first | exact Nat.le_refl _ | (simp; omega) | simp) <;> first | (simp only [go_sem, seval, hx922]; done) | (simp only [go_sem, seval, hx922, List.map_append, List.map_cons, List.map_nil, List.map_set, List.map_take, List.map_drop]; done) | (simp [hx922, List.map_append, List.map_set]; done)
        · rw [hc4, cond_false] at hB3
          repeat' (first
 | (with_reducible (first | apply awp_sr5 | apply awp_r5 | apply awp_sd | apply awp_d | apply inlR_n5 | apply inlR_r5); (· (first | exact Ctx.fn_ok hS | exact Ctx.rd_ok hS | assumption | exact True.intro)); iterate 2 (· (simp only [go_sem, seval] <;> eq_refl)))
 | with_reducible (first | apply awp_scp | apply awp_sn | apply awp_nop | apply awp_ret | apply awp_exit | apply awp_block | apply awp_seq | apply seqK_n | apply seqK_r | apply seqK_x | apply blkK_n | apply blkK_r | apply blkK_x)
 | (with_reducible apply blkK_y; (· first | rfl | decide))
 | (with_reducible apply cutK_o; (· simp))
 | with_reducible (first | apply backK_x | apply backK_r | apply asgK_n | apply rngK_x | apply rngK_r | apply True.intro | apply And.intro True.intro True.intro)
 | (fail_if_success with_reducible apply K_id); (fail_if_success with_reducible apply awp_id); first | omega | (simp only [go_sem, seval]; done) | with_reducible assumption | (refine And.intro ?_ ?_) | (intro hg; simp_all; done) | grind)
          refine cutK_h (c918 + 1) (Option.some.inj hB3) ?_
          refine Le.of ?_ ?_ (by first | exact Nat.le_refl _ | (simp; omega) | simp) <;> first | (simp only [go_sem, seval]; done) | (simp only [go_sem, seval, List.map_append, List.map_cons, List.map_nil, List.map_set, List.map_take, List.map_drop]; done) | (simp [List.map_append, List.map_set]; done)
    · rintro c926 hz9
      subst hz9
      try simp only at h
      obtain rfl := Option.some.inj h
      repeat' (first
 | (with_reducible (first | apply awp_sr5 | apply awp_r5 | apply awp_sd | apply awp_d | apply inlR_n5 | apply inlR_r5); (· (first | exact Ctx.fn_ok hS | exact Ctx.rd_ok hS | assumption | exact True.intro)); iterate 2 (· (simp only [go_sem, seval] <;> eq_refl)))
 | with_reducible (first | apply awp_scp | apply awp_sn | apply awp_nop | apply awp_ret | apply awp_exit | apply awp_block | apply awp_seq | apply seqK_n | apply seqK_r | apply seqK_x | apply blkK_n | apply blkK_r | apply blkK_x)
 | (with_reducible apply blkK_y; (· first | rfl | decide))
 | (with_reducible apply cutK_o; (· simp))
 | with_reducible (first | apply backK_x | apply backK_r | apply asgK_n | apply rngK_x | apply rngK_r | apply True.intro | apply And.intro True.intro True.intro)
 | (fail_if_success with_reducible apply K_id); (fail_if_success with_reducible apply awp_id); first | omega | (simp only [go_sem, seval]; done) | with_reducible assumption | (refine And.intro ?_ ?_) | (intro hg; simp_all; done) | grind)
      first | refine endK_r (by simp only [go_sem, seval] <;> eq_refl) (by simp only [go_sem, seval]) (by simp only [go_sem, seval]) ?_ rfl | refine endK_n (by simp only [go_sem, seval] <;> eq_refl) (by simp only [go_sem, seval]) (by simp only [go_sem, seval]) ?_ rfl
      first | (simp only [go_sem, seval]; done) | (simp only [go_sem, seval, List.map_append, List.map_cons, List.map_nil, List.map_set, List.map_take, List.map_drop]; done) | (simp []; done)
end

def s39 (N : Nat) : Spec
  | [.agg [.v (.int .i64 c911), .sl yc912 _ c912 _]] => some (((yc912 = 3 ∨ c912 = []) ∧ c912 = (c912.map dec3).map row3) ∧ (D_putlogref05_Valid N c911 (c912.map dec3)).isSome = true, .b ((D_putlogref05_Valid N c911 (c912.map dec3)).getD false))
  | _ => none
theorem fok39 (N : Nat) : FOK Try.prog 39 (s39 N) := ⟨of39, by
  intro args vc r h hv
  unfold s39 at h
  split at h
  · cases h
    obtain ⟨⟨hy0, hr0⟩, hs⟩ := hv
    obtain ⟨r, hr⟩ := Option.isSome_iff_exists.1 hs
    have hk := D_putlogref05_Valid_ok N _ _ r hr
    simp only [hr, Option.getD_some]
    refine PCall.arg ?_ hk
    simp only [wkL, wk, and_true, true_and, Bool.false_eq_true, false_implies, implies_true]
    repeat' (first | exact True.intro | assumption | apply And.intro)
  · simp at h⟩

/-! putlog/putlogref05.Fits -/
def D_putlogref05_Fits (N : Nat) (drift929 : Int) (x930 : Int) (n931 : Int) : Option Bool :=
  gd (I64 (1000 - drift929)) <|
  gd (I64 ((1000 - drift929) * x930)) <|
  gd (I64 (((1000 - drift929) * x930) - 1000)) <|
  gd (I64 (1000 * n931)) <|
  gd ((decide (((1000 - drift929) * x930) - 1000 < 1000 * n931)) = true → (I64 (1000 * n931))) <|
  gd ((decide (((1000 - drift929) * x930) - 1000 < 1000 * n931)) = true → (I64 (1000 + drift929))) <|
  gd ((decide (((1000 - drift929) * x930) - 1000 < 1000 * n931)) = true → (I64 ((1000 + drift929) * x930))) <|
  gd ((decide (((1000 - drift929) * x930) - 1000 < 1000 * n931)) = true → (I64 (((1000 + drift929) * x930) + 1000))) <|
  some ((decide (((1000 - drift929) * x930) - 1000 < 1000 * n931)) && (decide (1000 * n931 < ((1000 + drift929) * x930) + 1000)))

def T58 (N : Nat) : List (Nat × Spec) := []
theorem T58_ok (N : Nat) : TabOK Try.prog (tabOf (T58 N)) := tab_nil

section
attribute [local go_sem] T58 row1 dec1 dec1_row1 rb_row1 row2 dec2 dec2_row2 rb_row2 row3 dec3 dec3_row3 rb_row3 List.length_set Option.isSome_some
theorem D_putlogref05_Fits_ok (N : Nat) (drift929 : Int) (x930 : Int) (n931 : Int) (r : Bool) (h : D_putlogref05_Fits N drift929 x930 n931 = some r) : PCall Try.prog 58 [.i drift929, .i x930, .i n931] (.b r) := by
  refine pcall_fn (T58_ok N) _ Try.func58 ok58 nt58 (by simp) fun _ => ?_
  have hS := T58_ok N
  unfold ac58 rv58
  unfold D_putlogref05_Fits at h
  try simp only [gd_some, Option.bind_eq_some_iff] at h
  obtain ⟨hv1, hv2, hv3, hv4, hv5, hv6, hv7, hv8, h⟩ := h
  simp only [I64] at hv1
  simp only [I64] at hv2
  simp only [I64] at hv3
  simp only [I64] at hv4
  simp only [I64] at hv5
  simp only [I64] at hv6
  simp only [I64] at hv7
  simp only [I64] at hv8
  obtain rfl := Option.some.inj h
  repeat' (first
 | (with_reducible (first | apply awp_sr5 | apply awp_r5 | apply awp_sd | apply awp_d | apply inlR_n5 | apply inlR_r5); (· (first | exact Ctx.fn_ok hS | exact Ctx.rd_ok hS | assumption | exact True.intro)); iterate 2 (· (simp only [go_sem, seval] <;> eq_refl)))
 | with_reducible (first | apply awp_scp | apply awp_sn | apply awp_nop | apply awp_ret | apply awp_exit | apply awp_block | apply awp_seq | apply seqK_n | apply seqK_r | apply seqK_x | apply blkK_n | apply blkK_r | apply blkK_x)
 | (with_reducible apply blkK_y; (· first | rfl | decide))
 | (with_reducible apply cutK_o; (· simp))
 | with_reducible (first | apply backK_x | apply backK_r | apply asgK_n | apply rngK_x | apply rngK_r | apply True.intro | apply And.intro True.intro True.intro)
 | (fail_if_success with_reducible apply K_id); (fail_if_success with_reducible apply awp_id); first | omega | (simp only [go_sem, seval]; done) | with_reducible assumption | (refine And.intro ?_ ?_) | (intro hg; simp_all; done) | grind)
  first | refine endK_r (by simp only [go_sem, seval] <;> eq_refl) (by simp only [go_sem, seval]) (by simp only [go_sem, seval]) ?_ rfl | refine endK_n (by simp only [go_sem, seval] <;> eq_refl) (by simp only [go_sem, seval]) (by simp only [go_sem, seval]) ?_ rfl
  first | (simp only [go_sem, seval]; done) | (simp only [go_sem, seval, List.map_append, List.map_cons, List.map_nil, List.map_set, List.map_take, List.map_drop]; done) | (simp []; done)
end

def s58 (N : Nat) : Spec
  | [.v (.int .i64 drift929), .v (.int .i64 x930), .v (.int .i64 n931)] => some ((D_putlogref05_Fits N drift929 x930 n931).isSome = true, .b ((D_putlogref05_Fits N drift929 x930 n931).getD false))
  | _ => none
theorem fok58 (N : Nat) : FOK Try.prog 58 (s58 N) := ⟨of58, by
  intro args vc r h hv
  unfold s58 at h
  split at h
  · cases h
    have hs := hv
    obtain ⟨r, hr⟩ := Option.isSome_iff_exists.1 hs
    have hk := D_putlogref05_Fits_ok N _ _ _ r hr
    simp only [hr, Option.getD_some]
    refine PCall.arg ?_ hk
    simp only [wkL, wk, and_true, true_and, Bool.false_eq_true, false_implies, implies_true]
    try trivial
  · simp at h⟩

/-! putlog/putlogref05.Spread -/
def D_putlogref05_Spread_L1 (N : Nat) (drift932 : Int) (n933 : Int) : Nat → Int → Option Int
  | 0, _ => none
  | n + 1, least938 =>
    (D_putlogref05_Fits N drift932 least938 n933).bind fun r939 =>
    bif !r939 then (
      gd (I64 (least938 + 1)) <|
      D_putlogref05_Spread_L1 N drift932 n933 n (least938 + 1))
    else (
      some least938)

def D_putlogref05_Spread_L2 (N : Nat) (drift932 : Int) (n933 : Int) : Nat → Int → Option Int
  | 0, _ => none
  | n + 1, most950 =>
    gd (I64 (most950 + 1)) <|
    (D_putlogref05_Fits N drift932 (most950 + 1) n933).bind fun r951 =>
    bif r951 then (
      gd (I64 (most950 + 1)) <|
      D_putlogref05_Spread_L2 N drift932 n933 n (most950 + 1))
    else (
      some most950)

def D_putlogref05_Spread (N : Nat) (drift932 : Int) (n933 : Int) : Option (Int × Int) :=
  bif (((decide (drift932 < 0)) || (decide (100 < drift932))) || (decide (n933 < 0))) || (decide (10000000 < n933)) then (
    some (0, 0))
  else (
    gd (I64 (n933 - 1)) <|
    gd (I64 (1000 * (n933 - 1))) <|
    gd (I64 (1000 + drift932)) <|
    gd (1000 + drift932 ≠ 0) <|
    gd (I64 ((1000 * (n933 - 1)).tdiv (1000 + drift932))) <|
    gd (I64 (((1000 * (n933 - 1)).tdiv (1000 + drift932)) - 1)) <|
    (D_putlogref05_Spread_L1 N drift932 n933 N (max (((1000 * (n933 - 1)).tdiv (1000 + drift932)) - 1) 0)).bind fun least944 =>
    gd (I64 (1000 * n933)) <|
    gd (I64 (1000 - drift932)) <|
    gd (1000 - drift932 ≠ 0) <|
    gd (I64 ((1000 * n933).tdiv (1000 - drift932))) <|
    gd (I64 (((1000 * n933).tdiv (1000 - drift932)) - 1)) <|
    (D_putlogref05_Spread_L2 N drift932 n933 N (max (((1000 * n933).tdiv (1000 - drift932)) - 1) least944)).bind fun most956 =>
    some (least944, most956))

def T57 (N : Nat) : List (Nat × Spec) := [(58, s58 N)]
theorem T57_ok (N : Nat) : TabOK Try.prog (tabOf (T57 N)) := tab_cons (fok58 N) (tab_nil)

section
attribute [local go_sem] T57 s58 row1 dec1 dec1_row1 rb_row1 row2 dec2 dec2_row2 rb_row2 row3 dec3 dec3_row3 rb_row3 List.length_set Option.isSome_some
theorem D_putlogref05_Spread_ok (N : Nat) (drift932 : Int) (n933 : Int) (r : Int × Int) (h : D_putlogref05_Spread N drift932 n933 = some r) : PCall Try.prog 57 [.i drift932, .i n933] (.tup [.i r.1, .i r.2]) := by
  refine pcall_fn (T57_ok N) _ Try.func57 ok57 nt57 (by simp) fun _ => ?_
  have hS := T57_ok N
  unfold ac57 rv57
  unfold D_putlogref05_Spread at h
  repeat' (first
 | (with_reducible (first | apply awp_sr5 | apply awp_r5 | apply awp_sd | apply awp_d | apply inlR_n5 | apply inlR_r5); (· (first | exact Ctx.fn_ok hS | exact Ctx.rd_ok hS | assumption | exact True.intro)); iterate 2 (· (simp only [go_sem, seval] <;> eq_refl)))
 | with_reducible (first | apply awp_scp | apply awp_sn | apply awp_nop | apply awp_ret | apply awp_exit | apply awp_block | apply awp_seq | apply seqK_n | apply seqK_r | apply seqK_x | apply blkK_n | apply blkK_r | apply blkK_x)
 | (with_reducible apply blkK_y; (· first | rfl | decide))
 | (with_reducible apply cutK_o; (· simp))
 | with_reducible (first | apply backK_x | apply backK_r | apply asgK_n | apply rngK_x | apply rngK_r | apply True.intro | apply And.intro True.intro True.intro)
 | (fail_if_success with_reducible apply K_id); (fail_if_success with_reducible apply awp_id); first | omega | (simp only [go_sem, seval]; done) | with_reducible assumption | (refine And.intro ?_ ?_) | (intro hg; simp_all; done) | grind)
  refine awp_cb (B' := (((decide (drift932 < 0)) || (decide (100 < drift932))) || (decide (n933 < 0))) || (decide (10000000 < n933))) (by simp only [go_sem, seval] <;> eq_refl) (by first | rfl | (simp; done) | grind) (fun hc1 => ?_) (fun hc1 => ?_)
  · rw [hc1, cond_true] at h
    obtain rfl := Option.some.inj h
    repeat' (first
 | (with_reducible (first | apply awp_sr5 | apply awp_r5 | apply awp_sd | apply awp_d | apply inlR_n5 | apply inlR_r5); (· (first | exact Ctx.fn_ok hS | exact Ctx.rd_ok hS | assumption | exact True.intro)); iterate 2 (· (simp only [go_sem, seval] <;> eq_refl)))
 | with_reducible (first | apply awp_scp | apply awp_sn | apply awp_nop | apply awp_ret | apply awp_exit | apply awp_block | apply awp_seq | apply seqK_n | apply seqK_r | apply seqK_x | apply blkK_n | apply blkK_r | apply blkK_x)
 | (with_reducible apply blkK_y; (· first | rfl | decide))
 | (with_reducible apply cutK_o; (· simp))
 | with_reducible (first | apply backK_x | apply backK_r | apply asgK_n | apply rngK_x | apply rngK_r | apply True.intro | apply And.intro True.intro True.intro)
 | (fail_if_success with_reducible apply K_id); (fail_if_success with_reducible apply awp_id); first | omega | (simp only [go_sem, seval]; done) | with_reducible assumption | (refine And.intro ?_ ?_) | (intro hg; simp_all; done) | grind)
    first | refine endK_r (by simp only [go_sem, seval] <;> eq_refl) (by simp only [go_sem, seval]) (by simp only [go_sem, seval]) ?_ rfl | refine endK_n (by simp only [go_sem, seval] <;> eq_refl) (by simp only [go_sem, seval]) (by simp only [go_sem, seval]) ?_ rfl
    first | (simp only [go_sem, seval]; done) | (simp only [go_sem, seval, List.map_append, List.map_cons, List.map_nil, List.map_set, List.map_take, List.map_drop]; done) | (simp []; done)
  · rw [hc1, cond_false] at h
    try simp only [gd_some, Option.bind_eq_some_iff] at h
    obtain ⟨hv2, hv3, hv4, hv5, hv6, hv7, h⟩ := h
    simp only [I64] at hv2
    simp only [I64] at hv3
    simp only [I64] at hv4
    simp only [I64] at hv6
    simp only [I64] at hv7
    try simp only [gd_some, Option.bind_eq_some_iff] at h
    obtain ⟨o945, hL8, h⟩ := h
    repeat' (first
 | (with_reducible (first | apply awp_sr5 | apply awp_r5 | apply awp_sd | apply awp_d | apply inlR_n5 | apply inlR_r5); (· (first | exact Ctx.fn_ok hS | exact Ctx.rd_ok hS | assumption | exact True.intro)); iterate 2 (· (simp only [go_sem, seval] <;> eq_refl)))
 | with_reducible (first | apply awp_scp | apply awp_sn | apply awp_nop | apply awp_ret | apply awp_exit | apply awp_block | apply awp_seq | apply seqK_n | apply seqK_r | apply seqK_x | apply blkK_n | apply blkK_r | apply blkK_x)
 | (with_reducible apply blkK_y; (· first | rfl | decide))
 | (with_reducible apply cutK_o; (· simp))
 | with_reducible (first | apply backK_x | apply backK_r | apply asgK_n | apply rngK_x | apply rngK_r | apply True.intro | apply And.intro True.intro True.intro)
 | (fail_if_success with_reducible apply K_id); (fail_if_success with_reducible apply awp_id); first | omega | (simp only [go_sem, seval]; done) | with_reducible assumption | (refine And.intro ?_ ?_) | (intro hg; simp_all; done) | grind)
    refine awp_cut (fun z : Int × Nat => ⟨[(0, .i drift932), (1, .i n933), (6, .i z.1)], [], z.2⟩) (fun z => (z.1 : Int) = o945) (.x 0) ?_ ?_
    · refine awp_loop (fun y : Nat × Int × Nat => ⟨[(0, .i drift932), (1, .i n933), (6, .i y.2.1)], [], y.2.2⟩) (fun y => D_putlogref05_Spread_L1 N drift932 n933 y.1 y.2.1 = some o945) (fun y => y.1) (N, max (((1000 * (n933 - 1)).tdiv (1000 + drift932)) - 1) 0, 3) hL8 ?_ ?_
      · refine Le.of ?_ ?_ (by first | exact Nat.le_refl _ | (simp; omega) | simp) <;> first | (simp only [go_sem, seval]; done) | (simp only [go_sem, seval, List.map_append, List.map_cons, List.map_nil, List.map_set, List.map_take, List.map_drop]; done) | (simp [List.map_append, List.map_set]; done)
      · rintro ⟨n, least938, c937⟩ hB9
        try simp only at hB9
        obtain _ | n := n
        · exact absurd hB9 (by simp [D_putlogref05_Spread_L1])
        rw [D_putlogref05_Spread_L1] at hB9
        try simp only [gd_some, Option.bind_eq_some_iff] at hB9
        obtain ⟨r939, hr939, hB9⟩ := hB9
        repeat' (first
 | (with_reducible (first | apply awp_sr5 | apply awp_r5 | apply awp_sd | apply awp_d | apply inlR_n5 | apply inlR_r5); (· (first | exact Ctx.fn_ok hS | exact Ctx.rd_ok hS | assumption | exact True.intro)); iterate 2 (· (simp only [go_sem, seval, hr939] <;> eq_refl)))
 | with_reducible (first | apply awp_scp | apply awp_sn | apply awp_nop | apply awp_ret | apply awp_exit | apply awp_block | apply awp_seq | apply seqK_n | apply seqK_r | apply seqK_x | apply blkK_n | apply blkK_r | apply blkK_x)
 | (with_reducible apply blkK_y; (· first | rfl | decide))
 | (with_reducible apply cutK_o; (· simp))
 | with_reducible (first | apply backK_x | apply backK_r | apply asgK_n | apply rngK_x | apply rngK_r | apply True.intro | apply And.intro True.intro True.intro)
 | (fail_if_success with_reducible apply K_id); (fail_if_success with_reducible apply awp_id); first | omega | (simp only [go_sem, seval, hr939]; done) | with_reducible assumption | (refine And.intro ?_ ?_) | (intro hg; simp_all; done) | grind)
        refine awp_cb (B' := !r939) (by simp only [go_sem, seval, hr939] <;> eq_refl) (by first | rfl | (simp; done) | grind) (fun hc10 => ?_) (fun hc10 => ?_)
        · rw [hc10, cond_true] at hB9
          try simp only [gd_some, Option.bind_eq_some_iff] at hB9
          obtain ⟨hv11, hB9⟩ := hB9
          simp only [I64] at hv11
          repeat' (first
 | (with_reducible (first | apply awp_sr5 | apply awp_r5 | apply awp_sd | apply awp_d | apply inlR_n5 | apply inlR_r5); (· (first | exact Ctx.fn_ok hS | exact Ctx.rd_ok hS | assumption | exact True.intro)); iterate 2 (· (simp only [go_sem, seval, hr939] <;> eq_refl)))
 | with_reducible (first | apply awp_scp | apply awp_sn | apply awp_nop | apply awp_ret | apply awp_exit | apply awp_block | apply awp_seq | apply seqK_n | apply seqK_r | apply seqK_x | apply blkK_n | apply blkK_r | apply blkK_x)
 | (with_reducible apply blkK_y; (· first | rfl | decide))
 | (with_reducible apply cutK_o; (· simp))
 | with_reducible (first | apply backK_x | apply backK_r | apply asgK_n | apply rngK_x | apply rngK_r | apply True.intro | apply And.intro True.intro True.intro)
 | (fail_if_success with_reducible apply K_id); (fail_if_success with_reducible apply awp_id); first | omega | (simp only [go_sem, seval, hr939]; done) | with_reducible assumption | (refine And.intro ?_ ?_) | (intro hg; simp_all; done) | grind)
          refine backK_n (n, least938 + 1, c937 + 1 + 1) hB9 (Nat.lt_succ_self _) ?_
          refine Le.of ?_ ?_ (by first | exact Nat.le_refl _ | (simp; omega) | simp) <;> first | (simp only [go_sem, seval, hr939]; done) | (simp only [go_sem, seval, hr939, List.map_append, List.map_cons, List.map_nil, List.map_set, List.map_take, List.map_drop]; done) | (simp [hr939, List.map_append, List.map_set]; done)
        · rw [hc10, cond_false] at hB9
          repeat' (first
 | (with_reducible (first | apply awp_sr5 | apply awp_r5 | apply awp_sd | apply awp_d | apply inlR_n5 | apply inlR_r5); (· (first | exact Ctx.fn_ok hS | exact Ctx.rd_ok hS | assumption | exact True.intro)); iterate 2 (· (simp only [go_sem, seval, hr939] <;> eq_refl)))
 | with_reducible (first | apply awp_scp | apply awp_sn | apply awp_nop | apply awp_ret | apply awp_exit | apply awp_block | apply awp_seq | apply seqK_n | apply seqK_r | apply seqK_x | apply blkK_n | apply blkK_r | apply blkK_x)
 | (with_reducible apply blkK_y; (· first | rfl | decide))
 | (with_reducible apply cutK_o; (· simp))
 | with_reducible (first | apply backK_x | apply backK_r | apply asgK_n | apply rngK_x | apply rngK_r | apply True.intro | apply And.intro True.intro True.intro)
 | (fail_if_success with_reducible apply K_id); (fail_if_success with_reducible apply awp_id); first | omega | (simp only [go_sem, seval, hr939]; done) | with_reducible assumption | (refine And.intro ?_ ?_) | (intro hg; simp_all; done) | grind)
          refine cutK_h (least938, c937 + 1) (Option.some.inj hB9) ?_
          refine Le.of ?_ ?_ (by first | exact Nat.le_refl _ | (simp; omega) | simp) <;> first | (simp only [go_sem, seval, hr939]; done) | (simp only [go_sem, seval, hr939, List.map_append, List.map_cons, List.map_nil, List.map_set, List.map_take, List.map_drop]; done) | (simp [hr939, List.map_append, List.map_set]; done)
    · rintro ⟨least944, c943⟩ hz12
      subst hz12
      try simp only at h
      try simp only [gd_some, Option.bind_eq_some_iff] at h
      obtain ⟨hv13, hv14, hv15, hv16, hv17, h⟩ := h
      simp only [I64] at hv13
      simp only [I64] at hv14
      simp only [I64] at hv16
      simp only [I64] at hv17
      try simp only [gd_some, Option.bind_eq_some_iff] at h
      obtain ⟨o957, hL18, h⟩ := h
      repeat' (first
 | (with_reducible (first | apply awp_sr5 | apply awp_r5 | apply awp_sd | apply awp_d | apply inlR_n5 | apply inlR_r5); (· (first | exact Ctx.fn_ok hS | exact Ctx.rd_ok hS | assumption | exact True.intro)); iterate 2 (· (simp only [go_sem, seval] <;> eq_refl)))
 | with_reducible (first | apply awp_scp | apply awp_sn | apply awp_nop | apply awp_ret | apply awp_exit | apply awp_block | apply awp_seq | apply seqK_n | apply seqK_r | apply seqK_x | apply blkK_n | apply blkK_r | apply blkK_x)
 | (with_reducible apply blkK_y; (· first | rfl | decide))
 | (with_reducible apply cutK_o; (· simp))
 | with_reducible (first | apply backK_x | apply backK_r | apply asgK_n | apply rngK_x | apply rngK_r | apply True.intro | apply And.intro True.intro True.intro)
 | (fail_if_success with_reducible apply K_id); (fail_if_success with_reducible apply awp_id); first | omega | (simp only [go_sem, seval]; done) | with_reducible assumption | (refine And.intro ?_ ?_) | (intro hg; simp_all; done) | grind)
      refine awp_cut (fun z : Int × Nat => ⟨[(6, .i least944), (7, .i z.1)], [], z.2⟩) (fun z => (z.1 : Int) = o957) (.x 2) ?_ ?_
      · refine awp_loop (fun y : Nat × Int × Nat => ⟨[(0, .i drift932), (1, .i n933), (6, .i least944), (7, .i y.2.1)], [], y.2.2⟩) (fun y => D_putlogref05_Spread_L2 N drift932 n933 y.1 y.2.1 = some o957) (fun y => y.1) (N, max (((1000 * n933).tdiv (1000 - drift932)) - 1) least944, c943 + 1) hL18 ?_ ?_
        · refine Le.of ?_ ?_ (by first | exact Nat.le_refl _ | (simp; omega) | simp) <;> first | (simp only [go_sem, seval]; done) | (simp only [go_sem, seval, List.map_append, List.map_cons, List.map_nil, List.map_set, List.map_take, List.map_drop]; done) | (simp [List.map_append, List.map_set]; done)
        · rintro ⟨n, most950, c949⟩ hB19
          try simp only at hB19
          obtain _ | n := n
          · exact absurd hB19 (by simp [D_putlogref05_Spread_L2])
          rw [D_putlogref05_Spread_L2] at hB19
          try simp only [gd_some, Option.bind_eq_some_iff] at hB19
          obtain ⟨hv20, r951, hr951, hB19⟩ := hB19
          simp only [I64] at hv20
          repeat' (first
 | (with_reducible (first | apply awp_sr5 | apply awp_r5 | apply awp_sd | apply awp_d | apply inlR_n5 | apply inlR_r5); (· (first | exact Ctx.fn_ok hS | exact Ctx.rd_ok hS | assumption | exact True.intro)); iterate 2 (· (simp only [go_sem, seval, hr951] <;> eq_refl)))
 | with_reducible (first | apply awp_scp | apply awp_sn | apply awp_nop | apply awp_ret | apply awp_exit | apply awp_block | apply awp_seq | apply seqK_n | apply seqK_r | apply seqK_x | apply blkK_n | apply blkK_r | apply blkK_x)
 | (with_reducible apply blkK_y; (· first | rfl | decide))
 | (with_reducible apply cutK_o; (· simp))
 | with_reducible (first | apply backK_x | apply backK_r | apply asgK_n | apply rngK_x | apply rngK_r | apply True.intro | apply And.intro True.intro True.intro)
 | (fail_if_success with_reducible apply K_id); (fail_if_success with_reducible apply awp_id); first | omega | (simp only [go_sem, seval, hr951]; done) | with_reducible assumption | (refine And.intro ?_ ?_) | (intro hg; simp_all; done) | grind)
          refine awp_cb (B' := r951) (by simp only [go_sem, seval, hr951] <;> eq_refl) (by first | rfl | (simp; done) | grind) (fun hc21 => ?_) (fun hc21 => ?_)
          · rw [hc21, cond_true] at hB19
            try simp only [gd_some, Option.bind_eq_some_iff] at hB19
            obtain ⟨hv22, hB19⟩ := hB19
            simp only [I64] at hv22
            repeat' (first
 | (with_reducible (first | apply awp_sr5 | apply awp_r5 | apply awp_sd | apply awp_d | apply inlR_n5 | apply inlR_r5); (· (first | exact Ctx.fn_ok hS | exact Ctx.rd_ok hS | assumption | exact True.intro)); iterate 2 (· (simp only [go_sem, seval, hr951] <;> eq_refl)))
 | with_reducible (first | apply awp_scp | apply awp_sn | apply awp_nop | apply awp_ret | apply awp_exit | apply awp_block | apply awp_seq | apply seqK_n | apply seqK_r | apply seqK_x | apply blkK_n | apply blkK_r | apply blkK_x)
 | (with_reducible apply blkK_y; (· first | rfl | decide))
 | (with_reducible apply cutK_o; (· simp))
 | with_reducible (first | apply backK_x | apply backK_r | apply asgK_n | apply rngK_x | apply rngK_r | apply True.intro | apply And.intro True.intro True.intro)
 | (fail_if_success with_reducible apply K_id); (fail_if_success with_reducible apply awp_id); first | omega | (simp only [go_sem, seval, hr951]; done) | with_reducible assumption | (refine And.intro ?_ ?_) | (intro hg; simp_all; done) | grind)
            refine backK_n (n, most950 + 1, c949 + 1 + 1) hB19 (Nat.lt_succ_self _) ?_
            refine Le.of ?_ ?_ (by first | exact Nat.le_refl _ | (simp; omega) | simp) <;> first | (simp only [go_sem, seval, hr951]; done) | (simp only [go_sem, seval, hr951, List.map_append, List.map_cons, List.map_nil, List.map_set, List.map_take, List.map_drop]; done) | (simp [hr951, List.map_append, List.map_set]; done)
          · rw [hc21, cond_false] at hB19
            repeat' (first
 | (with_reducible (first | apply awp_sr5 | apply awp_r5 | apply awp_sd | apply awp_d | apply inlR_n5 | apply inlR_r5); (· (first | exact Ctx.fn_ok hS | exact Ctx.rd_ok hS | assumption | exact True.intro)); iterate 2 (· (simp only [go_sem, seval, hr951] <;> eq_refl)))
 | with_reducible (first | apply awp_scp | apply awp_sn | apply awp_nop | apply awp_ret | apply awp_exit | apply awp_block | apply awp_seq | apply seqK_n | apply seqK_r | apply seqK_x | apply blkK_n | apply blkK_r | apply blkK_x)
 | (with_reducible apply blkK_y; (· first | rfl | decide))
 | (with_reducible apply cutK_o; (· simp))
 | with_reducible (first | apply backK_x | apply backK_r | apply asgK_n | apply rngK_x | apply rngK_r | apply True.intro | apply And.intro True.intro True.intro)
 | (fail_if_success with_reducible apply K_id); (fail_if_success with_reducible apply awp_id); first | omega | (simp only [go_sem, seval, hr951]; done) | with_reducible assumption | (refine And.intro ?_ ?_) | (intro hg; simp_all; done) | grind)
            refine cutK_h (most950, c949 + 1) (Option.some.inj hB19) ?_
            refine Le.of ?_ ?_ (by first | exact Nat.le_refl _ | (simp; omega) | simp) <;> first | (simp only [go_sem, seval, hr951]; done) | (simp only [go_sem, seval, hr951, List.map_append, List.map_cons, List.map_nil, List.map_set, List.map_take, List.map_drop]; done) | (simp [hr951, List.map_append, List.map_set]; done)
      · rintro ⟨most956, c955⟩ hz23
        subst hz23
        try simp only at h
        obtain rfl := Option.some.inj h
        repeat' (first
 | (with_reducible (first | apply awp_sr5 | apply awp_r5 | apply awp_sd | apply awp_d | apply inlR_n5 | apply inlR_r5); (· (first | exact Ctx.fn_ok hS | exact Ctx.rd_ok hS | assumption | exact True.intro)); iterate 2 (· (simp only [go_sem, seval] <;> eq_refl)))
 | with_reducible (first | apply awp_scp | apply awp_sn | apply awp_nop | apply awp_ret | apply awp_exit | apply awp_block | apply awp_seq | apply seqK_n | apply seqK_r | apply seqK_x | apply blkK_n | apply blkK_r | apply blkK_x)
 | (with_reducible apply blkK_y; (· first | rfl | decide))
 | (with_reducible apply cutK_o; (· simp))
 | with_reducible (first | apply backK_x | apply backK_r | apply asgK_n | apply rngK_x | apply rngK_r | apply True.intro | apply And.intro True.intro True.intro)
 | (fail_if_success with_reducible apply K_id); (fail_if_success with_reducible apply awp_id); first | omega | (simp only [go_sem, seval]; done) | with_reducible assumption | (refine And.intro ?_ ?_) | (intro hg; simp_all; done) | grind)
        first | refine endK_r (by simp only [go_sem, seval] <;> eq_refl) (by simp only [go_sem, seval]) (by simp only [go_sem, seval]) ?_ rfl | refine endK_n (by simp only [go_sem, seval] <;> eq_refl) (by simp only [go_sem, seval]) (by simp only [go_sem, seval]) ?_ rfl
        first | (simp only [go_sem, seval]; done) | (simp only [go_sem, seval, List.map_append, List.map_cons, List.map_nil, List.map_set, List.map_take, List.map_drop]; done) | (simp []; done)
end

def s57 (N : Nat) : Spec
  | [.v (.int .i64 drift932), .v (.int .i64 n933)] => some ((D_putlogref05_Spread N drift932 n933).isSome = true, .tup [.i (((D_putlogref05_Spread N drift932 n933).getD (0, 0)).1), .i (((D_putlogref05_Spread N drift932 n933).getD (0, 0)).2)])
  | _ => none
theorem fok57 (N : Nat) : FOK Try.prog 57 (s57 N) := ⟨of57, by
  intro args vc r h hv
  unfold s57 at h
  split at h
  · cases h
    have hs := hv
    obtain ⟨r, hr⟩ := Option.isSome_iff_exists.1 hs
    have hk := D_putlogref05_Spread_ok N _ _ r hr
    simp only [hr, Option.getD_some]
    refine PCall.arg ?_ hk
    simp only [wkL, wk, and_true, true_and, Bool.false_eq_true, false_implies, implies_true]
    try trivial
  · simp at h⟩

/-! putlog/putlogref05.bounds -/
def D_putlogref05_bounds_L1 (N : Nat) (c959 : List (Int × Int × Int)) (local960 : Int) (c958 : Int) : Nat → Int → Int → Int → Option (Int × Int)
  | 0, _, _, _ => none
  | n + 1, low997, high998, i999 =>
    bif decide (i999 < (c959.length : Int)) then (
      (nth c959 i999).bind fun (x1000, x1001, x1002) =>
      bif decide (local960 = x1000) then (
        (D_putlogref05_Spread N c958 0).bind fun (r1019, r1020) =>
        gd (I64 (x1001 - r1020)) <|
        gd (I64 (x1002 + r1020)) <|
        gd (I64 (i999 + 1)) <|
        D_putlogref05_bounds_L1 N c959 local960 c958 n (max low997 (x1001 - r1020)) (min high998 (x1002 + r1020)) (i999 + 1))
      else (
        bif decide (x1000 < local960) then (
          gd (I64 (local960 - x1000)) <|
          (D_putlogref05_Spread N c958 (local960 - x1000)).bind fun (r1028, r1029) =>
          gd (I64 (x1001 + r1028)) <|
          gd (I64 (x1002 + r1029)) <|
          gd (I64 (i999 + 1)) <|
          D_putlogref05_bounds_L1 N c959 local960 c958 n (max low997 (x1001 + r1028)) (min high998 (x1002 + r1029)) (i999 + 1))
        else (
          gd (I64 (x1000 - local960)) <|
          (D_putlogref05_Spread N c958 (x1000 - local960)).bind fun (r1031, r1032) =>
          gd (I64 (x1001 - r1032)) <|
          gd (I64 (x1002 - r1031)) <|
          gd (I64 (i999 + 1)) <|
          D_putlogref05_bounds_L1 N c959 local960 c958 n (max low997 (x1001 - r1032)) (min high998 (x1002 - r1031)) (i999 + 1))))
    else (
      some (low997, high998))

def D_putlogref05_bounds (N : Nat) (c958 : Int) (c959 : List (Int × Int × Int)) (local960 : Int) : Option (Int × Int) :=
  (D_putlogref05_bounds_L1 N c959 local960 c958 N 0 10000000 0).bind fun (low1039, high1040) =>
  some (low1039, high1040)

def T56 (N : Nat) : List (Nat × Spec) := [(57, s57 N)]
theorem T56_ok (N : Nat) : TabOK Try.prog (tabOf (T56 N)) := tab_cons (fok57 N) (tab_nil)

section
attribute [local go_sem] T56 s57 row1 dec1 dec1_row1 rb_row1 row2 dec2 dec2_row2 rb_row2 row3 dec3 dec3_row3 rb_row3 List.length_set Option.isSome_some
theorem D_putlogref05_bounds_ok (N : Nat) (c958 : Int) (c959 : List (Int × Int × Int)) (local960 : Int) (r : Int × Int) (h : D_putlogref05_bounds N c958 c959 local960 = some r) : PCall Try.prog 56 [.agg [.i c958, .sl 3 false (c959.map row3) [.i 0, .i 0, .i 0]], .i local960] (.tup [.i r.1, .i r.2]) := by
  refine pcall_fn (T56_ok N) _ Try.func56 ok56 nt56 (by simp) fun _ => ?_
  have hS := T56_ok N
  unfold ac56 rv56
  unfold D_putlogref05_bounds at h
  try simp only [gd_some, Option.bind_eq_some_iff] at h
  obtain ⟨o1041, hL1, h⟩ := h
  repeat' (first
 | (with_reducible (first | apply awp_sr5 | apply awp_r5 | apply awp_sd | apply awp_d | apply inlR_n5 | apply inlR_r5); (· (first | exact Ctx.fn_ok hS | exact Ctx.rd_ok hS | assumption | exact True.intro)); iterate 2 (· (simp only [go_sem, seval] <;> eq_refl)))
 | with_reducible (first | apply awp_scp | apply awp_sn | apply awp_nop | apply awp_ret | apply awp_exit | apply awp_block | apply awp_seq | apply seqK_n | apply seqK_r | apply seqK_x | apply blkK_n | apply blkK_r | apply blkK_x)
 | (with_reducible apply blkK_y; (· first | rfl | decide))
 | (with_reducible apply cutK_o; (· simp))
 | with_reducible (first | apply backK_x | apply backK_r | apply asgK_n | apply rngK_x | apply rngK_r | apply True.intro | apply And.intro True.intro True.intro)
 | (fail_if_success with_reducible apply K_id); (fail_if_success with_reducible apply awp_id); first | omega | (simp only [go_sem, seval]; done) | with_reducible assumption | (refine And.intro ?_ ?_) | (intro hg; simp_all; done) | grind)
  refine awp_cut (fun z : Int × Int × Nat => ⟨[(6, .i z.1), (7, .i z.2.1)], [], z.2.2⟩) (fun z => ((z.1, z.2.1) : Int × Int) = o1041) (.x 0) ?_ ?_
  · refine awp_loop (fun y : Nat × Int × Int × Int × Nat => ⟨[(1, .i local960), (2, .box (0, 1) 0), (6, .i y.2.1), (7, .i y.2.2.1), (8, .i y.2.2.2.1)], [(.c (0, 1) 0, .i c958), (.c (0, 1) 1, .sl 3 false (c959.map row3) [.i 0, .i 0, .i 0])], y.2.2.2.2⟩) (fun y => D_putlogref05_bounds_L1 N c959 local960 c958 y.1 y.2.1 y.2.2.1 y.2.2.2.1 = some o1041) (fun y => y.1) (N, 0, 10000000, 0, 4) hL1 ?_ ?_
    · refine Le.of ?_ ?_ (by first | exact Nat.le_refl _ | (simp; omega) | simp) <;> first | (simp only [go_sem, seval]; done) | (simp only [go_sem, seval, List.map_append, List.map_cons, List.map_nil, List.map_set, List.map_take, List.map_drop]; done) | (simp [List.map_append, List.map_set]; done)
    · rintro ⟨n, low997, high998, i999, c996⟩ hB2
      try simp only at hB2
      obtain _ | n := n
      · exact absurd hB2 (by simp [D_putlogref05_bounds_L1])
      rw [D_putlogref05_bounds_L1] at hB2
      repeat' (first
 | (with_reducible (first | apply awp_sr5 | apply awp_r5 | apply awp_sd | apply awp_d | apply inlR_n5 | apply inlR_r5); (· (first | exact Ctx.fn_ok hS | exact Ctx.rd_ok hS | assumption | exact True.intro)); iterate 2 (· (simp only [go_sem, seval] <;> eq_refl)))
 | with_reducible (first | apply awp_scp | apply awp_sn | apply awp_nop | apply awp_ret | apply awp_exit | apply awp_block | apply awp_seq | apply seqK_n | apply seqK_r | apply seqK_x | apply blkK_n | apply blkK_r | apply blkK_x)
 | (with_reducible apply blkK_y; (· first | rfl | decide))
 | (with_reducible apply cutK_o; (· simp))
 | with_reducible (first | apply backK_x | apply backK_r | apply asgK_n | apply rngK_x | apply rngK_r | apply True.intro | apply And.intro True.intro True.intro)
 | (fail_if_success with_reducible apply K_id); (fail_if_success with_reducible apply awp_id); first | omega | (simp only [go_sem, seval]; done) | with_reducible assumption | (refine And.intro ?_ ?_) | (intro hg; simp_all; done) | grind)
      refine awp_cb (B' := decide (i999 < (c959.length : Int))) (by simp only [go_sem, seval] <;> eq_refl) (by first | rfl | (simp; done) | grind) (fun hc3 => ?_) (fun hc3 => ?_)
      · rw [hc3, cond_true] at hB2
        try simp only [gd_some, Option.bind_eq_some_iff] at hB2
        obtain ⟨⟨x1000, x1001, x1002⟩, hn1002, hB2⟩ := hB2
        have hx1002 : c959.getD i999.toNat (0, 0, 0) = (x1000, x1001, x1002) := ixs hn1002 _
        have hb1002 := (nth_some hn1002).1
        repeat' (first
 | (with_reducible (first | apply awp_sr5 | apply awp_r5 | apply awp_sd | apply awp_d | apply inlR_n5 | apply inlR_r5); (· (first | exact Ctx.fn_ok hS | exact Ctx.rd_ok hS | assumption | exact True.intro)); iterate 2 (· (simp only [go_sem, seval, hx1002] <;> eq_refl)))
 | with_reducible (first | apply awp_scp | apply awp_sn | apply awp_nop | apply awp_ret | apply awp_exit | apply awp_block | apply awp_seq | apply seqK_n | apply seqK_r | apply seqK_x | apply blkK_n | apply blkK_r | apply blkK_x)
 | (with_reducible apply blkK_y; (· first | rfl | decide))
 | (with_reducible apply cutK_o; (· simp))
 | with_reducible (first | apply backK_x | apply backK_r | apply asgK_n | apply rngK_x | apply rngK_r | apply True.intro | apply And.intro True.intro True.intro)
 | (fail_if_success with_reducible apply K_id); (fail_if_success with_reducible apply awp_id); first | omega | (simp only [go_sem, seval, hx1002]; done) | with_reducible assumption | (refine And.intro ?_ ?_) | (intro hg; simp_all; done) | grind)
        refine awp_cb (B' := decide (local960 = x1000)) (by simp only [go_sem, seval, hx1002] <;> eq_refl) (by first | rfl | (simp; done) | grind) (fun hc4 => ?_) (fun hc4 => ?_)
        · rw [hc4, cond_true] at hB2
          try simp only [gd_some, Option.bind_eq_some_iff] at hB2
          obtain ⟨⟨r1019, r1020⟩, hr1020, hB2⟩ := hB2
          try simp only [gd_some, Option.bind_eq_some_iff] at hB2
          obtain ⟨hv5, hv6, hv7, hB2⟩ := hB2
          simp only [I64] at hv5
          simp only [I64] at hv6
          simp only [I64] at hv7
          repeat' (first
 | (with_reducible (first | apply awp_sr5 | apply awp_r5 | apply awp_sd | apply awp_d | apply inlR_n5 | apply inlR_r5); (· (first | exact Ctx.fn_ok hS | exact Ctx.rd_ok hS | assumption | exact True.intro)); iterate 2 (· (simp only [go_sem, seval, hx1002, hr1020] <;> eq_refl)))
 | with_reducible (first | apply awp_scp | apply awp_sn | apply awp_nop | apply awp_ret | apply awp_exit | apply awp_block | apply awp_seq | apply seqK_n | apply seqK_r | apply seqK_x | apply blkK_n | apply blkK_r | apply blkK_x)
 | (with_reducible apply blkK_y; (· first | rfl | decide))
 | (with_reducible apply cutK_o; (· simp))
 | with_reducible (first | apply backK_x | apply backK_r | apply asgK_n | apply rngK_x | apply rngK_r | apply True.intro | apply And.intro True.intro True.intro)
 | (fail_if_success with_reducible apply K_id); (fail_if_success with_reducible apply awp_id); first | omega | (simp only [go_sem, seval, hx1002, hr1020]; done) | with_reducible assumption | (refine And.intro ?_ ?_) | (intro hg; simp_all; done) | grind)
          refine backK_n (n, max low997 (x1001 - r1020), min high998 (x1002 + r1020), i999 + 1, c996 + 1 + 1 + 1 + 1 + 1 + 1 + 1) hB2 (Nat.lt_succ_self _) ?_
          refine Le.of ?_ ?_ (by first | exact Nat.le_refl _ | (simp; omega) | simp) <;> first | (simp only [go_sem, seval, hx1002, hr1020]; done) | (simp only [go_sem, seval, hx1002, hr1020, List.map_append, List.map_cons, List.map_nil, List.map_set, List.map_take, List.map_drop]; done) | (simp [hx1002, hr1020, List.map_append, List.map_set]; done)
        · rw [hc4, cond_false] at hB2
          repeat' (first
 | (with_reducible (first | apply awp_sr5 | apply awp_r5 | apply awp_sd | apply awp_d | apply inlR_n5 | apply inlR_r5); (· (first | exact Ctx.fn_ok hS | exact Ctx.rd_ok hS | assumption | exact True.intro)); iterate 2 (· (simp only [go_sem, seval, hx1002] <;> eq_refl)))
 | with_reducible (first | apply awp_scp | apply awp_sn | apply awp_nop | apply awp_ret | apply awp_exit | apply awp_block | apply awp_seq | apply seqK_n | apply seqK_r | apply seqK_x | apply blkK_n | apply blkK_r | apply blkK_x)
 | (with_reducible apply blkK_y; (· first | rfl | decide))
 | (with_reducible apply cutK_o; (· simp))
 | with_reducible (first | apply backK_x | apply backK_r | apply asgK_n | apply rngK_x | apply rngK_r | apply True.intro | apply And.intro True.intro True.intro)
 | (fail_if_success with_reducible apply K_id); (fail_if_success with_reducible apply awp_id); first | omega | (simp only [go_sem, seval, hx1002]; done) | with_reducible assumption | (refine And.intro ?_ ?_) | (intro hg; simp_all; done) | grind)
          refine awp_cb (B' := decide (x1000 < local960)) (by simp only [go_sem, seval, hx1002] <;> eq_refl) (by first | rfl | (simp; done) | grind) (fun hc8 => ?_) (fun hc8 => ?_)
          · rw [hc8, cond_true] at hB2
            try simp only [gd_some, Option.bind_eq_some_iff] at hB2
            obtain ⟨hv9, ⟨r1028, r1029⟩, hr1029, hB2⟩ := hB2
            simp only [I64] at hv9
            try simp only [gd_some, Option.bind_eq_some_iff] at hB2
            obtain ⟨hv10, hv11, hv12, hB2⟩ := hB2
            simp only [I64] at hv10
            simp only [I64] at hv11
            simp only [I64] at hv12
            repeat' (first
 | (with_reducible (first | apply awp_sr5 | apply awp_r5 | apply awp_sd | apply awp_d | apply inlR_n5 | apply inlR_r5); (· (first | exact Ctx.fn_ok hS | exact Ctx.rd_ok hS | assumption | exact True.intro)); iterate 2 (· (simp only [go_sem, seval, hx1002, hr1029] <;> eq_refl)))
 | with_reducible (first | apply awp_scp | apply awp_sn | apply awp_nop | apply awp_ret | apply awp_exit | apply awp_block | apply awp_seq | apply seqK_n | apply seqK_r | apply seqK_x | apply blkK_n | apply blkK_r | apply blkK_x)
 | (with_reducible apply blkK_y; (· first | rfl | decide))
 | (with_reducible apply cutK_o; (· simp))
 | with_reducible (first | apply backK_x | apply backK_r | apply asgK_n | apply rngK_x | apply rngK_r | apply True.intro | apply And.intro True.intro True.intro)
 | (fail_if_success with_reducible apply K_id); (fail_if_success with_reducible apply awp_id); first | omega | (simp only [go_sem, seval, hx1002, hr1029]; done) | with_reducible assumption | (refine And.intro ?_ ?_) | (intro hg; simp_all; done) | grind)
            refine backK_n (n, max low997 (x1001 + r1028), min high998 (x1002 + r1029), i999 + 1, c996 + 1 + 1 + 1 + 1 + 1 + 1 + 1 + 1) hB2 (Nat.lt_succ_self _) ?_
            refine Le.of ?_ ?_ (by first | exact Nat.le_refl _ | (simp; omega) | simp) <;> first | (simp only [go_sem, seval, hx1002, hr1029]; done) | (simp only [go_sem, seval, hx1002, hr1029, List.map_append, List.map_cons, List.map_nil, List.map_set, List.map_take, List.map_drop]; done) | (simp [hx1002, hr1029, List.map_append, List.map_set]; done)
          · rw [hc8, cond_false] at hB2
            try simp only [gd_some, Option.bind_eq_some_iff] at hB2
            obtain ⟨hv13, ⟨r1031, r1032⟩, hr1032, hB2⟩ := hB2
            simp only [I64] at hv13
            try simp only [gd_some, Option.bind_eq_some_iff] at hB2
            obtain ⟨hv14, hv15, hv16, hB2⟩ := hB2
            simp only [I64] at hv14
            simp only [I64] at hv15
            simp only [I64] at hv16
            repeat' (first
 | (with_reducible (first | apply awp_sr5 | apply awp_r5 | apply awp_sd | apply awp_d | apply inlR_n5 | apply inlR_r5); (· (first | exact Ctx.fn_ok hS | exact Ctx.rd_ok hS | assumption | exact True.intro)); iterate 2 (· (simp only [go_sem, seval, hx1002, hr1032] <;> eq_refl)))
 | with_reducible (first | apply awp_scp | apply awp_sn | apply awp_nop | apply awp_ret | apply awp_exit | apply awp_block | apply awp_seq | apply seqK_n | apply seqK_r | apply seqK_x | apply blkK_n | apply blkK_r | apply blkK_x)
 | (with_reducible apply blkK_y; (· first | rfl | decide))
 | (with_reducible apply cutK_o; (· simp))
 | with_reducible (first | apply backK_x | apply backK_r | apply asgK_n | apply rngK_x | apply rngK_r | apply True.intro | apply And.intro True.intro True.intro)
 | (fail_if_success with_reducible apply K_id); (fail_if_success with_reducible apply awp_id); first | omega | (simp only [go_sem, seval, hx1002, hr1032]; done) | with_reducible assumption | (refine And.intro ?_ ?_) | (intro hg; simp_all; done) | grind)
            refine backK_n (n, max low997 (x1001 - r1032), min high998 (x1002 - r1031), i999 + 1, c996 + 1 + 1 + 1 + 1 + 1 + 1 + 1 + 1) hB2 (Nat.lt_succ_self _) ?_
            refine Le.of ?_ ?_ (by first | exact Nat.le_refl _ | (simp; omega) | simp) <;> first | (simp only [go_sem, seval, hx1002, hr1032]; done) | (simp only [go_sem, seval, hx1002, hr1032, List.map_append, List.map_cons, List.map_nil, List.map_set, List.map_take, List.map_drop]; done) | (simp [hx1002, hr1032, List.map_append, List.map_set]; done)
      · rw [hc3, cond_false] at hB2
        repeat' (first
 | (with_reducible (first | apply awp_sr5 | apply awp_r5 | apply awp_sd | apply awp_d | apply inlR_n5 | apply inlR_r5); (· (first | exact Ctx.fn_ok hS | exact Ctx.rd_ok hS | assumption | exact True.intro)); iterate 2 (· (simp only [go_sem, seval] <;> eq_refl)))
 | with_reducible (first | apply awp_scp | apply awp_sn | apply awp_nop | apply awp_ret | apply awp_exit | apply awp_block | apply awp_seq | apply seqK_n | apply seqK_r | apply seqK_x | apply blkK_n | apply blkK_r | apply blkK_x)
 | (with_reducible apply blkK_y; (· first | rfl | decide))
 | (with_reducible apply cutK_o; (· simp))
 | with_reducible (first | apply backK_x | apply backK_r | apply asgK_n | apply rngK_x | apply rngK_r | apply True.intro | apply And.intro True.intro True.intro)
 | (fail_if_success with_reducible apply K_id); (fail_if_success with_reducible apply awp_id); first | omega | (simp only [go_sem, seval]; done) | with_reducible assumption | (refine And.intro ?_ ?_) | (intro hg; simp_all; done) | grind)
        refine cutK_h (low997, high998, c996 + 1) (Option.some.inj hB2) ?_
        refine Le.of ?_ ?_ (by first | exact Nat.le_refl _ | (simp; omega) | simp) <;> first | (simp only [go_sem, seval]; done) | (simp only [go_sem, seval, List.map_append, List.map_cons, List.map_nil, List.map_set, List.map_take, List.map_drop]; done) | (simp [List.map_append, List.map_set]; done)
  · rintro ⟨low1039, high1040, c1038⟩ hz17
    subst hz17
    try simp only at h
    obtain rfl := Option.some.inj h
    repeat' (first
 | (with_reducible (first | apply awp_sr5 | apply awp_r5 | apply awp_sd | apply awp_d | apply inlR_n5 | apply inlR_r5); (· (first | exact Ctx.fn_ok hS | exact Ctx.rd_ok hS | assumption | exact True.intro)); iterate 2 (· (simp only [go_sem, seval] <;> eq_refl)))
 | with_reducible (first | apply awp_scp | apply awp_sn | apply awp_nop | apply awp_ret | apply awp_exit | apply awp_block | apply awp_seq | apply seqK_n | apply seqK_r | apply seqK_x | apply blkK_n | apply blkK_r | apply blkK_x)
 | (with_reducible apply blkK_y; (· first | rfl | decide))
 | (with_reducible apply cutK_o; (· simp))
 | with_reducible (first | apply backK_x | apply backK_r | apply asgK_n | apply rngK_x | apply rngK_r | apply True.intro | apply And.intro True.intro True.intro)
 | (fail_if_success with_reducible apply K_id); (fail_if_success with_reducible apply awp_id); first | omega | (simp only [go_sem, seval]; done) | with_reducible assumption | (refine And.intro ?_ ?_) | (intro hg; simp_all; done) | grind)
    first | refine endK_r (by simp only [go_sem, seval] <;> eq_refl) (by simp only [go_sem, seval]) (by simp only [go_sem, seval]) ?_ rfl | refine endK_n (by simp only [go_sem, seval] <;> eq_refl) (by simp only [go_sem, seval]) (by simp only [go_sem, seval]) ?_ rfl
    first | (simp only [go_sem, seval]; done) | (simp only [go_sem, seval, List.map_append, List.map_cons, List.map_nil, List.map_set, List.map_take, List.map_drop]; done) | (simp []; done)
end

def s56 (N : Nat) : Spec
  | [.agg [.v (.int .i64 c958), .sl yc959 _ c959 _], .v (.int .i64 local960)] => some (((yc959 = 3 ∨ c959 = []) ∧ c959 = (c959.map dec3).map row3) ∧ (D_putlogref05_bounds N c958 (c959.map dec3) local960).isSome = true, .tup [.i (((D_putlogref05_bounds N c958 (c959.map dec3) local960).getD (0, 0)).1), .i (((D_putlogref05_bounds N c958 (c959.map dec3) local960).getD (0, 0)).2)])
  | _ => none
theorem fok56 (N : Nat) : FOK Try.prog 56 (s56 N) := ⟨of56, by
  intro args vc r h hv
  unfold s56 at h
  split at h
  · cases h
    obtain ⟨⟨hy0, hr0⟩, hs⟩ := hv
    obtain ⟨r, hr⟩ := Option.isSome_iff_exists.1 hs
    have hk := D_putlogref05_bounds_ok N _ _ _ r hr
    simp only [hr, Option.getD_some]
    refine PCall.arg ?_ hk
    simp only [wkL, wk, and_true, true_and, Bool.false_eq_true, false_implies, implies_true]
    repeat' (first | exact True.intro | assumption | apply And.intro)
  · simp at h⟩

/-! putlog/putlogref05.At -/
def D_putlogref05_At (N : Nat) (c1042 : Int) (c1043 : List (Int × Int × Int)) (local1044 : Int) : Option (Int × Int × Int) :=
  (D_putlogref05_Valid N c1042 c1043).bind fun r1045 =>
  bif ((!r1045) || (decide (local1044 < 0))) || (decide (10000000 < local1044)) then (
    some (0, 0, 50))
  else (
    (D_putlogref05_bounds N c1042 c1043 local1044).bind fun (r1047, r1048) =>
    bif decide (r1048 < r1047) then (
      some (0, 0, 50))
    else (
      some (r1047, r1048, 0)))

def T48 (N : Nat) : List (Nat × Spec) := [(39, s39 N), (56, s56 N)]
theorem T48_ok (N : Nat) : TabOK Try.prog (tabOf (T48 N)) := tab_cons (fok39 N) (tab_cons (fok56 N) (tab_nil))

section
attribute [local go_sem] T48 s39 s56 row1 dec1 dec1_row1 rb_row1 row2 dec2 dec2_row2 rb_row2 row3 dec3 dec3_row3 rb_row3 List.length_set Option.isSome_some
theorem D_putlogref05_At_ok (N : Nat) (c1042 : Int) (c1043 : List (Int × Int × Int)) (local1044 : Int) (r : Int × Int × Int) (h : D_putlogref05_At N c1042 c1043 local1044 = some r) : PCall Try.prog 48 [.agg [.i c1042, .sl 3 false (c1043.map row3) [.i 0, .i 0, .i 0]], .i local1044] (.tup [.i r.1, .i r.2.1, .i r.2.2]) := by
  refine pcall_fn (T48_ok N) _ Try.func48 ok48 nt48 (by simp) fun _ => ?_
  have hS := T48_ok N
  unfold ac48 rv48
  unfold D_putlogref05_At at h
  try simp only [gd_some, Option.bind_eq_some_iff] at h
  obtain ⟨r1045, hr1045, h⟩ := h
  repeat' (first
 | (with_reducible (first | apply awp_sr5 | apply awp_r5 | apply awp_sd | apply awp_d | apply inlR_n5 | apply inlR_r5); (· (first | exact Ctx.fn_ok hS | exact Ctx.rd_ok hS | assumption | exact True.intro)); iterate 2 (· (simp only [go_sem, seval, hr1045] <;> eq_refl)))
 | with_reducible (first | apply awp_scp | apply awp_sn | apply awp_nop | apply awp_ret | apply awp_exit | apply awp_block | apply awp_seq | apply seqK_n | apply seqK_r | apply seqK_x | apply blkK_n | apply blkK_r | apply blkK_x)
 | (with_reducible apply blkK_y; (· first | rfl | decide))
 | (with_reducible apply cutK_o; (· simp))
 | with_reducible (first | apply backK_x | apply backK_r | apply asgK_n | apply rngK_x | apply rngK_r | apply True.intro | apply And.intro True.intro True.intro)
 | (fail_if_success with_reducible apply K_id); (fail_if_success with_reducible apply awp_id); first | omega | (simp only [go_sem, seval, hr1045]; done) | with_reducible assumption | (refine And.intro ?_ ?_) | (intro hg; simp_all; done) | grind)
  refine awp_cb (B' := ((!r1045) || (decide (local1044 < 0))) || (decide (10000000 < local1044))) (by simp only [go_sem, seval, hr1045] <;> eq_refl) (by first | rfl | (simp; done) | grind) (fun hc1 => ?_) (fun hc1 => ?_)
  · rw [hc1, cond_true] at h
    obtain rfl := Option.some.inj h
    repeat' (first
 | (with_reducible (first | apply awp_sr5 | apply awp_r5 | apply awp_sd | apply awp_d | apply inlR_n5 | apply inlR_r5); (· (first | exact Ctx.fn_ok hS | exact Ctx.rd_ok hS | assumption | exact True.intro)); iterate 2 (· (simp only [go_sem, seval, hr1045] <;> eq_refl)))
 | with_reducible (first | apply awp_scp | apply awp_sn | apply awp_nop | apply awp_ret | apply awp_exit | apply awp_block | apply awp_seq | apply seqK_n | apply seqK_r | apply seqK_x | apply blkK_n | apply blkK_r | apply blkK_x)
 | (with_reducible apply blkK_y; (· first | rfl | decide))
 | (with_reducible apply cutK_o; (· simp))
 | with_reducible (first | apply backK_x | apply backK_r | apply asgK_n | apply rngK_x | apply rngK_r | apply True.intro | apply And.intro True.intro True.intro)
 | (fail_if_success with_reducible apply K_id); (fail_if_success with_reducible apply awp_id); first | omega | (simp only [go_sem, seval, hr1045]; done) | with_reducible assumption | (refine And.intro ?_ ?_) | (intro hg; simp_all; done) | grind)
    first | refine endK_r (by simp only [go_sem, seval, hr1045] <;> eq_refl) (by simp only [go_sem, seval, hr1045]) (by simp only [go_sem, seval, hr1045]) ?_ rfl | refine endK_n (by simp only [go_sem, seval, hr1045] <;> eq_refl) (by simp only [go_sem, seval, hr1045]) (by simp only [go_sem, seval, hr1045]) ?_ rfl
    first | (simp only [go_sem, seval, hr1045]; done) | (simp only [go_sem, seval, hr1045, List.map_append, List.map_cons, List.map_nil, List.map_set, List.map_take, List.map_drop]; done) | (simp [hr1045]; done)
  · rw [hc1, cond_false] at h
    try simp only [gd_some, Option.bind_eq_some_iff] at h
    obtain ⟨⟨r1047, r1048⟩, hr1048, h⟩ := h
    repeat' (first
 | (with_reducible (first | apply awp_sr5 | apply awp_r5 | apply awp_sd | apply awp_d | apply inlR_n5 | apply inlR_r5); (· (first | exact Ctx.fn_ok hS | exact Ctx.rd_ok hS | assumption | exact True.intro)); iterate 2 (· (simp only [go_sem, seval, hr1045, hr1048] <;> eq_refl)))
 | with_reducible (first | apply awp_scp | apply awp_sn | apply awp_nop | apply awp_ret | apply awp_exit | apply awp_block | apply awp_seq | apply seqK_n | apply seqK_r | apply seqK_x | apply blkK_n | apply blkK_r | apply blkK_x)
 | (with_reducible apply blkK_y; (· first | rfl | decide))
 | (with_reducible apply cutK_o; (· simp))
 | with_reducible (first | apply backK_x | apply backK_r | apply asgK_n | apply rngK_x | apply rngK_r | apply True.intro | apply And.intro True.intro True.intro)
 | (fail_if_success with_reducible apply K_id); (fail_if_success with_reducible apply awp_id); first | omega | (simp only [go_sem, seval, hr1045, hr1048]; done) | with_reducible assumption | (refine And.intro ?_ ?_) | (intro hg; simp_all; done) | grind)
    refine awp_cb (B' := decide (r1048 < r1047)) (by simp only [go_sem, seval, hr1045, hr1048] <;> eq_refl) (by first | rfl | (simp; done) | grind) (fun hc2 => ?_) (fun hc2 => ?_)
    · rw [hc2, cond_true] at h
      obtain rfl := Option.some.inj h
      repeat' (first
 | (with_reducible (first | apply awp_sr5 | apply awp_r5 | apply awp_sd | apply awp_d | apply inlR_n5 | apply inlR_r5); (· (first | exact Ctx.fn_ok hS | exact Ctx.rd_ok hS | assumption | exact True.intro)); iterate 2 (· (simp only [go_sem, seval, hr1045, hr1048] <;> eq_refl)))
 | with_reducible (first | apply awp_scp | apply awp_sn | apply awp_nop | apply awp_ret | apply awp_exit | apply awp_block | apply awp_seq | apply seqK_n | apply seqK_r | apply seqK_x | apply blkK_n | apply blkK_r | apply blkK_x)
 | (with_reducible apply blkK_y; (· first | rfl | decide))
 | (with_reducible apply cutK_o; (· simp))
 | with_reducible (first | apply backK_x | apply backK_r | apply asgK_n | apply rngK_x | apply rngK_r | apply True.intro | apply And.intro True.intro True.intro)
 | (fail_if_success with_reducible apply K_id); (fail_if_success with_reducible apply awp_id); first | omega | (simp only [go_sem, seval, hr1045, hr1048]; done) | with_reducible assumption | (refine And.intro ?_ ?_) | (intro hg; simp_all; done) | grind)
      first | refine endK_r (by simp only [go_sem, seval, hr1045, hr1048] <;> eq_refl) (by simp only [go_sem, seval, hr1045, hr1048]) (by simp only [go_sem, seval, hr1045, hr1048]) ?_ rfl | refine endK_n (by simp only [go_sem, seval, hr1045, hr1048] <;> eq_refl) (by simp only [go_sem, seval, hr1045, hr1048]) (by simp only [go_sem, seval, hr1045, hr1048]) ?_ rfl
      first | (simp only [go_sem, seval, hr1045, hr1048]; done) | (simp only [go_sem, seval, hr1045, hr1048, List.map_append, List.map_cons, List.map_nil, List.map_set, List.map_take, List.map_drop]; done) | (simp [hr1045, hr1048]; done)
    · rw [hc2, cond_false] at h
      obtain rfl := Option.some.inj h
      repeat' (first
 | (with_reducible (first | apply awp_sr5 | apply awp_r5 | apply awp_sd | apply awp_d | apply inlR_n5 | apply inlR_r5); (· (first | exact Ctx.fn_ok hS | exact Ctx.rd_ok hS | assumption | exact True.intro)); iterate 2 (· (simp only [go_sem, seval, hr1045, hr1048] <;> eq_refl)))
 | with_reducible (first | apply awp_scp | apply awp_sn | apply awp_nop | apply awp_ret | apply awp_exit | apply awp_block | apply awp_seq | apply seqK_n | apply seqK_r | apply seqK_x | apply blkK_n | apply blkK_r | apply blkK_x)
 | (with_reducible apply blkK_y; (· first | rfl | decide))
 | (with_reducible apply cutK_o; (· simp))
 | with_reducible (first | apply backK_x | apply backK_r | apply asgK_n | apply rngK_x | apply rngK_r | apply True.intro | apply And.intro True.intro True.intro)
 | (fail_if_success with_reducible apply K_id); (fail_if_success with_reducible apply awp_id); first | omega | (simp only [go_sem, seval, hr1045, hr1048]; done) | with_reducible assumption | (refine And.intro ?_ ?_) | (intro hg; simp_all; done) | grind)
      first | refine endK_r (by simp only [go_sem, seval, hr1045, hr1048] <;> eq_refl) (by simp only [go_sem, seval, hr1045, hr1048]) (by simp only [go_sem, seval, hr1045, hr1048]) ?_ rfl | refine endK_n (by simp only [go_sem, seval, hr1045, hr1048] <;> eq_refl) (by simp only [go_sem, seval, hr1045, hr1048]) (by simp only [go_sem, seval, hr1045, hr1048]) ?_ rfl
      first | (simp only [go_sem, seval, hr1045, hr1048]; done) | (simp only [go_sem, seval, hr1045, hr1048, List.map_append, List.map_cons, List.map_nil, List.map_set, List.map_take, List.map_drop]; done) | (simp [hr1045, hr1048]; done)
end

def s48 (N : Nat) : Spec
  | [.agg [.v (.int .i64 c1042), .sl yc1043 _ c1043 _], .v (.int .i64 local1044)] => some (((yc1043 = 3 ∨ c1043 = []) ∧ c1043 = (c1043.map dec3).map row3) ∧ (D_putlogref05_At N c1042 (c1043.map dec3) local1044).isSome = true, .tup [.i (((D_putlogref05_At N c1042 (c1043.map dec3) local1044).getD (0, 0, 0)).1), .i (((D_putlogref05_At N c1042 (c1043.map dec3) local1044).getD (0, 0, 0)).2.1), .i (((D_putlogref05_At N c1042 (c1043.map dec3) local1044).getD (0, 0, 0)).2.2)])
  | _ => none
theorem fok48 (N : Nat) : FOK Try.prog 48 (s48 N) := ⟨of48, by
  intro args vc r h hv
  unfold s48 at h
  split at h
  · cases h
    obtain ⟨⟨hy0, hr0⟩, hs⟩ := hv
    obtain ⟨r, hr⟩ := Option.isSome_iff_exists.1 hs
    have hk := D_putlogref05_At_ok N _ _ _ r hr
    simp only [hr, Option.getD_some]
    refine PCall.arg ?_ hk
    simp only [wkL, wk, and_true, true_and, Bool.false_eq_true, false_implies, implies_true]
    repeat' (first | exact True.intro | assumption | apply And.intro)
  · simp at h⟩

/-! putlog/putlogref24.Valid -/
def D_putlogref24_Valid_L1 (N : Nat) (g1054 : List (Int × Int)) : Nat → Int → Option (Sum Unit Bool)
  | 0, _ => none
  | n + 1, i1062 =>
    bif decide (i1062 < (g1054.length : Int)) then (
      (nth g1054 i1062).bind fun (x1063, x1064) =>
      gd ((decide (0 < i1062)) = true → (I64 (i1062 - 1))) <|
      gd ((decide (0 < i1062)) = true → (0 ≤ i1062 - 1 ∧ i1062 - 1 < (g1054.length : Int))) <|
      bif ((((decide (x1063 < 0)) || (decide (10000000 < x1063))) || (decide (x1064 < (-1000000)))) || (decide (1000000 < x1064))) || ((decide (0 < i1062)) && (decide (x1063 ≤ (g1054.getD (i1062 - 1).toNat (0, 0)).1))) then (
        some (.inr false))
      else (
        gd (I64 (i1062 + 1)) <|
        D_putlogref24_Valid_L1 N g1054 n (i1062 + 1)))
    else (
      some (.inl ()))

def D_putlogref24_Valid (N : Nat) (g1050 : Int) (g1051 : List (Int × Int × Int)) (g1052 : Int) (g1053 : Int) (g1054 : List (Int × Int)) : Option Bool :=
  (D_putlogref05_Valid N g1050 g1051).bind fun r1055 =>
  bif (((((!r1055) || (decide (g1052 < 0))) || (decide (1000 < g1052))) || (decide (g1053 < 0))) || (decide (1000 < g1053))) || (decide (24 < (g1054.length : Int))) then (
    some false)
  else (
    (D_putlogref24_Valid_L1 N g1054 N 0).bind fun o1070 => match o1070 with
      | .inl () => (
        some true)
      | .inr r1069 => (
        some r1069))

def T17 (N : Nat) : List (Nat × Spec) := [(39, s39 N)]
theorem T17_ok (N : Nat) : TabOK Try.prog (tabOf (T17 N)) := tab_cons (fok39 N) (tab_nil)

section
attribute [local go_sem] T17 s39 row1 dec1 dec1_row1 rb_row1 row2 dec2 dec2_row2 rb_row2 row3 dec3 dec3_row3 rb_row3 List.length_set Option.isSome_some
theorem D_putlogref24_Valid_ok (N : Nat) (g1050 : Int) (g1051 : List (Int × Int × Int)) (g1052 : Int) (g1053 : Int) (g1054 : List (Int × Int)) (r : Bool) (h : D_putlogref24_Valid N g1050 g1051 g1052 g1053 g1054 = some r) : PCall Try.prog 17 [.agg [.i g1050, .sl 3 false (g1051.map row3) [.i 0, .i 0, .i 0], .i g1052, .i g1053, .sl 2 false (g1054.map row2) [.i 0, .i 0]]] (.b r) := by
  refine pcall_fn (T17_ok N) _ Try.func17 ok17 nt17 (by simp) fun _ => ?_
  have hS := T17_ok N
  unfold ac17 rv17
  unfold D_putlogref24_Valid at h
  try simp only [gd_some, Option.bind_eq_some_iff] at h
  obtain ⟨r1055, hr1055, h⟩ := h
  repeat' (first
 | (with_reducible (first | apply awp_sr5 | apply awp_r5 | apply awp_sd | apply awp_d | apply inlR_n5 | apply inlR_r5); (· (first | exact Ctx.fn_ok hS | exact Ctx.rd_ok hS | assumption | exact True.intro)); iterate 2 (· (simp only [go_sem, seval, hr1055] <;> eq_refl)))
 | with_reducible (first | apply awp_scp | apply awp_sn | apply awp_nop | apply awp_ret | apply awp_exit | apply awp_block | apply awp_seq | apply seqK_n | apply seqK_r | apply seqK_x | apply blkK_n | apply blkK_r | apply blkK_x)
 | (with_reducible apply blkK_y; (· first | rfl | decide))
 | (with_reducible apply cutK_o; (· simp))
 | with_reducible (first | apply backK_x | apply backK_r | apply asgK_n | apply rngK_x | apply rngK_r | apply True.intro | apply And.intro True.intro True.intro)
 | (fail_if_success with_reducible apply K_id); (fail_if_success with_reducible apply awp_id); first | omega | (simp only [go_sem, seval, hr1055]; done) | with_reducible assumption | (refine And.intro ?_ ?_) | (intro hg; simp_all; done) | grind)
  refine awp_cb (B' := (((((!r1055) || (decide (g1052 < 0))) || (decide (1000 < g1052))) || (decide (g1053 < 0))) || (decide (1000 < g1053))) || (decide (24 < (g1054.length : Int)))) (by simp only [go_sem, seval, hr1055] <;> eq_refl) (by first | rfl | (simp; done) | grind) (fun hc1 => ?_) (fun hc1 => ?_)
  · rw [hc1, cond_true] at h
    obtain rfl := Option.some.inj h
    repeat' (first
 | (with_reducible (first | apply awp_sr5 | apply awp_r5 | apply awp_sd | apply awp_d | apply inlR_n5 | apply inlR_r5); (· (first | exact Ctx.fn_ok hS | exact Ctx.rd_ok hS | assumption | exact True.intro)); iterate 2 (· (simp only [go_sem, seval, hr1055] <;> eq_refl)))
 | with_reducible (first | apply awp_scp | apply awp_sn | apply awp_nop | apply awp_ret | apply awp_exit | apply awp_block | apply awp_seq | apply seqK_n | apply seqK_r | apply seqK_x | apply blkK_n | apply blkK_r | apply blkK_x)
 | (with_reducible apply blkK_y; (· first | rfl | decide))
 | (with_reducible apply cutK_o; (· simp))
 | with_reducible (first | apply backK_x | apply backK_r | apply asgK_n | apply rngK_x | apply rngK_r | apply True.intro | apply And.intro True.intro True.intro)
 | (fail_if_success with_reducible apply K_id); (fail_if_success with_reducible apply awp_id); first | omega | (simp only [go_sem, seval, hr1055]; done) | with_reducible assumption | (refine And.intro ?_ ?_) | (intro hg; simp_all; done) | grind)
    first | refine endK_r (by simp only [go_sem, seval, hr1055] <;> eq_refl) (by simp only [go_sem, seval, hr1055]) (by simp only [go_sem, seval, hr1055]) ?_ rfl | refine endK_n (by simp only [go_sem, seval, hr1055] <;> eq_refl) (by simp only [go_sem, seval, hr1055]) (by simp only [go_sem, seval, hr1055]) ?_ rfl
    first | (simp only [go_sem, seval, hr1055]; done) | (simp only [go_sem, seval, hr1055, List.map_append, List.map_cons, List.map_nil, List.map_set, List.map_take, List.map_drop]; done) | (simp [hr1055]; done)
  · rw [hc1, cond_false] at h
    try simp only [gd_some, Option.bind_eq_some_iff] at h
    obtain ⟨o1070, hL2, h⟩ := h
    repeat' (first
 | (with_reducible (first | apply awp_sr5 | apply awp_r5 | apply awp_sd | apply awp_d | apply inlR_n5 | apply inlR_r5); (· (first | exact Ctx.fn_ok hS | exact Ctx.rd_ok hS | assumption | exact True.intro)); iterate 2 (· (simp only [go_sem, seval, hr1055] <;> eq_refl)))
 | with_reducible (first | apply awp_scp | apply awp_sn | apply awp_nop | apply awp_ret | apply awp_exit | apply awp_block | apply awp_seq | apply seqK_n | apply seqK_r | apply seqK_x | apply blkK_n | apply blkK_r | apply blkK_x)
 | (with_reducible apply blkK_y; (· first | rfl | decide))
 | (with_reducible apply cutK_o; (· simp))
 | with_reducible (first | apply backK_x | apply backK_r | apply asgK_n | apply rngK_x | apply rngK_r | apply True.intro | apply And.intro True.intro True.intro)
 | (fail_if_success with_reducible apply K_id); (fail_if_success with_reducible apply awp_id); first | omega | (simp only [go_sem, seval, hr1055]; done) | with_reducible assumption | (refine And.intro ?_ ?_) | (intro hg; simp_all; done) | grind)
    refine awp_cut (fun z : Nat => ⟨[], [], z⟩) (fun z => (.inl () : Sum Unit Bool) = o1070) (.x 0) ?_ ?_
    · refine awp_loop (fun y : Nat × Int × Nat => ⟨[(1, .box (0, 1) 0), (3, .i y.2.1)], [(.c (0, 1) 0, .i g1050), (.c (0, 1) 1, .sl 3 false (g1051.map row3) [.i 0, .i 0, .i 0]), (.c (0, 1) 2, .i g1052), (.c (0, 1) 3, .i g1053), (.c (0, 1) 4, .sl 2 false (g1054.map row2) [.i 0, .i 0])], y.2.2⟩) (fun y => D_putlogref24_Valid_L1 N g1054 y.1 y.2.1 = some o1070) (fun y => y.1) (N, 0, 3) hL2 ?_ ?_
      · refine Le.of ?_ ?_ (by first | exact Nat.le_refl _ | (simp; omega) | simp) <;> first | (simp only [go_sem, seval, hr1055]; done) | (simp only [go_sem, seval, hr1055, List.map_append, List.map_cons, List.map_nil, List.map_set, List.map_take, List.map_drop]; done) | (simp [hr1055, List.map_append, List.map_set]; done)
      · rintro ⟨n, i1062, c1061⟩ hB3
        try simp only at hB3
        obtain _ | n := n
        · exact absurd hB3 (by simp [D_putlogref24_Valid_L1])
        rw [D_putlogref24_Valid_L1] at hB3
        repeat' (first
 | (with_reducible (first | apply awp_sr5 | apply awp_r5 | apply awp_sd | apply awp_d | apply inlR_n5 | apply inlR_r5); (· (first | exact Ctx.fn_ok hS | exact Ctx.rd_ok hS | assumption | exact True.intro)); iterate 2 (· (simp only [go_sem, seval, hr1055] <;> eq_refl)))
 | with_reducible (first | apply awp_scp | apply awp_sn | apply awp_nop | apply awp_ret | apply awp_exit | apply awp_block | apply awp_seq | apply seqK_n | apply seqK_r | apply seqK_x | apply blkK_n | apply blkK_r | apply blkK_x)
 | (with_reducible apply blkK_y; (· first | rfl | decide))
 | (with_reducible apply cutK_o; (· simp))
 | with_reducible (first | apply backK_x | apply backK_r | apply asgK_n | apply rngK_x | apply rngK_r | apply True.intro | apply And.intro True.intro True.intro)
 | (fail_if_success with_reducible apply K_id); (fail_if_success with_reducible apply awp_id); first | omega | (simp only [go_sem, seval, hr1055]; done) | with_reducible assumption | (refine And.intro ?_ ?_) | (intro hg; simp_all; done) | grind)
        refine awp_cb (B' := decide (i1062 < (g1054.length : Int))) (by simp only [go_sem, seval, hr1055] <;> eq_refl) (by first | rfl | (simp; done) | grind) (fun hc4 => ?_) (fun hc4 => ?_)
        · rw [hc4, cond_true] at hB3
          try simp only [gd_some, Option.bind_eq_some_iff] at hB3
          obtain ⟨⟨x1063, x1064⟩, hn1064, hB3⟩ := hB3
          have hx1064 : g1054.getD i1062.toNat (0, 0) = (x1063, x1064) := ixs hn1064 _
          have hb1064 := (nth_some hn1064).1
          try simp only [gd_some, Option.bind_eq_some_iff] at hB3
          obtain ⟨hv5, hv6, hB3⟩ := hB3
          simp only [I64] at hv5
          repeat' (first
 | (with_reducible (first | apply awp_sr5 | apply awp_r5 | apply awp_sd | apply awp_d | apply inlR_n5 | apply inlR_r5); (· (first | exact Ctx.fn_ok hS | exact Ctx.rd_ok hS | assumption | exact True.intro)); iterate 2 (· (simp only [go_sem, seval, hr1055, hx1064] <;> eq_refl)))
 | with_reducible (first | apply awp_scp | apply awp_sn | apply awp_nop | apply awp_ret | apply awp_exit | apply awp_block | apply awp_seq | apply seqK_n | apply seqK_r | apply seqK_x | apply blkK_n | apply blkK_r | apply blkK_x)
 | (with_reducible apply blkK_y; (· first | rfl | decide))
 | (with_reducible apply cutK_o; (· simp))
 | with_reducible (first | apply backK_x | apply backK_r | apply asgK_n | apply rngK_x | apply rngK_r | apply True.intro | apply And.intro True.intro True.intro)
 | (fail_if_success with_reducible apply K_id); (fail_if_success with_reducible apply awp_id); first | omega | (simp only [go_sem, seval, hr1055, hx1064]; done) | with_reducible assumption | (refine And.intro ?_ ?_) | (intro hg; simp_all; done) | grind)
          refine awp_cb (B' := ((((decide (x1063 < 0)) || (decide (10000000 < x1063))) || (decide (x1064 < (-1000000)))) || (decide (1000000 < x1064))) || ((decide (0 < i1062)) && (decide (x1063 ≤ (g1054.getD (i1062 - 1).toNat (0, 0)).1)))) (by simp only [go_sem, seval, hr1055, hx1064] <;> eq_refl) (by first | rfl | (simp; done) | grind) (fun hc7 => ?_) (fun hc7 => ?_)
          · rw [hc7, cond_true] at hB3
            obtain rfl := Option.some.inj hB3
            try simp only at h
            obtain rfl := Option.some.inj h
            repeat' (first
 | (with_reducible (first | apply awp_sr5 | apply awp_r5 | apply awp_sd | apply awp_d | apply inlR_n5 | apply inlR_r5); (· (first | exact Ctx.fn_ok hS | exact Ctx.rd_ok hS | assumption | exact True.intro)); iterate 2 (· (simp only [go_sem, seval, hr1055, hx1064] <;> eq_refl)))
 | with_reducible (first | apply awp_scp | apply awp_sn | apply awp_nop | apply awp_ret | apply awp_exit | apply awp_block | apply awp_seq | apply seqK_n | apply seqK_r | apply seqK_x | apply blkK_n | apply blkK_r | apply blkK_x)
 | (with_reducible apply blkK_y; (· first | rfl | decide))
 | (with_reducible apply cutK_o; (· simp))
 | with_reducible (first | apply backK_x | apply backK_r | apply asgK_n | apply rngK_x | apply rngK_r | apply True.intro | apply And.intro True.intro True.intro)
 | (fail_if_success with_reducible apply K_id); (fail_if_success with_reducible apply awp_id); first | omega | (simp only [go_sem, seval, hr1055, hx1064]; done) | with_reducible assumption | (refine And.intro ?_ ?_) | (intro hg; simp_all; done) | grind)
            first | refine endK_r (by simp only [go_sem, seval, hr1055, hx1064] <;> eq_refl) (by simp only [go_sem, seval, hr1055, hx1064]) (by simp only [go_sem, seval, hr1055, hx1064]) ?_ rfl | refine endK_n (by simp only [go_sem, seval, hr1055, hx1064] <;> eq_refl) (by simp only [go_sem, seval, hr1055, hx1064]) (by simp only [go_sem, seval, hr1055, hx1064]) ?_ rfl
            first | (simp only [go_sem, seval, hr1055, hx1064]; done) | (simp only [go_sem, seval, hr1055, hx1064, List.map_append, List.map_cons, List.map_nil, List.map_set, List.map_take, List.map_drop]; done) | (simp [hr1055, hx1064]; done)
          · rw [hc7, cond_false] at hB3
            try simp only [gd_some, Option.bind_eq_some_iff] at hB3
            obtain ⟨hv8, hB3⟩ := hB3
            simp only [I64] at hv8
            repeat' (first
 | (with_reducible (first | apply awp_sr5 | apply awp_r5 | apply awp_sd | apply awp_d | apply inlR_n5 | apply inlR_r5); (· (first | exact Ctx.fn_ok hS | exact Ctx.rd_ok hS | assumption | exact True.intro)); iterate 2 (· (simp only [go_sem, seval, hr1055, hx1064] <;> eq_refl)))
 | with_reducible (first | apply awp_scp | apply awp_sn | apply awp_nop | apply awp_ret | apply awp_exit | apply awp_block | apply awp_seq | apply seqK_n | apply seqK_r | apply seqK_x | apply blkK_n | apply blkK_r | apply blkK_x)
 | (with_reducible apply blkK_y; (· first | rfl | decide))
 | (with_reducible apply cutK_o; (· simp))
 | with_reducible (first | apply backK_x | apply backK_r | apply asgK_n | apply rngK_x | apply rngK_r | apply True.intro | apply And.intro True.intro True.intro)
 | (fail_if_success with_reducible apply K_id); (fail_if_success with_reducible apply awp_id); first | omega | (simp only [go_sem, seval, hr1055, hx1064]; done) | with_reducible assumption | (refine And.intro ?_ ?_) | (intro hg; simp_all; done) | grind)
            refine backK_n (n, i1062 + 1, c1061 + 1 + 1 + 1 + 1) hB3 (Nat.lt_succ_self _) ?_
            refine Le.of ?_ ?_ (by first | exact Nat.le_refl _ | (simp; omega) | simp) <;> first | (simp only [go_sem, seval, hr1055, hx1064]; done) | (simp only [go_sem, seval, hr1055, hx1064, List.map_append, List.map_cons, List.map_nil, List.map_set, List.map_take, List.map_drop]; done) | (simp [hr1055, hx1064, List.map_append, List.map_set]; done)
        · rw [hc4, cond_false] at hB3
          repeat' (first
 | (with_reducible (first | apply awp_sr5 | apply awp_r5 | apply awp_sd | apply awp_d | apply inlR_n5 | apply inlR_r5); (· (first | exact Ctx.fn_ok hS | exact Ctx.rd_ok hS | assumption | exact True.intro)); iterate 2 (· (simp only [go_sem, seval, hr1055] <;> eq_refl)))
 | with_reducible (first | apply awp_scp | apply awp_sn | apply awp_nop | apply awp_ret | apply awp_exit | apply awp_block | apply awp_seq | apply seqK_n | apply seqK_r | apply seqK_x | apply blkK_n | apply blkK_r | apply blkK_x)
 | (with_reducible apply blkK_y; (· first | rfl | decide))
 | (with_reducible apply cutK_o; (· simp))
 | with_reducible (first | apply backK_x | apply backK_r | apply asgK_n | apply rngK_x | apply rngK_r | apply True.intro | apply And.intro True.intro True.intro)
 | (fail_if_success with_reducible apply K_id); (fail_if_success with_reducible apply awp_id); first | omega | (simp only [go_sem, seval, hr1055]; done) | with_reducible assumption | (refine And.intro ?_ ?_) | (intro hg; simp_all; done) | grind)
          refine cutK_h (c1061 + 1) (Option.some.inj hB3) ?_
          refine Le.of ?_ ?_ (by first | exact Nat.le_refl _ | (simp; omega) | simp) <;> first | (simp only [go_sem, seval, hr1055]; done) | (simp only [go_sem, seval, hr1055, List.map_append, List.map_cons, List.map_nil, List.map_set, List.map_take, List.map_drop]; done) | (simp [hr1055, List.map_append, List.map_set]; done)
    · rintro c1068 hz9
      subst hz9
      try simp only at h
      obtain rfl := Option.some.inj h
      repeat' (first
 | (with_reducible (first | apply awp_sr5 | apply awp_r5 | apply awp_sd | apply awp_d | apply inlR_n5 | apply inlR_r5); (· (first | exact Ctx.fn_ok hS | exact Ctx.rd_ok hS | assumption | exact True.intro)); iterate 2 (· (simp only [go_sem, seval, hr1055] <;> eq_refl)))
 | with_reducible (first | apply awp_scp | apply awp_sn | apply awp_nop | apply awp_ret | apply awp_exit | apply awp_block | apply awp_seq | apply seqK_n | apply seqK_r | apply seqK_x | apply blkK_n | apply blkK_r | apply blkK_x)
 | (with_reducible apply blkK_y; (· first | rfl | decide))
 | (with_reducible apply cutK_o; (· simp))
 | with_reducible (first | apply backK_x | apply backK_r | apply asgK_n | apply rngK_x | apply rngK_r | apply True.intro | apply And.intro True.intro True.intro)
 | (fail_if_success with_reducible apply K_id); (fail_if_success with_reducible apply awp_id); first | omega | (simp only [go_sem, seval, hr1055]; done) | with_reducible assumption | (refine And.intro ?_ ?_) | (intro hg; simp_all; done) | grind)
      first | refine endK_r (by simp only [go_sem, seval, hr1055] <;> eq_refl) (by simp only [go_sem, seval, hr1055]) (by simp only [go_sem, seval, hr1055]) ?_ rfl | refine endK_n (by simp only [go_sem, seval, hr1055] <;> eq_refl) (by simp only [go_sem, seval, hr1055]) (by simp only [go_sem, seval, hr1055]) ?_ rfl
      first | (simp only [go_sem, seval, hr1055]; done) | (simp only [go_sem, seval, hr1055, List.map_append, List.map_cons, List.map_nil, List.map_set, List.map_take, List.map_drop]; done) | (simp [hr1055]; done)
end

def s17 (N : Nat) : Spec
  | [.agg [.v (.int .i64 g1050), .sl yg1051 _ g1051 _, .v (.int .i64 g1052), .v (.int .i64 g1053), .sl yg1054 _ g1054 _]] => some (((yg1051 = 3 ∨ g1051 = []) ∧ g1051 = (g1051.map dec3).map row3) ∧ ((yg1054 = 2 ∨ g1054 = []) ∧ g1054 = (g1054.map dec2).map row2) ∧ (D_putlogref24_Valid N g1050 (g1051.map dec3) g1052 g1053 (g1054.map dec2)).isSome = true, .b ((D_putlogref24_Valid N g1050 (g1051.map dec3) g1052 g1053 (g1054.map dec2)).getD false))
  | _ => none
theorem fok17 (N : Nat) : FOK Try.prog 17 (s17 N) := ⟨of17, by
  intro args vc r h hv
  unfold s17 at h
  split at h
  · cases h
    obtain ⟨⟨hy0, hr0⟩, ⟨hy1, hr1⟩, hs⟩ := hv
    obtain ⟨r, hr⟩ := Option.isSome_iff_exists.1 hs
    have hk := D_putlogref24_Valid_ok N _ _ _ _ _ r hr
    simp only [hr, Option.getD_some]
    refine PCall.arg ?_ hk
    simp only [wkL, wk, and_true, true_and, Bool.false_eq_true, false_implies, implies_true]
    repeat' (first | exact True.intro | assumption | apply And.intro)
  · simp at h⟩

/-! putlog/putlogref24.span -/
def D_putlogref24_span (N : Nat) (g1071 : Int) (g1072 : List (Int × Int × Int)) (g1073 : Int) (g1074 : Int) (g1075 : List (Int × Int)) (s1076 : Int) (s1077 : Int) (t1078 : Int) : Option (Int × Int × Bool) :=
  (D_putlogref05_At N g1071 g1072 s1076).bind fun (r1079, r1080, r1081) =>
  bif decide (r1081 ≠ 0) then (
    some (0, 0, false))
  else (
    gd (I64 (t1078 - r1079)) <|
    gd (I64 (r1079 - t1078)) <|
    gd (I64 (t1078 - r1080)) <|
    gd (I64 (r1080 - t1078)) <|
    gd (I64 (g1074 * (max (max (max (t1078 - r1079) (r1079 - t1078)) (t1078 - r1080)) (r1080 - t1078)))) <|
    gd (I64 (s1077 - g1073)) <|
    gd (I64 ((s1077 - g1073) - (g1074 * (max (max (max (t1078 - r1079) (r1079 - t1078)) (t1078 - r1080)) (r1080 - t1078))))) <|
    gd (I64 (s1077 + g1073)) <|
    gd (I64 ((s1077 + g1073) + (g1074 * (max (max (max (t1078 - r1079) (r1079 - t1078)) (t1078 - r1080)) (r1080 - t1078))))) <|
    some ((s1077 - g1073) - (g1074 * (max (max (max (t1078 - r1079) (r1079 - t1078)) (t1078 - r1080)) (r1080 - t1078))), (s1077 + g1073) + (g1074 * (max (max (max (t1078 - r1079) (r1079 - t1078)) (t1078 - r1080)) (r1080 - t1078))), true))

def T42 (N : Nat) : List (Nat × Spec) := [(48, s48 N)]
theorem T42_ok (N : Nat) : TabOK Try.prog (tabOf (T42 N)) := tab_cons (fok48 N) (tab_nil)

section
attribute [local go_sem] T42 s48 row1 dec1 dec1_row1 rb_row1 row2 dec2 dec2_row2 rb_row2 row3 dec3 dec3_row3 rb_row3 List.length_set Option.isSome_some
theorem D_putlogref24_span_ok (N : Nat) (g1071 : Int) (g1072 : List (Int × Int × Int)) (g1073 : Int) (g1074 : Int) (g1075 : List (Int × Int)) (s1076 : Int) (s1077 : Int) (t1078 : Int) (r : Int × Int × Bool) (h : D_putlogref24_span N g1071 g1072 g1073 g1074 g1075 s1076 s1077 t1078 = some r) : PCall Try.prog 42 [.agg [.i g1071, .sl 3 false (g1072.map row3) [.i 0, .i 0, .i 0], .i g1073, .i g1074, .sl 2 false (g1075.map row2) [.i 0, .i 0]], .agg [.i s1076, .i s1077], .i t1078] (.tup [.i r.1, .i r.2.1, .b r.2.2]) := by
  refine pcall_fn (T42_ok N) _ Try.func42 ok42 nt42 (by simp) fun _ => ?_
  have hS := T42_ok N
  unfold ac42 rv42
  unfold D_putlogref24_span at h
  try simp only [gd_some, Option.bind_eq_some_iff] at h
  obtain ⟨⟨r1079, r1080, r1081⟩, hr1081, h⟩ := h
  repeat' (first
 | (with_reducible (first | apply awp_sr5 | apply awp_r5 | apply awp_sd | apply awp_d | apply inlR_n5 | apply inlR_r5); (· (first | exact Ctx.fn_ok hS | exact Ctx.rd_ok hS | assumption | exact True.intro)); iterate 2 (· (simp only [go_sem, seval, hr1081] <;> eq_refl)))
 | with_reducible (first | apply awp_scp | apply awp_sn | apply awp_nop | apply awp_ret | apply awp_exit | apply awp_block | apply awp_seq | apply seqK_n | apply seqK_r | apply seqK_x | apply blkK_n | apply blkK_r | apply blkK_x)
 | (with_reducible apply blkK_y; (· first | rfl | decide))
 | (with_reducible apply cutK_o; (· simp))
 | with_reducible (first | apply backK_x | apply backK_r | apply asgK_n | apply rngK_x | apply rngK_r | apply True.intro | apply And.intro True.intro True.intro)
 | (fail_if_success with_reducible apply K_id); (fail_if_success with_reducible apply awp_id); first | omega | (simp only [go_sem, seval, hr1081]; done) | with_reducible assumption | (refine And.intro ?_ ?_) | (intro hg; simp_all; done) | grind)
  refine awp_cb (B' := decide (r1081 ≠ 0)) (by simp only [go_sem, seval, hr1081] <;> eq_refl) (by first | rfl | (simp; done) | grind) (fun hc1 => ?_) (fun hc1 => ?_)
  · rw [hc1, cond_true] at h
    obtain rfl := Option.some.inj h
    repeat' (first
 | (with_reducible (first | apply awp_sr5 | apply awp_r5 | apply awp_sd | apply awp_d | apply inlR_n5 | apply inlR_r5); (· (first | exact Ctx.fn_ok hS | exact Ctx.rd_ok hS | assumption | exact True.intro)); iterate 2 (· (simp only [go_sem, seval, hr1081] <;> eq_refl)))
 | with_reducible (first | apply awp_scp | apply awp_sn | apply awp_nop | apply awp_ret | apply awp_exit | apply awp_block | apply awp_seq | apply seqK_n | apply seqK_r | apply seqK_x | apply blkK_n | apply blkK_r | apply blkK_x)
 | (with_reducible apply blkK_y; (· first | rfl | decide))
 | (with_reducible apply cutK_o; (· simp))
 | with_reducible (first | apply backK_x | apply backK_r | apply asgK_n | apply rngK_x | apply rngK_r | apply True.intro | apply And.intro True.intro True.intro)
 | (fail_if_success with_reducible apply K_id); (fail_if_success with_reducible apply awp_id); first | omega | (simp only [go_sem, seval, hr1081]; done) | with_reducible assumption | (refine And.intro ?_ ?_) | (intro hg; simp_all; done) | grind)
    first | refine endK_r (by simp only [go_sem, seval, hr1081] <;> eq_refl) (by simp only [go_sem, seval, hr1081]) (by simp only [go_sem, seval, hr1081]) ?_ rfl | refine endK_n (by simp only [go_sem, seval, hr1081] <;> eq_refl) (by simp only [go_sem, seval, hr1081]) (by simp only [go_sem, seval, hr1081]) ?_ rfl
    first | (simp only [go_sem, seval, hr1081]; done) | (simp only [go_sem, seval, hr1081, List.map_append, List.map_cons, List.map_nil, List.map_set, List.map_take, List.map_drop]; done) | (simp [hr1081]; done)
  · rw [hc1, cond_false] at h
    try simp only [gd_some, Option.bind_eq_some_iff] at h
    obtain ⟨hv2, hv3, hv4, hv5, hv6, hv7, hv8, hv9, hv10, h⟩ := h
    simp only [I64] at hv2
    simp only [I64] at hv3
    simp only [I64] at hv4
    simp only [I64] at hv5
    simp only [I64] at hv6
    simp only [I64] at hv7
    simp only [I64] at hv8
    simp only [I64] at hv9
    simp only [I64] at hv10
    obtain rfl := Option.some.inj h
    repeat' (first
 | (with_reducible (first | apply awp_sr5 | apply awp_r5 | apply awp_sd | apply awp_d | apply inlR_n5 | apply inlR_r5); (· (first | exact Ctx.fn_ok hS | exact Ctx.rd_ok hS | assumption | exact True.intro)); iterate 2 (· (simp only [go_sem, seval, hr1081] <;> eq_refl)))
 | with_reducible (first | apply awp_scp | apply awp_sn | apply awp_nop | apply awp_ret | apply awp_exit | apply awp_block | apply awp_seq | apply seqK_n | apply seqK_r | apply seqK_x | apply blkK_n | apply blkK_r | apply blkK_x)
 | (with_reducible apply blkK_y; (· first | rfl | decide))
 | (with_reducible apply cutK_o; (· simp))
 | with_reducible (first | apply backK_x | apply backK_r | apply asgK_n | apply rngK_x | apply rngK_r | apply True.intro | apply And.intro True.intro True.intro)
 | (fail_if_success with_reducible apply K_id); (fail_if_success with_reducible apply awp_id); first | omega | (simp only [go_sem, seval, hr1081]; done) | with_reducible assumption | (refine And.intro ?_ ?_) | (intro hg; simp_all; done) | grind)
    first | refine endK_r (by simp only [go_sem, seval, hr1081] <;> eq_refl) (by simp only [go_sem, seval, hr1081]) (by simp only [go_sem, seval, hr1081]) ?_ rfl | refine endK_n (by simp only [go_sem, seval, hr1081] <;> eq_refl) (by simp only [go_sem, seval, hr1081]) (by simp only [go_sem, seval, hr1081]) ?_ rfl
    first | (simp only [go_sem, seval, hr1081]; done) | (simp only [go_sem, seval, hr1081, List.map_append, List.map_cons, List.map_nil, List.map_set, List.map_take, List.map_drop]; done) | (simp [hr1081]; done)
end

def s42 (N : Nat) : Spec
  | [.agg [.v (.int .i64 g1071), .sl yg1072 _ g1072 _, .v (.int .i64 g1073), .v (.int .i64 g1074), .sl yg1075 _ g1075 _], .agg [.v (.int .i64 s1076), .v (.int .i64 s1077)], .v (.int .i64 t1078)] => some (((yg1072 = 3 ∨ g1072 = []) ∧ g1072 = (g1072.map dec3).map row3) ∧ ((yg1075 = 2 ∨ g1075 = []) ∧ g1075 = (g1075.map dec2).map row2) ∧ (D_putlogref24_span N g1071 (g1072.map dec3) g1073 g1074 (g1075.map dec2) s1076 s1077 t1078).isSome = true, .tup [.i (((D_putlogref24_span N g1071 (g1072.map dec3) g1073 g1074 (g1075.map dec2) s1076 s1077 t1078).getD (0, 0, false)).1), .i (((D_putlogref24_span N g1071 (g1072.map dec3) g1073 g1074 (g1075.map dec2) s1076 s1077 t1078).getD (0, 0, false)).2.1), .b (((D_putlogref24_span N g1071 (g1072.map dec3) g1073 g1074 (g1075.map dec2) s1076 s1077 t1078).getD (0, 0, false)).2.2)])
  | _ => none
theorem fok42 (N : Nat) : FOK Try.prog 42 (s42 N) := ⟨of42, by
  intro args vc r h hv
  unfold s42 at h
  split at h
  · cases h
    obtain ⟨⟨hy0, hr0⟩, ⟨hy1, hr1⟩, hs⟩ := hv
    obtain ⟨r, hr⟩ := Option.isSome_iff_exists.1 hs
    have hk := D_putlogref24_span_ok N _ _ _ _ _ _ _ _ r hr
    simp only [hr, Option.getD_some]
    refine PCall.arg ?_ hk
    simp only [wkL, wk, and_true, true_and, Bool.false_eq_true, false_implies, implies_true]
    repeat' (first | exact True.intro | assumption | apply And.intro)
  · simp at h⟩

/-! putlog/putlogref24.bounds -/
def D_putlogref24_bounds_L1 (N : Nat) (g1087 : List (Int × Int)) (g1083 : Int) (g1084 : List (Int × Int × Int)) (g1085 : Int) (g1086 : Int) (t1088 : Int) : Nat → Int → Int → Int → Option (Int × Int)
  | 0, _, _, _ => none
  | n + 1, low1098, high1099, i1100 =>
    bif decide (i1100 < (g1087.length : Int)) then (
      (nth g1087 i1100).bind fun (x1101, x1102) =>
      (D_putlogref24_span N g1083 g1084 g1085 g1086 g1087 x1101 x1102 t1088).bind fun (r1104, r1105, r1106) =>
      bif r1106 then (
        gd (I64 (i1100 + 1)) <|
        D_putlogref24_bounds_L1 N g1087 g1083 g1084 g1085 g1086 t1088 n (max low1098 r1104) (min high1099 r1105) (i1100 + 1))
      else (
        gd (I64 (i1100 + 1)) <|
        D_putlogref24_bounds_L1 N g1087 g1083 g1084 g1085 g1086 t1088 n low1098 high1099 (i1100 + 1)))
    else (
      some (low1098, high1099))

def D_putlogref24_bounds (N : Nat) (g1083 : Int) (g1084 : List (Int × Int × Int)) (g1085 : Int) (g1086 : Int) (g1087 : List (Int × Int)) (t1088 : Int) : Option (Int × Int) :=
  (D_putlogref24_bounds_L1 N g1087 g1083 g1084 g1085 g1086 t1088 N (-1000000) 1000000 0).bind fun (low1113, high1114) =>
  some (low1113, high1114)

def T41 (N : Nat) : List (Nat × Spec) := [(42, s42 N)]
theorem T41_ok (N : Nat) : TabOK Try.prog (tabOf (T41 N)) := tab_cons (fok42 N) (tab_nil)

section
attribute [local go_sem] T41 s42 row1 dec1 dec1_row1 rb_row1 row2 dec2 dec2_row2 rb_row2 row3 dec3 dec3_row3 rb_row3 List.length_set Option.isSome_some
theorem D_putlogref24_bounds_ok (N : Nat) (g1083 : Int) (g1084 : List (Int × Int × Int)) (g1085 : Int) (g1086 : Int) (g1087 : List (Int × Int)) (t1088 : Int) (r : Int × Int) (h : D_putlogref24_bounds N g1083 g1084 g1085 g1086 g1087 t1088 = some r) : PCall Try.prog 41 [.agg [.i g1083, .sl 3 false (g1084.map row3) [.i 0, .i 0, .i 0], .i g1085, .i g1086, .sl 2 false (g1087.map row2) [.i 0, .i 0]], .i t1088] (.tup [.i r.1, .i r.2]) := by
  refine pcall_fn (T41_ok N) _ Try.func41 ok41 nt41 (by simp) fun _ => ?_
  have hS := T41_ok N
  unfold ac41 rv41
  unfold D_putlogref24_bounds at h
  try simp only [gd_some, Option.bind_eq_some_iff] at h
  obtain ⟨o1115, hL1, h⟩ := h
  repeat' (first
 | (with_reducible (first | apply awp_sr5 | apply awp_r5 | apply awp_sd | apply awp_d | apply inlR_n5 | apply inlR_r5); (· (first | exact Ctx.fn_ok hS | exact Ctx.rd_ok hS | assumption | exact True.intro)); iterate 2 (· (simp only [go_sem, seval] <;> eq_refl)))
 | with_reducible (first | apply awp_scp | apply awp_sn | apply awp_nop | apply awp_ret | apply awp_exit | apply awp_block | apply awp_seq | apply seqK_n | apply seqK_r | apply seqK_x | apply blkK_n | apply blkK_r | apply blkK_x)
 | (with_reducible apply blkK_y; (· first | rfl | decide))
 | (with_reducible apply cutK_o; (· simp))
 | with_reducible (first | apply backK_x | apply backK_r | apply asgK_n | apply rngK_x | apply rngK_r | apply True.intro | apply And.intro True.intro True.intro)
 | (fail_if_success with_reducible apply K_id); (fail_if_success with_reducible apply awp_id); first | omega | (simp only [go_sem, seval]; done) | with_reducible assumption | (refine And.intro ?_ ?_) | (intro hg; simp_all; done) | grind)
  refine awp_cut (fun z : Int × Int × Nat => ⟨[(6, .i z.1), (7, .i z.2.1)], [], z.2.2⟩) (fun z => ((z.1, z.2.1) : Int × Int) = o1115) (.x 0) ?_ ?_
  · refine awp_loop (fun y : Nat × Int × Int × Int × Nat => ⟨[(1, .i t1088), (2, .box (0, 1) 0), (6, .i y.2.1), (7, .i y.2.2.1), (8, .i y.2.2.2.1)], [(.c (0, 1) 0, .i g1083), (.c (0, 1) 1, .sl 3 false (g1084.map row3) [.i 0, .i 0, .i 0]), (.c (0, 1) 2, .i g1085), (.c (0, 1) 3, .i g1086), (.c (0, 1) 4, .sl 2 false (g1087.map row2) [.i 0, .i 0])], y.2.2.2.2⟩) (fun y => D_putlogref24_bounds_L1 N g1087 g1083 g1084 g1085 g1086 t1088 y.1 y.2.1 y.2.2.1 y.2.2.2.1 = some o1115) (fun y => y.1) (N, (-1000000), 1000000, 0, 4) hL1 ?_ ?_
    · refine Le.of ?_ ?_ (by first | exact Nat.le_refl _ | (simp; omega) | simp) <;> first | (simp only [go_sem, seval]; done) | (simp only [go_sem, seval, List.map_append, List.map_cons, List.map_nil, List.map_set, List.map_take, List.map_drop]; done) | (simp [List.map_append, List.map_set]; done)
    · rintro ⟨n, low1098, high1099, i1100, c1097⟩ hB2
      try simp only at hB2
      obtain _ | n := n
      · exact absurd hB2 (by simp [D_putlogref24_bounds_L1])
      rw [D_putlogref24_bounds_L1] at hB2
      repeat' (first
 | (with_reducible (first | apply awp_sr5 | apply awp_r5 | apply awp_sd | apply awp_d | apply inlR_n5 | apply inlR_r5); (· (first | exact Ctx.fn_ok hS | exact Ctx.rd_ok hS | assumption | exact True.intro)); iterate 2 (· (simp only [go_sem, seval] <;> eq_refl)))
 | with_reducible (first | apply awp_scp | apply awp_sn | apply awp_nop | apply awp_ret | apply awp_exit | apply awp_block | apply awp_seq | apply seqK_n | apply seqK_r | apply seqK_x | apply blkK_n | apply blkK_r | apply blkK_x)
 | (with_reducible apply blkK_y; (· first | rfl | decide))
 | (with_reducible apply cutK_o; (· simp))
 | with_reducible (first | apply backK_x | apply backK_r | apply asgK_n | apply rngK_x | apply rngK_r | apply True.intro | apply And.intro True.intro True.intro)
 | (fail_if_success with_reducible apply K_id); (fail_if_success with_reducible apply awp_id); first | omega | (simp only [go_sem, seval]; done) | with_reducible assumption | (refine And.intro ?_ ?_) | (intro hg; simp_all; done) | grind)
      refine awp_cb (B' := decide (i1100 < (g1087.length : Int))) (by simp only [go_sem, seval] <;> eq_refl) (by first | rfl | (simp; done) | grind) (fun hc3 => ?_) (fun hc3 => ?_)
      · rw [hc3, cond_true] at hB2
        try simp only [gd_some, Option.bind_eq_some_iff] at hB2
        obtain ⟨⟨x1101, x1102⟩, hn1102, hB2⟩ := hB2
        have hx1102 : g1087.getD i1100.toNat (0, 0) = (x1101, x1102) := ixs hn1102 _
        have hb1102 := (nth_some hn1102).1
        try simp only [gd_some, Option.bind_eq_some_iff] at hB2
        obtain ⟨⟨r1104, r1105, r1106⟩, hr1106, hB2⟩ := hB2
        repeat' (first
 | (with_reducible (first | apply awp_sr5 | apply awp_r5 | apply awp_sd | apply awp_d | apply inlR_n5 | apply inlR_r5); (· (first | exact Ctx.fn_ok hS | exact Ctx.rd_ok hS | assumption | exact True.intro)); iterate 2 (· (simp only [go_sem, seval, hx1102, hr1106] <;> eq_refl)))
 | with_reducible (first | apply awp_scp | apply awp_sn | apply awp_nop | apply awp_ret | apply awp_exit | apply awp_block | apply awp_seq | apply seqK_n | apply seqK_r | apply seqK_x | apply blkK_n | apply blkK_r | apply blkK_x)
 | (with_reducible apply blkK_y; (· first | rfl | decide))
 | (with_reducible apply cutK_o; (· simp))
 | with_reducible (first | apply backK_x | apply backK_r | apply asgK_n | apply rngK_x | apply rngK_r | apply True.intro | apply And.intro True.intro True.intro)
 | (fail_if_success with_reducible apply K_id); (fail_if_success with_reducible apply awp_id); first | omega | (simp only [go_sem, seval, hx1102, hr1106]; done) | with_reducible assumption | (refine And.intro ?_ ?_) | (intro hg; simp_all; done) | grind)
        refine awp_cb (B' := r1106) (by simp only [go_sem, seval, hx1102, hr1106] <;> eq_refl) (by first | rfl | (simp; done) | grind) (fun hc4 => ?_) (fun hc4 => ?_)
        · rw [hc4, cond_true] at hB2
          try simp only [gd_some, Option.bind_eq_some_iff] at hB2
          obtain ⟨hv5, hB2⟩ := hB2
          simp only [I64] at hv5
          repeat' (first
 | (with_reducible (first | apply awp_sr5 | apply awp_r5 | apply awp_sd | apply awp_d | apply inlR_n5 | apply inlR_r5); (· (first | exact Ctx.fn_ok hS | exact Ctx.rd_ok hS | assumption | exact True.intro)); iterate 2 (· (simp only [go_sem, seval, hx1102, hr1106] <;> eq_refl)))
 | with_reducible (first | apply awp_scp | apply awp_sn | apply awp_nop | apply awp_ret | apply awp_exit | apply awp_block | apply awp_seq | apply seqK_n | apply seqK_r | apply seqK_x | apply blkK_n | apply blkK_r | apply blkK_x)
 | (with_reducible apply blkK_y; (· first | rfl | decide))
 | (with_reducible apply cutK_o; (· simp))
 | with_reducible (first | apply backK_x | apply backK_r | apply asgK_n | apply rngK_x | apply rngK_r | apply True.intro | apply And.intro True.intro True.intro)
 | (fail_if_success with_reducible apply K_id); (fail_if_success with_reducible apply awp_id); first | omega | (simp only [go_sem, seval, hx1102, hr1106]; done) | with_reducible assumption | (refine And.intro ?_ ?_) | (intro hg; simp_all; done) | grind)
          refine backK_n (n, max low1098 r1104, min high1099 r1105, i1100 + 1, c1097 + 1 + 1 + 1 + 1 + 1 + 1) hB2 (Nat.lt_succ_self _) ?_
          refine Le.of ?_ ?_ (by first | exact Nat.le_refl _ | (simp; omega) | simp) <;> first | (simp only [go_sem, seval, hx1102, hr1106]; done) | (simp only [go_sem, seval, hx1102, hr1106, List.map_append, List.map_cons, List.map_nil, List.map_set, List.map_take, List.map_drop]; done) | (simp [hx1102, hr1106, List.map_append, List.map_set]; done)
        · rw [hc4, cond_false] at hB2
          try simp only [gd_some, Option.bind_eq_some_iff] at hB2
          obtain ⟨hv6, hB2⟩ := hB2
          simp only [I64] at hv6
          repeat' (first
 | (with_reducible (first | apply awp_sr5 | apply awp_r5 | apply awp_sd | apply awp_d | apply inlR_n5 | apply inlR_r5); (· (first | exact Ctx.fn_ok hS | exact Ctx.rd_ok hS | assumption | exact True.intro)); iterate 2 (· (simp only [go_sem, seval, hx1102, hr1106] <;> eq_refl)))
 | with_reducible (first | apply awp_scp | apply awp_sn | apply awp_nop | apply awp_ret | apply awp_exit | apply awp_block | apply awp_seq | apply seqK_n | apply seqK_r | apply seqK_x | apply blkK_n | apply blkK_r | apply blkK_x)
 | (with_reducible apply blkK_y; (· first | rfl | decide))
 | (with_reducible apply cutK_o; (· simp))
 | with_reducible (first | apply backK_x | apply backK_r | apply asgK_n | apply rngK_x | apply rngK_r | apply True.intro | apply And.intro True.intro True.intro)
 | (fail_if_success with_reducible apply K_id); (fail_if_success with_reducible apply awp_id); first | omega | (simp only [go_sem, seval, hx1102, hr1106]; done) | with_reducible assumption | (refine And.intro ?_ ?_) | (intro hg; simp_all; done) | grind)
          refine backK_n (n, low1098, high1099, i1100 + 1, c1097 + 1 + 1 + 1 + 1) hB2 (Nat.lt_succ_self _) ?_
          refine Le.of ?_ ?_ (by first | exact Nat.le_refl _ | (simp; omega) | simp) <;> first | (simp only [go_sem, seval, hx1102, hr1106]; done) | (simp only [go_sem, seval, hx1102, hr1106, List.map_append, List.map_cons, List.map_nil, List.map_set, List.map_take, List.map_drop]; done) | (simp [hx1102, hr1106, List.map_append, List.map_set]; done)
      · rw [hc3, cond_false] at hB2
        repeat' (first
 | (with_reducible (first | apply awp_sr5 | apply awp_r5 | apply awp_sd | apply awp_d | apply inlR_n5 | apply inlR_r5); (· (first | exact Ctx.fn_ok hS | exact Ctx.rd_ok hS | assumption | exact True.intro)); iterate 2 (· (simp only [go_sem, seval] <;> eq_refl)))
 | with_reducible (first | apply awp_scp | apply awp_sn | apply awp_nop | apply awp_ret | apply awp_exit | apply awp_block | apply awp_seq | apply seqK_n | apply seqK_r | apply seqK_x | apply blkK_n | apply blkK_r | apply blkK_x)
 | (with_reducible apply blkK_y; (· first | rfl | decide))
 | (with_reducible apply cutK_o; (· simp))
 | with_reducible (first | apply backK_x | apply backK_r | apply asgK_n | apply rngK_x | apply rngK_r | apply True.intro | apply And.intro True.intro True.intro)
 | (fail_if_success with_reducible apply K_id); (fail_if_success with_reducible apply awp_id); first | omega | (simp only [go_sem, seval]; done) | with_reducible assumption | (refine And.intro ?_ ?_) | (intro hg; simp_all; done) | grind)
        refine cutK_h (low1098, high1099, c1097 + 1) (Option.some.inj hB2) ?_
        refine Le.of ?_ ?_ (by first | exact Nat.le_refl _ | (simp; omega) | simp) <;> first | (simp only [go_sem, seval]; done) | (simp only [go_sem, seval, List.map_append, List.map_cons, List.map_nil, List.map_set, List.map_take, List.map_drop]; done) | (simp [List.map_append, List.map_set]; done)
  · rintro ⟨low1113, high1114, c1112⟩ hz7
    subst hz7
    try simp only at h
    obtain rfl := Option.some.inj h
    repeat' (first
 | (with_reducible (first | apply awp_sr5 | apply awp_r5 | apply awp_sd | apply awp_d | apply inlR_n5 | apply inlR_r5); (· (first | exact Ctx.fn_ok hS | exact Ctx.rd_ok hS | assumption | exact True.intro)); iterate 2 (· (simp only [go_sem, seval] <;> eq_refl)))
 | with_reducible (first | apply awp_scp | apply awp_sn | apply awp_nop | apply awp_ret | apply awp_exit | apply awp_block | apply awp_seq | apply seqK_n | apply seqK_r | apply seqK_x | apply blkK_n | apply blkK_r | apply blkK_x)
 | (with_reducible apply blkK_y; (· first | rfl | decide))
 | (with_reducible apply cutK_o; (· simp))
 | with_reducible (first | apply backK_x | apply backK_r | apply asgK_n | apply rngK_x | apply rngK_r | apply True.intro | apply And.intro True.intro True.intro)
 | (fail_if_success with_reducible apply K_id); (fail_if_success with_reducible apply awp_id); first | omega | (simp only [go_sem, seval]; done) | with_reducible assumption | (refine And.intro ?_ ?_) | (intro hg; simp_all; done) | grind)
    first | refine endK_r (by simp only [go_sem, seval] <;> eq_refl) (by simp only [go_sem, seval]) (by simp only [go_sem, seval]) ?_ rfl | refine endK_n (by simp only [go_sem, seval] <;> eq_refl) (by simp only [go_sem, seval]) (by simp only [go_sem, seval]) ?_ rfl
    first | (simp only [go_sem, seval]; done) | (simp only [go_sem, seval, List.map_append, List.map_cons, List.map_nil, List.map_set, List.map_take, List.map_drop]; done) | (simp []; done)
end

def s41 (N : Nat) : Spec
  | [.agg [.v (.int .i64 g1083), .sl yg1084 _ g1084 _, .v (.int .i64 g1085), .v (.int .i64 g1086), .sl yg1087 _ g1087 _], .v (.int .i64 t1088)] => some (((yg1084 = 3 ∨ g1084 = []) ∧ g1084 = (g1084.map dec3).map row3) ∧ ((yg1087 = 2 ∨ g1087 = []) ∧ g1087 = (g1087.map dec2).map row2) ∧ (D_putlogref24_bounds N g1083 (g1084.map dec3) g1085 g1086 (g1087.map dec2) t1088).isSome = true, .tup [.i (((D_putlogref24_bounds N g1083 (g1084.map dec3) g1085 g1086 (g1087.map dec2) t1088).getD (0, 0)).1), .i (((D_putlogref24_bounds N g1083 (g1084.map dec3) g1085 g1086 (g1087.map dec2) t1088).getD (0, 0)).2)])
  | _ => none
theorem fok41 (N : Nat) : FOK Try.prog 41 (s41 N) := ⟨of41, by
  intro args vc r h hv
  unfold s41 at h
  split at h
  · cases h
    obtain ⟨⟨hy0, hr0⟩, ⟨hy1, hr1⟩, hs⟩ := hv
    obtain ⟨r, hr⟩ := Option.isSome_iff_exists.1 hs
    have hk := D_putlogref24_bounds_ok N _ _ _ _ _ _ r hr
    simp only [hr, Option.getD_some]
    refine PCall.arg ?_ hk
    simp only [wkL, wk, and_true, true_and, Bool.false_eq_true, false_implies, implies_true]
    repeat' (first | exact True.intro | assumption | apply And.intro)
  · simp at h⟩

/-! putlog/putlogref24.Bounds -/
def D_putlogref24_Bounds (N : Nat) (g1116 : Int) (g1117 : List (Int × Int × Int)) (g1118 : Int) (g1119 : Int) (g1120 : List (Int × Int)) (t1121 : Int) : Option (Int × Int × Int) :=
  (D_putlogref24_Valid N g1116 g1117 g1118 g1119 g1120).bind fun r1122 =>
  bif ((!r1122) || (decide (t1121 < 0))) || (decide (10000000 < t1121)) then (
    some (0, 0, 240))
  else (
    (D_putlogref24_bounds N g1116 g1117 g1118 g1119 g1120 t1121).bind fun (r1124, r1125) =>
    bif decide (r1125 < r1124) then (
      some (0, 0, 240))
    else (
      some (r1124, r1125, 0)))

def T19 (N : Nat) : List (Nat × Spec) := [(17, s17 N), (41, s41 N)]
theorem T19_ok (N : Nat) : TabOK Try.prog (tabOf (T19 N)) := tab_cons (fok17 N) (tab_cons (fok41 N) (tab_nil))

section
attribute [local go_sem] T19 s17 s41 row1 dec1 dec1_row1 rb_row1 row2 dec2 dec2_row2 rb_row2 row3 dec3 dec3_row3 rb_row3 List.length_set Option.isSome_some
theorem D_putlogref24_Bounds_ok (N : Nat) (g1116 : Int) (g1117 : List (Int × Int × Int)) (g1118 : Int) (g1119 : Int) (g1120 : List (Int × Int)) (t1121 : Int) (r : Int × Int × Int) (h : D_putlogref24_Bounds N g1116 g1117 g1118 g1119 g1120 t1121 = some r) : PCall Try.prog 19 [.agg [.i g1116, .sl 3 false (g1117.map row3) [.i 0, .i 0, .i 0], .i g1118, .i g1119, .sl 2 false (g1120.map row2) [.i 0, .i 0]], .i t1121] (.tup [.i r.1, .i r.2.1, .i r.2.2]) := by
  refine pcall_fn (T19_ok N) _ Try.func19 ok19 nt19 (by simp) fun _ => ?_
  have hS := T19_ok N
  unfold ac19 rv19
  unfold D_putlogref24_Bounds at h
  try simp only [gd_some, Option.bind_eq_some_iff] at h
  obtain ⟨r1122, hr1122, h⟩ := h
  repeat' (first
 | (with_reducible (first | apply awp_sr5 | apply awp_r5 | apply awp_sd | apply awp_d | apply inlR_n5 | apply inlR_r5); (· (first | exact Ctx.fn_ok hS | exact Ctx.rd_ok hS | assumption | exact True.intro)); iterate 2 (· (simp only [go_sem, seval, hr1122] <;> eq_refl)))
 | with_reducible (first | apply awp_scp | apply awp_sn | apply awp_nop | apply awp_ret | apply awp_exit | apply awp_block | apply awp_seq | apply seqK_n | apply seqK_r | apply seqK_x | apply blkK_n | apply blkK_r | apply blkK_x)
 | (with_reducible apply blkK_y; (· first | rfl | decide))
 | (with_reducible apply cutK_o; (· simp))
 | with_reducible (first | apply backK_x | apply backK_r | apply asgK_n | apply rngK_x | apply rngK_r | apply True.intro | apply And.intro True.intro True.intro)
 | (fail_if_success with_reducible apply K_id); (fail_if_success with_reducible apply awp_id); first | omega | (simp only [go_sem, seval, hr1122]; done) | with_reducible assumption | (refine And.intro ?_ ?_) | (intro hg; simp_all; done) | grind)
  refine awp_cb (B' := ((!r1122) || (decide (t1121 < 0))) || (decide (10000000 < t1121))) (by simp only [go_sem, seval, hr1122] <;> eq_refl) (by first | rfl | (simp; done) | grind) (fun hc1 => ?_) (fun hc1 => ?_)
  · rw [hc1, cond_true] at h
    obtain rfl := Option.some.inj h
    repeat' (first
 | (with_reducible (first | apply awp_sr5 | apply awp_r5 | apply awp_sd | apply awp_d | apply inlR_n5 | apply inlR_r5); (· (first | exact Ctx.fn_ok hS | exact Ctx.rd_ok hS | assumption | exact True.intro)); iterate 2 (· (simp only [go_sem, seval, hr1122] <;> eq_refl)))
 | with_reducible (first | apply awp_scp | apply awp_sn | apply awp_nop | apply awp_ret | apply awp_exit | apply awp_block | apply awp_seq | apply seqK_n | apply seqK_r | apply seqK_x | apply blkK_n | apply blkK_r | apply blkK_x)
 | (with_reducible apply blkK_y; (· first | rfl | decide))
 | (with_reducible apply cutK_o; (· simp))
 | with_reducible (first | apply backK_x | apply backK_r | apply asgK_n | apply rngK_x | apply rngK_r | apply True.intro | apply And.intro True.intro True.intro)
 | (fail_if_success with_reducible apply K_id); (fail_if_success with_reducible apply awp_id); first | omega | (simp only [go_sem, seval, hr1122]; done) | with_reducible assumption | (refine And.intro ?_ ?_) | (intro hg; simp_all; done) | grind)
    first | refine endK_r (by simp only [go_sem, seval, hr1122] <;> eq_refl) (by simp only [go_sem, seval, hr1122]) (by simp only [go_sem, seval, hr1122]) ?_ rfl | refine endK_n (by simp only [go_sem, seval, hr1122] <;> eq_refl) (by simp only [go_sem, seval, hr1122]) (by simp only [go_sem, seval, hr1122]) ?_ rfl
    first | (simp only [go_sem, seval, hr1122]; done) | (simp only [go_sem, seval, hr1122, List.map_append, List.map_cons, List.map_nil, List.map_set, List.map_take, List.map_drop]; done) | (simp [hr1122]; done)
  · rw [hc1, cond_false] at h
    try simp only [gd_some, Option.bind_eq_some_iff] at h
    obtain ⟨⟨r1124, r1125⟩, hr1125, h⟩ := h
    repeat' (first
 | (with_reducible (first | apply awp_sr5 | apply awp_r5 | apply awp_sd | apply awp_d | apply inlR_n5 | apply inlR_r5); (· (first | exact Ctx.fn_ok hS | exact Ctx.rd_ok hS | assumption | exact True.intro)); iterate 2 (· (simp only [go_sem, seval, hr1122, hr1125] <;> eq_refl)))
 | with_reducible (first | apply awp_scp | apply awp_sn | apply awp_nop | apply awp_ret | apply awp_exit | apply awp_block | apply awp_seq | apply seqK_n | apply seqK_r | apply seqK_x | apply blkK_n | apply blkK_r | apply blkK_x)
 | (with_reducible apply blkK_y; (· first | rfl | decide))
 | (with_reducible apply cutK_o; (· simp))
 | with_reducible (first | apply backK_x | apply backK_r | apply asgK_n | apply rngK_x | apply rngK_r | apply True.intro | apply And.intro True.intro True.intro)
 | (fail_if_success with_reducible apply K_id); (fail_if_success with_reducible apply awp_id); first | omega | (simp only [go_sem, seval, hr1122, hr1125]; done) | with_reducible assumption | (refine And.intro ?_ ?_) | (intro hg; simp_all; done) | grind)
    refine awp_cb (B' := decide (r1125 < r1124)) (by simp only [go_sem, seval, hr1122, hr1125] <;> eq_refl) (by first | rfl | (simp; done) | grind) (fun hc2 => ?_) (fun hc2 => ?_)
    · rw [hc2, cond_true] at h
      obtain rfl := Option.some.inj h
      repeat' (first
 | (with_reducible (first | apply awp_sr5 | apply awp_r5 | apply awp_sd | apply awp_d | apply inlR_n5 | apply inlR_r5); (· (first | exact Ctx.fn_ok hS | exact Ctx.rd_ok hS | assumption | exact True.intro)); iterate 2 (· (simp only [go_sem, seval, hr1122, hr1125] <;> eq_refl)))
 | with_reducible (first | apply awp_scp | apply awp_sn | apply awp_nop | apply awp_ret | apply awp_exit | apply awp_block | apply awp_seq | apply seqK_n | apply seqK_r | apply seqK_x | apply blkK_n | apply blkK_r | apply blkK_x)
 | (with_reducible apply blkK_y; (· first | rfl | decide))
 | (with_reducible apply cutK_o; (· simp))
 | with_reducible (first | apply backK_x | apply backK_r | apply asgK_n | apply rngK_x | apply rngK_r | apply True.intro | apply And.intro True.intro True.intro)
 | (fail_if_success with_reducible apply K_id); (fail_if_success with_reducible apply awp_id); first | omega | (simp only [go_sem, seval, hr1122, hr1125]; done) | with_reducible assumption | (refine And.intro ?_ ?_) | (intro hg; simp_all; done) | grind)
      first | refine endK_r (by simp only [go_sem, seval, hr1122, hr1125] <;> eq_refl) (by simp only [go_sem, seval, hr1122, hr1125]) (by simp only [go_sem, seval, hr1122, hr1125]) ?_ rfl | refine endK_n (by simp only [go_sem, seval, hr1122, hr1125] <;> eq_refl) (by simp only [go_sem, seval, hr1122, hr1125]) (by simp only [go_sem, seval, hr1122, hr1125]) ?_ rfl
      first | (simp only [go_sem, seval, hr1122, hr1125]; done) | (simp only [go_sem, seval, hr1122, hr1125, List.map_append, List.map_cons, List.map_nil, List.map_set, List.map_take, List.map_drop]; done) | (simp [hr1122, hr1125]; done)
    · rw [hc2, cond_false] at h
      obtain rfl := Option.some.inj h
      repeat' (first
 | (with_reducible (first | apply awp_sr5 | apply awp_r5 | apply awp_sd | apply awp_d | apply inlR_n5 | apply inlR_r5); (· (first | exact Ctx.fn_ok hS | exact Ctx.rd_ok hS | assumption | exact True.intro)); iterate 2 (· (simp only [go_sem, seval, hr1122, hr1125] <;> eq_refl)))
 | with_reducible (first | apply awp_scp | apply awp_sn | apply awp_nop | apply awp_ret | apply awp_exit | apply awp_block | apply awp_seq | apply seqK_n | apply seqK_r | apply seqK_x | apply blkK_n | apply blkK_r | apply blkK_x)
 | (with_reducible apply blkK_y; (· first | rfl | decide))
 | (with_reducible apply cutK_o; (· simp))
 | with_reducible (first | apply backK_x | apply backK_r | apply asgK_n | apply rngK_x | apply rngK_r | apply True.intro | apply And.intro True.intro True.intro)
 | (fail_if_success with_reducible apply K_id); (fail_if_success with_reducible apply awp_id); first | omega | (simp only [go_sem, seval, hr1122, hr1125]; done) | with_reducible assumption | (refine And.intro ?_ ?_) | (intro hg; simp_all; done) | grind)
      first | refine endK_r (by simp only [go_sem, seval, hr1122, hr1125] <;> eq_refl) (by simp only [go_sem, seval, hr1122, hr1125]) (by simp only [go_sem, seval, hr1122, hr1125]) ?_ rfl | refine endK_n (by simp only [go_sem, seval, hr1122, hr1125] <;> eq_refl) (by simp only [go_sem, seval, hr1122, hr1125]) (by simp only [go_sem, seval, hr1122, hr1125]) ?_ rfl
      first | (simp only [go_sem, seval, hr1122, hr1125]; done) | (simp only [go_sem, seval, hr1122, hr1125, List.map_append, List.map_cons, List.map_nil, List.map_set, List.map_take, List.map_drop]; done) | (simp [hr1122, hr1125]; done)
end

def s19 (N : Nat) : Spec
  | [.agg [.v (.int .i64 g1116), .sl yg1117 _ g1117 _, .v (.int .i64 g1118), .v (.int .i64 g1119), .sl yg1120 _ g1120 _], .v (.int .i64 t1121)] => some (((yg1117 = 3 ∨ g1117 = []) ∧ g1117 = (g1117.map dec3).map row3) ∧ ((yg1120 = 2 ∨ g1120 = []) ∧ g1120 = (g1120.map dec2).map row2) ∧ (D_putlogref24_Bounds N g1116 (g1117.map dec3) g1118 g1119 (g1120.map dec2) t1121).isSome = true, .tup [.i (((D_putlogref24_Bounds N g1116 (g1117.map dec3) g1118 g1119 (g1120.map dec2) t1121).getD (0, 0, 0)).1), .i (((D_putlogref24_Bounds N g1116 (g1117.map dec3) g1118 g1119 (g1120.map dec2) t1121).getD (0, 0, 0)).2.1), .i (((D_putlogref24_Bounds N g1116 (g1117.map dec3) g1118 g1119 (g1120.map dec2) t1121).getD (0, 0, 0)).2.2)])
  | _ => none
theorem fok19 (N : Nat) : FOK Try.prog 19 (s19 N) := ⟨of19, by
  intro args vc r h hv
  unfold s19 at h
  split at h
  · cases h
    obtain ⟨⟨hy0, hr0⟩, ⟨hy1, hr1⟩, hs⟩ := hv
    obtain ⟨r, hr⟩ := Option.isSome_iff_exists.1 hs
    have hk := D_putlogref24_Bounds_ok N _ _ _ _ _ _ r hr
    simp only [hr, Option.getD_some]
    refine PCall.arg ?_ hk
    simp only [wkL, wk, and_true, true_and, Bool.false_eq_true, false_implies, implies_true]
    repeat' (first | exact True.intro | assumption | apply And.intro)
  · simp at h⟩

/-! putlog/putlogref24.Reason -/
def D_putlogref24_Reason_L1 (N : Nat) (g1131 : List (Int × Int)) (g1127 : Int) (g1128 : List (Int × Int × Int)) (g1129 : Int) (g1130 : Int) (t1132 : Int) (r1133 : Int) (r1134 : Int) : Nat → Int → Int → Int → Option (Int × Int)
  | 0, _, _, _ => none
  | n + 1, under1146, over1147, i1148 =>
    bif decide (0 ≤ i1148) then (
      (nth g1131 i1148).bind fun (x1149, x1150) =>
      (D_putlogref24_span N g1127 g1128 g1129 g1130 g1131 x1149 x1150 t1132).bind fun (r1152, r1153, r1154) =>
      bif r1154 && (decide (r1152 = r1133)) then (
        bif r1154 && (decide (r1153 = r1134)) then (
          gd (I64 (i1148 - 1)) <|
          D_putlogref24_Reason_L1 N g1131 g1127 g1128 g1129 g1130 t1132 r1133 r1134 n i1148 i1148 (i1148 - 1))
        else (
          gd (I64 (i1148 - 1)) <|
          D_putlogref24_Reason_L1 N g1131 g1127 g1128 g1129 g1130 t1132 r1133 r1134 n i1148 over1147 (i1148 - 1)))
      else (
        bif r1154 && (decide (r1153 = r1134)) then (
          gd (I64 (i1148 - 1)) <|
          D_putlogref24_Reason_L1 N g1131 g1127 g1128 g1129 g1130 t1132 r1133 r1134 n under1146 i1148 (i1148 - 1))
        else (
          gd (I64 (i1148 - 1)) <|
          D_putlogref24_Reason_L1 N g1131 g1127 g1128 g1129 g1130 t1132 r1133 r1134 n under1146 over1147 (i1148 - 1))))
    else (
      some (under1146, over1147))

def D_putlogref24_Reason (N : Nat) (g1127 : Int) (g1128 : List (Int × Int × Int)) (g1129 : Int) (g1130 : Int) (g1131 : List (Int × Int)) (t1132 : Int) : Option (Int × Int × Int) :=
  (D_putlogref24_Bounds N g1127 g1128 g1129 g1130 g1131 t1132).bind fun (r1133, r1134, r1135) =>
  bif decide (r1135 ≠ 0) then (
    some (0, 0, r1135))
  else (
    gd (I64 ((g1131.length : Int) - 1)) <|
    (D_putlogref24_Reason_L1 N g1131 g1127 g1128 g1129 g1130 t1132 r1133 r1134 N (-1) (-1) ((g1131.length : Int) - 1)).bind fun (under1161, over1162) =>
    some (under1161, over1162, 0))

def T21 (N : Nat) : List (Nat × Spec) := [(19, s19 N), (42, s42 N)]
theorem T21_ok (N : Nat) : TabOK Try.prog (tabOf (T21 N)) := tab_cons (fok19 N) (tab_cons (fok42 N) (tab_nil))

section
attribute [local go_sem] T21 s19 s42 row1 dec1 dec1_row1 rb_row1 row2 dec2 dec2_row2 rb_row2 row3 dec3 dec3_row3 rb_row3 List.length_set Option.isSome_some
theorem D_putlogref24_Reason_ok (N : Nat) (g1127 : Int) (g1128 : List (Int × Int × Int)) (g1129 : Int) (g1130 : Int) (g1131 : List (Int × Int)) (t1132 : Int) (r : Int × Int × Int) (h : D_putlogref24_Reason N g1127 g1128 g1129 g1130 g1131 t1132 = some r) : PCall Try.prog 21 [.agg [.i g1127, .sl 3 false (g1128.map row3) [.i 0, .i 0, .i 0], .i g1129, .i g1130, .sl 2 false (g1131.map row2) [.i 0, .i 0]], .i t1132] (.tup [.i r.1, .i r.2.1, .i r.2.2]) := by
  refine pcall_fn (T21_ok N) _ Try.func21 ok21 nt21 (by simp) fun _ => ?_
  have hS := T21_ok N
  unfold ac21 rv21
  unfold D_putlogref24_Reason at h
  try simp only [gd_some, Option.bind_eq_some_iff] at h
  obtain ⟨⟨r1133, r1134, r1135⟩, hr1135, h⟩ := h
  repeat' (first
 | (with_reducible (first | apply awp_sr5 | apply awp_r5 | apply awp_sd | apply awp_d | apply inlR_n5 | apply inlR_r5); (· (first | exact Ctx.fn_ok hS | exact Ctx.rd_ok hS | assumption | exact True.intro)); iterate 2 (· (simp only [go_sem, seval, hr1135] <;> eq_refl)))
 | with_reducible (first | apply awp_scp | apply awp_sn | apply awp_nop | apply awp_ret | apply awp_exit | apply awp_block | apply awp_seq | apply seqK_n | apply seqK_r | apply seqK_x | apply blkK_n | apply blkK_r | apply blkK_x)
 | (with_reducible apply blkK_y; (· first | rfl | decide))
 | (with_reducible apply cutK_o; (· simp))
 | with_reducible (first | apply backK_x | apply backK_r | apply asgK_n | apply rngK_x | apply rngK_r | apply True.intro | apply And.intro True.intro True.intro)
 | (fail_if_success with_reducible apply K_id); (fail_if_success with_reducible apply awp_id); first | omega | (simp only [go_sem, seval, hr1135]; done) | with_reducible assumption | (refine And.intro ?_ ?_) | (intro hg; simp_all; done) | grind)
  refine awp_cb (B' := decide (r1135 ≠ 0)) (by simp only [go_sem, seval, hr1135] <;> eq_refl) (by first | rfl | (simp; done) | grind) (fun hc1 => ?_) (fun hc1 => ?_)
  · rw [hc1, cond_true] at h
    obtain rfl := Option.some.inj h
    repeat' (first
 | (with_reducible (first | apply awp_sr5 | apply awp_r5 | apply awp_sd | apply awp_d | apply inlR_n5 | apply inlR_r5); (· (first | exact Ctx.fn_ok hS | exact Ctx.rd_ok hS | assumption | exact True.intro)); iterate 2 (· (simp only [go_sem, seval, hr1135] <;> eq_refl)))
 | with_reducible (first | apply awp_scp | apply awp_sn | apply awp_nop | apply awp_ret | apply awp_exit | apply awp_block | apply awp_seq | apply seqK_n | apply seqK_r | apply seqK_x | apply blkK_n | apply blkK_r | apply blkK_x)
 | (with_reducible apply blkK_y; (· first | rfl | decide))
 | (with_reducible apply cutK_o; (· simp))
 | with_reducible (first | apply backK_x | apply backK_r | apply asgK_n | apply rngK_x | apply rngK_r | apply True.intro | apply And.intro True.intro True.intro)
 | (fail_if_success with_reducible apply K_id); (fail_if_success with_reducible apply awp_id); first | omega | (simp only [go_sem, seval, hr1135]; done) | with_reducible assumption | (refine And.intro ?_ ?_) | (intro hg; simp_all; done) | grind)
    first | refine endK_r (by simp only [go_sem, seval, hr1135] <;> eq_refl) (by simp only [go_sem, seval, hr1135]) (by simp only [go_sem, seval, hr1135]) ?_ rfl | refine endK_n (by simp only [go_sem, seval, hr1135] <;> eq_refl) (by simp only [go_sem, seval, hr1135]) (by simp only [go_sem, seval, hr1135]) ?_ rfl
    first | (simp only [go_sem, seval, hr1135]; done) | (simp only [go_sem, seval, hr1135, List.map_append, List.map_cons, List.map_nil, List.map_set, List.map_take, List.map_drop]; done) | (simp [hr1135]; done)
  · rw [hc1, cond_false] at h
    try simp only [gd_some, Option.bind_eq_some_iff] at h
    obtain ⟨hv2, h⟩ := h
    simp only [I64] at hv2
    try simp only [gd_some, Option.bind_eq_some_iff] at h
    obtain ⟨o1163, hL3, h⟩ := h
    repeat' (first
 | (with_reducible (first | apply awp_sr5 | apply awp_r5 | apply awp_sd | apply awp_d | apply inlR_n5 | apply inlR_r5); (· (first | exact Ctx.fn_ok hS | exact Ctx.rd_ok hS | assumption | exact True.intro)); iterate 2 (· (simp only [go_sem, seval, hr1135] <;> eq_refl)))
 | with_reducible (first | apply awp_scp | apply awp_sn | apply awp_nop | apply awp_ret | apply awp_exit | apply awp_block | apply awp_seq | apply seqK_n | apply seqK_r | apply seqK_x | apply blkK_n | apply blkK_r | apply blkK_x)
 | (with_reducible apply blkK_y; (· first | rfl | decide))
 | (with_reducible apply cutK_o; (· simp))
 | with_reducible (first | apply backK_x | apply backK_r | apply asgK_n | apply rngK_x | apply rngK_r | apply True.intro | apply And.intro True.intro True.intro)
 | (fail_if_success with_reducible apply K_id); (fail_if_success with_reducible apply awp_id); first | omega | (simp only [go_sem, seval, hr1135]; done) | with_reducible assumption | (refine And.intro ?_ ?_) | (intro hg; simp_all; done) | grind)
    refine awp_cut (fun z : Int × Int × Nat => ⟨[(10, .i z.1), (11, .i z.2.1)], [], z.2.2⟩) (fun z => ((z.1, z.2.1) : Int × Int) = o1163) (.x 0) ?_ ?_
    · refine awp_loop (fun y : Nat × Int × Int × Int × Nat => ⟨[(1, .i t1132), (2, .box (0, 1) 0), (7, .i r1133), (8, .i r1134), (10, .i y.2.1), (11, .i y.2.2.1), (12, .i y.2.2.2.1)], [(.c (0, 1) 0, .i g1127), (.c (0, 1) 1, .sl 3 false (g1128.map row3) [.i 0, .i 0, .i 0]), (.c (0, 1) 2, .i g1129), (.c (0, 1) 3, .i g1130), (.c (0, 1) 4, .sl 2 false (g1131.map row2) [.i 0, .i 0])], y.2.2.2.2⟩) (fun y => D_putlogref24_Reason_L1 N g1131 g1127 g1128 g1129 g1130 t1132 r1133 r1134 y.1 y.2.1 y.2.2.1 y.2.2.2.1 = some o1163) (fun y => y.1) (N, (-1), (-1), (g1131.length : Int) - 1, 6) hL3 ?_ ?_
      · refine Le.of ?_ ?_ (by first | exact Nat.le_refl _ | (simp; omega) | simp) <;> first | (simp only [go_sem, seval, hr1135]; done) | (simp only [go_sem, seval, hr1135, List.map_append, List.map_cons, List.map_nil, List.map_set, List.map_take, List.map_drop]; done) | (simp [hr1135, List.map_append, List.map_set]; done)
      · rintro ⟨n, under1146, over1147, i1148, c1145⟩ hB4
        try simp only at hB4
        obtain _ | n := n
        · exact absurd hB4 (by simp [D_putlogref24_Reason_L1])
        rw [D_putlogref24_Reason_L1] at hB4
        repeat' (first
 | (with_reducible (first | apply awp_sr5 | apply awp_r5 | apply awp_sd | apply awp_d | apply inlR_n5 | apply inlR_r5); (· (first | exact Ctx.fn_ok hS | exact Ctx.rd_ok hS | assumption | exact True.intro)); iterate 2 (· (simp only [go_sem, seval, hr1135] <;> eq_refl)))
 | with_reducible (first | apply awp_scp | apply awp_sn | apply awp_nop | apply awp_ret | apply awp_exit | apply awp_block | apply awp_seq | apply seqK_n | apply seqK_r | apply seqK_x | apply blkK_n | apply blkK_r | apply blkK_x)
 | (with_reducible apply blkK_y; (· first | rfl | decide))
 | (with_reducible apply cutK_o; (· simp))
 | with_reducible (first | apply backK_x | apply backK_r | apply asgK_n | apply rngK_x | apply rngK_r | apply True.intro | apply And.intro True.intro True.intro)
 | (fail_if_success with_reducible apply K_id); (fail_if_success with_reducible apply awp_id); first | omega | (simp only [go_sem, seval, hr1135]; done) | with_reducible assumption | (refine And.intro ?_ ?_) | (intro hg; simp_all; done) | grind)
        refine awp_cb (B' := decide (0 ≤ i1148)) (by simp only [go_sem, seval, hr1135] <;> eq_refl) (by first | rfl | (simp; done) | grind) (fun hc5 => ?_) (fun hc5 => ?_)
        · rw [hc5, cond_true] at hB4
          try simp only [gd_some, Option.bind_eq_some_iff] at hB4
          obtain ⟨⟨x1149, x1150⟩, hn1150, hB4⟩ := hB4
          have hx1150 : g1131.getD i1148.toNat (0, 0) = (x1149, x1150) := ixs hn1150 _
          have hb1150 := (nth_some hn1150).1
          try simp only [gd_some, Option.bind_eq_some_iff] at hB4
          obtain ⟨⟨r1152, r1153, r1154⟩, hr1154, hB4⟩ := hB4
          repeat' (first
 | (with_reducible (first | apply awp_sr5 | apply awp_r5 | apply awp_sd | apply awp_d | apply inlR_n5 | apply inlR_r5); (· (first | exact Ctx.fn_ok hS | exact Ctx.rd_ok hS | assumption | exact True.intro)); iterate 2 (· (simp only [go_sem, seval, hr1135, hx1150, hr1154] <;> eq_refl)))
 | with_reducible (first | apply awp_scp | apply awp_sn | apply awp_nop | apply awp_ret | apply awp_exit | apply awp_block | apply awp_seq | apply seqK_n | apply seqK_r | apply seqK_x | apply blkK_n | apply blkK_r | apply blkK_x)
 | (with_reducible apply blkK_y; (· first | rfl | decide))
 | (with_reducible apply cutK_o; (· simp))
 | with_reducible (first | apply backK_x | apply backK_r | apply asgK_n | apply rngK_x | apply rngK_r | apply True.intro | apply And.intro True.intro True.intro)
 | (fail_if_success with_reducible apply K_id); (fail_if_success with_reducible apply awp_id); first | omega | (simp only [go_sem, seval, hr1135, hx1150, hr1154]; done) | with_reducible assumption | (refine And.intro ?_ ?_) | (intro hg; simp_all; done) | grind)
          refine awp_cb (B' := r1154 && (decide (r1152 = r1133))) (by simp only [go_sem, seval, hr1135, hx1150, hr1154] <;> eq_refl) (by first | rfl | (simp; done) | grind) (fun hc6 => ?_) (fun hc6 => ?_)
          · rw [hc6, cond_true] at hB4
            repeat' (first
 | (with_reducible (first | apply awp_sr5 | apply awp_r5 | apply awp_sd | apply awp_d | apply inlR_n5 | apply inlR_r5); (· (first | exact Ctx.fn_ok hS | exact Ctx.rd_ok hS | assumption | exact True.intro)); iterate 2 (· (simp only [go_sem, seval, hr1135, hx1150, hr1154] <;> eq_refl)))
 | with_reducible (first | apply awp_scp | apply awp_sn | apply awp_nop | apply awp_ret | apply awp_exit | apply awp_block | apply awp_seq | apply seqK_n | apply seqK_r | apply seqK_x | apply blkK_n | apply blkK_r | apply blkK_x)
 | (with_reducible apply blkK_y; (· first | rfl | decide))
 | (with_reducible apply cutK_o; (· simp))
 | with_reducible (first | apply backK_x | apply backK_r | apply asgK_n | apply rngK_x | apply rngK_r | apply True.intro | apply And.intro True.intro True.intro)
 | (fail_if_success with_reducible apply K_id); (fail_if_success with_reducible apply awp_id); first | omega | (simp only [go_sem, seval, hr1135, hx1150, hr1154]; done) | with_reducible assumption | (refine And.intro ?_ ?_) | (intro hg; simp_all; done) | grind)
            refine awp_cb (B' := r1154 && (decide (r1153 = r1134))) (by simp only [go_sem, seval, hr1135, hx1150, hr1154] <;> eq_refl) (by first | rfl | (simp; done) | grind) (fun hc7 => ?_) (fun hc7 => ?_)
            · rw [hc7, cond_true] at hB4
              try simp only [gd_some, Option.bind_eq_some_iff] at hB4
              obtain ⟨hv8, hB4⟩ := hB4
              simp only [I64] at hv8
              repeat' (first
 | (with_reducible (first | apply awp_sr5 | apply awp_r5 | apply awp_sd | apply awp_d | apply inlR_n5 | apply inlR_r5); (· (first | exact Ctx.fn_ok hS | exact Ctx.rd_ok hS | assumption | exact True.intro)); iterate 2 (· (simp only [go_sem, seval, hr1135, hx1150, hr1154] <;> eq_refl)))
 | with_reducible (first | apply awp_scp | apply awp_sn | apply awp_nop | apply awp_ret | apply awp_exit | apply awp_block | apply awp_seq | apply seqK_n | apply seqK_r | apply seqK_x | apply blkK_n | apply blkK_r | apply blkK_x)
 | (with_reducible apply blkK_y; (· first | rfl | decide))
 | (with_reducible apply cutK_o; (· simp))
 | with_reducible (first | apply backK_x | apply backK_r | apply asgK_n | apply rngK_x | apply rngK_r | apply True.intro | apply And.intro True.intro True.intro)
 | (fail_if_success with_reducible apply K_id); (fail_if_success with_reducible apply awp_id); first | omega | (simp only [go_sem, seval, hr1135, hx1150, hr1154]; done) | with_reducible assumption | (refine And.intro ?_ ?_) | (intro hg; simp_all; done) | grind)
              refine backK_n (n, i1148, i1148, i1148 - 1, c1145 + 1 + 1 + 1 + 1 + 1 + 1 + 1) hB4 (Nat.lt_succ_self _) ?_
              refine Le.of ?_ ?_ (by first | exact Nat.le_refl _ | (simp; omega) | simp) <;> first | (simp only [go_sem, seval, hr1135, hx1150, hr1154]; done) | (simp only [go_sem, seval, hr1135, hx1150, hr1154, List.map_append, List.map_cons, List.map_nil, List.map_set, List.map_take, List.map_drop]; done) | (simp [hr1135, hx1150, hr1154, List.map_append, List.map_set]; done)
            · rw [hc7, cond_false] at hB4
              try simp only [gd_some, Option.bind_eq_some_iff] at hB4
              obtain ⟨hv9, hB4⟩ := hB4
              simp only [I64] at hv9
              repeat' (first
 | (with_reducible (first | apply awp_sr5 | apply awp_r5 | apply awp_sd | apply awp_d | apply inlR_n5 | apply inlR_r5); (· (first | exact Ctx.fn_ok hS | exact Ctx.rd_ok hS | assumption | exact True.intro)); iterate 2 (· (simp only [go_sem, seval, hr1135, hx1150, hr1154] <;> eq_refl)))
 | with_reducible (first | apply awp_scp | apply awp_sn | apply awp_nop | apply awp_ret | apply awp_exit | apply awp_block | apply awp_seq | apply seqK_n | apply seqK_r | apply seqK_x | apply blkK_n | apply blkK_r | apply blkK_x)
 | (with_reducible apply blkK_y; (· first | rfl | decide))
 | (with_reducible apply cutK_o; (· simp))
 | with_reducible (first | apply backK_x | apply backK_r | apply asgK_n | apply rngK_x | apply rngK_r | apply True.intro | apply And.intro True.intro True.intro)
 | (fail_if_success with_reducible apply K_id); (fail_if_success with_reducible apply awp_id); first | omega | (simp only [go_sem, seval, hr1135, hx1150, hr1154]; done) | with_reducible assumption | (refine And.intro ?_ ?_) | (intro hg; simp_all; done) | grind)
              refine backK_n (n, i1148, over1147, i1148 - 1, c1145 + 1 + 1 + 1 + 1 + 1 + 1) hB4 (Nat.lt_succ_self _) ?_
              refine Le.of ?_ ?_ (by first | exact Nat.le_refl _ | (simp; omega) | simp) <;> first | (simp only [go_sem, seval, hr1135, hx1150, hr1154]; done) | (simp only [go_sem, seval, hr1135, hx1150, hr1154, List.map_append, List.map_cons, List.map_nil, List.map_set, List.map_take, List.map_drop]; done) | (simp [hr1135, hx1150, hr1154, List.map_append, List.map_set]; done)
          · rw [hc6, cond_false] at hB4
            repeat' (first
 | (with_reducible (first | apply awp_sr5 | apply awp_r5 | apply awp_sd | apply awp_d | apply inlR_n5 | apply inlR_r5); (· (first | exact Ctx.fn_ok hS | exact Ctx.rd_ok hS | assumption | exact True.intro)); iterate 2 (· (simp only [go_sem, seval, hr1135, hx1150, hr1154] <;> eq_refl)))
 | with_reducible (first | apply awp_scp | apply awp_sn | apply awp_nop | apply awp_ret | apply awp_exit | apply awp_block | apply awp_seq | apply seqK_n | apply seqK_r | apply seqK_x | apply blkK_n | apply blkK_r | apply blkK_x)
 | (with_reducible apply blkK_y; (· first | rfl | decide))
 | (with_reducible apply cutK_o; (· simp))
 | with_reducible (first | apply backK_x | apply backK_r | apply asgK_n | apply rngK_x | apply rngK_r | apply True.intro | apply And.intro True.intro True.intro)
 | (fail_if_success with_reducible apply K_id); (fail_if_success with_reducible apply awp_id); first | omega | (simp only [go_sem, seval, hr1135, hx1150, hr1154]; done) | with_reducible assumption | (refine And.intro ?_ ?_) | (intro hg; simp_all; done) | grind)
            refine awp_cb (B' := r1154 && (decide (r1153 = r1134))) (by simp only [go_sem, seval, hr1135, hx1150, hr1154] <;> eq_refl) (by first | rfl | (simp; done) | grind) (fun hc10 => ?_) (fun hc10 => ?_)
            · rw [hc10, cond_true] at hB4
              try simp only [gd_some, Option.bind_eq_some_iff] at hB4
              obtain ⟨hv11, hB4⟩ := hB4
              simp only [I64] at hv11
              repeat' (first
 | (with_reducible (first | apply awp_sr5 | apply awp_r5 | apply awp_sd | apply awp_d | apply inlR_n5 | apply inlR_r5); (· (first | exact Ctx.fn_ok hS | exact Ctx.rd_ok hS | assumption | exact True.intro)); iterate 2 (· (simp only [go_sem, seval, hr1135, hx1150, hr1154] <;> eq_refl)))
 | with_reducible (first | apply awp_scp | apply awp_sn | apply awp_nop | apply awp_ret | apply awp_exit | apply awp_block | apply awp_seq | apply seqK_n | apply seqK_r | apply seqK_x | apply blkK_n | apply blkK_r | apply blkK_x)
 | (with_reducible apply blkK_y; (· first | rfl | decide))
 | (with_reducible apply cutK_o; (· simp))
 | with_reducible (first | apply backK_x | apply backK_r | apply asgK_n | apply rngK_x | apply rngK_r | apply True.intro | apply And.intro True.intro True.intro)
 | (fail_if_success with_reducible apply K_id); (fail_if_success with_reducible apply awp_id); first | omega | (simp only [go_sem, seval, hr1135, hx1150, hr1154]; done) | with_reducible assumption | (refine And.intro ?_ ?_) | (intro hg; simp_all; done) | grind)
              refine backK_n (n, under1146, i1148, i1148 - 1, c1145 + 1 + 1 + 1 + 1 + 1 + 1) hB4 (Nat.lt_succ_self _) ?_
              refine Le.of ?_ ?_ (by first | exact Nat.le_refl _ | (simp; omega) | simp) <;> first | (simp only [go_sem, seval, hr1135, hx1150, hr1154]; done) | (simp only [go_sem, seval, hr1135, hx1150, hr1154, List.map_append, List.map_cons, List.map_nil, List.map_set, List.map_take, List.map_drop]; done) | (simp [hr1135, hx1150, hr1154, List.map_append, List.map_set]; done)
            · rw [hc10, cond_false] at hB4
              try simp only [gd_some, Option.bind_eq_some_iff] at hB4
              obtain ⟨hv12, hB4⟩ := hB4
              simp only [I64] at hv12
              repeat' (first
 | (with_reducible (first | apply awp_sr5 | apply awp_r5 | apply awp_sd | apply awp_d | apply inlR_n5 | apply inlR_r5); (· (first | exact Ctx.fn_ok hS | exact Ctx.rd_ok hS | assumption | exact True.intro)); iterate 2 (· (simp only [go_sem, seval, hr1135, hx1150, hr1154] <;> eq_refl)))
 | with_reducible (first | apply awp_scp | apply awp_sn | apply awp_nop | apply awp_ret | apply awp_exit | apply awp_block | apply awp_seq | apply seqK_n | apply seqK_r | apply seqK_x | apply blkK_n | apply blkK_r | apply blkK_x)
 | (with_reducible apply blkK_y; (· first | rfl | decide))
 | (with_reducible apply cutK_o; (· simp))
 | with_reducible (first | apply backK_x | apply backK_r | apply asgK_n | apply rngK_x | apply rngK_r | apply True.intro | apply And.intro True.intro True.intro)
 | (fail_if_success with_reducible apply K_id); (fail_if_success with_reducible apply awp_id); first | omega | (simp only [go_sem, seval, hr1135, hx1150, hr1154]; done) | with_reducible assumption | (refine And.intro ?_ ?_) | (intro hg; simp_all; done) | grind)
              refine backK_n (n, under1146, over1147, i1148 - 1, c1145 + 1 + 1 + 1 + 1 + 1) hB4 (Nat.lt_succ_self _) ?_
              refine Le.of ?_ ?_ (by first | exact Nat.le_refl _ | (simp; omega) | simp) <;> first | (simp only [go_sem, seval, hr1135, hx1150, hr1154]; done) | (simp only [go_sem, seval, hr1135, hx1150, hr1154, List.map_append, List.map_cons, List.map_nil, List.map_set, List.map_take, List.map_drop]; done) | (simp [hr1135, hx1150, hr1154, List.map_append, List.map_set]; done)
        · rw [hc5, cond_false] at hB4
          repeat' (first
 | (with_reducible (first | apply awp_sr5 | apply awp_r5 | apply awp_sd | apply awp_d | apply inlR_n5 | apply inlR_r5); (· (first | exact Ctx.fn_ok hS | exact Ctx.rd_ok hS | assumption | exact True.intro)); iterate 2 (· (simp only [go_sem, seval, hr1135] <;> eq_refl)))
 | with_reducible (first | apply awp_scp | apply awp_sn | apply awp_nop | apply awp_ret | apply awp_exit | apply awp_block | apply awp_seq | apply seqK_n | apply seqK_r | apply seqK_x | apply blkK_n | apply blkK_r | apply blkK_x)
 | (with_reducible apply blkK_y; (· first | rfl | decide))
 | (with_reducible apply cutK_o; (· simp))
 | with_reducible (first | apply backK_x | apply backK_r | apply asgK_n | apply rngK_x | apply rngK_r | apply True.intro | apply And.intro True.intro True.intro)
 | (fail_if_success with_reducible apply K_id); (fail_if_success with_reducible apply awp_id); first | omega | (simp only [go_sem, seval, hr1135]; done) | with_reducible assumption | (refine And.intro ?_ ?_) | (intro hg; simp_all; done) | grind)
          refine cutK_h (under1146, over1147, c1145 + 1) (Option.some.inj hB4) ?_
          refine Le.of ?_ ?_ (by first | exact Nat.le_refl _ | (simp; omega) | simp) <;> first | (simp only [go_sem, seval, hr1135]; done) | (simp only [go_sem, seval, hr1135, List.map_append, List.map_cons, List.map_nil, List.map_set, List.map_take, List.map_drop]; done) | (simp [hr1135, List.map_append, List.map_set]; done)
    · rintro ⟨under1161, over1162, c1160⟩ hz13
      subst hz13
      try simp only at h
      obtain rfl := Option.some.inj h
      repeat' (first
 | (with_reducible (first | apply awp_sr5 | apply awp_r5 | apply awp_sd | apply awp_d | apply inlR_n5 | apply inlR_r5); (· (first | exact Ctx.fn_ok hS | exact Ctx.rd_ok hS | assumption | exact True.intro)); iterate 2 (· (simp only [go_sem, seval, hr1135] <;> eq_refl)))
 | with_reducible (first | apply awp_scp | apply awp_sn | apply awp_nop | apply awp_ret | apply awp_exit | apply awp_block | apply awp_seq | apply seqK_n | apply seqK_r | apply seqK_x | apply blkK_n | apply blkK_r | apply blkK_x)
 | (with_reducible apply blkK_y; (· first | rfl | decide))
 | (with_reducible apply cutK_o; (· simp))
 | with_reducible (first | apply backK_x | apply backK_r | apply asgK_n | apply rngK_x | apply rngK_r | apply True.intro | apply And.intro True.intro True.intro)
 | (fail_if_success with_reducible apply K_id); (fail_if_success with_reducible apply awp_id); first | omega | (simp only [go_sem, seval, hr1135]; done) | with_reducible assumption | (refine And.intro ?_ ?_) | (intro hg; simp_all; done) | grind)
      first | refine endK_r (by simp only [go_sem, seval, hr1135] <;> eq_refl) (by simp only [go_sem, seval, hr1135]) (by simp only [go_sem, seval, hr1135]) ?_ rfl | refine endK_n (by simp only [go_sem, seval, hr1135] <;> eq_refl) (by simp only [go_sem, seval, hr1135]) (by simp only [go_sem, seval, hr1135]) ?_ rfl
      first | (simp only [go_sem, seval, hr1135]; done) | (simp only [go_sem, seval, hr1135, List.map_append, List.map_cons, List.map_nil, List.map_set, List.map_take, List.map_drop]; done) | (simp [hr1135]; done)
end

def s21 (N : Nat) : Spec
  | [.agg [.v (.int .i64 g1127), .sl yg1128 _ g1128 _, .v (.int .i64 g1129), .v (.int .i64 g1130), .sl yg1131 _ g1131 _], .v (.int .i64 t1132)] => some (((yg1128 = 3 ∨ g1128 = []) ∧ g1128 = (g1128.map dec3).map row3) ∧ ((yg1131 = 2 ∨ g1131 = []) ∧ g1131 = (g1131.map dec2).map row2) ∧ (D_putlogref24_Reason N g1127 (g1128.map dec3) g1129 g1130 (g1131.map dec2) t1132).isSome = true, .tup [.i (((D_putlogref24_Reason N g1127 (g1128.map dec3) g1129 g1130 (g1131.map dec2) t1132).getD (0, 0, 0)).1), .i (((D_putlogref24_Reason N g1127 (g1128.map dec3) g1129 g1130 (g1131.map dec2) t1132).getD (0, 0, 0)).2.1), .i (((D_putlogref24_Reason N g1127 (g1128.map dec3) g1129 g1130 (g1131.map dec2) t1132).getD (0, 0, 0)).2.2)])
  | _ => none
theorem fok21 (N : Nat) : FOK Try.prog 21 (s21 N) := ⟨of21, by
  intro args vc r h hv
  unfold s21 at h
  split at h
  · cases h
    obtain ⟨⟨hy0, hr0⟩, ⟨hy1, hr1⟩, hs⟩ := hv
    obtain ⟨r, hr⟩ := Option.isSome_iff_exists.1 hs
    have hk := D_putlogref24_Reason_ok N _ _ _ _ _ _ r hr
    simp only [hr, Option.getD_some]
    refine PCall.arg ?_ hk
    simp only [wkL, wk, and_true, true_and, Bool.false_eq_true, false_implies, implies_true]
    repeat' (first | exact True.intro | assumption | apply And.intro)
  · simp at h⟩

/-! putlog/putlogref24.Both -/
def D_putlogref24_Both (N : Nat) (a1164 : Int) (a1165 : List (Int × Int × Int)) (a1166 : Int) (a1167 : Int) (a1168 : List (Int × Int)) (b1169 : Int) (b1170 : List (Int × Int × Int)) (b1171 : Int) (b1172 : Int) (b1173 : List (Int × Int)) (t1174 : Int) : Option (Int × Int × Int) :=
  (D_putlogref24_Bounds N a1164 a1165 a1166 a1167 a1168 t1174).bind fun (r1175, r1176, r1177) =>
  (D_putlogref24_Bounds N b1169 b1170 b1171 b1172 b1173 t1174).bind fun (r1179, r1180, r1181) =>
  bif ((decide (r1177 ≠ 0)) || (decide (r1181 ≠ 0))) || (decide (min r1176 r1180 < max r1175 r1179)) then (
    some (0, 0, 240))
  else (
    some (max r1175 r1179, min r1176 r1180, 0))

def T23 (N : Nat) : List (Nat × Spec) := [(19, s19 N)]
theorem T23_ok (N : Nat) : TabOK Try.prog (tabOf (T23 N)) := tab_cons (fok19 N) (tab_nil)

section
attribute [local go_sem] T23 s19 row1 dec1 dec1_row1 rb_row1 row2 dec2 dec2_row2 rb_row2 row3 dec3 dec3_row3 rb_row3 List.length_set Option.isSome_some
theorem D_putlogref24_Both_ok (N : Nat) (a1164 : Int) (a1165 : List (Int × Int × Int)) (a1166 : Int) (a1167 : Int) (a1168 : List (Int × Int)) (b1169 : Int) (b1170 : List (Int × Int × Int)) (b1171 : Int) (b1172 : Int) (b1173 : List (Int × Int)) (t1174 : Int) (r : Int × Int × Int) (h : D_putlogref24_Both N a1164 a1165 a1166 a1167 a1168 b1169 b1170 b1171 b1172 b1173 t1174 = some r) : PCall Try.prog 23 [.agg [.i a1164, .sl 3 false (a1165.map row3) [.i 0, .i 0, .i 0], .i a1166, .i a1167, .sl 2 false (a1168.map row2) [.i 0, .i 0]], .agg [.i b1169, .sl 3 false (b1170.map row3) [.i 0, .i 0, .i 0], .i b1171, .i b1172, .sl 2 false (b1173.map row2) [.i 0, .i 0]], .i t1174] (.tup [.i r.1, .i r.2.1, .i r.2.2]) := by
  refine pcall_fn (T23_ok N) _ Try.func23 ok23 nt23 (by simp) fun _ => ?_
  have hS := T23_ok N
  unfold ac23 rv23
  unfold D_putlogref24_Both at h
  try simp only [gd_some, Option.bind_eq_some_iff] at h
  obtain ⟨⟨r1175, r1176, r1177⟩, hr1177, h⟩ := h
  try simp only [gd_some, Option.bind_eq_some_iff] at h
  obtain ⟨⟨r1179, r1180, r1181⟩, hr1181, h⟩ := h
  repeat' (first
 | (with_reducible (first | apply awp_sr5 | apply awp_r5 | apply awp_sd | apply awp_d | apply inlR_n5 | apply inlR_r5); (· (first | exact Ctx.fn_ok hS | exact Ctx.rd_ok hS | assumption | exact True.intro)); iterate 2 (· (simp only [go_sem, seval, hr1177, hr1181] <;> eq_refl)))
 | with_reducible (first | apply awp_scp | apply awp_sn | apply awp_nop | apply awp_ret | apply awp_exit | apply awp_block | apply awp_seq | apply seqK_n | apply seqK_r | apply seqK_x | apply blkK_n | apply blkK_r | apply blkK_x)
 | (with_reducible apply blkK_y; (· first | rfl | decide))
 | (with_reducible apply cutK_o; (· simp))
 | with_reducible (first | apply backK_x | apply backK_r | apply asgK_n | apply rngK_x | apply rngK_r | apply True.intro | apply And.intro True.intro True.intro)
 | (fail_if_success with_reducible apply K_id); (fail_if_success with_reducible apply awp_id); first | omega | (simp only [go_sem, seval, hr1177, hr1181]; done) | with_reducible assumption | (refine And.intro ?_ ?_) | (intro hg; simp_all; done) | grind)
  refine awp_cb (B' := ((decide (r1177 ≠ 0)) || (decide (r1181 ≠ 0))) || (decide (min r1176 r1180 < max r1175 r1179))) (by simp only [go_sem, seval, hr1177, hr1181] <;> eq_refl) (by first | rfl | (simp; done) | grind) (fun hc1 => ?_) (fun hc1 => ?_)
  · rw [hc1, cond_true] at h
    obtain rfl := Option.some.inj h
    repeat' (first
 | (with_reducible (first | apply awp_sr5 | apply awp_r5 | apply awp_sd | apply awp_d | apply inlR_n5 | apply inlR_r5); (· (first | exact Ctx.fn_ok hS | exact Ctx.rd_ok hS | assumption | exact True.intro)); iterate 2 (· (simp only [go_sem, seval, hr1177, hr1181] <;> eq_refl)))
 | with_reducible (first | apply awp_scp | apply awp_sn | apply awp_nop | apply awp_ret | apply awp_exit | apply awp_block | apply awp_seq | apply seqK_n | apply seqK_r | apply seqK_x | apply blkK_n | apply blkK_r | apply blkK_x)
 | (with_reducible apply blkK_y; (· first | rfl | decide))
 | (with_reducible apply cutK_o; (· simp))
 | with_reducible (first | apply backK_x | apply backK_r | apply asgK_n | apply rngK_x | apply rngK_r | apply True.intro | apply And.intro True.intro True.intro)
 | (fail_if_success with_reducible apply K_id); (fail_if_success with_reducible apply awp_id); first | omega | (simp only [go_sem, seval, hr1177, hr1181]; done) | with_reducible assumption | (refine And.intro ?_ ?_) | (intro hg; simp_all; done) | grind)
    first | refine endK_r (by simp only [go_sem, seval, hr1177, hr1181] <;> eq_refl) (by simp only [go_sem, seval, hr1177, hr1181]) (by simp only [go_sem, seval, hr1177, hr1181]) ?_ rfl | refine endK_n (by simp only [go_sem, seval, hr1177, hr1181] <;> eq_refl) (by simp only [go_sem, seval, hr1177, hr1181]) (by simp only [go_sem, seval, hr1177, hr1181]) ?_ rfl
    first | (simp only [go_sem, seval, hr1177, hr1181]; done) | (simp only [go_sem, seval, hr1177, hr1181, List.map_append, List.map_cons, List.map_nil, List.map_set, List.map_take, List.map_drop]; done) | (simp [hr1177, hr1181]; done)
  · rw [hc1, cond_false] at h
    obtain rfl := Option.some.inj h
    repeat' (first
 | (with_reducible (first | apply awp_sr5 | apply awp_r5 | apply awp_sd | apply awp_d | apply inlR_n5 | apply inlR_r5); (· (first | exact Ctx.fn_ok hS | exact Ctx.rd_ok hS | assumption | exact True.intro)); iterate 2 (· (simp only [go_sem, seval, hr1177, hr1181] <;> eq_refl)))
 | with_reducible (first | apply awp_scp | apply awp_sn | apply awp_nop | apply awp_ret | apply awp_exit | apply awp_block | apply awp_seq | apply seqK_n | apply seqK_r | apply seqK_x | apply blkK_n | apply blkK_r | apply blkK_x)
 | (with_reducible apply blkK_y; (· first | rfl | decide))
 | (with_reducible apply cutK_o; (· simp))
 | with_reducible (first | apply backK_x | apply backK_r | apply asgK_n | apply rngK_x | apply rngK_r | apply True.intro | apply And.intro True.intro True.intro)
 | (fail_if_success with_reducible apply K_id); (fail_if_success with_reducible apply awp_id); first | omega | (simp only [go_sem, seval, hr1177, hr1181]; done) | with_reducible assumption | (refine And.intro ?_ ?_) | (intro hg; simp_all; done) | grind)
    first | refine endK_r (by simp only [go_sem, seval, hr1177, hr1181] <;> eq_refl) (by simp only [go_sem, seval, hr1177, hr1181]) (by simp only [go_sem, seval, hr1177, hr1181]) ?_ rfl | refine endK_n (by simp only [go_sem, seval, hr1177, hr1181] <;> eq_refl) (by simp only [go_sem, seval, hr1177, hr1181]) (by simp only [go_sem, seval, hr1177, hr1181]) ?_ rfl
    first | (simp only [go_sem, seval, hr1177, hr1181]; done) | (simp only [go_sem, seval, hr1177, hr1181, List.map_append, List.map_cons, List.map_nil, List.map_set, List.map_take, List.map_drop]; done) | (simp [hr1177, hr1181]; done)
end

def s23 (N : Nat) : Spec
  | [.agg [.v (.int .i64 a1164), .sl ya1165 _ a1165 _, .v (.int .i64 a1166), .v (.int .i64 a1167), .sl ya1168 _ a1168 _], .agg [.v (.int .i64 b1169), .sl yb1170 _ b1170 _, .v (.int .i64 b1171), .v (.int .i64 b1172), .sl yb1173 _ b1173 _], .v (.int .i64 t1174)] => some (((ya1165 = 3 ∨ a1165 = []) ∧ a1165 = (a1165.map dec3).map row3) ∧ ((ya1168 = 2 ∨ a1168 = []) ∧ a1168 = (a1168.map dec2).map row2) ∧ ((yb1170 = 3 ∨ b1170 = []) ∧ b1170 = (b1170.map dec3).map row3) ∧ ((yb1173 = 2 ∨ b1173 = []) ∧ b1173 = (b1173.map dec2).map row2) ∧ (D_putlogref24_Both N a1164 (a1165.map dec3) a1166 a1167 (a1168.map dec2) b1169 (b1170.map dec3) b1171 b1172 (b1173.map dec2) t1174).isSome = true, .tup [.i (((D_putlogref24_Both N a1164 (a1165.map dec3) a1166 a1167 (a1168.map dec2) b1169 (b1170.map dec3) b1171 b1172 (b1173.map dec2) t1174).getD (0, 0, 0)).1), .i (((D_putlogref24_Both N a1164 (a1165.map dec3) a1166 a1167 (a1168.map dec2) b1169 (b1170.map dec3) b1171 b1172 (b1173.map dec2) t1174).getD (0, 0, 0)).2.1), .i (((D_putlogref24_Both N a1164 (a1165.map dec3) a1166 a1167 (a1168.map dec2) b1169 (b1170.map dec3) b1171 b1172 (b1173.map dec2) t1174).getD (0, 0, 0)).2.2)])
  | _ => none
theorem fok23 (N : Nat) : FOK Try.prog 23 (s23 N) := ⟨of23, by
  intro args vc r h hv
  unfold s23 at h
  split at h
  · cases h
    obtain ⟨⟨hy0, hr0⟩, ⟨hy1, hr1⟩, ⟨hy2, hr2⟩, ⟨hy3, hr3⟩, hs⟩ := hv
    obtain ⟨r, hr⟩ := Option.isSome_iff_exists.1 hs
    have hk := D_putlogref24_Both_ok N _ _ _ _ _ _ _ _ _ _ _ r hr
    simp only [hr, Option.getD_some]
    refine PCall.arg ?_ hk
    simp only [wkL, wk, and_true, true_and, Bool.false_eq_true, false_implies, implies_true]
    repeat' (first | exact True.intro | assumption | apply And.intro)
  · simp at h⟩

/-! putlog/putlogref24.Alarm -/
def D_putlogref24_Alarm_L1 (N : Nat) (s1190 : Int) (g1183 : Int) (g1184 : List (Int × Int × Int)) (g1185 : Int) (g1186 : Int) (g1187 : List (Int × Int)) (limit1188 : Int) : Nat → Int → Int → Int → Option (Sum (Int × Int) ((Int × Int × Int)))
  | 0, _, _, _ => none
  | n + 1, sure1198, maybe1199, t1200 =>
    bif decide (t1200 < s1190) then (
      (D_putlogref24_bounds N g1183 g1184 g1185 g1186 g1187 t1200).bind fun (r1201, r1202) =>
      bif decide (r1202 < r1201) then (
        some (.inr (0, 0, 240)))
      else (
        bif (decide (limit1188 < r1201)) && (decide (sure1198 < 0)) then (
          bif (decide (limit1188 < r1202)) && (decide (maybe1199 < 0)) then (
            gd (I64 (t1200 + 1)) <|
            D_putlogref24_Alarm_L1 N s1190 g1183 g1184 g1185 g1186 g1187 limit1188 n t1200 t1200 (t1200 + 1))
          else (
            gd (I64 (t1200 + 1)) <|
            D_putlogref24_Alarm_L1 N s1190 g1183 g1184 g1185 g1186 g1187 limit1188 n t1200 maybe1199 (t1200 + 1)))
        else (
          bif (decide (limit1188 < r1202)) && (decide (maybe1199 < 0)) then (
            gd (I64 (t1200 + 1)) <|
            D_putlogref24_Alarm_L1 N s1190 g1183 g1184 g1185 g1186 g1187 limit1188 n sure1198 t1200 (t1200 + 1))
          else (
            gd (I64 (t1200 + 1)) <|
            D_putlogref24_Alarm_L1 N s1190 g1183 g1184 g1185 g1186 g1187 limit1188 n sure1198 maybe1199 (t1200 + 1)))))
    else (
      some (.inl (sure1198, maybe1199)))

def D_putlogref24_Alarm (N : Nat) (g1183 : Int) (g1184 : List (Int × Int × Int)) (g1185 : Int) (g1186 : Int) (g1187 : List (Int × Int)) (limit1188 : Int) (s1189 : Int) (s1190 : Int) : Option (Int × Int × Int) :=
  (D_putlogref24_Valid N g1183 g1184 g1185 g1186 g1187).bind fun r1191 =>
  bif (((!r1191) || (decide (s1189 < 0))) || (decide (s1190 ≤ s1189))) || (decide (10000001 < s1190)) then (
    some (0, 0, 240))
  else (
    gd (I64 (s1190 - s1189)) <|
    bif decide (2000 < s1190 - s1189) then (
      some (0, 0, 240))
    else (
      (D_putlogref24_Alarm_L1 N s1190 g1183 g1184 g1185 g1186 g1187 limit1188 N (-1) (-1) s1189).bind fun o1212 => match o1212 with
        | .inl (sure1209, maybe1210) => (
          some (sure1209, maybe1210, 0))
        | .inr r1211 => (
          some r1211)))

def T27 (N : Nat) : List (Nat × Spec) := [(17, s17 N), (41, s41 N)]
theorem T27_ok (N : Nat) : TabOK Try.prog (tabOf (T27 N)) := tab_cons (fok17 N) (tab_cons (fok41 N) (tab_nil))

section
attribute [local go_sem] T27 s17 s41 row1 dec1 dec1_row1 rb_row1 row2 dec2 dec2_row2 rb_row2 row3 dec3 dec3_row3 rb_row3 List.length_set Option.isSome_some
theorem D_putlogref24_Alarm_ok (N : Nat) (g1183 : Int) (g1184 : List (Int × Int × Int)) (g1185 : Int) (g1186 : Int) (g1187 : List (Int × Int)) (limit1188 : Int) (s1189 : Int) (s1190 : Int) (r : Int × Int × Int) (h : D_putlogref24_Alarm N g1183 g1184 g1185 g1186 g1187 limit1188 s1189 s1190 = some r) : PCall Try.prog 27 [.agg [.i g1183, .sl 3 false (g1184.map row3) [.i 0, .i 0, .i 0], .i g1185, .i g1186, .sl 2 false (g1187.map row2) [.i 0, .i 0]], .i limit1188, .agg [.i s1189, .i s1190]] (.tup [.i r.1, .i r.2.1, .i r.2.2]) := by
  refine pcall_fn (T27_ok N) _ Try.func27 ok27 nt27 (by simp) fun _ => ?_
  have hS := T27_ok N
  unfold ac27 rv27
  unfold D_putlogref24_Alarm at h
  try simp only [gd_some, Option.bind_eq_some_iff] at h
  obtain ⟨r1191, hr1191, h⟩ := h
  repeat' (first
 | (with_reducible (first | apply awp_sr5 | apply awp_r5 | apply awp_sd | apply awp_d | apply inlR_n5 | apply inlR_r5); (· (first | exact Ctx.fn_ok hS | exact Ctx.rd_ok hS | assumption | exact True.intro)); iterate 2 (· (simp only [go_sem, seval, hr1191] <;> eq_refl)))
 | with_reducible (first | apply awp_scp | apply awp_sn | apply awp_nop | apply awp_ret | apply awp_exit | apply awp_block | apply awp_seq | apply seqK_n | apply seqK_r | apply seqK_x | apply blkK_n | apply blkK_r | apply blkK_x)
 | (with_reducible apply blkK_y; (· first | rfl | decide))
 | (with_reducible apply cutK_o; (· simp))
 | with_reducible (first | apply backK_x | apply backK_r | apply asgK_n | apply rngK_x | apply rngK_r | apply True.intro | apply And.intro True.intro True.intro)
 | (fail_if_success with_reducible apply K_id); (fail_if_success with_reducible apply awp_id); first | omega | (simp only [go_sem, seval, hr1191]; done) | with_reducible assumption | (refine And.intro ?_ ?_) | (intro hg; simp_all; done) | grind)
  refine awp_cb (B' := (((!r1191) || (decide (s1189 < 0))) || (decide (s1190 ≤ s1189))) || (decide (10000001 < s1190))) (by simp only [go_sem, seval, hr1191] <;> eq_refl) (by first | rfl | (simp; done) | grind) (fun hc1 => ?_) (fun hc1 => ?_)
  · rw [hc1, cond_true] at h
    obtain rfl := Option.some.inj h
    repeat' (first
 | (with_reducible (first | apply awp_sr5 | apply awp_r5 | apply awp_sd | apply awp_d | apply inlR_n5 | apply inlR_r5); (· (first | exact Ctx.fn_ok hS | exact Ctx.rd_ok hS | assumption | exact True.intro)); iterate 2 (· (simp only [go_sem, seval, hr1191] <;> eq_refl)))
 | with_reducible (first | apply awp_scp | apply awp_sn | apply awp_nop | apply awp_ret | apply awp_exit | apply awp_block | apply awp_seq | apply seqK_n | apply seqK_r | apply seqK_x | apply blkK_n | apply blkK_r | apply blkK_x)
 | (with_reducible apply blkK_y; (· first | rfl | decide))
 | (with_reducible apply cutK_o; (· simp))
 | with_reducible (first | apply backK_x | apply backK_r | apply asgK_n | apply rngK_x | apply rngK_r | apply True.intro | apply And.intro True.intro True.intro)
 | (fail_if_success with_reducible apply K_id); (fail_if_success with_reducible apply awp_id); first | omega | (simp only [go_sem, seval, hr1191]; done) | with_reducible assumption | (refine And.intro ?_ ?_) | (intro hg; simp_all; done) | grind)
    first | refine endK_r (by simp only [go_sem, seval, hr1191] <;> eq_refl) (by simp only [go_sem, seval, hr1191]) (by simp only [go_sem, seval, hr1191]) ?_ rfl | refine endK_n (by simp only [go_sem, seval, hr1191] <;> eq_refl) (by simp only [go_sem, seval, hr1191]) (by simp only [go_sem, seval, hr1191]) ?_ rfl
    first | (simp only [go_sem, seval, hr1191]; done) | (simp only [go_sem, seval, hr1191, List.map_append, List.map_cons, List.map_nil, List.map_set, List.map_take, List.map_drop]; done) | (simp [hr1191]; done)
  · rw [hc1, cond_false] at h
    try simp only [gd_some, Option.bind_eq_some_iff] at h
    obtain ⟨hv2, h⟩ := h
    simp only [I64] at hv2
    repeat' (first
 | (with_reducible (first | apply awp_sr5 | apply awp_r5 | apply awp_sd | apply awp_d | apply inlR_n5 | apply inlR_r5); (· (first | exact Ctx.fn_ok hS | exact Ctx.rd_ok hS | assumption | exact True.intro)); iterate 2 (· (simp only [go_sem, seval, hr1191] <;> eq_refl)))
 | with_reducible (first | apply awp_scp | apply awp_sn | apply awp_nop | apply awp_ret | apply awp_exit | apply awp_block | apply awp_seq | apply seqK_n | apply seqK_r | apply seqK_x | apply blkK_n | apply blkK_r | apply blkK_x)
 | (with_reducible apply blkK_y; (· first | rfl | decide))
 | (with_reducible apply cutK_o; (· simp))
 | with_reducible (first | apply backK_x | apply backK_r | apply asgK_n | apply rngK_x | apply rngK_r | apply True.intro | apply And.intro True.intro True.intro)
 | (fail_if_success with_reducible apply K_id); (fail_if_success with_reducible apply awp_id); first | omega | (simp only [go_sem, seval, hr1191]; done) | with_reducible assumption | (refine And.intro ?_ ?_) | (intro hg; simp_all; done) | grind)
    refine awp_cb (B' := decide (2000 < s1190 - s1189)) (by simp only [go_sem, seval, hr1191] <;> eq_refl) (by first | rfl | (simp; done) | grind) (fun hc3 => ?_) (fun hc3 => ?_)
    · rw [hc3, cond_true] at h
      obtain rfl := Option.some.inj h
      repeat' (first
 | (with_reducible (first | apply awp_sr5 | apply awp_r5 | apply awp_sd | apply awp_d | apply inlR_n5 | apply inlR_r5); (· (first | exact Ctx.fn_ok hS | exact Ctx.rd_ok hS | assumption | exact True.intro)); iterate 2 (· (simp only [go_sem, seval, hr1191] <;> eq_refl)))
 | with_reducible (first | apply awp_scp | apply awp_sn | apply awp_nop | apply awp_ret | apply awp_exit | apply awp_block | apply awp_seq | apply seqK_n | apply seqK_r | apply seqK_x | apply blkK_n | apply blkK_r | apply blkK_x)
 | (with_reducible apply blkK_y; (· first | rfl | decide))
 | (with_reducible apply cutK_o; (· simp))
 | with_reducible (first | apply backK_x | apply backK_r | apply asgK_n | apply rngK_x | apply rngK_r | apply True.intro | apply And.intro True.intro True.intro)
 | (fail_if_success with_reducible apply K_id); (fail_if_success with_reducible apply awp_id); first | omega | (simp only [go_sem, seval, hr1191]; done) | with_reducible assumption | (refine And.intro ?_ ?_) | (intro hg; simp_all; done) | grind)
      first | refine endK_r (by simp only [go_sem, seval, hr1191] <;> eq_refl) (by simp only [go_sem, seval, hr1191]) (by simp only [go_sem, seval, hr1191]) ?_ rfl | refine endK_n (by simp only [go_sem, seval, hr1191] <;> eq_refl) (by simp only [go_sem, seval, hr1191]) (by simp only [go_sem, seval, hr1191]) ?_ rfl
      first | (simp only [go_sem, seval, hr1191]; done) | (simp only [go_sem, seval, hr1191, List.map_append, List.map_cons, List.map_nil, List.map_set, List.map_take, List.map_drop]; done) | (simp [hr1191]; done)
    · rw [hc3, cond_false] at h
      try simp only [gd_some, Option.bind_eq_some_iff] at h
      obtain ⟨o1212, hL4, h⟩ := h
      repeat' (first
 | (with_reducible (first | apply awp_sr5 | apply awp_r5 | apply awp_sd | apply awp_d | apply inlR_n5 | apply inlR_r5); (· (first | exact Ctx.fn_ok hS | exact Ctx.rd_ok hS | assumption | exact True.intro)); iterate 2 (· (simp only [go_sem, seval, hr1191] <;> eq_refl)))
 | with_reducible (first | apply awp_scp | apply awp_sn | apply awp_nop | apply awp_ret | apply awp_exit | apply awp_block | apply awp_seq | apply seqK_n | apply seqK_r | apply seqK_x | apply blkK_n | apply blkK_r | apply blkK_x)
 | (with_reducible apply blkK_y; (· first | rfl | decide))
 | (with_reducible apply cutK_o; (· simp))
 | with_reducible (first | apply backK_x | apply backK_r | apply asgK_n | apply rngK_x | apply rngK_r | apply True.intro | apply And.intro True.intro True.intro)
 | (fail_if_success with_reducible apply K_id); (fail_if_success with_reducible apply awp_id); first | omega | (simp only [go_sem, seval, hr1191]; done) | with_reducible assumption | (refine And.intro ?_ ?_) | (intro hg; simp_all; done) | grind)
      refine awp_cut (fun z : Int × Int × Nat => ⟨[(9, .i z.1), (10, .i z.2.1)], [], z.2.2⟩) (fun z => (.inl (z.1, z.2.1) : Sum (Int × Int) ((Int × Int × Int))) = o1212) (.x 0) ?_ ?_
      · refine awp_loop (fun y : Nat × Int × Int × Int × Nat => ⟨[(1, .i limit1188), (3, .box (0, 1) 0), (5, .box (1, 1) 0), (9, .i y.2.1), (10, .i y.2.2.1), (11, .i y.2.2.2.1)], [(.c (1, 1) 0, .i s1189), (.c (1, 1) 1, .i s1190), (.c (0, 1) 0, .i g1183), (.c (0, 1) 1, .sl 3 false (g1184.map row3) [.i 0, .i 0, .i 0]), (.c (0, 1) 2, .i g1185), (.c (0, 1) 3, .i g1186), (.c (0, 1) 4, .sl 2 false (g1187.map row2) [.i 0, .i 0])], y.2.2.2.2⟩) (fun y => D_putlogref24_Alarm_L1 N s1190 g1183 g1184 g1185 g1186 g1187 limit1188 y.1 y.2.1 y.2.2.1 y.2.2.2.1 = some o1212) (fun y => y.1) (N, (-1), (-1), s1189, 6) hL4 ?_ ?_
        · refine Le.of ?_ ?_ (by first | exact Nat.le_refl _ | (simp; omega) | simp) <;> first | (simp only [go_sem, seval, hr1191]; done) | (simp only [go_sem, seval, hr1191, List.map_append, List.map_cons, List.map_nil, List.map_set, List.map_take, List.map_drop]; done) | (simp [hr1191, List.map_append, List.map_set]; done)
        · rintro ⟨n, sure1198, maybe1199, t1200, c1197⟩ hB5
          try simp only at hB5
          obtain _ | n := n
          · exact absurd hB5 (by simp [D_putlogref24_Alarm_L1])
          rw [D_putlogref24_Alarm_L1] at hB5
          repeat' (first
 | (with_reducible (first | apply awp_sr5 | apply awp_r5 | apply awp_sd | apply awp_d | apply inlR_n5 | apply inlR_r5); (· (first | exact Ctx.fn_ok hS | exact Ctx.rd_ok hS | assumption | exact True.intro)); iterate 2 (· (simp only [go_sem, seval, hr1191] <;> eq_refl)))
 | with_reducible (first | apply awp_scp | apply awp_sn | apply awp_nop | apply awp_ret | apply awp_exit | apply awp_block | apply awp_seq | apply seqK_n | apply seqK_r | apply seqK_x | apply blkK_n | apply blkK_r | apply blkK_x)
 | (with_reducible apply blkK_y; (· first | rfl | decide))
 | (with_reducible apply cutK_o; (· simp))
 | with_reducible (first | apply backK_x | apply backK_r | apply asgK_n | apply rngK_x | apply rngK_r | apply True.intro | apply And.intro True.intro True.intro)
 | (fail_if_success with_reducible apply K_id); (fail_if_success with_reducible apply awp_id); first | omega | (simp only [go_sem, seval, hr1191]; done) | with_reducible assumption | (refine And.intro ?_ ?_) | (intro hg; simp_all; done) | grind)
          refine awp_cb (B' := decide (t1200 < s1190)) (by simp only [go_sem, seval, hr1191] <;> eq_refl) (by first | rfl | (simp; done) | grind) (fun hc6 => ?_) (fun hc6 => ?_)
          · rw [hc6, cond_true] at hB5
            try simp only [gd_some, Option.bind_eq_some_iff] at hB5
            obtain ⟨⟨r1201, r1202⟩, hr1202, hB5⟩ := hB5
            repeat' (first
 | (with_reducible (first | apply awp_sr5 | apply awp_r5 | apply awp_sd | apply awp_d | apply inlR_n5 | apply inlR_r5); (· (first | exact Ctx.fn_ok hS | exact Ctx.rd_ok hS | assumption | exact True.intro)); iterate 2 (· (simp only [go_sem, seval, hr1191, hr1202] <;> eq_refl)))
 | with_reducible (first | apply awp_scp | apply awp_sn | apply awp_nop | apply awp_ret | apply awp_exit | apply awp_block | apply awp_seq | apply seqK_n | apply seqK_r | apply seqK_x | apply blkK_n | apply blkK_r | apply blkK_x)
 | (with_reducible apply blkK_y; (· first | rfl | decide))
 | (with_reducible apply cutK_o; (· simp))
 | with_reducible (first | apply backK_x | apply backK_r | apply asgK_n | apply rngK_x | apply rngK_r | apply True.intro | apply And.intro True.intro True.intro)
 | (fail_if_success with_reducible apply K_id); (fail_if_success with_reducible apply awp_id); first | omega | (simp only [go_sem, seval, hr1191, hr1202]; done) | with_reducible assumption | (refine And.intro ?_ ?_) | (intro hg; simp_all; done) | grind)
            refine awp_cb (B' := decide (r1202 < r1201)) (by simp only [go_sem, seval, hr1191, hr1202] <;> eq_refl) (by first | rfl | (simp; done) | grind) (fun hc7 => ?_) (fun hc7 => ?_)
            · rw [hc7, cond_true] at hB5
              obtain rfl := Option.some.inj hB5
              try simp only at h
              obtain rfl := Option.some.inj h
              repeat' (first
 | (with_reducible (first | apply awp_sr5 | apply awp_r5 | apply awp_sd | apply awp_d | apply inlR_n5 | apply inlR_r5); (· (first | exact Ctx.fn_ok hS | exact Ctx.rd_ok hS | assumption | exact True.intro)); iterate 2 (· (simp only [go_sem, seval, hr1191, hr1202] <;> eq_refl)))
 | with_reducible (first | apply awp_scp | apply awp_sn | apply awp_nop | apply awp_ret | apply awp_exit | apply awp_block | apply awp_seq | apply seqK_n | apply seqK_r | apply seqK_x | apply blkK_n | apply blkK_r | apply blkK_x)
 | (with_reducible apply blkK_y; (· first | rfl | decide))
 | (with_reducible apply cutK_o; (· simp))
 | with_reducible (first | apply backK_x | apply backK_r | apply asgK_n | apply rngK_x | apply rngK_r | apply True.intro | apply And.intro True.intro True.intro)
 | (fail_if_success with_reducible apply K_id); (fail_if_success with_reducible apply awp_id); first | omega | (simp only [go_sem, seval, hr1191, hr1202]; done) | with_reducible assumption | (refine And.intro ?_ ?_) | (intro hg; simp_all; done) | grind)
              first | refine endK_r (by simp only [go_sem, seval, hr1191, hr1202] <;> eq_refl) (by simp only [go_sem, seval, hr1191, hr1202]) (by simp only [go_sem, seval, hr1191, hr1202]) ?_ rfl | refine endK_n (by simp only [go_sem, seval, hr1191, hr1202] <;> eq_refl) (by simp only [go_sem, seval, hr1191, hr1202]) (by simp only [go_sem, seval, hr1191, hr1202]) ?_ rfl
              first | (simp only [go_sem, seval, hr1191, hr1202]; done) | (simp only [go_sem, seval, hr1191, hr1202, List.map_append, List.map_cons, List.map_nil, List.map_set, List.map_take, List.map_drop]; done) | (simp [hr1191, hr1202]; done)
            · rw [hc7, cond_false] at hB5
              repeat' (first
 | (with_reducible (first | apply awp_sr5 | apply awp_r5 | apply awp_sd | apply awp_d | apply inlR_n5 | apply inlR_r5); (· (first | exact Ctx.fn_ok hS | exact Ctx.rd_ok hS | assumption | exact True.intro)); iterate 2 (· (simp only [go_sem, seval, hr1191, hr1202] <;> eq_refl)))
 | with_reducible (first | apply awp_scp | apply awp_sn | apply awp_nop | apply awp_ret | apply awp_exit | apply awp_block | apply awp_seq | apply seqK_n | apply seqK_r | apply seqK_x | apply blkK_n | apply blkK_r | apply blkK_x)
 | (with_reducible apply blkK_y; (· first | rfl | decide))
 | (with_reducible apply cutK_o; (· simp))
 | with_reducible (first | apply backK_x | apply backK_r | apply asgK_n | apply rngK_x | apply rngK_r | apply True.intro | apply And.intro True.intro True.intro)
 | (fail_if_success with_reducible apply K_id); (fail_if_success with_reducible apply awp_id); first | omega | (simp only [go_sem, seval, hr1191, hr1202]; done) | with_reducible assumption | (refine And.intro ?_ ?_) | (intro hg; simp_all; done) | grind)
              refine awp_cb (B' := (decide (limit1188 < r1201)) && (decide (sure1198 < 0))) (by simp only [go_sem, seval, hr1191, hr1202] <;> eq_refl) (by first | rfl | (simp; done) | grind) (fun hc8 => ?_) (fun hc8 => ?_)
              · rw [hc8, cond_true] at hB5
                repeat' (first
 | (with_reducible (first | apply awp_sr5 | apply awp_r5 | apply awp_sd | apply awp_d | apply inlR_n5 | apply inlR_r5); (· (first | exact Ctx.fn_ok hS | exact Ctx.rd_ok hS | assumption | exact True.intro)); iterate 2 (· (simp only [go_sem, seval, hr1191, hr1202] <;> eq_refl)))
 | with_reducible (first | apply awp_scp | apply awp_sn | apply awp_nop | apply awp_ret | apply awp_exit | apply awp_block | apply awp_seq | apply seqK_n | apply seqK_r | apply seqK_x | apply blkK_n | apply blkK_r | apply blkK_x)
 | (with_reducible apply blkK_y; (· first | rfl | decide))
 | (with_reducible apply cutK_o; (· simp))
 | with_reducible (first | apply backK_x | apply backK_r | apply asgK_n | apply rngK_x | apply rngK_r | apply True.intro | apply And.intro True.intro True.intro)
 | (fail_if_success with_reducible apply K_id); (fail_if_success with_reducible apply awp_id); first | omega | (simp only [go_sem, seval, hr1191, hr1202]; done) | with_reducible assumption | (refine And.intro ?_ ?_) | (intro hg; simp_all; done) | grind)
                refine awp_cb (B' := (decide (limit1188 < r1202)) && (decide (maybe1199 < 0))) (by simp only [go_sem, seval, hr1191, hr1202] <;> eq_refl) (by first | rfl | (simp; done) | grind) (fun hc9 => ?_) (fun hc9 => ?_)
                · rw [hc9, cond_true] at hB5
                  try simp only [gd_some, Option.bind_eq_some_iff] at hB5
                  obtain ⟨hv10, hB5⟩ := hB5
                  simp only [I64] at hv10
                  repeat' (first
 | (with_reducible (first | apply awp_sr5 | apply awp_r5 | apply awp_sd | apply awp_d | apply inlR_n5 | apply inlR_r5); (· (first | exact Ctx.fn_ok hS | exact Ctx.rd_ok hS | assumption | exact True.intro)); iterate 2 (· (simp only [go_sem, seval, hr1191, hr1202] <;> eq_refl)))
 | with_reducible (first | apply awp_scp | apply awp_sn | apply awp_nop | apply awp_ret | apply awp_exit | apply awp_block | apply awp_seq | apply seqK_n | apply seqK_r | apply seqK_x | apply blkK_n | apply blkK_r | apply blkK_x)
 | (with_reducible apply blkK_y; (· first | rfl | decide))
 | (with_reducible apply cutK_o; (· simp))
 | with_reducible (first | apply backK_x | apply backK_r | apply asgK_n | apply rngK_x | apply rngK_r | apply True.intro | apply And.intro True.intro True.intro)
 | (fail_if_success with_reducible apply K_id); (fail_if_success with_reducible apply awp_id); first | omega | (simp only [go_sem, seval, hr1191, hr1202]; done) | with_reducible assumption | (refine And.intro ?_ ?_) | (intro hg; simp_all; done) | grind)
                  refine backK_n (n, t1200, t1200, t1200 + 1, c1197 + 1 + 1 + 1 + 1 + 1 + 1 + 1 + 1) hB5 (Nat.lt_succ_self _) ?_
                  refine Le.of ?_ ?_ (by first | exact Nat.le_refl _ | (simp; omega) | simp) <;> first | (simp only [go_sem, seval, hr1191, hr1202]; done) | (simp only [go_sem, seval, hr1191, hr1202, List.map_append, List.map_cons, List.map_nil, List.map_set, List.map_take, List.map_drop]; done) | (simp [hr1191, hr1202, List.map_append, List.map_set]; done)
                · rw [hc9, cond_false] at hB5
                  try simp only [gd_some, Option.bind_eq_some_iff] at hB5
                  obtain ⟨hv11, hB5⟩ := hB5
                  simp only [I64] at hv11
                  repeat' (first
 | (with_reducible (first | apply awp_sr5 | apply awp_r5 | apply awp_sd | apply awp_d | apply inlR_n5 | apply inlR_r5); (· (first | exact Ctx.fn_ok hS | exact Ctx.rd_ok hS | assumption | exact True.intro)); iterate 2 (· (simp only [go_sem, seval, hr1191, hr1202] <;> eq_refl)))
 | with_reducible (first | apply awp_scp | apply awp_sn | apply awp_nop | apply awp_ret | apply awp_exit | apply awp_block | apply awp_seq | apply seqK_n | apply seqK_r | apply seqK_x | apply blkK_n | apply blkK_r | apply blkK_x)
 | (with_reducible apply blkK_y; (· first | rfl | decide))
 | (with_reducible apply cutK_o; (· simp))
 | with_reducible (first | apply backK_x | apply backK_r | apply asgK_n | apply rngK_x | apply rngK_r | apply True.intro | apply And.intro True.intro True.intro)
 | (fail_if_success with_reducible apply K_id); (fail_if_success with_reducible apply awp_id); first | omega | (simp only [go_sem, seval, hr1191, hr1202]; done) | with_reducible assumption | (refine And.intro ?_ ?_) | (intro hg; simp_all; done) | grind)
                  refine backK_n (n, t1200, maybe1199, t1200 + 1, c1197 + 1 + 1 + 1 + 1 + 1 + 1 + 1) hB5 (Nat.lt_succ_self _) ?_
                  refine Le.of ?_ ?_ (by first | exact Nat.le_refl _ | (simp; omega) | simp) <;> first | (simp only [go_sem, seval, hr1191, hr1202]; done) | (simp only [go_sem, seval, hr1191, hr1202, List.map_append, List.map_cons, List.map_nil, List.map_set, List.map_take, List.map_drop]; done) | (simp [hr1191, hr1202, List.map_append, List.map_set]; done)
              · rw [hc8, cond_false] at hB5
                repeat' (first
 | (with_reducible (first | apply awp_sr5 | apply awp_r5 | apply awp_sd | apply awp_d | apply inlR_n5 | apply inlR_r5); (· (first | exact Ctx.fn_ok hS | exact Ctx.rd_ok hS | assumption | exact True.intro)); iterate 2 (· (simp only [go_sem, seval, hr1191, hr1202] <;> eq_refl)))
 | with_reducible (first | apply awp_scp | apply awp_sn | apply awp_nop | apply awp_ret | apply awp_exit | apply awp_block | apply awp_seq | apply seqK_n | apply seqK_r | apply seqK_x | apply blkK_n | apply blkK_r | apply blkK_x)
 | (with_reducible apply blkK_y; (· first | rfl | decide))
 | (with_reducible apply cutK_o; (· simp))
 | with_reducible (first | apply backK_x | apply backK_r | apply asgK_n | apply rngK_x | apply rngK_r | apply True.intro | apply And.intro True.intro True.intro)
 | (fail_if_success with_reducible apply K_id); (fail_if_success with_reducible apply awp_id); first | omega | (simp only [go_sem, seval, hr1191, hr1202]; done) | with_reducible assumption | (refine And.intro ?_ ?_) | (intro hg; simp_all; done) | grind)
                refine awp_cb (B' := (decide (limit1188 < r1202)) && (decide (maybe1199 < 0))) (by simp only [go_sem, seval, hr1191, hr1202] <;> eq_refl) (by first | rfl | (simp; done) | grind) (fun hc12 => ?_) (fun hc12 => ?_)
                · rw [hc12, cond_true] at hB5
                  try simp only [gd_some, Option.bind_eq_some_iff] at hB5
                  obtain ⟨hv13, hB5⟩ := hB5
                  simp only [I64] at hv13
                  repeat' (first
 | (with_reducible (first | apply awp_sr5 | apply awp_r5 | apply awp_sd | apply awp_d | apply inlR_n5 | apply inlR_r5); (· (first | exact Ctx.fn_ok hS | exact Ctx.rd_ok hS | assumption | exact True.intro)); iterate 2 (· (simp only [go_sem, seval, hr1191, hr1202] <;> eq_refl)))
 | with_reducible (first | apply awp_scp | apply awp_sn | apply awp_nop | apply awp_ret | apply awp_exit | apply awp_block | apply awp_seq | apply seqK_n | apply seqK_r | apply seqK_x | apply blkK_n | apply blkK_r | apply blkK_x)
 | (with_reducible apply blkK_y; (· first | rfl | decide))
 | (with_reducible apply cutK_o; (· simp))
 | with_reducible (first | apply backK_x | apply backK_r | apply asgK_n | apply rngK_x | apply rngK_r | apply True.intro | apply And.intro True.intro True.intro)
 | (fail_if_success with_reducible apply K_id); (fail_if_success with_reducible apply awp_id); first | omega | (simp only [go_sem, seval, hr1191, hr1202]; done) | with_reducible assumption | (refine And.intro ?_ ?_) | (intro hg; simp_all; done) | grind)
                  refine backK_n (n, sure1198, t1200, t1200 + 1, c1197 + 1 + 1 + 1 + 1 + 1 + 1 + 1) hB5 (Nat.lt_succ_self _) ?_
                  refine Le.of ?_ ?_ (by first | exact Nat.le_refl _ | (simp; omega) | simp) <;> first | (simp only [go_sem, seval, hr1191, hr1202]; done) | (simp only [go_sem, seval, hr1191, hr1202, List.map_append, List.map_cons, List.map_nil, List.map_set, List.map_take, List.map_drop]; done) | (simp [hr1191, hr1202, List.map_append, List.map_set]; done)
                · rw [hc12, cond_false] at hB5
                  try simp only [gd_some, Option.bind_eq_some_iff] at hB5
                  obtain ⟨hv14, hB5⟩ := hB5
                  simp only [I64] at hv14
                  repeat' (first
 | (with_reducible (first | apply awp_sr5 | apply awp_r5 | apply awp_sd | apply awp_d | apply inlR_n5 | apply inlR_r5); (· (first | exact Ctx.fn_ok hS | exact Ctx.rd_ok hS | assumption | exact True.intro)); iterate 2 (· (simp only [go_sem, seval, hr1191, hr1202] <;> eq_refl)))
 | with_reducible (first | apply awp_scp | apply awp_sn | apply awp_nop | apply awp_ret | apply awp_exit | apply awp_block | apply awp_seq | apply seqK_n | apply seqK_r | apply seqK_x | apply blkK_n | apply blkK_r | apply blkK_x)
 | (with_reducible apply blkK_y; (· first | rfl | decide))
 | (with_reducible apply cutK_o; (· simp))
 | with_reducible (first | apply backK_x | apply backK_r | apply asgK_n | apply rngK_x | apply rngK_r | apply True.intro | apply And.intro True.intro True.intro)
 | (fail_if_success with_reducible apply K_id); (fail_if_success with_reducible apply awp_id); first | omega | (simp only [go_sem, seval, hr1191, hr1202]; done) | with_reducible assumption | (refine And.intro ?_ ?_) | (intro hg; simp_all; done) | grind)
                  refine backK_n (n, sure1198, maybe1199, t1200 + 1, c1197 + 1 + 1 + 1 + 1 + 1 + 1) hB5 (Nat.lt_succ_self _) ?_
                  refine Le.of ?_ ?_ (by first | exact Nat.le_refl _ | (simp; omega) | simp) <;> first | (simp only [go_sem, seval, hr1191, hr1202]; done) | (simp only [go_sem, seval, hr1191, hr1202, List.map_append, List.map_cons, List.map_nil, List.map_set, List.map_take, List.map_drop]; done) | (simp [hr1191, hr1202, List.map_append, List.map_set]; done)
          · rw [hc6, cond_false] at hB5
            repeat' (first
 | (with_reducible (first | apply awp_sr5 | apply awp_r5 | apply awp_sd | apply awp_d | apply inlR_n5 | apply inlR_r5); (· (first | exact Ctx.fn_ok hS | exact Ctx.rd_ok hS | assumption | exact True.intro)); iterate 2 (· (simp only [go_sem, seval, hr1191] <;> eq_refl)))
 | with_reducible (first | apply awp_scp | apply awp_sn | apply awp_nop | apply awp_ret | apply awp_exit | apply awp_block | apply awp_seq | apply seqK_n | apply seqK_r | apply seqK_x | apply blkK_n | apply blkK_r | apply blkK_x)
 | (with_reducible apply blkK_y; (· first | rfl | decide))
 | (with_reducible apply cutK_o; (· simp))
 | with_reducible (first | apply backK_x | apply backK_r | apply asgK_n | apply rngK_x | apply rngK_r | apply True.intro | apply And.intro True.intro True.intro)
 | (fail_if_success with_reducible apply K_id); (fail_if_success with_reducible apply awp_id); first | omega | (simp only [go_sem, seval, hr1191]; done) | with_reducible assumption | (refine And.intro ?_ ?_) | (intro hg; simp_all; done) | grind)
            refine cutK_h (sure1198, maybe1199, c1197 + 1) (Option.some.inj hB5) ?_
            refine Le.of ?_ ?_ (by first | exact Nat.le_refl _ | (simp; omega) | simp) <;> first | (simp only [go_sem, seval, hr1191]; done) | (simp only [go_sem, seval, hr1191, List.map_append, List.map_cons, List.map_nil, List.map_set, List.map_take, List.map_drop]; done) | (simp [hr1191, List.map_append, List.map_set]; done)
      · rintro ⟨sure1209, maybe1210, c1208⟩ hz15
        subst hz15
        try simp only at h
        obtain rfl := Option.some.inj h
        repeat' (first
 | (with_reducible (first | apply awp_sr5 | apply awp_r5 | apply awp_sd | apply awp_d | apply inlR_n5 | apply inlR_r5); (· (first | exact Ctx.fn_ok hS | exact Ctx.rd_ok hS | assumption | exact True.intro)); iterate 2 (· (simp only [go_sem, seval, hr1191] <;> eq_refl)))
 | with_reducible (first | apply awp_scp | apply awp_sn | apply awp_nop | apply awp_ret | apply awp_exit | apply awp_block | apply awp_seq | apply seqK_n | apply seqK_r | apply seqK_x | apply blkK_n | apply blkK_r | apply blkK_x)
 | (with_reducible apply blkK_y; (· first | rfl | decide))
 | (with_reducible apply cutK_o; (· simp))
 | with_reducible (first | apply backK_x | apply backK_r | apply asgK_n | apply rngK_x | apply rngK_r | apply True.intro | apply And.intro True.intro True.intro)
 | (fail_if_success with_reducible apply K_id); (fail_if_success with_reducible apply awp_id); first | omega | (simp only [go_sem, seval, hr1191]; done) | with_reducible assumption | (refine And.intro ?_ ?_) | (intro hg; simp_all; done) | grind)
        first | refine endK_r (by simp only [go_sem, seval, hr1191] <;> eq_refl) (by simp only [go_sem, seval, hr1191]) (by simp only [go_sem, seval, hr1191]) ?_ rfl | refine endK_n (by simp only [go_sem, seval, hr1191] <;> eq_refl) (by simp only [go_sem, seval, hr1191]) (by simp only [go_sem, seval, hr1191]) ?_ rfl
        first | (simp only [go_sem, seval, hr1191]; done) | (simp only [go_sem, seval, hr1191, List.map_append, List.map_cons, List.map_nil, List.map_set, List.map_take, List.map_drop]; done) | (simp [hr1191]; done)
end

def s27 (N : Nat) : Spec
  | [.agg [.v (.int .i64 g1183), .sl yg1184 _ g1184 _, .v (.int .i64 g1185), .v (.int .i64 g1186), .sl yg1187 _ g1187 _], .v (.int .i64 limit1188), .agg [.v (.int .i64 s1189), .v (.int .i64 s1190)]] => some (((yg1184 = 3 ∨ g1184 = []) ∧ g1184 = (g1184.map dec3).map row3) ∧ ((yg1187 = 2 ∨ g1187 = []) ∧ g1187 = (g1187.map dec2).map row2) ∧ (D_putlogref24_Alarm N g1183 (g1184.map dec3) g1185 g1186 (g1187.map dec2) limit1188 s1189 s1190).isSome = true, .tup [.i (((D_putlogref24_Alarm N g1183 (g1184.map dec3) g1185 g1186 (g1187.map dec2) limit1188 s1189 s1190).getD (0, 0, 0)).1), .i (((D_putlogref24_Alarm N g1183 (g1184.map dec3) g1185 g1186 (g1187.map dec2) limit1188 s1189 s1190).getD (0, 0, 0)).2.1), .i (((D_putlogref24_Alarm N g1183 (g1184.map dec3) g1185 g1186 (g1187.map dec2) limit1188 s1189 s1190).getD (0, 0, 0)).2.2)])
  | _ => none
theorem fok27 (N : Nat) : FOK Try.prog 27 (s27 N) := ⟨of27, by
  intro args vc r h hv
  unfold s27 at h
  split at h
  · cases h
    obtain ⟨⟨hy0, hr0⟩, ⟨hy1, hr1⟩, hs⟩ := hv
    obtain ⟨r, hr⟩ := Option.isSome_iff_exists.1 hs
    have hk := D_putlogref24_Alarm_ok N _ _ _ _ _ _ _ _ r hr
    simp only [hr, Option.getD_some]
    refine PCall.arg ?_ hk
    simp only [wkL, wk, and_true, true_and, Bool.false_eq_true, false_implies, implies_true]
    repeat' (first | exact True.intro | assumption | apply And.intro)
  · simp at h⟩

/-! putlog/putlogref24.Over -/
def D_putlogref24_Over (N : Nat) (g1213 : Int) (g1214 : List (Int × Int × Int)) (g1215 : Int) (g1216 : Int) (g1217 : List (Int × Int)) (limit1218 : Int) (s1219 : Int) (s1220 : Int) : Option (Int × Int) :=
  (D_putlogref24_Alarm N g1213 g1214 g1215 g1216 g1217 limit1218 s1219 s1220).bind fun (r1221, r1222, r1223) =>
  bif decide (r1223 ≠ 0) then (
    some (0, r1223))
  else (
    bif decide (0 ≤ r1221) then (
      some (2, 0))
    else (
      bif decide (0 ≤ r1222) then (
        some (1, 0))
      else (
        some (0, 0))))

def T25 (N : Nat) : List (Nat × Spec) := [(27, s27 N)]
theorem T25_ok (N : Nat) : TabOK Try.prog (tabOf (T25 N)) := tab_cons (fok27 N) (tab_nil)

section
attribute [local go_sem] T25 s27 row1 dec1 dec1_row1 rb_row1 row2 dec2 dec2_row2 rb_row2 row3 dec3 dec3_row3 rb_row3 List.length_set Option.isSome_some
theorem D_putlogref24_Over_ok (N : Nat) (g1213 : Int) (g1214 : List (Int × Int × Int)) (g1215 : Int) (g1216 : Int) (g1217 : List (Int × Int)) (limit1218 : Int) (s1219 : Int) (s1220 : Int) (r : Int × Int) (h : D_putlogref24_Over N g1213 g1214 g1215 g1216 g1217 limit1218 s1219 s1220 = some r) : PCall Try.prog 25 [.agg [.i g1213, .sl 3 false (g1214.map row3) [.i 0, .i 0, .i 0], .i g1215, .i g1216, .sl 2 false (g1217.map row2) [.i 0, .i 0]], .i limit1218, .agg [.i s1219, .i s1220]] (.tup [.i r.1, .i r.2]) := by
  refine pcall_fn (T25_ok N) _ Try.func25 ok25 nt25 (by simp) fun _ => ?_
  have hS := T25_ok N
  unfold ac25 rv25
  unfold D_putlogref24_Over at h
  try simp only [gd_some, Option.bind_eq_some_iff] at h
  obtain ⟨⟨r1221, r1222, r1223⟩, hr1223, h⟩ := h
  repeat' (first
 | (with_reducible (first | apply awp_sr5 | apply awp_r5 | apply awp_sd | apply awp_d | apply inlR_n5 | apply inlR_r5); (· (first | exact Ctx.fn_ok hS | exact Ctx.rd_ok hS | assumption | exact True.intro)); iterate 2 (· (simp only [go_sem, seval, hr1223] <;> eq_refl)))
 | with_reducible (first | apply awp_scp | apply awp_sn | apply awp_nop | apply awp_ret | apply awp_exit | apply awp_block | apply awp_seq | apply seqK_n | apply seqK_r | apply seqK_x | apply blkK_n | apply blkK_r | apply blkK_x)
 | (with_reducible apply blkK_y; (· first | rfl | decide))
 | (with_reducible apply cutK_o; (· simp))
 | with_reducible (first | apply backK_x | apply backK_r | apply asgK_n | apply rngK_x | apply rngK_r | apply True.intro | apply And.intro True.intro True.intro)
 | (fail_if_success with_reducible apply K_id); (fail_if_success with_reducible apply awp_id); first | omega | (simp only [go_sem, seval, hr1223]; done) | with_reducible assumption | (refine And.intro ?_ ?_) | (intro hg; simp_all; done) | grind)
  refine awp_cb (B' := decide (r1223 ≠ 0)) (by simp only [go_sem, seval, hr1223] <;> eq_refl) (by first | rfl | (simp; done) | grind) (fun hc1 => ?_) (fun hc1 => ?_)
  · rw [hc1, cond_true] at h
    obtain rfl := Option.some.inj h
    repeat' (first
 | (with_reducible (first | apply awp_sr5 | apply awp_r5 | apply awp_sd | apply awp_d | apply inlR_n5 | apply inlR_r5); (· (first | exact Ctx.fn_ok hS | exact Ctx.rd_ok hS | assumption | exact True.intro)); iterate 2 (· (simp only [go_sem, seval, hr1223] <;> eq_refl)))
 | with_reducible (first | apply awp_scp | apply awp_sn | apply awp_nop | apply awp_ret | apply awp_exit | apply awp_block | apply awp_seq | apply seqK_n | apply seqK_r | apply seqK_x | apply blkK_n | apply blkK_r | apply blkK_x)
 | (with_reducible apply blkK_y; (· first | rfl | decide))
 | (with_reducible apply cutK_o; (· simp))
 | with_reducible (first | apply backK_x | apply backK_r | apply asgK_n | apply rngK_x | apply rngK_r | apply True.intro | apply And.intro True.intro True.intro)
 | (fail_if_success with_reducible apply K_id); (fail_if_success with_reducible apply awp_id); first | omega | (simp only [go_sem, seval, hr1223]; done) | with_reducible assumption | (refine And.intro ?_ ?_) | (intro hg; simp_all; done) | grind)
    first | refine endK_r (by simp only [go_sem, seval, hr1223] <;> eq_refl) (by simp only [go_sem, seval, hr1223]) (by simp only [go_sem, seval, hr1223]) ?_ rfl | refine endK_n (by simp only [go_sem, seval, hr1223] <;> eq_refl) (by simp only [go_sem, seval, hr1223]) (by simp only [go_sem, seval, hr1223]) ?_ rfl
    first | (simp only [go_sem, seval, hr1223]; done) | (simp only [go_sem, seval, hr1223, List.map_append, List.map_cons, List.map_nil, List.map_set, List.map_take, List.map_drop]; done) | (simp [hr1223]; done)
  · rw [hc1, cond_false] at h
    repeat' (first
 | (with_reducible (first | apply awp_sr5 | apply awp_r5 | apply awp_sd | apply awp_d | apply inlR_n5 | apply inlR_r5); (· (first | exact Ctx.fn_ok hS | exact Ctx.rd_ok hS | assumption | exact True.intro)); iterate 2 (· (simp only [go_sem, seval, hr1223] <;> eq_refl)))
 | with_reducible (first | apply awp_scp | apply awp_sn | apply awp_nop | apply awp_ret | apply awp_exit | apply awp_block | apply awp_seq | apply seqK_n | apply seqK_r | apply seqK_x | apply blkK_n | apply blkK_r | apply blkK_x)
 | (with_reducible apply blkK_y; (· first | rfl | decide))
 | (with_reducible apply cutK_o; (· simp))
 | with_reducible (first | apply backK_x | apply backK_r | apply asgK_n | apply rngK_x | apply rngK_r | apply True.intro | apply And.intro True.intro True.intro)
 | (fail_if_success with_reducible apply K_id); (fail_if_success with_reducible apply awp_id); first | omega | (simp only [go_sem, seval, hr1223]; done) | with_reducible assumption | (refine And.intro ?_ ?_) | (intro hg; simp_all; done) | grind)
    refine awp_cb (B' := decide (0 ≤ r1221)) (by simp only [go_sem, seval, hr1223] <;> eq_refl) (by first | rfl | (simp; done) | grind) (fun hc2 => ?_) (fun hc2 => ?_)
    · rw [hc2, cond_true] at h
      obtain rfl := Option.some.inj h
      repeat' (first
 | (with_reducible (first | apply awp_sr5 | apply awp_r5 | apply awp_sd | apply awp_d | apply inlR_n5 | apply inlR_r5); (· (first | exact Ctx.fn_ok hS | exact Ctx.rd_ok hS | assumption | exact True.intro)); iterate 2 (· (simp only [go_sem, seval, hr1223] <;> eq_refl)))
 | with_reducible (first | apply awp_scp | apply awp_sn | apply awp_nop | apply awp_ret | apply awp_exit | apply awp_block | apply awp_seq | apply seqK_n | apply seqK_r | apply seqK_x | apply blkK_n | apply blkK_r | apply blkK_x)
 | (with_reducible apply blkK_y; (· first | rfl | decide))
 | (with_reducible apply cutK_o; (· simp))
 | with_reducible (first | apply backK_x | apply backK_r | apply asgK_n | apply rngK_x | apply rngK_r | apply True.intro | apply And.intro True.intro True.intro)
 | (fail_if_success with_reducible apply K_id); (fail_if_success with_reducible apply awp_id); first | omega | (simp only [go_sem, seval, hr1223]; done) | with_reducible assumption | (refine And.intro ?_ ?_) | (intro hg; simp_all; done) | grind)
      first | refine endK_r (by simp only [go_sem, seval, hr1223] <;> eq_refl) (by simp only [go_sem, seval, hr1223]) (by simp only [go_sem, seval, hr1223]) ?_ rfl | refine endK_n (by simp only [go_sem, seval, hr1223] <;> eq_refl) (by simp only [go_sem, seval, hr1223]) (by simp only [go_sem, seval, hr1223]) ?_ rfl
      first | (simp only [go_sem, seval, hr1223]; done) | (simp only [go_sem, seval, hr1223, List.map_append, List.map_cons, List.map_nil, List.map_set, List.map_take, List.map_drop]; done) | (simp [hr1223]; done)
    · rw [hc2, cond_false] at h
      repeat' (first
 | (with_reducible (first | apply awp_sr5 | apply awp_r5 | apply awp_sd | apply awp_d | apply inlR_n5 | apply inlR_r5); (· (first | exact Ctx.fn_ok hS | exact Ctx.rd_ok hS | assumption | exact True.intro)); iterate 2 (· (simp only [go_sem, seval, hr1223] <;> eq_refl)))
 | with_reducible (first | apply awp_scp | apply awp_sn | apply awp_nop | apply awp_ret | apply awp_exit | apply awp_block | apply awp_seq | apply seqK_n | apply seqK_r | apply seqK_x | apply blkK_n | apply blkK_r | apply blkK_x)
 | (with_reducible apply blkK_y; (· first | rfl | decide))
 | (with_reducible apply cutK_o; (· simp))
 | with_reducible (first | apply backK_x | apply backK_r | apply asgK_n | apply rngK_x | apply rngK_r | apply True.intro | apply And.intro True.intro True.intro)
 | (fail_if_success with_reducible apply K_id); (fail_if_success with_reducible apply awp_id); first | omega | (simp only [go_sem, seval, hr1223]; done) | with_reducible assumption | (refine And.intro ?_ ?_) | (intro hg; simp_all; done) | grind)
      refine awp_cb (B' := decide (0 ≤ r1222)) (by simp only [go_sem, seval, hr1223] <;> eq_refl) (by first | rfl | (simp; done) | grind) (fun hc3 => ?_) (fun hc3 => ?_)
      · rw [hc3, cond_true] at h
        obtain rfl := Option.some.inj h
        repeat' (first
 | (with_reducible (first | apply awp_sr5 | apply awp_r5 | apply awp_sd | apply awp_d | apply inlR_n5 | apply inlR_r5); (· (first | exact Ctx.fn_ok hS | exact Ctx.rd_ok hS | assumption | exact True.intro)); iterate 2 (· (simp only [go_sem, seval, hr1223] <;> eq_refl)))
 | with_reducible (first | apply awp_scp | apply awp_sn | apply awp_nop | apply awp_ret | apply awp_exit | apply awp_block | apply awp_seq | apply seqK_n | apply seqK_r | apply seqK_x | apply blkK_n | apply blkK_r | apply blkK_x)
 | (with_reducible apply blkK_y; (· first | rfl | decide))
 | (with_reducible apply cutK_o; (· simp))
 | with_reducible (first | apply backK_x | apply backK_r | apply asgK_n | apply rngK_x | apply rngK_r | apply True.intro | apply And.intro True.intro True.intro)
 | (fail_if_success with_reducible apply K_id); (fail_if_success with_reducible apply awp_id); first | omega | (simp only [go_sem, seval, hr1223]; done) | with_reducible assumption | (refine And.intro ?_ ?_) | (intro hg; simp_all; done) | grind)
        first | refine endK_r (by simp only [go_sem, seval, hr1223] <;> eq_refl) (by simp only [go_sem, seval, hr1223]) (by simp only [go_sem, seval, hr1223]) ?_ rfl | refine endK_n (by simp only [go_sem, seval, hr1223] <;> eq_refl) (by simp only [go_sem, seval, hr1223]) (by simp only [go_sem, seval, hr1223]) ?_ rfl
        first | (simp only [go_sem, seval, hr1223]; done) | (simp only [go_sem, seval, hr1223, List.map_append, List.map_cons, List.map_nil, List.map_set, List.map_take, List.map_drop]; done) | (simp [hr1223]; done)
      · rw [hc3, cond_false] at h
        obtain rfl := Option.some.inj h
        repeat' (first
 | (with_reducible (first | apply awp_sr5 | apply awp_r5 | apply awp_sd | apply awp_d | apply inlR_n5 | apply inlR_r5); (· (first | exact Ctx.fn_ok hS | exact Ctx.rd_ok hS | assumption | exact True.intro)); iterate 2 (· (simp only [go_sem, seval, hr1223] <;> eq_refl)))
 | with_reducible (first | apply awp_scp | apply awp_sn | apply awp_nop | apply awp_ret | apply awp_exit | apply awp_block | apply awp_seq | apply seqK_n | apply seqK_r | apply seqK_x | apply blkK_n | apply blkK_r | apply blkK_x)
 | (with_reducible apply blkK_y; (· first | rfl | decide))
 | (with_reducible apply cutK_o; (· simp))
 | with_reducible (first | apply backK_x | apply backK_r | apply asgK_n | apply rngK_x | apply rngK_r | apply True.intro | apply And.intro True.intro True.intro)
 | (fail_if_success with_reducible apply K_id); (fail_if_success with_reducible apply awp_id); first | omega | (simp only [go_sem, seval, hr1223]; done) | with_reducible assumption | (refine And.intro ?_ ?_) | (intro hg; simp_all; done) | grind)
        first | refine endK_r (by simp only [go_sem, seval, hr1223] <;> eq_refl) (by simp only [go_sem, seval, hr1223]) (by simp only [go_sem, seval, hr1223]) ?_ rfl | refine endK_n (by simp only [go_sem, seval, hr1223] <;> eq_refl) (by simp only [go_sem, seval, hr1223]) (by simp only [go_sem, seval, hr1223]) ?_ rfl
        first | (simp only [go_sem, seval, hr1223]; done) | (simp only [go_sem, seval, hr1223, List.map_append, List.map_cons, List.map_nil, List.map_set, List.map_take, List.map_drop]; done) | (simp [hr1223]; done)
end

def s25 (N : Nat) : Spec
  | [.agg [.v (.int .i64 g1213), .sl yg1214 _ g1214 _, .v (.int .i64 g1215), .v (.int .i64 g1216), .sl yg1217 _ g1217 _], .v (.int .i64 limit1218), .agg [.v (.int .i64 s1219), .v (.int .i64 s1220)]] => some (((yg1214 = 3 ∨ g1214 = []) ∧ g1214 = (g1214.map dec3).map row3) ∧ ((yg1217 = 2 ∨ g1217 = []) ∧ g1217 = (g1217.map dec2).map row2) ∧ (D_putlogref24_Over N g1213 (g1214.map dec3) g1215 g1216 (g1217.map dec2) limit1218 s1219 s1220).isSome = true, .tup [.i (((D_putlogref24_Over N g1213 (g1214.map dec3) g1215 g1216 (g1217.map dec2) limit1218 s1219 s1220).getD (0, 0)).1), .i (((D_putlogref24_Over N g1213 (g1214.map dec3) g1215 g1216 (g1217.map dec2) limit1218 s1219 s1220).getD (0, 0)).2)])
  | _ => none
theorem fok25 (N : Nat) : FOK Try.prog 25 (s25 N) := ⟨of25, by
  intro args vc r h hv
  unfold s25 at h
  split at h
  · cases h
    obtain ⟨⟨hy0, hr0⟩, ⟨hy1, hr1⟩, hs⟩ := hv
    obtain ⟨r, hr⟩ := Option.isSome_iff_exists.1 hs
    have hk := D_putlogref24_Over_ok N _ _ _ _ _ _ _ _ r hr
    simp only [hr, Option.getD_some]
    refine PCall.arg ?_ hk
    simp only [wkL, wk, and_true, true_and, Bool.false_eq_true, false_implies, implies_true]
    repeat' (first | exact True.intro | assumption | apply And.intro)
  · simp at h⟩
end Go.Proofs.Ytmmfbjmjhjmccaa.Am
