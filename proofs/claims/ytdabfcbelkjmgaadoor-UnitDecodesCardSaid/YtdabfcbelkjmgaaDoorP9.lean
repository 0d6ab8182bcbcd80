import Derived.Test.YtdabfcbelkjmgaaDoorA17
import Derived.Test.YtdabfcbelkjmgaaDoorE3
import Derived.Test.YtdabfcbelkjmgaaDoorP7
/-
  unit: reading a number; the decoding of what can be decoded.
-/
namespace Go.Proofs.YtdabfcbelkjmgaaDoor.Am
open Go
attribute [local irreducible] awp seqK blkK backK endK inlK restK rngK asgK itK
set_option maxRecDepth 100000
set_option maxHeartbeats 8000000
set_option linter.unusedSimpArgs false
set_option linter.unusedVariables false
def S45 (N : Nat) : List (Nat × Spec) := [(63, s63 N)]
theorem S45_ok (N : Nat) : TabOK Tryd.prog (tabOf (S45 N)) := tab_cons (fok63 N) tab_nil

theorem number_e (N : Nat) (m : Nm) (s : List UInt8) (p n q : Int) (h : D_wire_Int N s p = some (n, q, 0)) : ECall Tryd.prog 45 m [.box m 0] [.v (.string (sB s)), .i p] (.i n) [(1, .i q)] := by
  refine ecall_fn (S45_ok N) _ Tryd.func45 ok45 nt45 (by simp) fun hb => ?_
  have hS := S45_ok N
  unfold ac45 rv45
  repeat' (first
    | ((first | with_reducible apply awp_sr5 | with_reducible apply awp_r5 | with_reducible apply awp_sd | with_reducible apply awp_d | with_reducible apply inlR_n5 | with_reducible apply inlR_r5); (· (first | exact Ctx.fn_ok hS | exact Ctx.rd_ok hS | assumption | exact True.intro)); iterate 2 (· (simp only [go_sem, seval, Am.S45, Am.s63, h, Option.isSome_some] <;> eq_refl)))
    | (first | with_reducible apply awp_scp | with_reducible apply awp_sn | with_reducible apply awp_nop | with_reducible apply awp_ret | with_reducible apply awp_exit | with_reducible apply awp_block | with_reducible apply awp_seq | with_reducible apply seqK_n | with_reducible apply seqK_r | with_reducible apply seqK_x | with_reducible apply blkK_n | with_reducible apply blkK_r | with_reducible apply blkK_x)
    | (with_reducible apply blkK_y; (· first | rfl | decide))
    | (first | with_reducible apply backK_x | with_reducible apply backK_r | with_reducible apply asgK_n | with_reducible apply rngK_x | with_reducible apply rngK_r | with_reducible apply True.intro | with_reducible apply And.intro True.intro True.intro)
    | (fail_if_success with_reducible apply K_id); (fail_if_success with_reducible apply awp_id); first | omega | (simp only [go_sem, seval, Am.S45, Am.s63, h, Option.isSome_some]; done)
    | fail)
  refine awp_cf (by simp only [go_sem, seval] <;> eq_refl) ?_
  repeat' (first
    | ((first | with_reducible apply awp_sr5 | with_reducible apply awp_r5 | with_reducible apply awp_sd | with_reducible apply awp_d | with_reducible apply inlR_n5 | with_reducible apply inlR_r5); (· (first | exact Ctx.fn_ok hS | exact Ctx.rd_ok hS | assumption | exact True.intro)); iterate 2 (· (simp only [go_sem, seval] <;> eq_refl)))
    | (first | with_reducible apply awp_scp | with_reducible apply awp_sn | with_reducible apply awp_nop | with_reducible apply awp_ret | with_reducible apply awp_exit | with_reducible apply awp_block | with_reducible apply awp_seq | with_reducible apply seqK_n | with_reducible apply seqK_r | with_reducible apply seqK_x | with_reducible apply blkK_n | with_reducible apply blkK_r | with_reducible apply blkK_x)
    | (with_reducible apply blkK_y; (· first | rfl | decide))
    | (first | with_reducible apply backK_x | with_reducible apply backK_r | with_reducible apply asgK_n | with_reducible apply rngK_x | with_reducible apply rngK_r | with_reducible apply True.intro | with_reducible apply And.intro True.intro True.intro)
    | (fail_if_success with_reducible apply K_id); (fail_if_success with_reducible apply awp_id); first | omega | (simp only [go_sem, seval]; done)
    | fail)
  exact inlK_r (by simp only [go_sem, seval] <;> eq_refl) True.intro ⟨by simp only [go_sem, seval], fun j c h => h⟩
/-- The value with which reading panics. -/
def fV : Value := .iface 94 (.agg #[])
theorem number_p (N : Nat) (m : Nm) (s : List UInt8) (p n q e : Int) (h : D_wire_Int N s p = some (n, q, e)) (he : ¬ e = 0) : PnCall Tryd.prog 45 m [.box m 0] [.v (.string (sB s)), .i p] fV := by
  refine pncall_fn (S45_ok N) _ Tryd.func45 ok45 nt45 (by simp) fun hb => ?_
  have hS := S45_ok N
  unfold ac45
  repeat' (first
    | ((first | with_reducible apply awp_sr5 | with_reducible apply awp_r5 | with_reducible apply awp_sd | with_reducible apply awp_d | with_reducible apply inlR_n5 | with_reducible apply inlR_r5); (· (first | exact Ctx.fn_ok hS | exact Ctx.rd_ok hS | assumption | exact True.intro)); iterate 2 (· (simp only [go_sem, seval, Am.S45, Am.s63, h, Option.isSome_some] <;> eq_refl)))
    | (first | with_reducible apply awp_scp | with_reducible apply awp_sn | with_reducible apply awp_nop | with_reducible apply awp_ret | with_reducible apply awp_exit | with_reducible apply awp_block | with_reducible apply awp_seq | with_reducible apply seqK_n | with_reducible apply seqK_r | with_reducible apply seqK_x | with_reducible apply blkK_n | with_reducible apply blkK_r | with_reducible apply blkK_x)
    | (with_reducible apply blkK_y; (· first | rfl | decide))
    | (first | with_reducible apply backK_x | with_reducible apply backK_r | with_reducible apply asgK_n | with_reducible apply rngK_x | with_reducible apply rngK_r | with_reducible apply True.intro | with_reducible apply And.intro True.intro True.intro)
    | (fail_if_success with_reducible apply K_id); (fail_if_success with_reducible apply awp_id); first | omega | (simp only [go_sem, seval, Am.S45, Am.s63, h, Option.isSome_some]; done)
    | fail)
  refine awp_ct (by simp only [go_sem, seval, he, decide_not] <;> eq_refl) ?_
  refine awp_pan (Ctx.fn_ok hS) 2 rfl rfl (by simp only [go_sem, seval] <;> eq_refl) (by simp only [go_sem, seval]) (by simp only [go_sem, seval] <;> eq_refl) ?_
  repeat' (with_reducible first | apply seqK_p | apply blkK_p)
  exact panK_p fun j c h => h
def eNum (N : Nat) : ESpec
  | [.box _ 0], [.v (.string s), .v (.int .i64 p)] => match D_wire_Int N (bL s) p with
    | some (n, q, e) => if e = 0 then some (True, .i n, [(1, .i q)]) else none
    | none => none
  | _, _ => none
theorem eNum_ok (N : Nat) : EOK Tryd.prog 45 (eNum N) := ⟨of45, by
  intro args cells vc r us n h hv hb
  unfold eNum at h
  split at h
  · split at h
    · rename_i m s p _ a b e hr
      split at h
      · cases h
        rename_i he
        subst he
        simp only [boxOf, Option.some.injEq] at hb
        subst hb
        have := number_e N m (bL s) p a b hr
        rw [sB_bL] at this
        exact this
      · cases h
    · cases h
  · simp at h⟩
def pNum (N : Nat) : PSpec
  | [.box _ 0], [.v (.string s), .v (.int .i64 p)] => match D_wire_Int N (bL s) p with
    | some (_, _, e) => if e = 0 then none else some (True, fV)
    | none => none
  | _, _ => none
theorem pNum_ok (N : Nat) : POK Tryd.prog 45 (pNum N) := ⟨of45, by
  intro args cells vc v n h hv hb
  unfold pNum at h
  split at h
  · split at h
    · rename_i m s p _ a b e hr
      split at h
      · cases h
      · cases h
        rename_i he
        simp only [boxOf, Option.some.injEq] at hb
        subst hb
        have := number_p N m (bL s) p a b e hr he
        rw [sB_bL] at this
        exact this
    · cases h
  · simp at h⟩
def S22 (N : Nat) : List (Nat × Spec) := [(23, s23 N), (46, s46 N)]
def E22 (N : Nat) : List (Nat × ESpec) := [(45, eNum N)]
def P22 (N : Nat) : List (Nat × PSpec) := [(45, pNum N)]
theorem S22_ok (N : Nat) : TabOK Tryd.prog (tabX (S22 N) (E22 N) (P22 N)) := tabX_ok (tab_cons (fok23 N) (tab_cons (fok46 N) tab_nil)) (by
  intro x hx
  simp only [E22, List.mem_singleton] at hx
  subst hx
  exact eNum_ok N) (by
  intro x hx
  simp only [P22, List.mem_singleton] at hx
  subst hx
  exact pNum_ok N)

/-- The next number, and where the one after it stands; none where there is none. -/
def dN (N : Nat) (s : List UInt8) (p : Int) : Option (Option (Int × Int)) := (D_wire_Int N s p).bind fun (n, q, e) => some (if e = 0 then some (n, q) else none)
def pb {α β : Type} : Option (Option α) → (α → Option (Option β)) → Option (Option β)
  | none, _ => none
  | some none, _ => some none
  | some (some a), f => f a
theorem dN_cases {N : Nat} {s : List UInt8} {p : Int} {β : Type} {f : Int × Int → Option (Option β)} {r : Option β} (h : pb (dN N s p) f = some r) : ∃ x q e, D_wire_Int N s p = some (x, q, e) ∧ (¬ e = 0 ∧ r = none ∨ e = 0 ∧ f (x, q) = some r) := by
  unfold dN at h
  cases hw : D_wire_Int N s p with
  | none => rw [hw] at h; simp [pb] at h
  | some t =>
    obtain ⟨x, q, e⟩ := t
    refine ⟨x, q, e, rfl, ?_⟩
    rw [hw, Option.bind_some] at h
    simp only at h
    by_cases he : e = 0
    · rw [if_pos he] at h; exact .inr ⟨he, h⟩
    · rw [if_neg he] at h; exact .inl ⟨he, (Option.some.inj h).symm⟩
theorem pb_pb {α β γ : Type} {x : Option (Option α)} {f : α → Option (Option β)} {g : β → Option (Option γ)} : pb (pb x f) g = pb x fun a => pb (f a) g := by
  rcases x with _ | _ | a <;> rfl
def dP (N : Nat) (s : List UInt8) : Nat → Int → List (Int × Int) → Option (Option (List (Int × Int) × Int))
  | 0, p, l => some (some (l, p))
  | k + 1, p, l => pb (dN N s p) fun (x, q) => pb (dN N s q) fun (y, r) => dP N s k r (l ++ [(x, y)])
def decP (N : Nat) (s : List UInt8) : Option (Option (Int × Int × Int × List (Int × Int) × Int × Int)) :=
  pb (dN N s 0) fun (a, p1) => pb (dN N s p1) fun (b, p2) => pb (dN N s p2) fun (c, p3) => pb (dN N s p3) fun (f, p4) => pb (dN N s p4) fun (g, p5) => pb (dN N s p5) fun (n, p6) =>
  bif decide (3 ≤ n) && decide (n ≤ 8) then
    pb (dP N s n.toNat p6 []) fun (l, p7) =>
    bif decide (p7 < (s.length : Int)) then some none else
    (D_unit_Valid N a b c l f g).bind fun v => some (bif v then some (a, b, c, l, f, g) else none)
  else some none

section
attribute [local go_sem] S22 E22 P22 eNum pNum fV s46 s23 D_unit_isIn de_ii e_ii Option.isSome_some
/-- What becomes of a panic. -/
theorem dec_fail (N : Nat) {e : Env} {h : Hp} {c : Nat} (e2 : lk e 2 = .box (0, 1) 0) (e3 : lk e 3 = .box (1, 1) 0) (ek : lk e (dk 64) = .gd false (.clo (.func 44) [] [.box (0, 1) 0, .box (1, 1) 0]))
    (hh : ((hl h (.c (0, 1) 0)).isSome && (hl h (.c (0, 1) 1)).isSome && (hl h (.c (0, 1) 2)).isSome && (hl h (.c (0, 1) 3)).isSome && (hl h (.c (0, 1) 4)).isSome && (hl h (.c (0, 1) 5)).isSome && (hl h (.c (1, 1) 0)).isSome) = true) :
    fdK Tryd.prog (tabX (S22 N) (E22 N) (P22 N)) 64 rv22 (.tup [.agg [.i 0, .i 0, .i 0, .sl 2 false [] [.i 0, .i 0], .i 0, .i 0], .i 80]) (.p fV) ⟨e, h, c⟩ := by
  have hS := S22_ok N
  simp only [Bool.and_eq_true, Option.isSome_iff_exists] at hh
  obtain ⟨⟨⟨⟨⟨⟨⟨c0, h0⟩, ⟨c1, h1⟩⟩, ⟨c2, h2⟩⟩, ⟨c3, h3⟩⟩, ⟨c4, h4⟩⟩, ⟨c5, h5⟩⟩, ⟨d0, h6⟩⟩ := hh
  refine ⟨_, _, ek, _, _, _, _, _, Tryd.func44, ok44, nt44, by simp, of44, fun hb2 => ?_⟩
  have hOK2 := Ctx.fd_ok (nt := 12) (hb := hb2) hS
  have F := fc h0 (fc h1 (fc h2 (fc h3 (fc h4 (fc h5 (fc h6 f0))))))
  refine go hS F ?_
  refine cf F ?_
  refine go hS F ?_
  refine ct F ?_
  refine go hS F ?_
  refine endD_n ⟨by simp only [go_sem, seval], ?_⟩
  unfold rv22
  exact ⟨_, _, by simp only [go_sem, seval, e2, e3] <;> eq_refl, by simp only [go_sem, seval], by simp only [go_sem, seval], by simp only [go_sem, seval], rfl⟩
end
section
attribute [local go_sem] S22 E22 P22 eNum pNum s46 s23 D_unit_isIn de_ii e_ii Option.isSome_some
set_option maxRecDepth 100000 in
theorem decode_ok (N : Nat) (s : List UInt8) (r : Option (Int × Int × Int × List (Int × Int) × Int × Int)) (h : decP N s = some r) :
    PCall Tryd.prog 22 [.v (.string (sB s))] (match r with | some (a, b, c, l, f, g) => .tup [.agg [.i a, .i b, .i c, .sl 2 false (l.map e_ii) [.i 0, .i 0], .i f, .i g], .i 0] | none => .tup [.agg [.i 0, .i 0, .i 0, .sl 2 false [] [.i 0, .i 0], .i 0, .i 0], .i 80]) := by
  refine pcall_fd (S22_ok N) _ Tryd.func22 ok22 nt22 (by simp) fun hb => ?_
  have hS := S22_ok N
  have hOK := Ctx.fd_ok (nt := 64) (hb := hb) hS
  have F := f0
  unfold ac22
  unfold decP at h
  refine go hS F ?_
  refine awp_dfr hS 1 rfl rfl (by simp only [go_sem, seval] <;> eq_refl) True.intro (by simp only [go_sem, seval] <;> eq_refl) (by simp only [go_sem, seval] <;> eq_refl) ?_
  refine go hS F ?_
  refine awp_unroll 30 ?_
  replace h := dN_cases h
  obtain ⟨a, p1, e0, k0, h⟩ := h
  refine go hS F ?_
  refine ct F ?_
  refine go hS F ?_
  rcases h with ⟨he, rfl⟩ | ⟨rfl, h⟩
  · replace F := fc k0 (fc he F)
    refine panR (p := fV) hOK F 2 ?_
    repeat' (with_reducible first | apply seqK_p | apply blkK_p | apply rndK_p | apply backK_p)
    exact dec_fail N (by simp only [go_sem, seval]) (by simp only [go_sem, seval]) (by simp only [go_sem, seval]) (by simp only [go_sem, seval, Option.isSome_some])
  replace F := fc k0 F
  replace h := dN_cases h
  obtain ⟨b, p2, e1, k1, h⟩ := h
  refine go hS F ?_
  refine ct F ?_
  refine go hS F ?_
  rcases h with ⟨he, rfl⟩ | ⟨rfl, h⟩
  · replace F := fc k1 (fc he F)
    refine panR (p := fV) hOK F 2 ?_
    repeat' (with_reducible first | apply seqK_p | apply blkK_p | apply rndK_p | apply backK_p)
    exact dec_fail N (by simp only [go_sem, seval]) (by simp only [go_sem, seval]) (by simp only [go_sem, seval]) (by simp only [go_sem, seval, Option.isSome_some])
  replace F := fc k1 F
  replace h := dN_cases h
  obtain ⟨c, p3, e2, k2, h⟩ := h
  refine go hS F ?_
  refine ct F ?_
  refine go hS F ?_
  rcases h with ⟨he, rfl⟩ | ⟨rfl, h⟩
  · replace F := fc k2 (fc he F)
    refine panR (p := fV) hOK F 2 ?_
    repeat' (with_reducible first | apply seqK_p | apply blkK_p | apply rndK_p | apply backK_p)
    exact dec_fail N (by simp only [go_sem, seval]) (by simp only [go_sem, seval]) (by simp only [go_sem, seval]) (by simp only [go_sem, seval, Option.isSome_some])
  replace F := fc k2 F
  replace h := dN_cases h
  obtain ⟨f, p4, e3, k3, h⟩ := h
  refine go hS F ?_
  refine ct F ?_
  refine go hS F ?_
  rcases h with ⟨he, rfl⟩ | ⟨rfl, h⟩
  · replace F := fc k3 (fc he F)
    refine panR (p := fV) hOK F 2 ?_
    repeat' (with_reducible first | apply seqK_p | apply blkK_p | apply rndK_p | apply backK_p)
    exact dec_fail N (by simp only [go_sem, seval]) (by simp only [go_sem, seval]) (by simp only [go_sem, seval]) (by simp only [go_sem, seval, Option.isSome_some])
  replace F := fc k3 F
  replace h := dN_cases h
  obtain ⟨g, p5, e4, k4, h⟩ := h
  refine go hS F ?_
  refine ct F ?_
  refine go hS F ?_
  rcases h with ⟨he, rfl⟩ | ⟨rfl, h⟩
  · replace F := fc k4 (fc he F)
    refine panR (p := fV) hOK F 2 ?_
    repeat' (with_reducible first | apply seqK_p | apply blkK_p | apply rndK_p | apply backK_p)
    exact dec_fail N (by simp only [go_sem, seval]) (by simp only [go_sem, seval]) (by simp only [go_sem, seval]) (by simp only [go_sem, seval, Option.isSome_some])
  replace F := fc k4 F
  replace h := dN_cases h
  obtain ⟨n, p6, e5, k5, h⟩ := h
  refine go hS F ?_
  refine cf F ?_
  refine go hS F ?_
  rcases h with ⟨he, rfl⟩ | ⟨rfl, h⟩
  · replace F := fc k5 (fc he F)
    refine panR (p := fV) hOK F 1 ?_
    repeat' (with_reducible first | apply seqK_p | apply blkK_p | apply rndK_p | apply backK_p)
    exact dec_fail N (by simp only [go_sem, seval]) (by simp only [go_sem, seval]) (by simp only [go_sem, seval]) (by simp only [go_sem, seval, Option.isSome_some])
  replace F := fc k5 F
  refine go hS F ?_
  simp only at h
  cases hc : decide ((3 : Int) ≤ n) && decide (n ≤ (8 : Int)) with
  | false =>
    rw [hc, cond_false] at h
    obtain rfl := Option.some.inj h
    refine ct (fc hc F) ?_
    refine awp_pan hOK 2 rfl rfl (by simp only [go_sem, seval] <;> eq_refl) (by simp only [go_sem, seval]) (by simp only [go_sem, seval] <;> eq_refl) ?_
    repeat' (with_reducible first | apply seqK_p | apply blkK_p | apply rndK_p | apply backK_p)
    exact dec_fail N (by simp only [go_sem, seval]) (by simp only [go_sem, seval]) (by simp only [go_sem, seval]) (by simp only [go_sem, seval, Option.isSome_some])
  | true =>
  rw [hc, cond_true] at h
  have hn : 3 ≤ n ∧ n ≤ 8 := by simpa using hc
  refine cf (fc hc F) ?_
  refine go hS F ?_
  refine awp_le (s' := ⟨[(35, .i 0), (34, .i n), (4, .box (202, 3) 0), (3, .box (1, 1) 0), (2, .box (0, 1) 0), (2000064, .gd false (.clo (.func 44) [] [.box (0, 1) 0, .box (1, 1) 0])), (0, .v (.string (sB s)))],
    [(.c (202, 3) 1, .i p6), (.c (202, 3) 0, .v (.string (sB s))), (.c (1, 1) 0, .i 0), (.c (0, 1) 0, .i a), (.c (0, 1) 1, .i b), (.c (0, 1) 2, .i c), (.c (0, 1) 3, .sl 0 true [] []), (.c (0, 1) 4, .i f), (.c (0, 1) 5, .i g)], 100⟩) (leF F) ?_
  refine awp_claimCk 1 (0, 1) 3 2 [.i 0, .i 0] (by omega) (by simp only [go_sem, seval] <;> eq_refl) ?_
  have key : ∀ (x : Nat × Nat × Int × List (Int × Int) × Nat), True := fun _ => trivial
  refine awp_loop (fun x : Nat × Nat × Int × List (Int × Int) × Nat => ⟨[(35, .i x.2.1), (34, .i n), (4, .box (202, 3) 0), (3, .box (1, 1) 0), (2, .box (0, 1) 0), (2000064, .gd false (.clo (.func 44) [] [.box (0, 1) 0, .box (1, 1) 0])), (0, .v (.string (sB s)))],
    [(.c (202, 3) 1, .i x.2.2.1), (.c (202, 3) 0, .v (.string (sB s))), (.c (1, 1) 0, .i 0), (.c (0, 1) 0, .i a), (.c (0, 1) 1, .i b), (.c (0, 1) 2, .i c), (.c (0, 1) 3, .own (1, 101) x.2.2.2.1.length), (.a (1, 101), .sl 2 true (x.2.2.2.1.map e_ii) [.i 0, .i 0]), (.c (0, 1) 4, .i f), (.c (0, 1) 5, .i g)], x.2.2.2.2⟩)
    (fun x => pb (dP N s x.1 x.2.2.1 x.2.2.2.1) (fun (l, p7) => bif decide (p7 < (s.length : Int)) then some none else (D_unit_Valid N a b c l f g).bind fun v => some (bif v then some (a, b, c, l, f, g) else none)) = some r ∧ x.2.1 + x.1 = n.toNat ∧ x.2.2.2.1.length = x.2.1) (fun x => x.1) (n.toNat, 0, p6, [], 101) ⟨h, by simp, rfl⟩ ?_ ?_
  · exact leF F
  · rintro ⟨k, j, p, ls, cc⟩ ⟨hd, hj, hls⟩
    simp only at hd hj hls
    refine go hS F ?_
    refine cb F (decide ((j : Int) < n)) (fun hc => ?_) fun hc => ?_
    · have hc := of_decide_eq_true hc
      obtain _ | k := k
      · omega
      simp only [dP] at hd
      rw [pb_pb] at hd
      replace hd := dN_cases hd
      obtain ⟨x, q, ex, m1, hd⟩ := hd
      refine go hS F ?_
      rcases hd with ⟨he, rfl⟩ | ⟨rfl, hd⟩
      · replace F := fc m1 (fc he F)
        refine panR (p := fV) hOK F 1 ?_
        repeat' (with_reducible first | apply seqK_p | apply blkK_p | apply rndK_p | apply backK_p)
        exact dec_fail N (by simp only [go_sem, seval]) (by simp only [go_sem, seval]) (by simp only [go_sem, seval]) (by simp only [go_sem, seval, Option.isSome_some])
      simp only at hd
      rw [pb_pb] at hd
      replace hd := dN_cases hd
      obtain ⟨y, w, ey, m2, hd⟩ := hd
      rcases hd with ⟨he, rfl⟩ | ⟨rfl, hd⟩
      · replace F := fc m1 (fc m2 (fc he F))
        refine go hS F ?_
        refine panD (p := fV) hOK F 4 (.i 0) ?_
        repeat' (with_reducible first | apply seqK_p | apply blkK_p | apply rndK_p | apply backK_p)
        exact dec_fail N (by simp only [go_sem, seval]) (by simp only [go_sem, seval]) (by simp only [go_sem, seval]) (by simp only [go_sem, seval, Option.isSome_some])
      refine go hS (fc m1 (fc m2 F)) ?_
      refine backK_n (k, j + 1, w, ls ++ [(x, y)], cc + 100) ⟨hd, by simp only; omega, by simp [hls]⟩ (Nat.lt_succ_self _) (Le.of ?_ ?_ ?_)
      · simp only [go_sem, seval, F] <;> simp
      · simp only [go_sem, seval, F, List.map_append, List.map_cons, List.map_nil]
      · simp
    · have hc := of_decide_eq_false hc
      have hk : k = 0 := by omega
      subst hk
      simp only [dP, pb] at hd
      cases c9 : decide (p < (s.length : Int)) with
      | true =>
        rw [c9, cond_true] at hd
        obtain rfl := Option.some.inj hd
        refine go hS (fc c9 F) ?_
        refine ct (fc c9 F) ?_
        refine awp_pan hOK 2 rfl rfl (by simp only [go_sem, seval] <;> eq_refl) (by simp only [go_sem, seval]) (by simp only [go_sem, seval] <;> eq_refl) ?_
        repeat' (with_reducible first | apply seqK_p | apply blkK_p | apply rndK_p | apply backK_p)
        exact dec_fail N (by simp only [go_sem, seval]) (by simp only [go_sem, seval]) (by simp only [go_sem, seval]) (by simp only [go_sem, seval, Option.isSome_some])
      | false =>
      rw [c9, cond_false] at hd
      obtain ⟨v, h9, hd⟩ := Option.bind_eq_some_iff.1 hd
      replace F := fc c9 (fc h9 F)
      refine go hS F ?_
      cases v with
      | false =>
        obtain rfl := Option.some.inj hd
        refine ct F ?_
        refine awp_pan hOK 2 rfl rfl (by simp only [go_sem, seval] <;> eq_refl) (by simp only [go_sem, seval]) (by simp only [go_sem, seval] <;> eq_refl) ?_
        repeat' (with_reducible first | apply seqK_p | apply blkK_p | apply rndK_p | apply backK_p)
        exact dec_fail N (by simp only [go_sem, seval]) (by simp only [go_sem, seval]) (by simp only [go_sem, seval]) (by simp only [go_sem, seval, Option.isSome_some])
      | true =>
      obtain rfl := Option.some.inj hd
      refine cf F ?_
      refine go hS F ?_
      refine .inr ⟨_, _, (by simp only [go_sem, seval] <;> eq_refl), ?_⟩
      refine ⟨_, _, _, _, _, Tryd.func44, ok44, nt44, by simp, of44, fun hb2 => ?_⟩
      have hOK2 := Ctx.fd_ok (nt := 12) (hb := hb2) hS
      refine go hS F ?_
      refine ct F ?_
      refine go hS F ?_
      unfold rv22
      refine endD_n ⟨by simp only [go_sem, seval], _, _, (by simp only [go_sem, seval] <;> eq_refl), by simp only [go_sem, seval], by simp only [go_sem, seval], ?_, rfl⟩
      simp only [go_sem, seval]
end
end Go.Proofs.YtdabfcbelkjmgaaDoor.Am
/-
  unit: Encode and Decode for callers.
-/
namespace Go.Proofs.YtdabfcbelkjmgaaDoor.Am
open Go
attribute [local irreducible] awp seqK blkK backK endK inlK restK rngK asgK itK
set_option maxRecDepth 100000
set_option maxHeartbeats 8000000
set_option linter.unusedSimpArgs false
set_option linter.unusedVariables false
/-! putlog/unit.Encode -/
def D_unit_Encode (N : Nat) (a b c : Int) (l : List (Int × Int)) (p q : Int) : Option (List UInt8 × Int) :=
  (D_unit_Valid N a b c l p q).bind fun v =>
  gd (l.length ≤ 1000000) <|
  some (bif v then encS a b c l p q else [], bif v then 0 else 80)
theorem D_unit_Encode_ok (N : Nat) (a b c : Int) (l : List (Int × Int)) (p q : Int) (r : List UInt8 × Int) (h : D_unit_Encode N a b c l p q = some r) :
    PCall Tryd.prog 21 [.agg [.i a, .i b, .i c, .sl 2 false (l.map e_ii) [.i 0, .i 0], .i p, .i q]] (.tup [.v (.string (sB r.1)), .i r.2]) := by
  unfold D_unit_Encode at h
  obtain ⟨v, h1, h2⟩ := Option.bind_eq_some_iff.1 h
  simp only [gd_some] at h2
  obtain ⟨h3, h2⟩ := h2
  cases h2
  exact encode_ok N a b c l p q v h1 h3
def s21 (N : Nat) : Spec
  | [.agg [.v (.int .i64 a), .v (.int .i64 b), .v (.int .i64 c), .sl yl _ l _, .v (.int .i64 p), .v (.int .i64 q)]] => some (((yl = 2 ∨ l = []) ∧ l = (l.map d_ii).map e_ii) ∧ (D_unit_Encode N a b c (l.map d_ii) p q).isSome = true, .tup [.v (.string (sB ((D_unit_Encode N a b c (l.map d_ii) p q).getD ([], 0)).1)), .i ((D_unit_Encode N a b c (l.map d_ii) p q).getD ([], 0)).2])
  | _ => none
theorem fok21 (N : Nat) : FOK Tryd.prog 21 (s21 N) := ⟨of21, by
  intro args vc r h hv
  unfold s21 at h
  split at h
  · cases h
    obtain ⟨⟨hy0, hr0⟩, hs⟩ := hv
    obtain ⟨r, hr⟩ := Option.isSome_iff_exists.1 hs
    have hk := D_unit_Encode_ok N _ _ _ _ _ _ r hr
    simp only [hr, Option.getD_some]
    refine PCall.arg ?_ hk
    simp only [wkL, wk, and_true, true_and, Bool.false_eq_true, false_implies, implies_true]
    repeat' (first | exact True.intro | assumption | apply And.intro)
  · simp at h⟩
/-! putlog/unit.Decode -/
def D_unit_Decode (N : Nat) (s : List UInt8) : Option ((Int × Int × Int × List (Int × Int) × Int × Int) × Int) := (decP N s).map fun r => match r with | some x => (x, 0) | none => ((0, 0, 0, [], 0, 0), 80)
theorem D_unit_Decode_ok (N : Nat) (s : List UInt8) (r : (Int × Int × Int × List (Int × Int) × Int × Int) × Int) (h : D_unit_Decode N s = some r) :
    PCall Tryd.prog 22 [.v (.string (sB s))] (.tup [.agg [.i r.1.1, .i r.1.2.1, .i r.1.2.2.1, .sl 2 false (r.1.2.2.2.1.map e_ii) [.i 0, .i 0], .i r.1.2.2.2.2.1, .i r.1.2.2.2.2.2], .i r.2]) := by
  unfold D_unit_Decode at h
  obtain ⟨x, h1, h2⟩ := Option.map_eq_some_iff.1 h
  have := decode_ok N s x h1
  subst h2
  rcases x with _ | ⟨a, b, c, l, f, g⟩ <;> exact this
def s22 (N : Nat) : Spec
  | [.v (.string s)] => some ((D_unit_Decode N (bL s)).isSome = true, .tup [.agg [.i ((D_unit_Decode N (bL s)).getD ((0, 0, 0, [], 0, 0), 0)).1.1, .i ((D_unit_Decode N (bL s)).getD ((0, 0, 0, [], 0, 0), 0)).1.2.1, .i ((D_unit_Decode N (bL s)).getD ((0, 0, 0, [], 0, 0), 0)).1.2.2.1, .sl 2 false (((D_unit_Decode N (bL s)).getD ((0, 0, 0, [], 0, 0), 0)).1.2.2.2.1.map e_ii) [.i 0, .i 0], .i ((D_unit_Decode N (bL s)).getD ((0, 0, 0, [], 0, 0), 0)).1.2.2.2.2.1, .i ((D_unit_Decode N (bL s)).getD ((0, 0, 0, [], 0, 0), 0)).1.2.2.2.2.2], .i ((D_unit_Decode N (bL s)).getD ((0, 0, 0, [], 0, 0), 0)).2])
  | _ => none
theorem fok22 (N : Nat) : FOK Tryd.prog 22 (s22 N) := ⟨of22, by
  intro args vc r h hv
  unfold s22 at h
  split at h
  · cases h
    obtain ⟨r, hr⟩ := Option.isSome_iff_exists.1 hv
    have hk := D_unit_Decode_ok N _ r hr
    simp only [hr, Option.getD_some]
    rw [sB_bL] at hk
    exact hk
  · simp at h⟩
end Go.Proofs.YtdabfcbelkjmgaaDoor.Am
