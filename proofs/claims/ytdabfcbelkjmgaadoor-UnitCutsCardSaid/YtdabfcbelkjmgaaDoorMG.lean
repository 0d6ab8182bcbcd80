import Derived.Test.YtdabfcbelkjmgaaDoorMA
import Derived.Test.YtdabfcbelkjmgaaDoorM9
namespace Go.Proofs.YtdabfcbelkjmgaaDoor.Am
set_option linter.unusedSimpArgs false
set_option linter.unusedVariables false
theorem qa_E {l : List Pt} (hl : 0 < l.length) {i : Nat} (hi : i < l.length) (p : Pt) : E l i p = trn (qa l i) (qa l (i + 1)) p := by
  rw [E_qa hl, Nat.mod_eq_of_lt hi]
theorem q_nn {l : List Pt} (h : VP l) (s t : Nat) : 0 ≤ trn (qa l s) (qa l (s + 1)) (qa l t) := by
  have l3 := h.l3
  have hn : 0 < l.length := by omega
  have hs := stp_lt (n := l.length) (i := s % l.length) (k := t % l.length) hn
  have ha := stp_at (Nat.mod_lt s hn) (Nat.mod_lt t hn)
  rw [Nat.mod_add_mod] at ha
  have e : qa l t = qa l (s + stp l.length (s % l.length) (t % l.length)) := by
    show pa l (t % l.length) = pa l ((s + stp l.length (s % l.length) (t % l.length)) % l.length)
    rw [ha]
  rw [e]
  generalize stp l.length (s % l.length) (t % l.length) = a at *
  by_cases h0 : a = 0
  · subst h0; show 0 ≤ trn (qa l s) (qa l (s + 1)) (qa l s); rw [trn_self1]; omega
  by_cases h1 : a = 1
  · subst h1; rw [trn_self2]; omega
  exact Int.le_of_lt (conv_q h.cv (by omega) hs)
theorem trn_z {u w p : Pt} {x : Pt} (h1 : trn u w p = 0) (h2 : trn u x p = 0) (h3 : trn u w x ≠ 0) : p = u := by
  have e1 : (p.1 - u.1) * trn u w x = (w.1 - u.1) * trn u p x + (x.1 - u.1) * trn u w p := by unfold trn; grind
  have e2 : (p.2 - u.2) * trn u w x = (w.2 - u.2) * trn u p x + (x.2 - u.2) * trn u w p := by unfold trn; grind
  have e3 : trn u p x = - trn u x p := by unfold trn; grind
  rw [h1, e3, h2] at e1 e2
  simp only [Int.neg_zero, Int.mul_zero, Int.add_zero, Int.mul_eq_zero] at e1 e2
  exact Prod.ext (by rcases e1 with h | h; omega; exact absurd h h3) (by rcases e2 with h | h; omega; exact absurd h h3)


end Go.Proofs.YtdabfcbelkjmgaaDoor.Am
