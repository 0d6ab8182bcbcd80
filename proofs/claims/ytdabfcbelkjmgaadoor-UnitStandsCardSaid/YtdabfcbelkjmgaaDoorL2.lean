import Derived.Test.YtdabfcbelkjmgaaDoorE4
import Derived.Test.YtdabfcbelkjmgaaDoorAl5
namespace Go.Proofs.YtdabfcbelkjmgaaDoor.Am
open Go
attribute [local irreducible] awp seqK blkK backK endK inlK restK rngK asgK itK
set_option maxRecDepth 100000
set_option maxHeartbeats 8000000
set_option linter.unusedSimpArgs false
set_option linter.unusedVariables false
/-! putlog/putloglaw08.UnitStands -/
def D_putloglaw08_UnitStands_L1 (N : Nat) (r149 : List (Int × Int)) : Nat → Int → Int → Option Int
  | 0, _, _ => none
  | n + 1, low164, i165 =>
    bif decide (i165 < (r149.length : Int)) then (
      (nth r149 i165).bind fun (x166, x167) =>
      gd (I64 (i165 + 1)) <|
      D_putloglaw08_UnitStands_L1 N r149 n (min low164 x167) (i165 + 1))
    else (
      some low164)

def D_putloglaw08_UnitStands_L2 (N : Nat) (r178 : List (Int × Int)) : Nat → Int → Int → Option Int
  | 0, _, _ => none
  | n + 1, n188, i189 =>
    bif decide (i189 < (r178.length : Int)) then (
      (nth r178 i189).bind fun (x190, x191) =>
      bif decide (x191 = 0) then (
        gd (I64 (n188 + 1)) <|
        gd (I64 (i189 + 1)) <|
        D_putloglaw08_UnitStands_L2 N r178 n (n188 + 1) (i189 + 1))
      else (
        gd (I64 (i189 + 1)) <|
        D_putloglaw08_UnitStands_L2 N r178 n n188 (i189 + 1)))
    else (
      some n188)

def D_putloglaw08_UnitStands_L3 (N : Nat) (r178 : List (Int × Int)) (r201 : Int) (r202 : Int) (r203 : Int) (r204 : Int) : Nat → Int → Int → Option Int
  | 0, _, _ => none
  | n + 1, ends234, i235 =>
    bif decide (i235 < (r178.length : Int)) then (
      (nth r178 i235).bind fun (x236, x237) =>
      bif (decide (x236 = r201) && decide (x237 = r202)) || (decide (x236 = r203) && decide (x237 = r204)) then (
        gd (I64 (ends234 + 1)) <|
        gd (I64 (i235 + 1)) <|
        D_putloglaw08_UnitStands_L3 N r178 r201 r202 r203 r204 n (ends234 + 1) (i235 + 1))
      else (
        gd (I64 (i235 + 1)) <|
        D_putloglaw08_UnitStands_L3 N r178 r201 r202 r203 r204 n ends234 (i235 + 1)))
    else (
      some ends234)

def D_putloglaw08_UnitStands (N : Nat) (x136 : List (Int × Int)) (y137 : List (Int × Int)) (how138 : Int) (p139 : Int) (p140 : Int) (p141 : Int) (p142 : Int) (dy143 : Int) : Option Bool :=
  (D_putloglaw08_sane N).bind fun r144 =>
  bif !r144 then (
    some false)
  else (
    (D_putlogref08_Pair N x136 y137 how138 p139 p140 p141 p142 p139 p140 p141 p142).bind fun ((r146, r147, r148, r149, r150, r151), (r152, r153, r154, r155, r156, r157)) =>
    (D_putloglaw08_UnitStands_L1 N r149 N 40 0).bind fun low173 =>
    gd (I64 (-low173)) <|
    (D_unit_Move N r146 r147 r148 r149 r150 r151 0 (-low173)).bind fun ((r175, r176, r177, r178, r179, r180), r181) =>
    bif decide (r181 ≠ 0) then (
      some false)
    else (
      (D_putloglaw08_UnitStands_L2 N r178 N 0 0).bind fun n197 =>
      (D_unit_Stands N r175 r176 r177 r178 r179 r180).bind fun ((r199, r200, ((r201, r202), (r203, r204)), r205, r206), r207) =>
      bif (r207 != (decide (n197 = 2))) then (
        some false)
      else (
        (D_putloglaw08_pick N dy143 8).bind fun r209 =>
        gd (I64 (1 + r209)) <|
        (D_unit_Move N r175 r176 r177 r178 r179 r180 0 (1 + r209)).bind fun ((r211, r212, r213, r214, r215, r216), r217) =>
        (D_unit_Stands N r211 r212 r213 r214 r215 r216).bind fun ((r219, r220, ((r221, r222), (r223, r224)), r225, r226), r227) =>
        bif (decide (r217 = 0)) && r227 then (
          some false)
        else (
          bif !r207 then (
            some (decide (r199 = 0) && (decide (r200 = 0) && (decide (r201 = 0) && (decide (r202 = 0) && (decide (r203 = 0) && (decide (r204 = 0) && (decide (r205 = 0) && decide (r206 = 0)))))))))
          else (
            (D_putloglaw08_UnitStands_L3 N r178 r201 r202 r203 r204 N 0 0).bind fun ends243 =>
            some ((((((((decide (ends243 = 2)) && (decide (r202 = 0))) && (decide (r204 = 0))) && (decide (r201 < r203))) && (decide (r199 = r146))) && (decide (r200 = (-1)))) && (decide (r205 = r150))) && (decide (r206 = r151))))))))

def T5 (N : Nat) : List (Nat × Spec) := [(9, s9 N), (10, s10 N), (14, s14 N), (20, s20 N), (13, s13 N)]
theorem T5_ok (N : Nat) : TabOK Tryd.prog (tabOf (T5 N)) := tab_cons (fok9 N) (tab_cons (fok10 N) (tab_cons (fok14 N) (tab_cons (fok20 N) (tab_cons (fok13 N) (tab_nil)))))

section
attribute [local go_sem] T5 s9 s10 s14 s20 s13 e_ii de_ii rb_ii d_ii GT_len rowAt_zero rowAt_succ List.set_cons_succ List.isEmpty_map List.map_append List.map_eq_nil_iff ne_eq List.length_replicate takeMap dropMap List.length_set Option.isSome_some
theorem D_putloglaw08_UnitStands_ok (N : Nat) (x136 : List (Int × Int)) (y137 : List (Int × Int)) (how138 : Int) (p139 : Int) (p140 : Int) (p141 : Int) (p142 : Int) (dy143 : Int) (r : Bool) (h : D_putloglaw08_UnitStands N x136 y137 how138 p139 p140 p141 p142 dy143 = some r) : PCall Tryd.prog 5 [.sl 2 false (x136.map e_ii) [.i 0, .i 0], .sl 2 false (y137.map e_ii) [.i 0, .i 0], .i how138, .agg [.i p139, .i p140, .i p141, .i p142], .i dy143] (.b r) := by
  refine pcall_fn (T5_ok N) _ Tryd.func5 ok5 nt5 (by simp) fun _ => ?_
  have hS := T5_ok N
  have F := f0
  unfold ac5 rv5
  unfold D_putloglaw08_UnitStands at h
  try simp only [gd_some, Option.bind_eq_some_iff] at h
  obtain ⟨r144, hr144, h⟩ := h
  replace F := fc hr144 F
  refine go hS F ?_
  refine cb F (!r144) (fun hc1 => ?_) (fun hc1 => ?_)
  · replace h := cond_t hc1 h
    obtain rfl := Option.some.inj h
    refine go hS F ?_
    exact fin F
  · replace h := cond_f hc1 h
    try simp only [gd_some, Option.bind_eq_some_iff] at h
    obtain ⟨⟨⟨r146, r147, r148, r149, r150, r151⟩, ⟨r152, r153, r154, r155, r156, r157⟩⟩, hr157, h⟩ := h
    replace F := fc hr157 F
    try simp only [gd_some, Option.bind_eq_some_iff] at h
    obtain ⟨o174, hL2, h⟩ := h
    refine go hS F ?_
    refine awp_cut (fun z : Int × Nat => ⟨[(4, .i dy143), (12, .box (409, 4) 0), (14, .i z.1)], [(.c (409, 4) 0, .i r146), (.c (409, 4) 1, .i r147), (.c (409, 4) 2, .i r148), (.c (409, 4) 3, .sl 2 false (r149.map e_ii) [.i 0, .i 0]), (.c (409, 4) 4, .i r150), (.c (409, 4) 5, .i r151)], z.2⟩) (fun z => (z.1 : Int) = o174) (.x 0) ?_ ?_
    · refine awp_loop (fun y : Nat × Int × Int × Nat => ⟨[(4, .i dy143), (12, .box (409, 4) 0), (14, .i y.2.1), (15, .i y.2.2.1)], [(.c (409, 4) 0, .i r146), (.c (409, 4) 1, .i r147), (.c (409, 4) 2, .i r148), (.c (409, 4) 3, .sl 2 false (r149.map e_ii) [.i 0, .i 0]), (.c (409, 4) 4, .i r150), (.c (409, 4) 5, .i r151)], y.2.2.2⟩) (fun y => D_putloglaw08_UnitStands_L1 N r149 y.1 y.2.1 y.2.2.1 = some o174) (fun y => y.1) (N, 40, 0, 6) hL2 ?_ ?_
      · exact leF F
      · rintro ⟨n, low164, i165, c163⟩ hB3
        try simp only at hB3
        obtain _ | n := n
        · exact absurd hB3 (by simp [D_putloglaw08_UnitStands_L1])
        rw [D_putloglaw08_UnitStands_L1] at hB3
        refine go hS F ?_
        refine cb F (decide (i165 < (r149.length : Int))) (fun hc4 => ?_) (fun hc4 => ?_)
        · replace hB3 := cond_t hc4 hB3
          try simp only [gd_some, Option.bind_eq_some_iff] at hB3
          obtain ⟨⟨x166, x167⟩, hn167, hB3⟩ := hB3
          have hx167 : r149.getD i165.toNat (0, 0) = (x166, x167) := ixs hn167 _
          have hb167 := (nth_some hn167).1
          replace F := fc hx167 F
          try simp only [gd_some, Option.bind_eq_some_iff] at hB3
          obtain ⟨hv5, hB3⟩ := hB3
          simp only [I64] at hv5
          refine go hS F ?_
          exact backK_n (n, min low164 x167, i165 + 1, c163 + 1 + 1 + 1) hB3 (Nat.lt_succ_self _) (leF F)
        · replace hB3 := cond_f hc4 hB3
          refine go hS F ?_
          exact cutK_h (low164, c163 + 1) (Option.some.inj hB3) (leF F)
    · rintro ⟨low173, c172⟩ hz6
      subst hz6
      try simp only at h
      try simp only [gd_some, Option.bind_eq_some_iff] at h
      obtain ⟨hv7, ⟨⟨r175, r176, r177, r178, r179, r180⟩, r181⟩, hr181, h⟩ := h
      simp only [I64] at hv7
      replace F := fc hr181 F
      refine go hS F ?_
      refine cb F (decide (r181 ≠ 0)) (fun hc8 => ?_) (fun hc8 => ?_)
      · replace h := cond_t hc8 h
        obtain rfl := Option.some.inj h
        refine go hS F ?_
        exact fin F
      · replace h := cond_f hc8 h
        try simp only [gd_some, Option.bind_eq_some_iff] at h
        obtain ⟨o198, hL9, h⟩ := h
        refine go hS F ?_
        refine awp_cut (fun z : Int × Nat => ⟨[(4, .i dy143), (12, .box (409, 4) 0), (16, .box (1007, c172 + 1) 0), (18, .i z.1)], [(.c (1007, c172 + 1) 0, .i r175), (.c (1007, c172 + 1) 1, .i r176), (.c (1007, c172 + 1) 2, .i r177), (.c (1007, c172 + 1) 3, .sl 2 false (r178.map e_ii) [.i 0, .i 0]), (.c (1007, c172 + 1) 4, .i r179), (.c (1007, c172 + 1) 5, .i r180), (.c (409, 4) 0, .i r146), (.c (409, 4) 1, .i r147), (.c (409, 4) 2, .i r148), (.c (409, 4) 3, .sl 2 false (r149.map e_ii) [.i 0, .i 0]), (.c (409, 4) 4, .i r150), (.c (409, 4) 5, .i r151)], z.2⟩) (fun z => (z.1 : Int) = o198) (.x 2) ?_ ?_
        · refine awp_loop (fun y : Nat × Int × Int × Nat => ⟨[(4, .i dy143), (12, .box (409, 4) 0), (16, .box (1007, c172 + 1) 0), (18, .i y.2.1), (19, .i y.2.2.1)], [(.c (1007, c172 + 1) 0, .i r175), (.c (1007, c172 + 1) 1, .i r176), (.c (1007, c172 + 1) 2, .i r177), (.c (1007, c172 + 1) 3, .sl 2 false (r178.map e_ii) [.i 0, .i 0]), (.c (1007, c172 + 1) 4, .i r179), (.c (1007, c172 + 1) 5, .i r180), (.c (409, 4) 0, .i r146), (.c (409, 4) 1, .i r147), (.c (409, 4) 2, .i r148), (.c (409, 4) 3, .sl 2 false (r149.map e_ii) [.i 0, .i 0]), (.c (409, 4) 4, .i r150), (.c (409, 4) 5, .i r151)], y.2.2.2⟩) (fun y => D_putloglaw08_UnitStands_L2 N r178 y.1 y.2.1 y.2.2.1 = some o198) (fun y => y.1) (N, 0, 0, c172 + 1 + 1 + 1 + 1) hL9 ?_ ?_
          · exact leF F
          · rintro ⟨n, n188, i189, c187⟩ hB10
            try simp only at hB10
            obtain _ | n := n
            · exact absurd hB10 (by simp [D_putloglaw08_UnitStands_L2])
            rw [D_putloglaw08_UnitStands_L2] at hB10
            refine go hS F ?_
            refine cb F (decide (i189 < (r178.length : Int))) (fun hc11 => ?_) (fun hc11 => ?_)
            · replace hB10 := cond_t hc11 hB10
              try simp only [gd_some, Option.bind_eq_some_iff] at hB10
              obtain ⟨⟨x190, x191⟩, hn191, hB10⟩ := hB10
              have hx191 : r178.getD i189.toNat (0, 0) = (x190, x191) := ixs hn191 _
              have hb191 := (nth_some hn191).1
              replace F := fc hx191 F
              refine go hS F ?_
              refine cb F (decide (x191 = 0)) (fun hc12 => ?_) (fun hc12 => ?_)
              · replace hB10 := cond_t hc12 hB10
                try simp only [gd_some, Option.bind_eq_some_iff] at hB10
                obtain ⟨hv13, hv14, hB10⟩ := hB10
                simp only [I64] at hv13
                simp only [I64] at hv14
                refine go hS F ?_
                exact backK_n (n, n188 + 1, i189 + 1, c187 + 1 + 1 + 1 + 1) hB10 (Nat.lt_succ_self _) (leF F)
              · replace hB10 := cond_f hc12 hB10
                try simp only [gd_some, Option.bind_eq_some_iff] at hB10
                obtain ⟨hv15, hB10⟩ := hB10
                simp only [I64] at hv15
                refine go hS F ?_
                exact backK_n (n, n188, i189 + 1, c187 + 1 + 1 + 1) hB10 (Nat.lt_succ_self _) (leF F)
            · replace hB10 := cond_f hc11 hB10
              refine go hS F ?_
              exact cutK_h (n188, c187 + 1) (Option.some.inj hB10) (leF F)
        · rintro ⟨n197, c196⟩ hz16
          subst hz16
          try simp only at h
          try simp only [gd_some, Option.bind_eq_some_iff] at h
          obtain ⟨⟨⟨r199, r200, ⟨⟨r201, r202⟩, ⟨r203, r204⟩⟩, r205, r206⟩, r207⟩, hr207, h⟩ := h
          replace F := fc hr207 F
          refine go hS F ?_
          refine cb F ((r207 != (decide (n197 = 2)))) (fun hc17 => ?_) (fun hc17 => ?_)
          · replace h := cond_t hc17 h
            obtain rfl := Option.some.inj h
            refine go hS F ?_
            exact fin F
          · replace h := cond_f hc17 h
            try simp only [gd_some, Option.bind_eq_some_iff] at h
            obtain ⟨r209, hr209, hv18, ⟨⟨r211, r212, r213, r214, r215, r216⟩, r217⟩, hr217, h⟩ := h
            simp only [I64] at hv18
            replace F := fc hr217 (fc hr209 F)
            try simp only [gd_some, Option.bind_eq_some_iff] at h
            obtain ⟨⟨⟨r219, r220, ⟨⟨r221, r222⟩, ⟨r223, r224⟩⟩, r225, r226⟩, r227⟩, hr227, h⟩ := h
            replace F := fc hr227 F
            refine go hS F ?_
            refine cb F ((decide (r217 = 0)) && r227) (fun hc19 => ?_) (fun hc19 => ?_)
            · replace h := cond_t hc19 h
              obtain rfl := Option.some.inj h
              refine go hS F ?_
              exact fin F
            · replace h := cond_f hc19 h
              refine go hS F ?_
              refine cb F (!r207) (fun hc20 => ?_) (fun hc20 => ?_)
              · replace h := cond_t hc20 h
                obtain rfl := Option.some.inj h
                refine go hS F ?_
                exact fin F
              · replace h := cond_f hc20 h
                try simp only [gd_some, Option.bind_eq_some_iff] at h
                obtain ⟨o244, hL21, h⟩ := h
                refine go hS F ?_
                refine awp_cut (fun z : Int × Nat => ⟨[(12, .box (409, 4) 0), (20, .box (1905, c196 + 1) 0), (26, .i z.1)], [(.c (1905, c196 + 1) 0, .i r199), (.c (1905, c196 + 1) 1, .i r200), (.c (1905, c196 + 1) 2, .i r201), (.c (1905, c196 + 1) 3, .i r202), (.c (1905, c196 + 1) 4, .i r203), (.c (1905, c196 + 1) 5, .i r204), (.c (1905, c196 + 1) 6, .i r205), (.c (1905, c196 + 1) 7, .i r206), (.c (409, 4) 0, .i r146), (.c (409, 4) 1, .i r147), (.c (409, 4) 2, .i r148), (.c (409, 4) 3, .sl 2 false (r149.map e_ii) [.i 0, .i 0]), (.c (409, 4) 4, .i r150), (.c (409, 4) 5, .i r151)], z.2⟩) (fun z => (z.1 : Int) = o244) (.x 4) ?_ ?_
                · refine awp_loop (fun y : Nat × Int × Int × Nat => ⟨[(12, .box (409, 4) 0), (16, .box (1007, c172 + 1) 0), (20, .box (1905, c196 + 1) 0), (26, .i y.2.1), (27, .i y.2.2.1)], [(.c (1905, c196 + 1) 0, .i r199), (.c (1905, c196 + 1) 1, .i r200), (.c (1905, c196 + 1) 2, .i r201), (.c (1905, c196 + 1) 3, .i r202), (.c (1905, c196 + 1) 4, .i r203), (.c (1905, c196 + 1) 5, .i r204), (.c (1905, c196 + 1) 6, .i r205), (.c (1905, c196 + 1) 7, .i r206), (.c (1007, c172 + 1) 0, .i r175), (.c (1007, c172 + 1) 1, .i r176), (.c (1007, c172 + 1) 2, .i r177), (.c (1007, c172 + 1) 3, .sl 2 false (r178.map e_ii) [.i 0, .i 0]), (.c (1007, c172 + 1) 4, .i r179), (.c (1007, c172 + 1) 5, .i r180), (.c (409, 4) 0, .i r146), (.c (409, 4) 1, .i r147), (.c (409, 4) 2, .i r148), (.c (409, 4) 3, .sl 2 false (r149.map e_ii) [.i 0, .i 0]), (.c (409, 4) 4, .i r150), (.c (409, 4) 5, .i r151)], y.2.2.2⟩) (fun y => D_putloglaw08_UnitStands_L3 N r178 r201 r202 r203 r204 y.1 y.2.1 y.2.2.1 = some o244) (fun y => y.1) (N, 0, 0, c196 + 1 + 1 + 1 + 1 + 1 + 1 + 1 + 1) hL21 ?_ ?_
                  · exact leF F
                  · rintro ⟨n, ends234, i235, c233⟩ hB22
                    try simp only at hB22
                    obtain _ | n := n
                    · exact absurd hB22 (by simp [D_putloglaw08_UnitStands_L3])
                    rw [D_putloglaw08_UnitStands_L3] at hB22
                    refine go hS F ?_
                    refine cb F (decide (i235 < (r178.length : Int))) (fun hc23 => ?_) (fun hc23 => ?_)
                    · replace hB22 := cond_t hc23 hB22
                      try simp only [gd_some, Option.bind_eq_some_iff] at hB22
                      obtain ⟨⟨x236, x237⟩, hn237, hB22⟩ := hB22
                      have hx237 : r178.getD i235.toNat (0, 0) = (x236, x237) := ixs hn237 _
                      have hb237 := (nth_some hn237).1
                      replace F := fc hx237 F
                      refine go hS F ?_
                      refine cb F ((decide (x236 = r201) && decide (x237 = r202)) || (decide (x236 = r203) && decide (x237 = r204))) (fun hc24 => ?_) (fun hc24 => ?_)
                      · replace hB22 := cond_t hc24 hB22
                        try simp only [gd_some, Option.bind_eq_some_iff] at hB22
                        obtain ⟨hv25, hv26, hB22⟩ := hB22
                        simp only [I64] at hv25
                        simp only [I64] at hv26
                        refine go hS F ?_
                        exact backK_n (n, ends234 + 1, i235 + 1, c233 + 1 + 1 + 1 + 1) hB22 (Nat.lt_succ_self _) (leF F)
                      · replace hB22 := cond_f hc24 hB22
                        try simp only [gd_some, Option.bind_eq_some_iff] at hB22
                        obtain ⟨hv27, hB22⟩ := hB22
                        simp only [I64] at hv27
                        refine go hS F ?_
                        exact backK_n (n, ends234, i235 + 1, c233 + 1 + 1 + 1) hB22 (Nat.lt_succ_self _) (leF F)
                    · replace hB22 := cond_f hc23 hB22
                      refine go hS F ?_
                      exact cutK_h (ends234, c233 + 1) (Option.some.inj hB22) (leF F)
                · rintro ⟨ends243, c242⟩ hz28
                  subst hz28
                  try simp only at h
                  obtain rfl := Option.some.inj h
                  refine go hS F ?_
                  exact fin F
end

end Go.Proofs.YtdabfcbelkjmgaaDoor.Am
