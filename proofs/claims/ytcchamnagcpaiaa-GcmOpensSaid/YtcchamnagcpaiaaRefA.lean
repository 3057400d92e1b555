/- Contracts of functions of the loaded program, printed by our own program gen.py. -/
import Derived.Test.YtcchamnagcpaiaaXorA
namespace Go.GW
open Go Go.Proofs
set_option linter.unusedSimpArgs false
set_option linter.unusedVariables false


def dblK (a : UInt8) : Nat → UInt8
  | 0 => a
  | i + 1 => dbl (dblK a i)
/-- the product, of the first i bits -/
def tmo (a b : UInt8) : Nat → UInt8
  | 0 => 0
  | i + 1 => if shr_u8 b i &&& 1 = 1 then tmo a b i ^^^ dblK a i else tmo a b i
def timesR (a b : UInt8) : UInt8 := tmo a b 8
theorem tmo_T {a b : UInt8} {i : Nat} (h : shr_u8 b i &&& 1 = 1) : tmo a b (i + 1) = tmo a b i ^^^ dblK a i := if_pos h
theorem tmo_F {a b : UInt8} {i : Nat} (h : ¬ shr_u8 b i &&& 1 = 1) : tmo a b (i + 1) = tmo a b i := if_neg h
theorem dbl_T {x : UInt8} (h : 128 ≤ x) : dbl x = shl_u8 x 1 ^^^ 27 := if_pos h
theorem dbl_F {x : UInt8} (h : ¬ 128 ≤ x) : dbl x = shl_u8 x 1 := if_neg h

theorem RTm8_hc {H : Hp} {a b : UInt8} :
  HC Try.prog 154 [.u8 a, .u8 b] [] H (fun r S' H' => r = .u8 (timesR a b) ∧ S' = [] ∧ H' = H) := by
 refine hc_intro (n := 30) Try.func154 rfl Try.ntmps154 rfl (fun B hB => ?_)
 refine ew_cut (e' := [(0, _), (1, _)]) [0, 1] rfl ?_
 refine ew_seq ?_
 refine rg (.q 0 XT.done) (by kernel_rfl) (by kernel_rfl) ?_
 refine q_as (sv := .u8 0) rfl rfl rfl ?_
 refine x_end ?_
 refine nk_cut (e' := [(0, _), (1, _), (4, _)]) [0, 1, 4] rfl ?_
 refine nk_seq ?_
 refine ew_seq ?_
 refine rg (.q 0 XT.done) (by kernel_rfl) (by kernel_rfl) ?_
 refine q_as (sv := .u8 0) rfl rfl rfl ?_
 refine x_end ?_
 refine nk_cut (e' := [(0, _), (1, _), (4, _), (5, _)]) [0, 1, 4, 5] rfl ?_
 refine nk_seq ?_
 refine ew_seq ?_
 refine rg (.q 0 (.q 1 XT.done)) (by kernel_rfl) (by kernel_rfl) ?_
 refine q_mv rfl rfl rfl ?_
 refine q_as rfl rfl rfl ?_
 refine x_end ?_
 refine nk_cut (e' := [(0, _), (1, _), (4, _), (5, _), (6, _)]) [0, 1, 4, 5, 6] rfl ?_
 refine nk_seq ?_
 refine ew_seq ?_
 refine ew_seq ?_
 refine rg (.q 0 XT.done) (by kernel_rfl) (by kernel_rfl) ?_
 refine q_as (sv := .i 0) rfl rfl rfl ?_
 refine x_end ?_
 refine nk_cut (e' := [(0, _), (1, _), (4, _), (5, _), (6, _), (7, _)]) [0, 1, 4, 5, 6, 7] rfl ?_
 refine nk_seq ?_
 refine ew_block ?_
 let Ev1 : Nat → Env := fun i => [(5, .u8 (tmo a b i)), (6, .u8 (dblK a i)), (7, .i (i : Int))]
 let Gv1 : Nat → Hp → Prop := fun i H' => H = H' ∧ (i ≤ 8)
 let Mv1 : Nat → Nat := fun i => 8 - i
 refine ew_loop (mkE [(0, _), (1, _), (4, _)] Ev1) (mkS [] (fun _ => [])) Gv1 Mv1 (0 : Nat) ⟨rfl, rfl, rfl, rfl, rfl, rfl, trivial⟩ rfl ⟨rfl, (by omega)⟩ ?_
 rintro i H' ⟨rfl, hG⟩
 refine ew_S (S' := []) rfl ?_
 refine ew_cut (e' := [(5, _), (6, _), (7, _), (0, _), (1, _), (4, _)]) [5, 6, 7, 0, 1, 4] rfl ?_
 refine ew_seq ?_
 refine ew_seq ?_
 refine rg (.q 0 (.q 1 XT.done)) (by kernel_rfl) (by kernel_rfl) ?_
 refine q_mv rfl rfl rfl ?_
 refine q_lt rfl rfl rfl rfl ?_
 refine x_end ?_
 refine nk_cut (e' := [(0, _), (1, _), (4, _), (5, _), (6, _), (7, _), (11, _)]) [0, 1, 4, 5, 6, 7, 11] rfl ?_
 refine nk_seq ?_
 refine ew_cond rfl ?_ ?_
 ·intro hc11
  try simp only [decide_eq_true_eq] at hc11
  refine ew_skip ?_
  refine nk_seq ?_
  refine ew_seq ?_
  refine ew_block ?_
  refine ew_seq ?_
  refine ew_seq ?_
  refine rg (.q 0 (.q 1 (.q 2 (.q 3 (.q 4 XT.done))))) (by kernel_rfl) (by kernel_rfl) ?_
  refine q_mv rfl rfl rfl ?_
  refine q_mv rfl rfl rfl ?_
  refine q_shr_u8 rfl rfl rfl rfl (by omega) ?_
  refine q_and_u8 rfl rfl rfl rfl ?_
  refine q_eq_u8 rfl rfl rfl rfl ?_
  refine x_end ?_
  refine nk_cut (e' := [(0, _), (1, _), (4, _), (5, _), (6, _), (7, _), (11, _), (18, _)]) [0, 1, 4, 5, 6, 7, 11, 18] rfl ?_
  refine nk_seq ?_
  refine ew_cond rfl ?_ ?_
  ·intro hc18
   try simp only [decide_eq_true_eq] at hc18
   refine rg (.q 0 (.q 1 (.q 2 (.q 3 XT.done)))) (by kernel_rfl) (by kernel_rfl) ?_
   refine q_mv rfl rfl rfl ?_
   refine q_mv rfl rfl rfl ?_
   refine q_xor_u8 rfl rfl rfl rfl ?_
   refine q_as rfl rfl rfl ?_
   refine x_end ?_
   refine nk_cut (e' := [(0, _), (1, _), (4, _), (5, _), (6, _), (7, _), (11, _), (18, _)]) [0, 1, 4, 5, 6, 7, 11, 18] rfl ?_
   refine nk_seq ?_
   refine ew_seq ?_
   refine rg (.q 0 (.q 1 (.q 2 XT.done))) (by kernel_rfl) (by kernel_rfl) ?_
   refine q_mv rfl rfl rfl ?_
   refine q_ge_u8 rfl rfl rfl rfl ?_
   refine q_as rfl rfl rfl ?_
   refine x_end ?_
   refine nk_cut (e' := [(0, _), (1, _), (4, _), (5, _), (6, _), (7, _), (8, _), (11, _), (18, _)]) [0, 1, 4, 5, 6, 7, 8, 11, 18] rfl ?_
   refine nk_seq ?_
   refine ew_seq ?_
   refine rg (.q 0 (.q 1 (.q 2 XT.done))) (by kernel_rfl) (by kernel_rfl) ?_
   refine q_mv rfl rfl rfl ?_
   refine q_shl_u8u rfl rfl rfl rfl ?_
   refine q_as rfl rfl rfl ?_
   refine x_end ?_
   refine nk_cut (e' := [(0, _), (1, _), (4, _), (5, _), (6, _), (7, _), (8, _), (11, _), (18, _)]) [0, 1, 4, 5, 6, 7, 8, 11, 18] rfl ?_
   refine nk_seq ?_
   refine ew_seq ?_
   refine rg (.q 0 XT.done) (by kernel_rfl) (by kernel_rfl) ?_
   refine q_mv rfl rfl rfl ?_
   refine x_end ?_
   refine nk_cut (e' := [(0, _), (1, _), (4, _), (5, _), (6, _), (7, _), (8, _), (11, _), (18, _), (26, _)]) [0, 1, 4, 5, 6, 7, 8, 11, 18, 26] rfl ?_
   refine nk_seq ?_
   refine ew_cond rfl ?_ ?_
   ·intro hc26
    try simp only [decide_eq_true_eq] at hc26
    refine rg (.q 0 (.q 1 (.q 2 XT.done))) (by kernel_rfl) (by kernel_rfl) ?_
    refine q_mv rfl rfl rfl ?_
    refine q_xor_u8 rfl rfl rfl rfl ?_
    refine q_as rfl rfl rfl ?_
    refine x_end ?_
    refine nk_cut (e' := [(0, _), (1, _), (4, _), (5, _), (6, _), (7, _), (8, _), (11, _), (18, _), (26, _)]) [0, 1, 4, 5, 6, 7, 8, 11, 18, 26] rfl ?_
    refine nk_blk ?_
    refine nk_seq ?_
    refine rg (.q 0 (.q 1 (.q 2 XT.done))) (by kernel_rfl) (by kernel_rfl) ?_
    refine q_mv rfl rfl rfl ?_
    refine q_add rfl rfl rfl rfl (by omega) (by omega) ?_
    refine q_as rfl rfl rfl ?_
    refine x_end ?_
    refine nk_cut (e' := [(0, _), (1, _), (4, _), (5, _), (6, _), (7, _), (8, _), (11, _), (18, _), (26, _)]) [0, 1, 4, 5, 6, 7, 8, 11, 18, 26] rfl ?_
    have hA := tmo_T (a := a) (b := b) (i := i) hc18
    have hB := dbl_T hc26
    refine nk_round (μ := Mv1) (i := i) (S := _) (G := Gv1) (i + 1 : Nat) ?_ ?_ ?_ ?_
    ·exact ⟨congrArg (fun z => some (SV.u8 z)) hA.symm, congrArg (fun z => some (SV.u8 z)) hB.symm, rfl, rfl, rfl, rfl, trivial⟩
    ·exact rfl
    ·exact ⟨rfl, by omega⟩
    ·dsimp only [Mv1]; omega
   ·intro hc26
    try simp only [decide_eq_false_iff_not] at hc26
    refine ew_skip ?_
    refine nk_blk ?_
    refine nk_seq ?_
    refine rg (.q 0 (.q 1 (.q 2 XT.done))) (by kernel_rfl) (by kernel_rfl) ?_
    refine q_mv rfl rfl rfl ?_
    refine q_add rfl rfl rfl rfl (by omega) (by omega) ?_
    refine q_as rfl rfl rfl ?_
    refine x_end ?_
    refine nk_cut (e' := [(0, _), (1, _), (4, _), (5, _), (6, _), (7, _), (8, _), (11, _), (18, _), (26, _)]) [0, 1, 4, 5, 6, 7, 8, 11, 18, 26] rfl ?_
    have hA := tmo_T (a := a) (b := b) (i := i) hc18
    have hB := dbl_F hc26
    refine nk_round (μ := Mv1) (i := i) (S := _) (G := Gv1) (i + 1 : Nat) ?_ ?_ ?_ ?_
    ·exact ⟨congrArg (fun z => some (SV.u8 z)) hA.symm, congrArg (fun z => some (SV.u8 z)) hB.symm, rfl, rfl, rfl, rfl, trivial⟩
    ·exact rfl
    ·exact ⟨rfl, by omega⟩
    ·dsimp only [Mv1]; omega
  ·intro hc18
   try simp only [decide_eq_false_iff_not] at hc18
   refine ew_skip ?_
   refine nk_seq ?_
   refine ew_seq ?_
   refine rg (.q 0 (.q 1 (.q 2 XT.done))) (by kernel_rfl) (by kernel_rfl) ?_
   refine q_mv rfl rfl rfl ?_
   refine q_ge_u8 rfl rfl rfl rfl ?_
   refine q_as rfl rfl rfl ?_
   refine x_end ?_
   refine nk_cut (e' := [(0, _), (1, _), (4, _), (5, _), (6, _), (7, _), (8, _), (11, _), (18, _)]) [0, 1, 4, 5, 6, 7, 8, 11, 18] rfl ?_
   refine nk_seq ?_
   refine ew_seq ?_
   refine rg (.q 0 (.q 1 (.q 2 XT.done))) (by kernel_rfl) (by kernel_rfl) ?_
   refine q_mv rfl rfl rfl ?_
   refine q_shl_u8u rfl rfl rfl rfl ?_
   refine q_as rfl rfl rfl ?_
   refine x_end ?_
   refine nk_cut (e' := [(0, _), (1, _), (4, _), (5, _), (6, _), (7, _), (8, _), (11, _), (18, _)]) [0, 1, 4, 5, 6, 7, 8, 11, 18] rfl ?_
   refine nk_seq ?_
   refine ew_seq ?_
   refine rg (.q 0 XT.done) (by kernel_rfl) (by kernel_rfl) ?_
   refine q_mv rfl rfl rfl ?_
   refine x_end ?_
   refine nk_cut (e' := [(0, _), (1, _), (4, _), (5, _), (6, _), (7, _), (8, _), (11, _), (18, _), (26, _)]) [0, 1, 4, 5, 6, 7, 8, 11, 18, 26] rfl ?_
   refine nk_seq ?_
   refine ew_cond rfl ?_ ?_
   ·intro hc26
    try simp only [decide_eq_true_eq] at hc26
    refine rg (.q 0 (.q 1 (.q 2 XT.done))) (by kernel_rfl) (by kernel_rfl) ?_
    refine q_mv rfl rfl rfl ?_
    refine q_xor_u8 rfl rfl rfl rfl ?_
    refine q_as rfl rfl rfl ?_
    refine x_end ?_
    refine nk_cut (e' := [(0, _), (1, _), (4, _), (5, _), (6, _), (7, _), (8, _), (11, _), (18, _), (26, _)]) [0, 1, 4, 5, 6, 7, 8, 11, 18, 26] rfl ?_
    refine nk_blk ?_
    refine nk_seq ?_
    refine rg (.q 0 (.q 1 (.q 2 XT.done))) (by kernel_rfl) (by kernel_rfl) ?_
    refine q_mv rfl rfl rfl ?_
    refine q_add rfl rfl rfl rfl (by omega) (by omega) ?_
    refine q_as rfl rfl rfl ?_
    refine x_end ?_
    refine nk_cut (e' := [(0, _), (1, _), (4, _), (5, _), (6, _), (7, _), (8, _), (11, _), (18, _), (26, _)]) [0, 1, 4, 5, 6, 7, 8, 11, 18, 26] rfl ?_
    have hA := tmo_F (a := a) (b := b) (i := i) hc18
    have hB := dbl_T hc26
    refine nk_round (μ := Mv1) (i := i) (S := _) (G := Gv1) (i + 1 : Nat) ?_ ?_ ?_ ?_
    ·exact ⟨congrArg (fun z => some (SV.u8 z)) hA.symm, congrArg (fun z => some (SV.u8 z)) hB.symm, rfl, rfl, rfl, rfl, trivial⟩
    ·exact rfl
    ·exact ⟨rfl, by omega⟩
    ·dsimp only [Mv1]; omega
   ·intro hc26
    try simp only [decide_eq_false_iff_not] at hc26
    refine ew_skip ?_
    refine nk_blk ?_
    refine nk_seq ?_
    refine rg (.q 0 (.q 1 (.q 2 XT.done))) (by kernel_rfl) (by kernel_rfl) ?_
    refine q_mv rfl rfl rfl ?_
    refine q_add rfl rfl rfl rfl (by omega) (by omega) ?_
    refine q_as rfl rfl rfl ?_
    refine x_end ?_
    refine nk_cut (e' := [(0, _), (1, _), (4, _), (5, _), (6, _), (7, _), (8, _), (11, _), (18, _), (26, _)]) [0, 1, 4, 5, 6, 7, 8, 11, 18, 26] rfl ?_
    have hA := tmo_F (a := a) (b := b) (i := i) hc18
    have hB := dbl_F hc26
    refine nk_round (μ := Mv1) (i := i) (S := _) (G := Gv1) (i + 1 : Nat) ?_ ?_ ?_ ?_
    ·exact ⟨congrArg (fun z => some (SV.u8 z)) hA.symm, congrArg (fun z => some (SV.u8 z)) hB.symm, rfl, rfl, rfl, rfl, trivial⟩
    ·exact rfl
    ·exact ⟨rfl, by omega⟩
    ·dsimp only [Mv1]; omega
 ·intro hc11
  try simp only [decide_eq_false_iff_not] at hc11
  have hi8 : i = 8 := by omega
  subst hi8
  refine ew_exit _ rfl ?_
  refine nk_seq ?_
  refine ew_seq ?_
  refine rg (.q 0 (.q 1 XT.done)) (by kernel_rfl) (by kernel_rfl) ?_
  refine q_mv rfl rfl rfl ?_
  refine q_as rfl rfl rfl ?_
  refine x_end ?_
  refine nk_cut (e' := [(0, _), (1, _), (4, _), (5, _), (6, _), (7, _), (11, _)]) [0, 1, 4, 5, 6, 7, 11] rfl ?_
  refine nk_seq ?_
  refine ew_retS rfl rfl (.cons (.tmp rfl) .nil) ?_
  exact ⟨rfl, rfl, rfl⟩


def invP (c : UInt8) (i : Nat) : Bool := decide (1 ≤ i) && decide (timesR c (UInt8.ofNat i) = 1)
def invR (c : UInt8) : UInt8 := match (List.range 256).find? (invP c) with
  | some i => UInt8.ofNat i
  | none => 0
theorem invR_some {c : UInt8} {i : Nat} (h1 : 1 ≤ i) (h2 : i < 256) (h3 : timesR c (UInt8.ofNat i) = 1) (h4 : ∀ j, 1 ≤ j → j < i → ¬ timesR c (UInt8.ofNat j) = 1) : invR c = UInt8.ofNat i := by
  unfold invR
  have : (List.range 256).find? (invP c) = some i := by
    rw [List.find?_range_eq_some]
    refine ⟨by simp [invP, h1, h3], List.mem_range.2 h2, fun j hj => ?_⟩
    by_cases hj1 : 1 ≤ j
    · simp [invP, h4 j hj1 hj]
    · simp [invP, hj1]
  rw [this]
theorem invR_none {c : UInt8} (h4 : ∀ j, 1 ≤ j → j < 256 → ¬ timesR c (UInt8.ofNat j) = 1) : invR c = 0 := by
  unfold invR
  have : (List.range 256).find? (invP c) = none := by
    rw [List.find?_eq_none]
    intro j hj
    by_cases hj1 : 1 ≤ j
    · simp [invP, h4 j hj1 (List.mem_range.1 hj)]
    · simp [invP, hj1]
  rw [this]

theorem RInv_hc {H : Hp} {c : UInt8} :
  HC Try.prog 163 [.u8 c] [] H (fun r S' H' => r = .u8 (invR c) ∧ S' = [] ∧ H' = H) := by
 refine hc_intro (n := 15) Try.func163 rfl Try.ntmps163 rfl (fun B hB => ?_)
 refine ew_cut (e' := [(0, _)]) [0] rfl ?_
 refine ew_seq ?_
 refine rg (.q 0 XT.done) (by kernel_rfl) (by kernel_rfl) ?_
 refine q_as (sv := .u8 0) rfl rfl rfl ?_
 refine x_end ?_
 refine nk_cut (e' := [(0, _), (2, _)]) [0, 2] rfl ?_
 refine nk_seq ?_
 refine ew_seq ?_
 refine ew_seq ?_
 refine rg (.q 0 XT.done) (by kernel_rfl) (by kernel_rfl) ?_
 refine q_as (sv := .i 1) rfl rfl rfl ?_
 refine x_end ?_
 refine nk_cut (e' := [(0, _), (2, _), (3, _)]) [0, 2, 3] rfl ?_
 refine nk_seq ?_
 refine ew_block ?_
 let Ev1 : Nat → Env := fun i => [(3, .i (i : Int))]
 let Gv1 : Nat → Hp → Prop := fun i H' => H = H' ∧ (1 ≤ i ∧ i ≤ 256 ∧ ∀ j, 1 ≤ j → j < i → ¬ timesR c (UInt8.ofNat j) = 1)
 let Mv1 : Nat → Nat := fun i => 256 - i
 refine ew_loop (mkE [(0, _), (2, _)] Ev1) (mkS [] (fun _ => [])) Gv1 Mv1 (1 : Nat) ⟨rfl, rfl, rfl, trivial⟩ rfl ⟨rfl, ⟨by omega, by omega, fun j h1 h2 => by omega⟩⟩ ?_
 rintro i H' ⟨rfl, hG⟩
 obtain ⟨h1, h2, h4⟩ := hG
 refine ew_S (S' := []) rfl ?_
 refine ew_cut (e' := [(3, _), (0, _), (2, _)]) [3, 0, 2] rfl ?_
 refine ew_seq ?_
 refine ew_seq ?_
 refine rg (.q 0 (.q 1 XT.done)) (by kernel_rfl) (by kernel_rfl) ?_
 refine q_mv rfl rfl rfl ?_
 refine q_lt rfl rfl rfl rfl ?_
 refine x_end ?_
 refine nk_cut (e' := [(0, _), (2, _), (3, _), (5, _)]) [0, 2, 3, 5] rfl ?_
 refine nk_seq ?_
 refine ew_cond rfl ?_ ?_
 ·intro hc5
  try simp only [decide_eq_true_eq] at hc5
  refine ew_skip ?_
  refine nk_seq ?_
  refine ew_seq ?_
  refine ew_block ?_
  refine ew_seq ?_
  refine rg (.q 0 (.q 1 (.q 2 (.h 3 (.q 4 XT.done))))) (by kernel_rfl) (by kernel_rfl) ?_
  refine q_mv rfl rfl rfl ?_
  refine q_mv rfl rfl rfl ?_
  refine q_cv_i_u8 Try.underlying5 (by kernel_rfl) rfl rfl rfl (by omega) ?_
  refine h_call0 Try.call154 rfl rfl rfl (RTm8_hc) ?_
  rintro r_ S_ H hl1 ⟨rfl, rfl, rfl⟩
  refine ⟨kp0, ?_⟩
  refine x_S (S' := []) rfl ?_
  refine q_eq_u8 rfl rfl rfl rfl ?_
  refine x_end ?_
  refine nk_cut (e' := [(0, _), (2, _), (3, _), (5, _), (12, _)]) [0, 2, 3, 5, 12] rfl ?_
  refine nk_seq ?_
  refine ew_cond rfl ?_ ?_
  ·intro hc12
   try simp only [decide_eq_true_eq] at hc12
   refine ew_seq ?_
   refine rg (.q 0 (.q 1 (.q 2 XT.done))) (by kernel_rfl) (by kernel_rfl) ?_
   refine q_mv rfl rfl rfl ?_
   refine q_cv_i_u8 Try.underlying5 (by kernel_rfl) rfl rfl rfl (by omega) ?_
   refine q_as rfl rfl rfl ?_
   refine x_end ?_
   refine nk_cut (e' := [(0, _), (2, _), (3, _), (5, _), (12, _)]) [0, 2, 3, 5, 12] rfl ?_
   refine nk_seq ?_
   refine ew_retS rfl rfl (.cons (.tmp rfl) .nil) ?_
   exact ⟨congrArg SV.u8 (invR_some h1 (by omega) hc12 h4).symm, rfl, rfl⟩
  ·intro hc12
   try simp only [decide_eq_false_iff_not] at hc12
   refine ew_skip ?_
   refine nk_blk ?_
   refine nk_seq ?_
   refine rg (.q 0 (.q 1 (.q 2 XT.done))) (by kernel_rfl) (by kernel_rfl) ?_
   refine q_mv rfl rfl rfl ?_
   refine q_add rfl rfl rfl rfl (by omega) (by omega) ?_
   refine q_as rfl rfl rfl ?_
   refine x_end ?_
   refine nk_cut (e' := [(0, _), (2, _), (3, _), (5, _), (12, _)]) [0, 2, 3, 5, 12] rfl ?_
   refine nk_round (μ := Mv1) (i := i) (S := _) (G := Gv1) (i + 1 : Nat) ?_ ?_ ?_ ?_
   ·exact ⟨rfl, rfl, rfl, trivial⟩
   ·exact rfl
   ·exact ⟨rfl, ⟨by omega, by omega, fun j h5 h6 => (Nat.lt_or_eq_of_le (show j ≤ i by omega)).elim (h4 j h5) (fun h => by subst h; exact hc12)⟩⟩
   ·dsimp only [Mv1]; omega
 ·intro hc5
  try simp only [decide_eq_false_iff_not] at hc5
  have hi : i = 256 := by omega
  subst hi
  refine ew_exit _ rfl ?_
  refine nk_seq ?_
  refine ew_seq ?_
  refine rg (.q 0 XT.done) (by kernel_rfl) (by kernel_rfl) ?_
  refine q_as (sv := .u8 0) rfl rfl rfl ?_
  refine x_end ?_
  refine nk_cut (e' := [(0, _), (2, _), (3, _), (5, _)]) [0, 2, 3, 5] rfl ?_
  refine nk_seq ?_
  refine ew_retS rfl rfl (.cons (.tmp rfl) .nil) ?_
  exact ⟨congrArg SV.u8 (invR_none h4).symm, rfl, rfl⟩


def boxBit (x : UInt8) (i : Nat) : UInt8 := shr_u8 x i ^^^ shr_u8 x ((i + 4) % 8) ^^^ shr_u8 x ((i + 5) % 8) ^^^ shr_u8 x ((i + 6) % 8) ^^^ shr_u8 x ((i + 7) % 8) ^^^ shr_u8 99 i
def boxK (x : UInt8) : Nat → UInt8
  | 0 => 0
  | i + 1 => boxK x i ||| shl_u8 (boxBit x i &&& 1) i
def boxR (c : UInt8) : UInt8 := boxK (invR c) 8
def fboxR (i : Nat) : UInt8 := boxR (UInt8.ofNat i)
def boxesR : List UInt8 := rgf fboxR 256

theorem RBox_hc {H : Hp} {c : UInt8} :
  HC Try.prog 153 [.u8 c] [] H (fun r S' H' => r = .u8 (boxR c) ∧ S' = [] ∧ H' = H) := by
 refine hc_intro (n := 50) Try.func153 rfl Try.ntmps153 rfl (fun B hB => ?_)
 refine ew_cut (e' := [(0, _)]) [0] rfl ?_
 refine ew_seq ?_
 refine rg (.q 0 XT.done) (by kernel_rfl) (by kernel_rfl) ?_
 refine q_as (sv := .u8 0) rfl rfl rfl ?_
 refine x_end ?_
 refine nk_cut (e' := [(0, _), (2, _)]) [0, 2] rfl ?_
 refine nk_seq ?_
 refine ew_seq ?_
 refine rg (.q 0 (.h 1 (.q 2 XT.done))) (by kernel_rfl) (by kernel_rfl) ?_
 refine q_mv rfl rfl rfl ?_
 refine h_call0 Try.call163 rfl rfl rfl (RInv_hc) ?_
 rintro r_ S_ H hl1 ⟨rfl, rfl, rfl⟩
 refine ⟨kp0, ?_⟩
 refine x_S (S' := []) rfl ?_
 refine q_as rfl rfl rfl ?_
 refine x_end ?_
 refine nk_cut (e' := [(0, _), (2, _), (3, _)]) [0, 2, 3] rfl ?_
 refine nk_seq ?_
 refine ew_seq ?_
 refine rg (.q 0 XT.done) (by kernel_rfl) (by kernel_rfl) ?_
 refine q_as (sv := .u8 0) rfl rfl rfl ?_
 refine x_end ?_
 refine nk_cut (e' := [(0, _), (2, _), (3, _), (4, _)]) [0, 2, 3, 4] rfl ?_
 refine nk_seq ?_
 refine ew_seq ?_
 refine ew_seq ?_
 refine rg (.q 0 XT.done) (by kernel_rfl) (by kernel_rfl) ?_
 refine q_as (sv := .i 0) rfl rfl rfl ?_
 refine x_end ?_
 refine nk_cut (e' := [(0, _), (2, _), (3, _), (4, _), (5, _)]) [0, 2, 3, 4, 5] rfl ?_
 refine nk_seq ?_
 refine ew_block ?_
 let Ev1 : Nat → Env := fun i => [(5, .i (i : Int)), (4, .u8 (boxK (invR c) i))]
 let Gv1 : Nat → Hp → Prop := fun i H' => H = H' ∧ (i ≤ 8)
 let Mv1 : Nat → Nat := fun i => 8 - i
 refine ew_loop (mkE [(0, _), (2, _), (3, _)] Ev1) (mkS [] (fun _ => [])) Gv1 Mv1 (0 : Nat) ⟨rfl, rfl, rfl, rfl, rfl, trivial⟩ rfl ⟨rfl, (by omega)⟩ ?_
 rintro i H' ⟨rfl, hG⟩
 refine ew_S (S' := []) rfl ?_
 refine ew_cut (e' := [(5, _), (4, _), (0, _), (2, _), (3, _)]) [5, 4, 0, 2, 3] rfl ?_
 refine ew_seq ?_
 refine ew_seq ?_
 refine rg (.q 0 (.q 1 XT.done)) (by kernel_rfl) (by kernel_rfl) ?_
 refine q_mv rfl rfl rfl ?_
 refine q_lt rfl rfl rfl rfl ?_
 refine x_end ?_
 refine nk_cut (e' := [(0, _), (2, _), (3, _), (4, _), (5, _), (10, _)]) [0, 2, 3, 4, 5, 10] rfl ?_
 refine nk_seq ?_
 refine ew_cond rfl ?_ ?_
 ·intro hc10
  try simp only [decide_eq_true_eq] at hc10
  refine ew_skip ?_
  refine nk_seq ?_
  refine ew_seq ?_
  refine ew_block ?_
  refine ew_seq ?_
  refine rd (by kernel_rfl) [0, 1, 2, 3, 4, 5, 6, 7, 8, 9, 10, 11, 12, 13, 14, 15, 16, 17, 18, 19, 20, 21, 22, 23, 24, 25, 26, 27, 28, 29, 30] [0, 1, 2, 3, 4, 5, 6, 7, 8, 9, 10, 11, 12, 13, 14, 15, 16, 17, 18, 19, 20, 21, 22, 23, 24, 25, 26, 27, 28, 29, 30] (.q 0 (.q 1 (.q 2 (.q 3 (.q 4 (.q 5 (.q 6 (.q 7 (.q 8 (.q 9 (.q 10 (.q 11 (.q 12 (.q 13 (.q 14 (.q 15 (.q 16 (.q 17 (.q 18 (.q 19 (.q 20 (.q 21 (.q 22 (.q 23 (.q 24 (.q 25 (.q 26 (.q 27 (.q 28 (.q 29 (.q 30 XT.done))))))))))))))))))))))))))))))) (by kernel_rfl) (by kernel_rfl) (keepL _ []) (keepL_sub _ _) ?_
  refine q_mv rfl rfl rfl ?_
  refine q_mv rfl rfl rfl ?_
  refine q_shr_u8 rfl rfl rfl rfl (by omega) ?_
  refine q_mv rfl rfl rfl ?_
  refine q_mv rfl rfl rfl ?_
  refine q_add rfl rfl rfl rfl (by omega) (by omega) ?_
  refine q_rem rfl rfl rfl rfl (by omega) (by omega) (by omega) ?_
  refine q_shr_u8 rfl rfl rfl rfl (by omega) ?_
  refine q_xor_u8 rfl rfl rfl rfl ?_
  refine q_mv rfl rfl rfl ?_
  refine q_mv rfl rfl rfl ?_
  refine q_add rfl rfl rfl rfl (by omega) (by omega) ?_
  refine q_rem rfl rfl rfl rfl (by omega) (by omega) (by omega) ?_
  refine q_shr_u8 rfl rfl rfl rfl (by omega) ?_
  refine q_xor_u8 rfl rfl rfl rfl ?_
  refine q_mv rfl rfl rfl ?_
  refine q_mv rfl rfl rfl ?_
  refine q_add rfl rfl rfl rfl (by omega) (by omega) ?_
  refine q_rem rfl rfl rfl rfl (by omega) (by omega) (by omega) ?_
  refine q_shr_u8 rfl rfl rfl rfl (by omega) ?_
  refine q_xor_u8 rfl rfl rfl rfl ?_
  refine q_mv rfl rfl rfl ?_
  refine q_mv rfl rfl rfl ?_
  refine q_add rfl rfl rfl rfl (by omega) (by omega) ?_
  refine q_rem rfl rfl rfl rfl (by omega) (by omega) (by omega) ?_
  refine q_shr_u8 rfl rfl rfl rfl (by omega) ?_
  refine q_xor_u8 rfl rfl rfl rfl ?_
  refine q_mv rfl rfl rfl ?_
  refine q_shr_u8 rfl rfl rfl rfl (by omega) ?_
  refine q_xor_u8 rfl rfl rfl rfl ?_
  refine q_as rfl rfl rfl ?_
  refine x_end ?_
  refine nk_cut (e' := [(0, _), (2, _), (3, _), (4, _), (5, _), (6, _), (10, _)]) [0, 2, 3, 4, 5, 6, 10] rfl ?_
  refine nk_seq ?_
  refine rg (.q 0 (.q 1 (.q 2 (.q 3 (.q 4 (.q 5 (.q 6 XT.done))))))) (by kernel_rfl) (by kernel_rfl) ?_
  refine q_mv rfl rfl rfl ?_
  refine q_mv rfl rfl rfl ?_
  refine q_and_u8 rfl rfl rfl rfl ?_
  refine q_mv rfl rfl rfl ?_
  refine q_shl_u8 rfl rfl rfl rfl (by omega) ?_
  refine q_or_u8 rfl rfl rfl rfl ?_
  refine q_as rfl rfl rfl ?_
  refine x_end ?_
  refine nk_cut (e' := [(0, _), (2, _), (3, _), (4, _), (5, _), (6, _), (10, _)]) [0, 2, 3, 4, 5, 6, 10] rfl ?_
  refine nk_blk ?_
  refine nk_seq ?_
  refine rg (.q 0 (.q 1 (.q 2 XT.done))) (by kernel_rfl) (by kernel_rfl) ?_
  refine q_mv rfl rfl rfl ?_
  refine q_add rfl rfl rfl rfl (by omega) (by omega) ?_
  refine q_as rfl rfl rfl ?_
  refine x_end ?_
  refine nk_cut (e' := [(0, _), (2, _), (3, _), (4, _), (5, _), (6, _), (10, _)]) [0, 2, 3, 4, 5, 6, 10] rfl ?_
  have hbit : shr_u8 (invR c) i ^^^ shr_u8 (invR c) (((i : Int) + 4) % 8).toNat ^^^ shr_u8 (invR c) (((i : Int) + 5) % 8).toNat ^^^ shr_u8 (invR c) (((i : Int) + 6) % 8).toNat ^^^ shr_u8 (invR c) (((i : Int) + 7) % 8).toNat ^^^ shr_u8 99 i = boxBit (invR c) i := by
   unfold boxBit
   rw [show (((i : Int) + 4) % 8).toNat = (i + 4) % 8 by omega, show (((i : Int) + 5) % 8).toNat = (i + 5) % 8 by omega, show (((i : Int) + 6) % 8).toNat = (i + 6) % 8 by omega, show (((i : Int) + 7) % 8).toNat = (i + 7) % 8 by omega]
  refine nk_round (μ := Mv1) (i := i) (S := _) (G := Gv1) (i + 1 : Nat) ?_ ?_ ?_ ?_
  ·exact ⟨rfl, congrArg (fun z => some (SV.u8 (boxK (invR c) i ||| shl_u8 (z &&& 1) i))) hbit, rfl, rfl, rfl, trivial⟩
  ·exact rfl
  ·exact ⟨rfl, by omega⟩
  ·dsimp only [Mv1]; omega
 ·intro hc10
  try simp only [decide_eq_false_iff_not] at hc10
  have hi8 : i = 8 := by omega
  subst hi8
  refine ew_exit _ rfl ?_
  refine nk_seq ?_
  refine ew_seq ?_
  refine rg (.q 0 (.q 1 XT.done)) (by kernel_rfl) (by kernel_rfl) ?_
  refine q_mv rfl rfl rfl ?_
  refine q_as rfl rfl rfl ?_
  refine x_end ?_
  refine nk_cut (e' := [(0, _), (2, _), (3, _), (4, _), (5, _), (10, _)]) [0, 2, 3, 4, 5, 10] rfl ?_
  refine nk_seq ?_
  refine ew_retS rfl rfl (.cons (.tmp rfl) .nil) ?_
  exact ⟨rfl, rfl, rfl⟩


theorem RBoxes_hc {H : Hp} :
  HC Try.prog 112 [] [] H (fun r S' H' => ∃ A c, r = .sl A 256 c ∧ S' = [.own A 5 (boxesR.map SV.u8) (c * 1)] ∧ 256 ≤ c ∧ H' = H) := by
 refine hc_intro (n := 14) Try.func112 rfl Try.ntmps112 rfl (fun B hB => ?_)
 refine ew_cut (e' := []) [] rfl ?_
 refine ew_seq ?_
 refine rg (.q 0 XT.done) (by kernel_rfl) (by kernel_rfl) ?_
 refine q_as (sv := .sl none 0 0) rfl rfl rfl ?_
 refine x_end ?_
 refine nk_cut (e' := [(0, _)]) [0] rfl ?_
 refine nk_seq ?_
 refine ew_seq ?_
 refine rg (.q 0 XT.done) (by kernel_rfl) (by kernel_rfl) ?_
 refine q_as (sv := .sl none 0 0) rfl rfl rfl ?_
 refine x_nil 5 ?_
 refine x_end ?_
 refine nk_cut (e' := [(0, _), (1, _)]) [0, 1] rfl ?_
 refine nk_seq ?_
 refine ew_seq ?_
 refine ew_seq ?_
 refine rg (.q 0 XT.done) (by kernel_rfl) (by kernel_rfl) ?_
 refine q_as (sv := .i 0) rfl rfl rfl ?_
 refine x_end ?_
 refine nk_cut (e' := [(0, _), (1, _), (2, _)]) [0, 1, 2] rfl ?_
 refine nk_seq ?_
 refine ew_block ?_
 let Ev1 : Nat × Option Addr × Nat → Env := fun ⟨k, A, c⟩ => [(2, .i (k : Int)), (1, .sl A k c)]
 let Sv1 : Nat × Option Addr × Nat → Res := fun ⟨k, A, c⟩ => [.own A 5 ((rgf fboxR k).map SV.u8) (c * 1)]
 let Gv1 : Nat × Option Addr × Nat → Hp → Prop := fun ⟨k, A, c⟩ H' => H = H' ∧ (k ≤ 256 ∧ k ≤ c)
 let Mv1 : Nat × Option Addr × Nat → Nat := fun ⟨k, A, c⟩ => 256 - k
 refine ew_loop (mkE [(0, _)] Ev1) (Sv1) Gv1 Mv1 (⟨0, none, 0⟩ : Nat × Option Addr × Nat) ⟨rfl, rfl, rfl, trivial⟩ rfl ⟨rfl, ⟨by omega, Nat.zero_le _⟩⟩ ?_
 rintro ⟨k, A, c⟩ H' ⟨rfl, hG⟩
 obtain ⟨hk, hkc⟩ := hG
 have hrl := rgf_len fboxR k
 refine ew_S (S' := [_]) rfl ?_
 refine ew_cut (e' := [(2, _), (1, _), (0, _)]) [2, 1, 0] rfl ?_
 refine ew_seq ?_
 refine ew_seq ?_
 refine rg (.q 0 (.q 1 XT.done)) (by kernel_rfl) (by kernel_rfl) ?_
 refine q_mv rfl rfl rfl ?_
 refine q_lt rfl rfl rfl rfl ?_
 refine x_end ?_
 refine nk_cut (e' := [(0, _), (1, _), (2, _), (4, _)]) [0, 1, 2, 4] rfl ?_
 refine nk_seq ?_
 refine ew_cond rfl ?_ ?_
 ·intro hc4
  try simp only [decide_eq_true_eq] at hc4
  refine ew_skip ?_
  refine nk_seq ?_
  refine ew_seq ?_
  refine ew_block ?_
  refine rg (.q 0 (.q 1 (.q 2 (.h 3 (.h 4 (.h 5 (.q 6 XT.done))))))) (by kernel_rfl) (by kernel_rfl) ?_
  refine q_mv rfl rfl rfl ?_
  refine q_mv rfl rfl rfl ?_
  refine q_cv_i_u8 Try.underlying5 (by kernel_rfl) rfl rfl rfl (by omega) ?_
  refine h_call0 Try.call153 rfl rfl rfl (RBox_hc) ?_
  rintro r_ S_ H hl1 ⟨rfl, rfl, rfl⟩
  refine ⟨kp0, ?_⟩
  refine x_S (S' := [_]) rfl ?_
  refine h_bs (cs := [_]) Try.underlying26 info_5 rfl rfl rfl rfl rfl rfl rfl rfl rfl (by decide) ?_
  intro g2
  refine ⟨kp0, ?_⟩
  refine h_appO (sz := 1) (S1 := [_]) 0 0 Try.underlying26 info_5 rfl rfl rfl (by decide) rfl rfl rfl rfl rfl rfl rfl rfl (by rw [List.length_map, hrl, Nat.mul_one]) hkc rfl (allOne rfl) (by simp only [by_5]; omega) (by omega) ?_
  intro A1 c1 hcap1
  refine ⟨kp0, ?_⟩
  refine x_S (S' := [_]) rfl ?_
  refine q_as rfl rfl rfl ?_
  refine x_end ?_
  refine nk_cut (e' := [(0, _), (1, _), (2, _), (4, _)]) [0, 1, 2, 4] rfl ?_
  refine nk_blk ?_
  refine nk_seq ?_
  refine rg (.q 0 (.q 1 (.q 2 XT.done))) (by kernel_rfl) (by kernel_rfl) ?_
  refine q_mv rfl rfl rfl ?_
  refine q_add rfl rfl rfl rfl (by omega) (by omega) ?_
  refine q_as rfl rfl rfl ?_
  refine x_end ?_
  refine nk_cut (e' := [(0, _), (1, _), (2, _), (4, _)]) [0, 1, 2, 4] rfl ?_
  refine nk_round (μ := Mv1) (i := (k, A, c)) (S := Sv1) (G := Gv1) (⟨k + 1, A1, c1⟩ : Nat × Option Addr × Nat) ?_ ?_ ?_ ?_
  ·exact ⟨rfl, rfl, rfl, trivial⟩
  ·exact (by dsimp only [Sv1]; rw [← rgf_map fboxR SV.u8 rfl] <;> rfl)
  ·exact ⟨rfl, ⟨by omega, by omega⟩⟩
  ·dsimp only [Mv1]; omega
 ·intro hc4
  try simp only [decide_eq_false_iff_not] at hc4
  have hk : k = 256 := by omega
  subst hk
  refine ew_exit _ rfl ?_
  refine nk_seq ?_
  refine ew_seq ?_
  refine rg (.q 0 (.q 1 XT.done)) (by kernel_rfl) (by kernel_rfl) ?_
  refine q_mv rfl rfl rfl ?_
  refine q_as rfl rfl rfl ?_
  refine x_end ?_
  refine nk_cut (e' := [(0, _), (1, _), (2, _), (4, _)]) [0, 1, 2, 4] rfl ?_
  refine nk_seq ?_
  refine ew_retk 0 rfl rfl (.cons (.tmp rfl) .nil) rfl rfl ?_
  exact ⟨A, c, rfl, rfl, hkc, rfl⟩


def bothR (a b : List UInt8) : List UInt8 := rgf (fun i => a.getD i 0 ^^^ b.getD i 0) a.length
theorem bothR_len (a b : List UInt8) : (bothR a b).length = a.length := rgf_len _ _

theorem RBoth_hc {H : Hp} {A1 A2 : Option Addr} {n1 c1 n2 c2 : Nat} {xs ys : List UInt8} (hx : BS H A1 n1 c1 xs) (hy : BS H A2 n2 c2 ys) (hn : n1 ≤ 1099511627776) (hle : n1 ≤ n2) :
  HC Try.prog 155 [.sl A1 n1 c1, .sl A2 n2 c2] [] H (fun r S' H' => ∃ A c, r = .sl A xs.length c ∧ S' = [.own A 5 ((bothR xs ys).map SV.u8) (c * 1)] ∧ xs.length ≤ c ∧ H' = H) := by
 have hlx := hx.len
 have hly := hy.len
 refine hc_intro (n := 26) Try.func155 rfl Try.ntmps155 rfl (fun B hB => ?_)
 refine ew_cut (e' := [(0, _), (1, _)]) [0, 1] rfl ?_
 refine ew_seq ?_
 refine rg (.q 0 XT.done) (by kernel_rfl) (by kernel_rfl) ?_
 refine q_as (sv := .sl none 0 0) rfl rfl rfl ?_
 refine x_end ?_
 refine nk_cut (e' := [(0, _), (1, _), (4, _)]) [0, 1, 4] rfl ?_
 refine nk_seq ?_
 refine ew_seq ?_
 refine rg (.q 0 XT.done) (by kernel_rfl) (by kernel_rfl) ?_
 refine q_as (sv := .sl none 0 0) rfl rfl rfl ?_
 refine x_nil 5 ?_
 refine x_end ?_
 refine nk_cut (e' := [(0, _), (1, _), (4, _), (5, _)]) [0, 1, 4, 5] rfl ?_
 refine nk_seq ?_
 refine ew_seq ?_
 refine ew_seq ?_
 refine rg (.q 0 XT.done) (by kernel_rfl) (by kernel_rfl) ?_
 refine q_as (sv := .i 0) rfl rfl rfl ?_
 refine x_end ?_
 refine nk_cut (e' := [(0, _), (1, _), (4, _), (5, _), (6, _)]) [0, 1, 4, 5, 6] rfl ?_
 refine nk_seq ?_
 refine ew_block ?_
 let Ev1 : Nat × Option Addr × Nat → Env := fun ⟨k, A, c⟩ => [(6, .i (k : Int)), (5, .sl A k c)]
 let Sv1 : Nat × Option Addr × Nat → Res := fun ⟨k, A, c⟩ => [.own A 5 ((rgf (fun i => xs.getD i 0 ^^^ ys.getD i 0) k).map SV.u8) (c * 1)]
 let Gv1 : Nat × Option Addr × Nat → Hp → Prop := fun ⟨k, A, c⟩ H' => H = H' ∧ (k ≤ n1 ∧ k ≤ c)
 let Mv1 : Nat × Option Addr × Nat → Nat := fun ⟨k, A, c⟩ => n1 - k
 refine ew_loop (mkE [(0, _), (1, _), (4, _)] Ev1) (Sv1) Gv1 Mv1 (⟨0, none, 0⟩ : Nat × Option Addr × Nat) ⟨rfl, rfl, rfl, rfl, rfl, trivial⟩ rfl ⟨rfl, ⟨by omega, Nat.zero_le _⟩⟩ ?_
 rintro ⟨k, A, c⟩ H' ⟨rfl, hG⟩
 obtain ⟨hk, hkc⟩ := hG
 have hrl := rgf_len (fun i => xs.getD i 0 ^^^ ys.getD i 0) k
 refine ew_S (S' := [_]) rfl ?_
 refine ew_cut (e' := [(6, _), (5, _), (0, _), (1, _), (4, _)]) [6, 5, 0, 1, 4] rfl ?_
 refine ew_seq ?_
 refine ew_seq ?_
 refine rg (.q 0 (.q 1 (.q 2 (.q 3 XT.done)))) (by kernel_rfl) (by kernel_rfl) ?_
 refine q_mv rfl rfl rfl ?_
 refine q_mv rfl rfl rfl ?_
 refine q_len Try.underlying26 rfl rfl rfl ?_
 refine q_lt rfl rfl rfl rfl ?_
 refine x_end ?_
 refine nk_cut (e' := [(0, _), (1, _), (4, _), (5, _), (6, _), (10, _)]) [0, 1, 4, 5, 6, 10] rfl ?_
 refine nk_seq ?_
 refine ew_cond rfl ?_ ?_
 ·intro hc10
  try simp only [decide_eq_true_eq] at hc10
  refine ew_skip ?_
  refine nk_seq ?_
  refine ew_seq ?_
  refine ew_block ?_
  refine rd (by kernel_rfl) [0, 1, 2, 3, 4, 5, 6, 7, 8, 9, 12] [0, 1, 2, 3, 4, 5, 6, 7, 8, 9, 10, 11, 12] (.q 0 (.q 1 (.q 2 (.q 3 (.q 4 (.q 5 (.q 6 (.q 7 (.q 8 (.q 9 (.h 10 (.h 11 (.q 12 XT.done))))))))))))) (by kernel_rfl) (by kernel_rfl) (keepL _ []) (keepL_sub _ _) ?_
  iterate 3 refine q_mv rfl rfl rfl ?_
  refine q_ixs1 Try.underlying26 Try.sizeOf5 rfl rfl rfl rfl rfl (hx.ne (by omega)) (by omega) (by omega) ?_
  refine q_ldp Try.isAgg5 rfl rfl rfl (hx.cell (j := k) (by omega)) ?_
  refine q_mv rfl rfl rfl ?_
  refine q_mv rfl rfl rfl ?_
  refine q_ixs1 Try.underlying26 Try.sizeOf5 rfl rfl rfl rfl rfl (hy.ne (by omega)) (by omega) (by omega) ?_
  refine q_ldp Try.isAgg5 rfl rfl rfl (hy.cell (j := k) (by omega)) ?_
  refine q_xor_u8 rfl rfl rfl rfl ?_
  refine h_bs (cs := [_]) Try.underlying26 info_5 rfl rfl rfl rfl rfl rfl rfl rfl rfl (by decide) ?_
  intro g2
  refine ⟨(fun _ => ⟨by first | exact kpL [] rfl | simp [keepL, nth], HLe.refl _⟩), ?_⟩
  refine h_appO (sz := 1) (S1 := [_]) 0 0 Try.underlying26 info_5 rfl rfl rfl (by decide) rfl rfl rfl rfl rfl rfl rfl rfl (by rw [List.length_map, hrl, Nat.mul_one]) hkc rfl (allOne rfl) (by simp only [by_5]; omega) (by omega) ?_
  intro A1 c1 hcap1
  refine ⟨(fun _ => ⟨by first | exact kpL [] rfl | simp [keepL, nth], HLe.refl _⟩), ?_⟩
  refine x_S (S' := [_]) rfl ?_
  refine q_as rfl rfl rfl ?_
  refine x_end ?_
  refine nk_cut (e' := [(0, _), (1, _), (4, _), (5, _), (6, _), (10, _)]) [0, 1, 4, 5, 6, 10] rfl ?_
  refine nk_blk ?_
  refine nk_seq ?_
  refine rg (.q 0 (.q 1 (.q 2 XT.done))) (by kernel_rfl) (by kernel_rfl) ?_
  refine q_mv rfl rfl rfl ?_
  refine q_add rfl rfl rfl rfl (by omega) (by omega) ?_
  refine q_as rfl rfl rfl ?_
  refine x_end ?_
  refine nk_cut (e' := [(0, _), (1, _), (4, _), (5, _), (6, _), (10, _)]) [0, 1, 4, 5, 6, 10] rfl ?_
  refine nk_round (μ := Mv1) (i := (k, A, c)) (S := Sv1) (G := Gv1) (⟨k + 1, A1, c1⟩ : Nat × Option Addr × Nat) ?_ ?_ ?_ ?_
  ·exact ⟨rfl, rfl, rfl, rfl, rfl, trivial⟩
  ·exact (by dsimp only [Sv1]; rw [← rgf_map (fun i => xs.getD i 0 ^^^ ys.getD i 0) SV.u8 rfl] <;> rfl)
  ·exact ⟨rfl, ⟨by omega, by omega⟩⟩
  ·dsimp only [Mv1]; omega
 ·intro hc10
  try simp only [decide_eq_false_iff_not] at hc10
  have hk : k = xs.length := by omega
  subst hk
  refine ew_exit _ rfl ?_
  refine nk_seq ?_
  refine ew_seq ?_
  refine rg (.q 0 (.q 1 XT.done)) (by kernel_rfl) (by kernel_rfl) ?_
  refine q_mv rfl rfl rfl ?_
  refine q_as rfl rfl rfl ?_
  refine x_end ?_
  refine nk_cut (e' := [(0, _), (1, _), (4, _), (5, _), (6, _), (10, _)]) [0, 1, 4, 5, 6, 10] rfl ?_
  refine nk_seq ?_
  refine ew_retk 0 rfl rfl (.cons (.tmp rfl) .nil) rfl rfl ?_
  exact ⟨A, c, rfl, rfl, hkc, rfl⟩

end Go.GW
