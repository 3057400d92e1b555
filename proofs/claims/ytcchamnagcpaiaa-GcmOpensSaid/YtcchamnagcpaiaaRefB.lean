/- Contracts of functions of the loaded program, printed by our own program gen.py. -/
import Derived.Test.YtcchamnagcpaiaaRefA
namespace Go.GW
open Go Go.Proofs
set_option linter.unusedSimpArgs false
set_option linter.unusedVariables false


def shR (bx b : List UInt8) (i : Nat) : UInt8 := bx.getD (b.getD (4 * ((i / 4 + i % 4) % 4) + i % 4) 0).toNat 0
def shiftedR (bx b : List UInt8) : List UInt8 := rgf (shR bx b) 16
theorem sh_at (bx b : List UInt8) {q r : Nat} (h : r < 4) : bx.getD (b.getD (4 * ((q + r) % 4) + r) 0).toNat 0 = shR bx b (4 * q + r) := by
  unfold shR
  rw [show (4 * q + r) / 4 = q by omega, show (4 * q + r) % 4 = r by omega]
def mxAt (b : List UInt8) (q r : Nat) : UInt8 := timesR (b.getD (4 * q + r) 0) 2 ^^^ timesR (b.getD (4 * q + (r + 1) % 4) 0) 3 ^^^ b.getD (4 * q + (r + 2) % 4) 0 ^^^ b.getD (4 * q + (r + 3) % 4) 0
def mixedR (b : List UInt8) : List UInt8 := rgf (fun i => mxAt b (i / 4) (i % 4)) 16
theorem mx_at (b : List UInt8) {q r : Nat} (h : r < 4) : mxAt b q r = (fun i => mxAt b (i / 4) (i % 4)) (4 * q + r) := by
  simp only
  rw [show (4 * q + r) / 4 = q by omega, show (4 * q + r) % 4 = r by omega]
theorem shiftedR_len (bx b : List UInt8) : (shiftedR bx b).length = 16 := rgf_len _ _
theorem mixedR_len (b : List UInt8) : (mixedR b).length = 16 := rgf_len _ _

theorem RShift_hc {H : Hp} {A1 A2 : Option Addr} {c1 c2 : Nat} {bx b : List UInt8} (hbx : BS H A1 256 c1 bx) (hb : BS H A2 16 c2 b) :
  HC Try.prog 158 [.sl A1 256 c1, .sl A2 16 c2] [] H (fun r S' H' => ∃ A c, r = .sl A 16 c ∧ S' = [.own A 5 ((shiftedR bx b).map SV.u8) (c * 1)] ∧ 16 ≤ c ∧ H' = H) := by
 refine hc_intro (n := 33) Try.func158 rfl Try.ntmps158 rfl (fun B hB => ?_)
 refine ew_cut (e' := [(0, _), (1, _)]) [0, 1] rfl ?_
 refine ew_seq ?_
 refine rg (.q 0 XT.done) (by kernel_rfl) (by kernel_rfl) ?_
 refine q_as (sv := .sl none 0 0) rfl rfl rfl ?_
 refine x_end ?_
 refine nk_cut (e' := [(0, _), (1, _), (4, _)]) [0, 1, 4] rfl ?_
 refine nk_seq ?_
 refine ew_seq ?_
 refine rg (.q 0 XT.done) (by kernel_rfl) (by kernel_rfl) ?_
 refine q_as (sv := .sl none 0 0) rfl rfl rfl ?_
 refine x_nil 5 ?_
 refine x_end ?_
 refine nk_cut (e' := [(0, _), (1, _), (4, _), (5, _)]) [0, 1, 4, 5] rfl ?_
 refine nk_seq ?_
 refine ew_seq ?_
 refine ew_seq ?_
 refine rg (.q 0 XT.done) (by kernel_rfl) (by kernel_rfl) ?_
 refine q_as (sv := .i 0) rfl rfl rfl ?_
 refine x_end ?_
 refine nk_cut (e' := [(0, _), (1, _), (4, _), (5, _), (6, _)]) [0, 1, 4, 5, 6] rfl ?_
 refine nk_seq ?_
 refine ew_block ?_
 let Ev1 : Nat × Option Addr × Nat → Env := fun ⟨q, A, c⟩ => [(6, .i (q : Int)), (5, .sl A (4 * q) c)]
 let Sv1 : Nat × Option Addr × Nat → Res := fun ⟨q, A, c⟩ => [.own A 5 ((rgf (shR bx b) (4 * q)).map SV.u8) (c * 1)]
 let Gv1 : Nat × Option Addr × Nat → Hp → Prop := fun ⟨q, A, c⟩ H' => H = H' ∧ (q ≤ 4 ∧ 4 * q ≤ c)
 let Mv1 : Nat × Option Addr × Nat → Nat := fun ⟨q, A, c⟩ => 4 - q
 refine ew_loop (mkE [(0, _), (1, _), (4, _)] Ev1) (Sv1) Gv1 Mv1 (⟨0, none, 0⟩ : Nat × Option Addr × Nat) ⟨rfl, rfl, rfl, rfl, rfl, trivial⟩ rfl ⟨rfl, ⟨by omega, Nat.zero_le _⟩⟩ ?_
 rintro ⟨q, A, c⟩ H' ⟨rfl, hG⟩
 obtain ⟨hq, hqc⟩ := hG
 refine ew_S (S' := [_]) rfl ?_
 refine ew_cut (e' := [(6, _), (5, _), (0, _), (1, _), (4, _)]) [6, 5, 0, 1, 4] rfl ?_
 refine ew_seq ?_
 refine ew_seq ?_
 refine rg (.q 0 (.q 1 XT.done)) (by kernel_rfl) (by kernel_rfl) ?_
 refine q_mv rfl rfl rfl ?_
 refine q_lt rfl rfl rfl rfl ?_
 refine x_end ?_
 refine nk_cut (e' := [(0, _), (1, _), (4, _), (5, _), (6, _), (9, _)]) [0, 1, 4, 5, 6, 9] rfl ?_
 refine nk_seq ?_
 refine ew_cond rfl ?_ ?_
 ·intro hc9
  try simp only [decide_eq_true_eq] at hc9
  refine ew_skip ?_
  refine nk_seq ?_
  refine ew_seq ?_
  refine ew_block ?_
  refine ew_seq ?_
  refine rg (.q 0 XT.done) (by kernel_rfl) (by kernel_rfl) ?_
  refine q_as (sv := .i 0) rfl rfl rfl ?_
  refine x_end ?_
  refine nk_cut (e' := [(0, _), (1, _), (4, _), (5, _), (6, _), (7, _), (9, _)]) [0, 1, 4, 5, 6, 7, 9] rfl ?_
  refine nk_seq ?_
  refine ew_block ?_
  let Ev2 : Nat × Option Addr × Nat → Env := fun ⟨k, A2, c2⟩ => [(7, .i (k : Int)), (5, .sl A2 (4 * q + k) c2)]
  let Sv2 : Nat × Option Addr × Nat → Res := fun ⟨k, A2, c2⟩ => [.own A2 5 ((rgf (shR bx b) (4 * q + k)).map SV.u8) (c2 * 1)]
  let Gv2 : Nat × Option Addr × Nat → Hp → Prop := fun ⟨k, A2, c2⟩ H' => H = H' ∧ (k ≤ 4 ∧ 4 * q + k ≤ c2)
  let Mv2 : Nat × Option Addr × Nat → Nat := fun ⟨k, A2, c2⟩ => 4 - k
  refine ew_loop (mkE [(0, _), (1, _), (4, _), (6, _), (9, _)] Ev2) (Sv2) Gv2 Mv2 (⟨0, A, c⟩ : Nat × Option Addr × Nat) ⟨rfl, rfl, rfl, rfl, rfl, rfl, rfl, trivial⟩ rfl ⟨rfl, ⟨by omega, by omega⟩⟩ ?_
  rintro ⟨k, A2, c2⟩ H' ⟨rfl, hG⟩
  obtain ⟨hk, hkc⟩ := hG
  have hrl := rgf_len (shR bx b) (4 * q + k)
  refine ew_S (S' := [_]) rfl ?_
  refine ew_cut (e' := [(7, _), (5, _), (0, _), (1, _), (4, _), (6, _), (9, _)]) [7, 5, 0, 1, 4, 6, 9] rfl ?_
  refine ew_seq ?_
  refine ew_seq ?_
  refine rg (.q 0 (.q 1 XT.done)) (by kernel_rfl) (by kernel_rfl) ?_
  refine q_mv rfl rfl rfl ?_
  refine q_lt rfl rfl rfl rfl ?_
  refine x_end ?_
  refine nk_cut (e' := [(0, _), (1, _), (4, _), (5, _), (6, _), (7, _), (9, _), (13, _)]) [0, 1, 4, 5, 6, 7, 9, 13] rfl ?_
  refine nk_seq ?_
  refine ew_cond rfl ?_ ?_
  ·intro hc13
   try simp only [decide_eq_true_eq] at hc13
   refine ew_skip ?_
   refine nk_seq ?_
   refine ew_seq ?_
   refine ew_block ?_
   refine rg (.q 0 (.q 1 (.q 2 (.q 3 (.q 4 (.q 5 (.q 6 (.q 7 (.q 8 (.q 9 (.q 10 (.q 11 (.q 12 (.q 13 (.h 14 (.h 15 (.q 16 XT.done))))))))))))))))) (by kernel_rfl) (by kernel_rfl) ?_
   iterate 5 refine q_mv rfl rfl rfl ?_
   refine q_add rfl rfl rfl rfl (by omega) (by omega) ?_
   refine q_rem rfl rfl rfl rfl (by omega) (by omega) (by omega) ?_
   refine q_mul rfl rfl rfl rfl (by omega) (by omega) ?_
   refine q_mv rfl rfl rfl ?_
   refine q_add rfl rfl rfl rfl (by omega) (by omega) ?_
   refine q_ixs1 Try.underlying26 Try.sizeOf5 rfl rfl rfl rfl rfl (hb.ne (by omega)) (by omega) (by omega) ?_
   refine q_ldp Try.isAgg5 rfl rfl rfl (hb.cell (j := 4 * ((q + k) % 4) + k) (by omega)) ?_
   refine q_ixs1 Try.underlying26 Try.sizeOf5 rfl rfl rfl rfl rfl (hbx.ne (by omega)) (by omega) (by have := u8_lt (b.getD (4 * ((q + k) % 4) + k) 0); omega) ?_
   refine q_ldp Try.isAgg5 rfl rfl rfl (hbx.cell (j := (b.getD (4 * ((q + k) % 4) + k) 0).toNat) (UInt8.toNat_lt _)) ?_
   refine h_bs (cs := [_]) Try.underlying26 info_5 rfl rfl rfl rfl rfl rfl rfl rfl rfl (by decide) ?_
   intro g2
   refine ⟨kp0, ?_⟩
   refine h_appO (sz := 1) (S1 := [_]) 0 0 Try.underlying26 info_5 rfl rfl rfl (by decide) rfl rfl rfl rfl rfl rfl rfl rfl (by rw [List.length_map, hrl, Nat.mul_one]) hkc rfl (allOne rfl) (by simp only [by_5]; omega) (by omega) ?_
   intro A1 c1 hcap1
   refine ⟨kp0, ?_⟩
   refine x_S (S' := [_]) rfl ?_
   refine q_as rfl rfl rfl ?_
   refine x_end ?_
   refine nk_cut (e' := [(0, _), (1, _), (4, _), (5, _), (6, _), (7, _), (9, _), (13, _)]) [0, 1, 4, 5, 6, 7, 9, 13] rfl ?_
   refine nk_blk ?_
   refine nk_seq ?_
   refine rg (.q 0 (.q 1 (.q 2 XT.done))) (by kernel_rfl) (by kernel_rfl) ?_
   refine q_mv rfl rfl rfl ?_
   refine q_add rfl rfl rfl rfl (by omega) (by omega) ?_
   refine q_as rfl rfl rfl ?_
   refine x_end ?_
   refine nk_cut (e' := [(0, _), (1, _), (4, _), (5, _), (6, _), (7, _), (9, _), (13, _)]) [0, 1, 4, 5, 6, 7, 9, 13] rfl ?_
   refine nk_round (μ := Mv2) (i := (k, A2, c2)) (S := Sv2) (G := Gv2) (⟨k + 1, A1, c1⟩ : Nat × Option Addr × Nat) ?_ ?_ ?_ ?_
   ·exact ⟨rfl, rfl, rfl, rfl, rfl, rfl, rfl, trivial⟩
   ·exact (by dsimp only [Sv2]; rw [show 4 * q + (k + 1) = 4 * q + k + 1 by omega, ← rgf_map (shR bx b) SV.u8 (sh_at bx b (q := q) (r := k) (by omega))] <;> rfl)
   ·exact ⟨rfl, ⟨by omega, by omega⟩⟩
   ·dsimp only [Mv2]; omega
  ·intro hc13
   try simp only [decide_eq_false_iff_not] at hc13
   have hk4 : k = 4 := by omega
   subst hk4
   refine ew_exit _ rfl ?_
   refine nk_blk ?_
   refine nk_seq ?_
   refine rg (.q 0 (.q 1 (.q 2 XT.done))) (by kernel_rfl) (by kernel_rfl) ?_
   refine q_mv rfl rfl rfl ?_
   refine q_add rfl rfl rfl rfl (by omega) (by omega) ?_
   refine q_as rfl rfl rfl ?_
   refine x_end ?_
   refine nk_cut (e' := [(0, _), (1, _), (4, _), (5, _), (6, _), (7, _), (9, _), (13, _)]) [0, 1, 4, 5, 6, 7, 9, 13] rfl ?_
   refine nk_round (μ := Mv1) (i := (q, A, c)) (S := Sv1) (G := Gv1) (⟨q + 1, A2, c2⟩ : Nat × Option Addr × Nat) ?_ ?_ ?_ ?_
   ·exact ⟨rfl, congrArg (fun z => some (SV.sl _ z _)) (by omega), rfl, rfl, rfl, trivial⟩
   ·exact (by dsimp only [Sv1]; rw [show 4 * (q + 1) = 4 * q + 4 by omega])
   ·exact ⟨rfl, ⟨by omega, by omega⟩⟩
   ·dsimp only [Mv1]; omega
 ·intro hc9
  try simp only [decide_eq_false_iff_not] at hc9
  have hq4 : q = 4 := by omega
  subst hq4
  refine ew_exit _ rfl ?_
  refine nk_seq ?_
  refine ew_seq ?_
  refine rg (.q 0 (.q 1 XT.done)) (by kernel_rfl) (by kernel_rfl) ?_
  refine q_mv rfl rfl rfl ?_
  refine q_as rfl rfl rfl ?_
  refine x_end ?_
  refine nk_cut (e' := [(0, _), (1, _), (4, _), (5, _), (6, _), (9, _)]) [0, 1, 4, 5, 6, 9] rfl ?_
  refine nk_seq ?_
  refine ew_retk 0 rfl rfl (.cons (.tmp rfl) .nil) rfl rfl ?_
  exact ⟨A, c, rfl, rfl, hqc, rfl⟩


theorem RMix_hc {H : Hp} {A2 : Option Addr} {c2 : Nat} {b : List UInt8} (hb : BS H A2 16 c2 b) :
  HC Try.prog 157 [.sl A2 16 c2] [] H (fun r S' H' => ∃ A c, r = .sl A 16 c ∧ S' = [.own A 5 ((mixedR b).map SV.u8) (c * 1)] ∧ 16 ≤ c ∧ H' = H) := by
 refine hc_intro (n := 58) Try.func157 rfl Try.ntmps157 rfl (fun B hB => ?_)
 refine ew_cut (e' := [(0, _)]) [0] rfl ?_
 refine ew_seq ?_
 refine rg (.q 0 XT.done) (by kernel_rfl) (by kernel_rfl) ?_
 refine q_as (sv := .sl none 0 0) rfl rfl rfl ?_
 refine x_end ?_
 refine nk_cut (e' := [(0, _), (2, _)]) [0, 2] rfl ?_
 refine nk_seq ?_
 refine ew_seq ?_
 refine rg (.q 0 XT.done) (by kernel_rfl) (by kernel_rfl) ?_
 refine q_as (sv := .sl none 0 0) rfl rfl rfl ?_
 refine x_nil 5 ?_
 refine x_end ?_
 refine nk_cut (e' := [(0, _), (2, _), (3, _)]) [0, 2, 3] rfl ?_
 refine nk_seq ?_
 refine ew_seq ?_
 refine ew_seq ?_
 refine rg (.q 0 XT.done) (by kernel_rfl) (by kernel_rfl) ?_
 refine q_as (sv := .i 0) rfl rfl rfl ?_
 refine x_end ?_
 refine nk_cut (e' := [(0, _), (2, _), (3, _), (4, _)]) [0, 2, 3, 4] rfl ?_
 refine nk_seq ?_
 refine ew_block ?_
 let Ev1 : Nat × Option Addr × Nat → Env := fun ⟨q, A, c⟩ => [(4, .i (q : Int)), (3, .sl A (4 * q) c)]
 let Sv1 : Nat × Option Addr × Nat → Res := fun ⟨q, A, c⟩ => [.own A 5 ((rgf (fun i => mxAt b (i / 4) (i % 4)) (4 * q)).map SV.u8) (c * 1)]
 let Gv1 : Nat × Option Addr × Nat → Hp → Prop := fun ⟨q, A, c⟩ H' => H = H' ∧ (q ≤ 4 ∧ 4 * q ≤ c)
 let Mv1 : Nat × Option Addr × Nat → Nat := fun ⟨q, A, c⟩ => 4 - q
 refine ew_loop (mkE [(0, _), (2, _)] Ev1) (Sv1) Gv1 Mv1 (⟨0, none, 0⟩ : Nat × Option Addr × Nat) ⟨rfl, rfl, rfl, rfl, trivial⟩ rfl ⟨rfl, ⟨by omega, Nat.zero_le _⟩⟩ ?_
 rintro ⟨q, A, c⟩ H' ⟨rfl, hG⟩
 obtain ⟨hq, hqc⟩ := hG
 refine ew_S (S' := [_]) rfl ?_
 refine ew_cut (e' := [(4, _), (3, _), (0, _), (2, _)]) [4, 3, 0, 2] rfl ?_
 refine ew_seq ?_
 refine ew_seq ?_
 refine rg (.q 0 (.q 1 XT.done)) (by kernel_rfl) (by kernel_rfl) ?_
 refine q_mv rfl rfl rfl ?_
 refine q_lt rfl rfl rfl rfl ?_
 refine x_end ?_
 refine nk_cut (e' := [(0, _), (2, _), (3, _), (4, _), (9, _)]) [0, 2, 3, 4, 9] rfl ?_
 refine nk_seq ?_
 refine ew_cond rfl ?_ ?_
 ·intro hc9
  try simp only [decide_eq_true_eq] at hc9
  refine ew_skip ?_
  refine nk_seq ?_
  refine ew_seq ?_
  refine ew_block ?_
  refine ew_seq ?_
  refine rg (.q 0 XT.done) (by kernel_rfl) (by kernel_rfl) ?_
  refine q_as (sv := .i 0) rfl rfl rfl ?_
  refine x_end ?_
  refine nk_cut (e' := [(0, _), (2, _), (3, _), (4, _), (5, _), (9, _)]) [0, 2, 3, 4, 5, 9] rfl ?_
  refine nk_seq ?_
  refine ew_block ?_
  let Ev2 : Nat × Option Addr × Nat → Env := fun ⟨k, A2, c2⟩ => [(5, .i (k : Int)), (3, .sl A2 (4 * q + k) c2)]
  let Sv2 : Nat × Option Addr × Nat → Res := fun ⟨k, A2, c2⟩ => [.own A2 5 ((rgf (fun i => mxAt b (i / 4) (i % 4)) (4 * q + k)).map SV.u8) (c2 * 1)]
  let Gv2 : Nat × Option Addr × Nat → Hp → Prop := fun ⟨k, A2, c2⟩ H' => H = H' ∧ (k ≤ 4 ∧ 4 * q + k ≤ c2)
  let Mv2 : Nat × Option Addr × Nat → Nat := fun ⟨k, A2, c2⟩ => 4 - k
  refine ew_loop (mkE [(0, _), (2, _), (4, _), (9, _)] Ev2) (Sv2) Gv2 Mv2 (⟨0, A, c⟩ : Nat × Option Addr × Nat) ⟨rfl, rfl, rfl, rfl, rfl, rfl, trivial⟩ rfl ⟨rfl, ⟨by omega, by omega⟩⟩ ?_
  rintro ⟨k, A2, c2⟩ H' ⟨rfl, hG⟩
  obtain ⟨hk, hkc⟩ := hG
  have hrl := rgf_len (fun i => mxAt b (i / 4) (i % 4)) (4 * q + k)
  refine ew_S (S' := [_]) rfl ?_
  refine ew_cut (e' := [(5, _), (3, _), (0, _), (2, _), (4, _), (9, _)]) [5, 3, 0, 2, 4, 9] rfl ?_
  refine ew_seq ?_
  refine ew_seq ?_
  refine rg (.q 0 (.q 1 XT.done)) (by kernel_rfl) (by kernel_rfl) ?_
  refine q_mv rfl rfl rfl ?_
  refine q_lt rfl rfl rfl rfl ?_
  refine x_end ?_
  refine nk_cut (e' := [(0, _), (2, _), (3, _), (4, _), (5, _), (9, _), (13, _)]) [0, 2, 3, 4, 5, 9, 13] rfl ?_
  refine nk_seq ?_
  refine ew_cond rfl ?_ ?_
  ·intro hc13
   try simp only [decide_eq_true_eq] at hc13
   refine ew_skip ?_
   refine nk_seq ?_
   refine ew_seq ?_
   refine ew_block ?_
   refine ew_seq ?_
   refine rg (.q 0 (.q 1 (.q 2 XT.done))) (by kernel_rfl) (by kernel_rfl) ?_
   refine q_mv rfl rfl rfl ?_
   refine q_mul rfl rfl rfl rfl (by omega) (by omega) ?_
   refine q_as rfl rfl rfl ?_
   refine x_end ?_
   refine nk_cut (e' := [(0, _), (2, _), (3, _), (4, _), (5, _), (6, _), (9, _), (13, _)]) [0, 2, 3, 4, 5, 6, 9, 13] rfl ?_
   refine nk_seq ?_
   refine ew_seq ?_
   refine rd (by kernel_rfl) [0, 1, 2, 3, 4, 5, 7, 8, 9, 10, 11, 12, 13, 14, 16, 17, 18, 19, 20, 21, 22, 23, 24, 25, 26, 27, 28, 29, 30, 31, 32, 33, 34, 35] [0, 1, 2, 3, 4, 5, 6, 7, 8, 9, 10, 11, 12, 13, 14, 15, 16, 17, 18, 19, 20, 21, 22, 23, 24, 25, 26, 27, 28, 29, 30, 31, 32, 33, 34, 35] (.q 0 (.q 1 (.q 2 (.q 3 (.q 4 (.q 5 (.q 7 (.q 8 (.q 9 (.q 10 (.q 11 (.q 12 (.q 13 (.q 14 (.q 17 (.q 18 (.q 19 (.q 20 (.q 21 (.q 22 (.q 23 (.q 24 (.q 26 (.q 27 (.q 28 (.q 29 (.q 30 (.q 31 (.q 32 (.q 33 (.h 6 (.h 15 (.q 16 (.q 25 (.q 34 (.q 35 XT.done)))))))))))))))))))))))))))))))))))) (by kernel_rfl) (by kernel_rfl) (keepL _ []) (keepL_sub _ _) ?_
   iterate 3 refine q_mv rfl rfl rfl ?_
   refine q_add rfl rfl rfl rfl (by omega) (by omega) ?_
   refine q_ixs1 Try.underlying26 Try.sizeOf5 rfl rfl rfl rfl rfl (hb.ne (by omega)) (by omega) (by omega) ?_
   refine q_ldp Try.isAgg5 rfl rfl rfl (hb.cell (j := 4 * q + k) (by omega)) ?_
   iterate 3 refine q_mv rfl rfl rfl ?_
   refine q_add rfl rfl rfl rfl (by omega) (by omega) ?_
   refine q_rem rfl rfl rfl rfl (by omega) (by omega) (by omega) ?_
   refine q_add rfl rfl rfl rfl (by omega) (by omega) ?_
   refine q_ixs1 Try.underlying26 Try.sizeOf5 rfl rfl rfl rfl rfl (hb.ne (by omega)) (by omega) (by omega) ?_
   refine q_ldp Try.isAgg5 rfl rfl rfl (hb.cell (j := 4 * q + (k + 1) % 4) (by omega)) ?_
   iterate 3 refine q_mv rfl rfl rfl ?_
   refine q_add rfl rfl rfl rfl (by omega) (by omega) ?_
   refine q_rem rfl rfl rfl rfl (by omega) (by omega) (by omega) ?_
   refine q_add rfl rfl rfl rfl (by omega) (by omega) ?_
   refine q_ixs1 Try.underlying26 Try.sizeOf5 rfl rfl rfl rfl rfl (hb.ne (by omega)) (by omega) (by omega) ?_
   refine q_ldp Try.isAgg5 rfl rfl rfl (hb.cell (j := 4 * q + (k + 2) % 4) (by omega)) ?_
   iterate 3 refine q_mv rfl rfl rfl ?_
   refine q_add rfl rfl rfl rfl (by omega) (by omega) ?_
   refine q_rem rfl rfl rfl rfl (by omega) (by omega) (by omega) ?_
   refine q_add rfl rfl rfl rfl (by omega) (by omega) ?_
   refine q_ixs1 Try.underlying26 Try.sizeOf5 rfl rfl rfl rfl rfl (hb.ne (by omega)) (by omega) (by omega) ?_
   refine q_ldp Try.isAgg5 rfl rfl rfl (hb.cell (j := 4 * q + (k + 3) % 4) (by omega)) ?_
   refine h_call0 Try.call154 rfl rfl rfl (RTm8_hc) ?_
   rintro r_ S_ H hl1 ⟨rfl, rfl, rfl⟩
   refine ⟨(fun _ => ⟨by first | exact kpL [] rfl | simp [keepL, nth], HLe.refl _⟩), ?_⟩
   refine x_S (S' := [_]) rfl ?_
   refine h_call0 Try.call154 rfl rfl rfl (RTm8_hc) ?_
   rintro r_ S_ H hl2 ⟨rfl, rfl, rfl⟩
   refine ⟨(fun _ => ⟨by first | exact kpL [] rfl | simp [keepL, nth], HLe.refl _⟩), ?_⟩
   refine x_S (S' := [_]) rfl ?_
   iterate 3 refine q_xor_u8 rfl rfl rfl rfl ?_
   refine q_as rfl rfl rfl ?_
   refine x_end ?_
   refine nk_cut (e' := [(0, _), (2, _), (3, _), (4, _), (5, _), (6, _), (7, _), (9, _), (13, _)]) [0, 2, 3, 4, 5, 6, 7, 9, 13] rfl ?_
   refine nk_seq ?_
   refine rg (.q 0 (.q 1 (.h 2 (.h 3 (.q 4 XT.done))))) (by kernel_rfl) (by kernel_rfl) ?_
   refine q_mv rfl rfl rfl ?_
   refine q_mv rfl rfl rfl ?_
   refine h_bs (cs := [_]) Try.underlying26 info_5 rfl rfl rfl rfl rfl rfl rfl rfl rfl (by decide) ?_
   intro g2
   refine ⟨kp0, ?_⟩
   refine h_appO (sz := 1) (S1 := [_]) 0 0 Try.underlying26 info_5 rfl rfl rfl (by decide) rfl rfl rfl rfl rfl rfl rfl rfl (by rw [List.length_map, hrl, Nat.mul_one]) hkc rfl (allOne rfl) (by simp only [by_5]; omega) (by omega) ?_
   intro A1 c1 hcap1
   refine ⟨kp0, ?_⟩
   refine x_S (S' := [_]) rfl ?_
   refine q_as rfl rfl rfl ?_
   refine x_end ?_
   refine nk_cut (e' := [(0, _), (2, _), (3, _), (4, _), (5, _), (6, _), (7, _), (9, _), (13, _)]) [0, 2, 3, 4, 5, 6, 7, 9, 13] rfl ?_
   refine nk_blk ?_
   refine nk_seq ?_
   refine rg (.q 0 (.q 1 (.q 2 XT.done))) (by kernel_rfl) (by kernel_rfl) ?_
   refine q_mv rfl rfl rfl ?_
   refine q_add rfl rfl rfl rfl (by omega) (by omega) ?_
   refine q_as rfl rfl rfl ?_
   refine x_end ?_
   refine nk_cut (e' := [(0, _), (2, _), (3, _), (4, _), (5, _), (6, _), (7, _), (9, _), (13, _)]) [0, 2, 3, 4, 5, 6, 7, 9, 13] rfl ?_
   refine nk_round (μ := Mv2) (i := (k, A2, c2)) (S := Sv2) (G := Gv2) (⟨k + 1, A1, c1⟩ : Nat × Option Addr × Nat) ?_ ?_ ?_ ?_
   ·exact ⟨rfl, rfl, rfl, rfl, rfl, rfl, trivial⟩
   ·exact (by dsimp only [Sv2]; rw [show 4 * q + (k + 1) = 4 * q + k + 1 by omega, ← rgf_map (fun i => mxAt b (i / 4) (i % 4)) SV.u8 (mx_at b (q := q) (r := k) (by omega))] <;> rfl)
   ·exact ⟨rfl, ⟨by omega, by omega⟩⟩
   ·dsimp only [Mv2]; omega
  ·intro hc13
   try simp only [decide_eq_false_iff_not] at hc13
   have hk4 : k = 4 := by omega
   subst hk4
   refine ew_exit _ rfl ?_
   refine nk_blk ?_
   refine nk_seq ?_
   refine rg (.q 0 (.q 1 (.q 2 XT.done))) (by kernel_rfl) (by kernel_rfl) ?_
   refine q_mv rfl rfl rfl ?_
   refine q_add rfl rfl rfl rfl (by omega) (by omega) ?_
   refine q_as rfl rfl rfl ?_
   refine x_end ?_
   refine nk_cut (e' := [(0, _), (2, _), (3, _), (4, _), (5, _), (9, _), (13, _)]) [0, 2, 3, 4, 5, 9, 13] rfl ?_
   refine nk_round (μ := Mv1) (i := (q, A, c)) (S := Sv1) (G := Gv1) (⟨q + 1, A2, c2⟩ : Nat × Option Addr × Nat) ?_ ?_ ?_ ?_
   ·exact ⟨rfl, congrArg (fun z => some (SV.sl _ z _)) (by omega), rfl, rfl, trivial⟩
   ·exact (by dsimp only [Sv1]; rw [show 4 * (q + 1) = 4 * q + 4 by omega])
   ·exact ⟨rfl, ⟨by omega, by omega⟩⟩
   ·dsimp only [Mv1]; omega
 ·intro hc9
  try simp only [decide_eq_false_iff_not] at hc9
  have hq4 : q = 4 := by omega
  subst hq4
  refine ew_exit _ rfl ?_
  refine nk_seq ?_
  refine ew_seq ?_
  refine rg (.q 0 (.q 1 XT.done)) (by kernel_rfl) (by kernel_rfl) ?_
  refine q_mv rfl rfl rfl ?_
  refine q_as rfl rfl rfl ?_
  refine x_end ?_
  refine nk_cut (e' := [(0, _), (2, _), (3, _), (4, _), (9, _)]) [0, 2, 3, 4, 9] rfl ?_
  refine nk_seq ?_
  refine ew_retk 0 rfl rfl (.cons (.tmp rfl) .nil) rfl rfl ?_
  exact ⟨A, c, rfl, rfl, hqc, rfl⟩


structure WS (H : Hp) (A : Option Addr) (n c : Nat) (ws : List (List UInt8)) (ps : List Sli) : Prop where
  bss : BSS H A n c ps
  xs : ps.map (·.xs) = ws
  four : ∀ w ∈ ws, w.length = 4
theorem WS.mono {H H' : Hp} {A : Option Addr} {n c : Nat} {ws : List (List UInt8)} {ps : List Sli} (h : WS H A n c ws ps) (hle : HLe H H') : WS H' A n c ws ps := ⟨h.bss.mono hle, h.xs, h.four⟩
theorem WS.at_ {H : Hp} {A : Option Addr} {n c : Nat} {ws : List (List UInt8)} {ps : List Sli} (h : WS H A n c ws ps) {j : Nat} (hj : j < n) : BS H (ps.getD j default).A (ps.getD j default).n (ps.getD j default).c (ws.getD j []) ∧ (ws.getD j []).length = 4 := by
  have hb := h.bss.at_ hj
  have hl := h.bss.len
  have e : (ps.getD j default).xs = ws.getD j [] := by
    rw [← h.xs]
    simp [show j < ps.length by omega]
  rw [e] at hb
  refine ⟨hb, h.four _ ?_⟩
  rw [← h.xs]
  have : (ps.map (·.xs)).getD j [] = (ps[j]'(by omega)).xs := by simp [show j < ps.length by omega]
  rw [this]
  exact List.mem_map.2 ⟨_, List.getElem_mem _, rfl⟩
def rkR (ws : List (List UInt8)) (r : Nat) : Nat → List UInt8
  | 0 => []
  | i + 1 => rkR ws r i ++ ws.getD (4 * r + i) []

theorem RRk_hc {H : Hp} {A0 : Option Addr} {c0 : Nat} {ws : List (List UInt8)} {ps : List Sli} (hw : WS H A0 60 c0 ws ps) {r : Int} (hr : 0 ≤ r) (hr2 : r ≤ 14) :
  HC Try.prog 156 [.sl A0 60 c0, .i r] [] H (fun z S' H' => ∃ A c, z = .sl A 16 c ∧ S' = [.own A 5 ((rkR ws r.toNat 4).map SV.u8) (c * 1)] ∧ 16 ≤ c ∧ (rkR ws r.toNat 4).length = 16 ∧ H' = H) := by
 refine hc_intro (n := 21) Try.func156 rfl Try.ntmps156 rfl (fun B hB => ?_)
 refine ew_cut (e' := [(0, _), (1, _)]) [0, 1] rfl ?_
 refine ew_seq ?_
 refine rg (.q 0 XT.done) (by kernel_rfl) (by kernel_rfl) ?_
 refine q_as (sv := .sl none 0 0) rfl rfl rfl ?_
 refine x_end ?_
 refine nk_cut (e' := [(0, _), (1, _), (4, _)]) [0, 1, 4] rfl ?_
 refine nk_seq ?_
 refine ew_seq ?_
 refine rg (.q 0 XT.done) (by kernel_rfl) (by kernel_rfl) ?_
 refine q_as (sv := .sl none 0 0) rfl rfl rfl ?_
 refine x_nil 5 ?_
 refine x_end ?_
 refine nk_cut (e' := [(0, _), (1, _), (4, _), (5, _)]) [0, 1, 4, 5] rfl ?_
 refine nk_seq ?_
 refine ew_seq ?_
 refine ew_seq ?_
 refine rg (.q 0 XT.done) (by kernel_rfl) (by kernel_rfl) ?_
 refine q_as (sv := .i 0) rfl rfl rfl ?_
 refine x_end ?_
 refine nk_cut (e' := [(0, _), (1, _), (4, _), (5, _), (6, _)]) [0, 1, 4, 5, 6] rfl ?_
 refine nk_seq ?_
 refine ew_block ?_
 let Ev1 : Nat × Option Addr × Nat → Env := fun ⟨k, A, c⟩ => [(6, .i (k : Int)), (5, .sl A (4 * k) c)]
 let Sv1 : Nat × Option Addr × Nat → Res := fun ⟨k, A, c⟩ => [.own A 5 ((rkR ws r.toNat k).map SV.u8) (c * 1)]
 let Gv1 : Nat × Option Addr × Nat → Hp → Prop := fun ⟨k, A, c⟩ H' => H = H' ∧ (k ≤ 4 ∧ 4 * k ≤ c ∧ (rkR ws r.toNat k).length = 4 * k)
 let Mv1 : Nat × Option Addr × Nat → Nat := fun ⟨k, A, c⟩ => 4 - k
 refine ew_loop (mkE [(0, _), (1, _), (4, _)] Ev1) (Sv1) Gv1 Mv1 (⟨0, none, 0⟩ : Nat × Option Addr × Nat) ⟨rfl, rfl, rfl, rfl, rfl, trivial⟩ rfl ⟨rfl, ⟨by omega, Nat.zero_le _, rfl⟩⟩ ?_
 rintro ⟨k, A, c⟩ H' ⟨rfl, hG⟩
 obtain ⟨hk, hkc, hrl⟩ := hG
 refine ew_S (S' := [_]) rfl ?_
 refine ew_cut (e' := [(6, _), (5, _), (0, _), (1, _), (4, _)]) [6, 5, 0, 1, 4] rfl ?_
 refine ew_seq ?_
 refine ew_seq ?_
 refine rg (.q 0 (.q 1 XT.done)) (by kernel_rfl) (by kernel_rfl) ?_
 refine q_mv rfl rfl rfl ?_
 refine q_lt rfl rfl rfl rfl ?_
 refine x_end ?_
 refine nk_cut (e' := [(0, _), (1, _), (4, _), (5, _), (6, _), (8, _)]) [0, 1, 4, 5, 6, 8] rfl ?_
 refine nk_seq ?_
 refine ew_cond rfl ?_ ?_
 ·intro hc8
  try simp only [decide_eq_true_eq] at hc8
  obtain ⟨hwb, hw4⟩ := hw.at_ (j := 4 * r.toNat + k) (by omega)
  have hwn := hwb.len
  refine ew_skip ?_
  refine nk_seq ?_
  refine ew_seq ?_
  refine ew_block ?_
  refine rg (.q 0 (.q 1 (.q 2 (.q 3 (.q 4 (.q 5 (.q 6 (.q 7 (.h 8 (.q 9 XT.done)))))))))) (by kernel_rfl) (by kernel_rfl) ?_
  iterate 3 refine q_mv rfl rfl rfl ?_
  refine q_mul rfl rfl rfl rfl (by omega) (by omega) ?_
  refine q_mv rfl rfl rfl ?_
  refine q_add rfl rfl rfl rfl (by omega) (by omega) ?_
  refine q_ixs1 Try.underlying77 Try.sizeOf26 rfl rfl rfl rfl rfl (hw.bss.ne (by omega)) (by omega) (by omega) ?_
  refine q_ldp Try.isAgg26 rfl rfl rfl ((by rw [show (4 * r + (k : Int)).toNat = 4 * r.toNat + k by omega]; exact hw.bss.cell (by omega))) ?_
  refine h_app (sz := 1) 0 Try.underlying26 info_5 rfl rfl rfl (by decide) rfl rfl rfl rfl rfl rfl (by rw [List.length_map, hrl, Nat.mul_one]) hkc hwb.rr (by rw [List.length_map]; omega) (oneU8 _) (by simp only [by_5]; omega) (by omega) ?_
  intro A1 c1 hcap1
  refine ⟨kp0, ?_⟩
  refine x_S (S' := [_]) rfl ?_
  refine q_as rfl rfl rfl ?_
  refine x_end ?_
  refine nk_cut (e' := [(0, _), (1, _), (4, _), (5, _), (6, _), (8, _)]) [0, 1, 4, 5, 6, 8] rfl ?_
  refine nk_blk ?_
  refine nk_seq ?_
  refine rg (.q 0 (.q 1 (.q 2 XT.done))) (by kernel_rfl) (by kernel_rfl) ?_
  refine q_mv rfl rfl rfl ?_
  refine q_add rfl rfl rfl rfl (by omega) (by omega) ?_
  refine q_as rfl rfl rfl ?_
  refine x_end ?_
  refine nk_cut (e' := [(0, _), (1, _), (4, _), (5, _), (6, _), (8, _)]) [0, 1, 4, 5, 6, 8] rfl ?_
  refine nk_round (μ := Mv1) (i := (k, A, c)) (S := Sv1) (G := Gv1) (⟨k + 1, A1, c1⟩ : Nat × Option Addr × Nat) ?_ ?_ ?_ ?_
  ·exact ⟨rfl, congrArg (fun z => some (SV.sl _ z _)) (by omega), rfl, rfl, rfl, trivial⟩
  ·exact (by dsimp only [Sv1, rkR]; rw [List.map_append])
  ·exact ⟨rfl, ⟨by omega, by omega, by rw [rkR, List.length_append, hrl, hw4]; omega⟩⟩
  ·dsimp only [Mv1]; omega
 ·intro hc8
  try simp only [decide_eq_false_iff_not] at hc8
  have hk4 : k = 4 := by omega
  subst hk4
  refine ew_exit _ rfl ?_
  refine nk_seq ?_
  refine ew_seq ?_
  refine rg (.q 0 (.q 1 XT.done)) (by kernel_rfl) (by kernel_rfl) ?_
  refine q_mv rfl rfl rfl ?_
  refine q_as rfl rfl rfl ?_
  refine x_end ?_
  refine nk_cut (e' := [(0, _), (1, _), (4, _), (5, _), (6, _), (8, _)]) [0, 1, 4, 5, 6, 8] rfl ?_
  refine nk_seq ?_
  refine ew_retk 0 rfl rfl (.cons (.tmp rfl) .nil) rfl rfl ?_
  exact ⟨A, c, rfl, rfl, hkc, hrl, rfl⟩

end Go.GW
