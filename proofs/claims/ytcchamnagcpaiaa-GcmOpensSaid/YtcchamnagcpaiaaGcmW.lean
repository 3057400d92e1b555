/- deedboxlaw06's own example returns true. -/
import Derived.Test.YtcchamnagcpaiaaGcmC
namespace Go.GW
open Go Go.Proofs
set_option linter.unusedSimpArgs false
set_option linter.unusedVariables false


def dig (c : UInt8) : UInt8 := if c < 10 then 48 + c else 87 + c
def hexF (b : List UInt8) : List UInt8 := b.flatMap fun c => [dig (shr_u8 c 4), dig (c &&& 15)]
theorem hexF_len (b : List UInt8) : (hexF b).length = 2 * b.length := by
  induction b with
  | nil => rfl
  | cons x r ih => simp only [hexF, List.flatMap_cons, List.length_append, List.length_cons] at ih ⊢; rw [ih]; simp; omega
theorem hexF_snoc (b : List UInt8) {k : Nat} (h : k < b.length) : hexF (b.take k) ++ [dig (shr_u8 (b.getD k 0) 4), dig (b.getD k 0 &&& 15)] = hexF (b.take (k + 1)) := by
  unfold hexF
  rw [List.take_succ_eq_append_getElem h, List.flatMap_append]
  simp [h]

theorem Digit_hc {H : Hp} {c : UInt8} :
  HC Try.prog 137 [.u8 c] [] H (fun r S' H' => r = .u8 (dig c) ∧ S' = [] ∧ H' = H) := by
 refine hc_intro (n := 9) Try.func137 rfl Try.ntmps137 rfl (fun B hB => ?_)
 refine ew_cut (e' := [(0, _)]) [0] rfl ?_
 refine ew_seq ?_
 refine rg (.q 0 XT.done) (by kernel_rfl) (by kernel_rfl) ?_
 refine q_as (sv := .u8 0) rfl rfl rfl ?_
 refine x_end ?_
 refine nk_cut (e' := [(0, _), (2, _)]) [0, 2] rfl ?_
 refine nk_seq ?_
 refine ew_seq ?_
 refine ew_seq ?_
 refine rg (.q 0 (.q 1 XT.done)) (by kernel_rfl) (by kernel_rfl) ?_
 refine q_mv rfl rfl rfl ?_
 refine q_lt_u8 rfl rfl rfl rfl ?_
 refine x_end ?_
 refine nk_cut (e' := [(0, _), (2, _), (4, _)]) [0, 2, 4] rfl ?_
 refine nk_seq ?_
 refine ew_cond rfl ?_ ?_
 ·intro hc4
  try simp only [decide_eq_true_eq] at hc4
  refine ew_seq ?_
  refine rg (.q 0 (.q 1 (.q 2 XT.done))) (by kernel_rfl) (by kernel_rfl) ?_
  refine q_mv rfl rfl rfl ?_
  refine q_add_u8 rfl rfl rfl rfl ?_
  refine q_as rfl rfl rfl ?_
  refine x_end ?_
  refine nk_cut (e' := [(0, _), (2, _), (4, _)]) [0, 2, 4] rfl ?_
  refine nk_seq ?_
  refine ew_retS rfl rfl (.cons (.tmp rfl) .nil) ?_
  have hcc : c < 10 := hc4
  exact ⟨congrArg SV.u8 (if_pos hcc).symm, rfl, rfl⟩
 ·intro hc4
  try simp only [decide_eq_false_iff_not] at hc4
  refine ew_skip ?_
  refine nk_seq ?_
  refine ew_seq ?_
  refine rg (.q 0 (.q 1 (.q 2 XT.done))) (by kernel_rfl) (by kernel_rfl) ?_
  refine q_mv rfl rfl rfl ?_
  refine q_add_u8 rfl rfl rfl rfl ?_
  refine q_as rfl rfl rfl ?_
  refine x_end ?_
  refine nk_cut (e' := [(0, _), (2, _), (4, _)]) [0, 2, 4] rfl ?_
  refine nk_seq ?_
  refine ew_retS rfl rfl (.cons (.tmp rfl) .nil) ?_
  have hcc : ¬ c < 10 := hc4
  exact ⟨congrArg SV.u8 (if_neg hcc).symm, rfl, rfl⟩


theorem Hex_hc {H : Hp} {A0 : Option Addr} {n0 c0 : Nat} {b : List UInt8} (hb : BS H A0 n0 c0 b) (hn : n0 ≤ 1099511627776) :
  HC Try.prog 102 [.sl A0 n0 c0] [] H (fun r S' H' => r = .s ⟨(hexF b).toArray⟩ ∧ S' = [] ∧ HLe H H') := by
 have hbl := hb.len
 refine hc_intro (n := 24) Try.func102 rfl Try.ntmps102 rfl (fun B hB => ?_)
 refine ew_cut (e' := [(0, _)]) [0] rfl ?_
 refine ew_seq ?_
 refine rg (.q 0 XT.done) (by kernel_rfl) (by kernel_rfl) ?_
 refine q_as rfl rfl rfl ?_
 refine x_end ?_
 refine nk_cut (e' := [(0, _), (2, _)]) [0, 2] rfl ?_
 refine nk_seq ?_
 refine ew_seq ?_
 refine rg (.q 0 XT.done) (by kernel_rfl) (by kernel_rfl) ?_
 refine q_as (sv := .sl none 0 0) rfl rfl rfl ?_
 refine x_nil 5 ?_
 refine x_end ?_
 refine nk_cut (e' := [(0, _), (2, _), (3, _)]) [0, 2, 3] rfl ?_
 refine nk_seq ?_
 refine ew_seq ?_
 refine ew_seq ?_
 refine rg (.q 0 (.q 1 (.q 2 XT.done))) (by kernel_rfl) (by kernel_rfl) ?_
 refine q_mv rfl rfl rfl ?_
 refine q_len Try.underlying26 rfl rfl rfl ?_
 refine q_mv (sv := .i 0) rfl rfl rfl ?_
 refine x_end ?_
 refine nk_cut (e' := [(0, _), (2, _), (3, _), (6, _), (7, _), (8, _)]) [0, 2, 3, 6, 7, 8] rfl ?_
 refine nk_seq ?_
 refine ew_block ?_
 let Ev1 : Nat × Option Addr × Nat → Env := fun ⟨k, A, c⟩ => [(8, .i (k : Int)), (3, .sl A (hexF (b.take k)).length c)]
 let Sv1 : Nat × Option Addr × Nat → Res := fun ⟨k, A, c⟩ => [.own A 5 ((hexF (b.take k)).map SV.u8) (c * 1)]
 let Gv1 : Nat × Option Addr × Nat → Hp → Prop := fun ⟨k, A, c⟩ H' => H = H' ∧ (k ≤ n0 ∧ (hexF (b.take k)).length ≤ c)
 let Mv1 : Nat × Option Addr × Nat → Nat := fun ⟨k, A, c⟩ => n0 - k
 refine ew_loop (mkE [(0, _), (2, _), (6, _), (7, _)] Ev1) (Sv1) Gv1 Mv1 (⟨0, none, 0⟩ : Nat × Option Addr × Nat) ⟨rfl, rfl, rfl, rfl, rfl, rfl, trivial⟩ rfl ⟨rfl, ⟨by omega, Nat.zero_le _⟩⟩ ?_
 rintro ⟨k, A, c⟩ H' ⟨rfl, hG⟩
 obtain ⟨hk, hkc⟩ := hG
 have hhl := hexF_len (b.take k)
 rw [List.length_take] at hhl
 refine ew_S (S' := [_]) rfl ?_
 refine ew_cut (e' := [(8, _), (3, _), (0, _), (2, _), (6, _), (7, _)]) [8, 3, 0, 2, 6, 7] rfl ?_
 refine ew_seq ?_
 refine rg (.q 0 XT.done) (by kernel_rfl) (by kernel_rfl) ?_
 refine q_lt rfl rfl rfl rfl ?_
 refine x_end ?_
 refine nk_cut (e' := [(0, _), (2, _), (3, _), (6, _), (7, _), (8, _), (9, _)]) [0, 2, 3, 6, 7, 8, 9] rfl ?_
 refine nk_seq ?_
 refine ew_seq ?_
 refine ew_cond rfl ?_ ?_
 ·intro hc9
  try simp only [decide_eq_true_eq] at hc9
  refine ew_skip ?_
  refine nk_seq ?_
  refine ew_seq ?_
  refine ew_block ?_
  refine ew_seq ?_
  refine rg (.q 0 (.q 1 (.q 2 XT.done))) (by kernel_rfl) (by kernel_rfl) ?_
  refine q_ixs1 Try.underlying26 Try.sizeOf5 rfl rfl rfl rfl rfl (hb.ne (by omega)) (by omega) (by omega) ?_
  refine q_ldp Try.isAgg5 rfl rfl rfl (hb.cell (j := k) (by omega)) ?_
  refine q_as rfl rfl rfl ?_
  refine x_end ?_
  refine nk_cut (e' := [(0, _), (2, _), (3, _), (5, _), (6, _), (7, _), (8, _), (9, _)]) [0, 2, 3, 5, 6, 7, 8, 9] rfl ?_
  refine nk_seq ?_
  refine rg (.q 0 (.q 1 (.q 2 (.h 3 (.q 4 (.q 5 (.h 6 (.h 7 (.h 8 (.q 9 XT.done)))))))))) (by kernel_rfl) (by kernel_rfl) ?_
  refine q_mv rfl rfl rfl ?_
  refine q_mv rfl rfl rfl ?_
  refine q_shr_u8u rfl rfl rfl rfl ?_
  refine h_call0 Try.call137 rfl rfl rfl (Digit_hc) ?_
  rintro r_ S_ H hl1 ⟨rfl, rfl, rfl⟩
  refine ⟨kp0, ?_⟩
  refine x_S (S' := [_]) rfl ?_
  refine q_mv rfl rfl rfl ?_
  refine q_and_u8 rfl rfl rfl rfl ?_
  refine h_call0 Try.call137 rfl rfl rfl (Digit_hc) ?_
  rintro r_ S_ H hl2 ⟨rfl, rfl, rfl⟩
  refine ⟨kp0, ?_⟩
  refine x_S (S' := [_]) rfl ?_
  refine h_bs (cs := [_, _]) Try.underlying26 info_5 rfl rfl rfl rfl rfl rfl rfl rfl rfl (by decide) ?_
  intro g2
  refine ⟨kp0, ?_⟩
  refine h_appO (sz := 1) (S1 := [_]) 0 0 Try.underlying26 info_5 rfl rfl rfl (by decide) rfl rfl rfl rfl rfl rfl rfl rfl (by rw [List.length_map, Nat.mul_one]) hkc rfl (allOne rfl) (by simp only [by_5]; omega) (by omega) ?_
  intro A1 c1 hcap1
  refine ⟨kp0, ?_⟩
  refine x_S (S' := [_]) rfl ?_
  refine q_as rfl rfl rfl ?_
  refine x_end ?_
  refine nk_cut (e' := [(0, _), (2, _), (3, _), (5, _), (6, _), (7, _), (8, _), (9, _)]) [0, 2, 3, 5, 6, 7, 8, 9] rfl ?_
  refine nk_blk ?_
  refine nk_seq ?_
  refine rg (.q 0 (.q 1 XT.done)) (by kernel_rfl) (by kernel_rfl) ?_
  refine q_add rfl rfl rfl rfl (by omega) (by omega) ?_
  refine q_mv rfl rfl rfl ?_
  refine x_end ?_
  refine nk_cut (e' := [(0, _), (2, _), (3, _), (5, _), (6, _), (7, _), (8, _), (9, _)]) [0, 2, 3, 5, 6, 7, 8, 9] rfl ?_
  refine nk_round (μ := Mv1) (i := (k, A, c)) (S := Sv1) (G := Gv1) (⟨k + 1, A1, c1⟩ : Nat × Option Addr × Nat) ?_ ?_ ?_ ?_
  ·exact ⟨rfl, congrArg (fun z => some (SV.sl _ z _)) (by rw [← hexF_snoc b (by omega), List.length_append]; rfl), rfl, rfl, rfl, rfl, trivial⟩
  ·exact (by dsimp only [Sv1]; rw [← hexF_snoc b (by omega), List.map_append]; rfl)
  ·exact ⟨rfl, ⟨by omega, by rw [← hexF_snoc b (by omega), List.length_append]; show _ + 2 ≤ _; omega⟩⟩
  ·dsimp only [Mv1]; omega
 ·intro hc9
  try simp only [decide_eq_false_iff_not] at hc9
  have hk : k = b.length := by omega
  subst hk
  refine ew_exit _ rfl ?_
  refine nk_seq ?_
  refine ew_seq ?_
  refine rg (.q 0 (.h 1 (.q 2 XT.done))) (by kernel_rfl) (by kernel_rfl) ?_
  refine q_mv rfl rfl rfl ?_
  refine pubX (S' := []) 0 rfl rfl ?_
  intro Hp1 hp1 hr1
  replace hb := hb.mono hp1
  refine h_cvs Try.underlying26 Try.underlying5 Try.underlying9 rfl rfl rfl (BS.of hr1 rfl hkc) kp0 ?_
  refine q_as rfl rfl rfl ?_
  refine x_end ?_
  refine nk_cut (e' := [(0, _), (2, _), (3, _), (6, _), (7, _), (8, _), (9, _)]) [0, 2, 3, 6, 7, 8, 9] rfl ?_
  refine nk_seq ?_
  refine ew_retS rfl rfl (.cons (.tmp rfl) .nil) ?_
  rw [List.take_length]
  exact ⟨rfl, rfl, hp1⟩


def key32F (b : List UInt8) : List UInt8 := (List.range 32).map fun i => if 0 < b.length then b.getD (i % b.length) 0 else 0
def k32 (b : List UInt8) (k : Nat) : List UInt8 := (List.range k).map fun i => if 0 < b.length then b.getD (i % b.length) 0 else 0
theorem k32_len (b : List UInt8) (k : Nat) : (k32 b k).length = k := by simp [k32]
theorem k32_1 (b : List UInt8) (k : Nat) (h : 0 < b.length) : k32 b k ++ [b.getD (k % b.length) 0] = k32 b (k + 1) := by unfold k32; rw [List.range_succ, List.map_append]; simp only [h, if_true, List.map_cons, List.map_nil]
theorem k32_2 (b : List UInt8) (k : Nat) (h : ¬ 0 < b.length) : k32 b k ++ [0] = k32 b (k + 1) := by unfold k32; rw [List.range_succ, List.map_append]; simp only [h, if_false, List.map_cons, List.map_nil]

theorem Key32_hc {H : Hp} {A0 : Option Addr} {n0 c0 : Nat} {b : List UInt8} (hb : BS H A0 n0 c0 b) :
  HC Try.prog 60 [.sl A0 n0 c0] [] H (fun r S' H' => ∃ A c, r = .sl A 32 c ∧ S' = [.own A 5 ((key32F b).map SV.u8) (c * 1)] ∧ 32 ≤ c ∧ H' = H) := by
 have hbl := hb.len
 refine hc_intro (n := 26) Try.func60 rfl Try.ntmps60 rfl (fun B hB => ?_)
 refine ew_cut (e' := [(0, _)]) [0] rfl ?_
 refine ew_seq ?_
 refine rg (.q 0 XT.done) (by kernel_rfl) (by kernel_rfl) ?_
 refine q_as (sv := .sl none 0 0) rfl rfl rfl ?_
 refine x_end ?_
 refine nk_cut (e' := [(0, _), (2, _)]) [0, 2] rfl ?_
 refine nk_seq ?_
 refine ew_seq ?_
 refine rg (.q 0 XT.done) (by kernel_rfl) (by kernel_rfl) ?_
 refine q_as (sv := .sl none 0 0) rfl rfl rfl ?_
 refine x_nil 5 ?_
 refine x_end ?_
 refine nk_cut (e' := [(0, _), (2, _), (3, _)]) [0, 2, 3] rfl ?_
 refine nk_seq ?_
 refine ew_seq ?_
 refine ew_seq ?_
 refine rg (.q 0 XT.done) (by kernel_rfl) (by kernel_rfl) ?_
 refine q_as (sv := .i 0) rfl rfl rfl ?_
 refine x_end ?_
 refine nk_cut (e' := [(0, _), (2, _), (3, _), (4, _)]) [0, 2, 3, 4] rfl ?_
 refine nk_seq ?_
 refine ew_block ?_
 let Ev1 : Nat × Option Addr × Nat → Env := fun ⟨k, A, c⟩ => [(4, .i (k : Int)), (3, .sl A k c)]
 let Sv1 : Nat × Option Addr × Nat → Res := fun ⟨k, A, c⟩ => [.own A 5 ((k32 b k).map SV.u8) (c * 1)]
 let Gv1 : Nat × Option Addr × Nat → Hp → Prop := fun ⟨k, A, c⟩ H' => H = H' ∧ (k ≤ 32 ∧ k ≤ c)
 let Mv1 : Nat × Option Addr × Nat → Nat := fun ⟨k, A, c⟩ => 32 - k
 refine ew_loop (mkE [(0, _), (2, _)] Ev1) (Sv1) Gv1 Mv1 (⟨0, none, 0⟩ : Nat × Option Addr × Nat) ⟨rfl, rfl, rfl, rfl, trivial⟩ rfl ⟨rfl, ⟨by omega, Nat.zero_le _⟩⟩ ?_
 rintro ⟨k, A, c⟩ H' ⟨rfl, hG⟩
 obtain ⟨hk, hkc⟩ := hG
 have hhl := k32_len b k
 refine ew_S (S' := [_]) rfl ?_
 refine ew_cut (e' := [(4, _), (3, _), (0, _), (2, _)]) [4, 3, 0, 2] rfl ?_
 refine ew_seq ?_
 refine ew_seq ?_
 refine rg (.q 0 (.q 1 XT.done)) (by kernel_rfl) (by kernel_rfl) ?_
 refine q_mv rfl rfl rfl ?_
 refine q_lt rfl rfl rfl rfl ?_
 refine x_end ?_
 refine nk_cut (e' := [(0, _), (2, _), (3, _), (4, _), (6, _)]) [0, 2, 3, 4, 6] rfl ?_
 refine nk_seq ?_
 refine ew_cond rfl ?_ ?_
 ·intro hc6
  try simp only [decide_eq_true_eq] at hc6
  refine ew_skip ?_
  refine nk_seq ?_
  refine ew_seq ?_
  refine ew_block ?_
  refine ew_seq ?_
  refine rg (.q 0 (.q 1 (.q 2 XT.done))) (by kernel_rfl) (by kernel_rfl) ?_
  refine q_mv rfl rfl rfl ?_
  refine q_len Try.underlying26 rfl rfl rfl ?_
  refine q_gt rfl rfl rfl rfl ?_
  refine x_end ?_
  refine nk_cut (e' := [(0, _), (2, _), (3, _), (4, _), (6, _), (11, _)]) [0, 2, 3, 4, 6, 11] rfl ?_
  refine nk_seq ?_
  refine ew_cond rfl ?_ ?_
  ·intro hc11
   try simp only [decide_eq_true_eq] at hc11
   refine rg (.q 0 (.q 1 (.q 2 (.q 3 (.q 4 (.q 5 (.q 6 (.q 7 (.h 8 (.h 9 (.q 10 XT.done))))))))))) (by kernel_rfl) (by kernel_rfl) ?_
   iterate 4 refine q_mv rfl rfl rfl ?_
   refine q_len Try.underlying26 rfl rfl rfl ?_
   refine q_rem rfl rfl rfl rfl (by omega) (by omega) (by omega) ?_
   refine q_ixs1 Try.underlying26 Try.sizeOf5 rfl rfl rfl rfl rfl (hb.ne (by omega)) (Int.emod_nonneg _ (by omega)) (Int.emod_lt_of_pos _ (by omega)) ?_
   refine q_ldp Try.isAgg5 rfl rfl rfl (hb.cell (j := k % n0) (Nat.mod_lt _ (by omega))) ?_
   refine x_v (v' := .u8 (b.getD (k % b.length) 0)) (by rw [hbl]) ?_
   refine h_bs (cs := [_]) Try.underlying26 info_5 rfl rfl rfl rfl rfl rfl rfl rfl rfl (by decide) ?_
   intro g2
   refine ⟨kp0, ?_⟩
   refine h_appO (sz := 1) (S1 := [_]) 0 0 Try.underlying26 info_5 rfl rfl rfl (by decide) rfl rfl rfl rfl rfl rfl rfl rfl (by rw [List.length_map, hhl, Nat.mul_one]) hkc rfl (allOne rfl) (by simp only [by_5]; omega) (by omega) ?_
   intro A1 c1 hcap1
   refine ⟨kp0, ?_⟩
   refine x_S (S' := [_]) rfl ?_
   refine q_as rfl rfl rfl ?_
   refine x_end ?_
   refine nk_cut (e' := [(0, _), (2, _), (3, _), (4, _), (6, _), (11, _)]) [0, 2, 3, 4, 6, 11] rfl ?_
   refine nk_blk ?_
   refine nk_seq ?_
   refine rg (.q 0 (.q 1 (.q 2 XT.done))) (by kernel_rfl) (by kernel_rfl) ?_
   refine q_mv rfl rfl rfl ?_
   refine q_add rfl rfl rfl rfl (by omega) (by omega) ?_
   refine q_as rfl rfl rfl ?_
   refine x_end ?_
   refine nk_cut (e' := [(0, _), (2, _), (3, _), (4, _), (6, _), (11, _)]) [0, 2, 3, 4, 6, 11] rfl ?_
   refine nk_round (μ := Mv1) (i := (k, A, c)) (S := Sv1) (G := Gv1) (⟨k + 1, A1, c1⟩ : Nat × Option Addr × Nat) ?_ ?_ ?_ ?_
   ·exact ⟨rfl, rfl, rfl, rfl, trivial⟩
   ·exact (by dsimp only [Sv1]; rw [← k32_1 b k (by omega), List.map_append]; rfl)
   ·exact ⟨rfl, ⟨by omega, by omega⟩⟩
   ·dsimp only [Mv1]; omega
  ·intro hc11
   try simp only [decide_eq_false_iff_not] at hc11
   refine rg (.q 0 (.h 1 (.h 2 (.q 3 XT.done)))) (by kernel_rfl) (by kernel_rfl) ?_
   refine q_mv rfl rfl rfl ?_
   refine h_bs (cs := [_]) Try.underlying26 info_5 rfl rfl rfl rfl rfl rfl rfl rfl rfl (by decide) ?_
   intro g3
   refine ⟨kp0, ?_⟩
   refine h_appO (sz := 1) (S1 := [_]) 0 0 Try.underlying26 info_5 rfl rfl rfl (by decide) rfl rfl rfl rfl rfl rfl rfl rfl (by rw [List.length_map, hhl, Nat.mul_one]) hkc rfl (allOne rfl) (by simp only [by_5]; omega) (by omega) ?_
   intro A2 c2 hcap2
   refine ⟨kp0, ?_⟩
   refine x_S (S' := [_]) rfl ?_
   refine q_as rfl rfl rfl ?_
   refine x_end ?_
   refine nk_cut (e' := [(0, _), (2, _), (3, _), (4, _), (6, _), (11, _)]) [0, 2, 3, 4, 6, 11] rfl ?_
   refine nk_blk ?_
   refine nk_seq ?_
   refine rg (.q 0 (.q 1 (.q 2 XT.done))) (by kernel_rfl) (by kernel_rfl) ?_
   refine q_mv rfl rfl rfl ?_
   refine q_add rfl rfl rfl rfl (by omega) (by omega) ?_
   refine q_as rfl rfl rfl ?_
   refine x_end ?_
   refine nk_cut (e' := [(0, _), (2, _), (3, _), (4, _), (6, _), (11, _)]) [0, 2, 3, 4, 6, 11] rfl ?_
   refine nk_round (μ := Mv1) (i := (k, A, c)) (S := Sv1) (G := Gv1) (⟨k + 1, A2, c2⟩ : Nat × Option Addr × Nat) ?_ ?_ ?_ ?_
   ·exact ⟨rfl, rfl, rfl, rfl, trivial⟩
   ·exact (by dsimp only [Sv1]; rw [← k32_2 b k (by omega), List.map_append]; rfl)
   ·exact ⟨rfl, ⟨by omega, by omega⟩⟩
   ·dsimp only [Mv1]; omega
 ·intro hc6
  try simp only [decide_eq_false_iff_not] at hc6
  have hk : k = 32 := by omega
  subst hk
  refine ew_exit _ rfl ?_
  refine nk_seq ?_
  refine ew_seq ?_
  refine rg (.q 0 (.q 1 XT.done)) (by kernel_rfl) (by kernel_rfl) ?_
  refine q_mv rfl rfl rfl ?_
  refine q_as rfl rfl rfl ?_
  refine x_end ?_
  refine nk_cut (e' := [(0, _), (2, _), (3, _), (4, _), (6, _)]) [0, 2, 3, 4, 6] rfl ?_
  refine nk_seq ?_
  refine ew_retk 0 rfl rfl (.cons (.tmp rfl) .nil) rfl rfl ?_
  exact ⟨A, c, rfl, rfl, hkc, rfl⟩

end Go.GW
