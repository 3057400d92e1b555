/- Contracts of functions of the loaded program, printed by our own program gen.py. -/
import Derived.Test.YtcchamnagcpaiaaAncB
namespace Go.GW
open Go Go.Proofs


theorem mag_T {xs : List UInt8} (h : (!((⟨xs.toArray⟩ : ByteArray).toList == (⟨#[100, 101, 101, 100, 98, 111, 120, 49]⟩ : ByteArray).toList)) = true) : ¬ xs = magicB := by
  intro he
  have h2 := str_eq (xs := xs) (ys := magicB)
  rw [decide_eq_true he] at h2
  have h3 : ((⟨xs.toArray⟩ : ByteArray).toList == (⟨#[100, 101, 101, 100, 98, 111, 120, 49]⟩ : ByteArray).toList) = true := h2
  rw [h3] at h
  cases h
theorem mag_F {xs : List UInt8} (h : (!((⟨xs.toArray⟩ : ByteArray).toList == (⟨#[100, 101, 101, 100, 98, 111, 120, 49]⟩ : ByteArray).toList)) = false) : xs = magicB := by
  have h2 := str_eq (xs := xs) (ys := magicB)
  have h3 : ((⟨xs.toArray⟩ : ByteArray).toList == (⟨#[100, 101, 101, 100, 98, 111, 120, 49]⟩ : ByteArray).toList) = true := by
    cases hb : ((⟨xs.toArray⟩ : ByteArray).toList == (⟨#[100, 101, 101, 100, 98, 111, 120, 49]⟩ : ByteArray).toList) with
    | true => rfl
    | false => rw [hb] at h; cases h
  have h4 : ((⟨xs.toArray⟩ : ByteArray).toList == (⟨magicB.toArray⟩ : ByteArray).toList) = true := h3
  rw [h4] at h2
  exact of_decide_eq_true h2.symm
theorem min_u64 (u : UInt64) : (((if 4611686018427387904 < u then 4611686018427387904 else u) : UInt64).toNat : Int) = min (u.toNat : Int) 4611686018427387904 := by
  have h : (4611686018427387904 : UInt64).toNat = 4611686018427387904 := by decide
  split
  · rename_i h1
    rw [UInt64.lt_iff_toNat_lt, h] at h1
    rw [h]
    omega
  · rename_i h1
    rw [UInt64.lt_iff_toNat_lt, h] at h1
    omega
theorem min_u64_le (u : UInt64) : ((if 4611686018427387904 < u then 4611686018427387904 else u) : UInt64).toNat ≤ 9223372036854775807 := by
  have := min_u64 u
  omega

theorem AGet1_hc {H : Hp} {gv gr : Nat} {A : Option Addr} {n c : Nat} {r : Rd} (hr : RdS H A n c r) :
  HC Try.prog 88 [.p ⟨gv, 0, none⟩] [.box gv 157 [.p ⟨gr, 0, none⟩], .box gr 215 [.sl A n c, .i r.code]] H (fun rr S' H' => ∃ A2 n2 c2, rr = .i (numD r).1 ∧ S' = [.box gv 157 [.p ⟨gr, 0, none⟩], .box gr 215 [.sl A2 n2 c2, .i (numD r).2.code]] ∧ RdS H A2 n2 c2 (numD r).2 ∧ H' = H) := by
 refine hc_intro (n := 6) Try.func88 rfl Try.ntmps88 rfl (fun B hB => ?_)
 refine ew_cut (e' := [(0, _)]) [0] rfl ?_
 refine ew_seq ?_
 refine rg (.q 0 XT.done) (by kernel_rfl) (by kernel_rfl) ?_
 refine q_as (sv := .i 0) rfl rfl rfl ?_
 refine x_end ?_
 refine nk_cut (e' := [(0, _), (1, _)]) [0, 1] rfl ?_
 refine nk_seq ?_
 refine ew_seq ?_
 refine rg (.q 0 (.h 1 (.q 2 (.q 3 (.q 4 XT.done))))) (by kernel_rfl) (by kernel_rfl) ?_
 refine q_ld 0 Try.isAgg157 rfl rfl rfl rfl rfl ?_
 refine h_call Try.call89 (S2 := [_]) rfl rfl rfl (nth_split (k := 1) rfl) (RNumber_hc hr (by omega)) ?_
 rintro r_ S_ H hl1 ⟨A1, n1, c1, rfl, rfl, hrd1, rfl⟩
 refine ⟨kp0, ?_⟩
 refine x_S (S' := [_, _]) rfl ?_
 refine q_min_u64 rfl rfl rfl rfl ?_
 refine q_cv_u64_i Try.underlying3 (by kernel_rfl) rfl rfl rfl (min_u64_le _) ?_
 refine q_as rfl rfl rfl ?_
 refine x_end ?_
 refine nk_cut (e' := [(0, _), (1, _)]) [0, 1] rfl ?_
 refine nk_seq ?_
 refine ew_perm (S' := [_, _]) (permL [1, 0] rfl) ?_
 refine ew_retA rfl rfl (.cons (.tmp rfl) .nil) ?_
 exact ⟨_, _, _, congrArg SV.i (min_u64 _), rfl, hrd1, rfl⟩


theorem num_gt {r : Rd} (h : 4611686018427387904 < getN (r.take 8).1) : (numD r).1 = 4611686018427387904 := by
  rw [UInt64.lt_iff_toNat_lt] at h
  have h2 : (4611686018427387904 : UInt64).toNat = 4611686018427387904 := by decide
  unfold numD
  simp only
  omega
theorem num_le {u : UInt64} (h : ¬ 4611686018427387904 < u) : u.toNat ≤ 4611686018427387904 := by
  rw [UInt64.lt_iff_toNat_lt] at h
  have h2 : (4611686018427387904 : UInt64).toNat = 4611686018427387904 := by decide
  omega
theorem num_eq {r : Rd} (h : ¬ 4611686018427387904 < getN (r.take 8).1) : (numD r).1 = ((getN (r.take 8).1).toNat : Int) := by
  have := num_le h
  unfold numD
  simp only
  omega

theorem RNum_hc {H : Hp} {A : Option Addr} {n c : Nat} {r : Rd} (hr : RdS H A n c r) :
  HC Try.prog 132 [.agg [.sl A n c, .i r.code]] [] H (fun rr S' H' => ∃ A2 n2 c2, rr = .tup [.agg [.sl A2 n2 c2, .i (numD r).2.code], .i (numD r).1] ∧ RdS H A2 n2 c2 (numD r).2 ∧ S' = [] ∧ H' = H) := by
 refine hc_intro (n := 17) Try.func132 rfl Try.ntmps132 rfl (fun B hB => ?_)
 refine ew_cut (e' := [(0, _)]) [0] rfl ?_
 refine ew_seq ?_
 refine rg (.h 0 (.h 1 (.q 2 XT.done))) (by kernel_rfl) (by kernel_rfl) ?_
 refine h_boxS rfl rfl rfl ?_
 intro g1
 refine ⟨kp0, ?_⟩
 refine h_alloc (cs := [_, _]) Try.zeroValue161 rfl rfl (zc_161 Try.zeroValue161) ?_
 intro g2
 refine ⟨kp0, ?_⟩
 refine q_as (sv := .i 0) rfl rfl rfl ?_
 refine x_end ?_
 refine nk_cut (e' := [(0, _), (1, _), (2, _), (3, _)]) [0, 1, 2, 3] rfl ?_
 refine nk_seq ?_
 refine ew_seq ?_
 refine rg (.q 0 (.h 1 (.q 2 (.q 3 (.q 4 (.h 5 (.h 6 (.q 7 XT.done)))))))) (by kernel_rfl) (by kernel_rfl) ?_
 refine q_ldS 1 Try.isAgg161 Try.sizeOf161 rfl rfl rfl rfl rfl ?_
 refine h_call0 Try.call93 rfl rfl rfl (RNumberV_hc hr (by omega)) ?_
 rintro r_ S_ H hl1 ⟨A1, n1, c1, rfl, hrd1, rfl, rfl⟩
 refine ⟨kp0, ?_⟩
 refine x_S (S' := [_, _]) rfl ?_
 refine q_mv rfl rfl rfl ?_
 refine q_ext rfl rfl rfl rfl ?_
 refine q_ext rfl rfl rfl rfl ?_
 refine h_alloc (cs := [_, _]) Try.zeroValue161 rfl rfl (zc_161 Try.zeroValue161) ?_
 intro g3
 refine ⟨kp0, ?_⟩
 refine h_stS (cs' := [_, _]) (S' := [_, _, _]) 0 Try.sizeOf161 rfl rfl rfl rfl rfl (allOne rfl) rfl (leb rfl) rfl rfl kp0 ?_
 refine q_as rfl rfl rfl ?_
 refine x_end ?_
 refine nk_cut (e' := [(0, _), (1, _), (2, _), (3, _), (4, _), (5, _)]) [0, 1, 2, 3, 4, 5] rfl ?_
 refine nk_seq ?_
 refine ew_seq ?_
 refine ew_seq ?_
 refine rg (.q 0 (.q 1 XT.done)) (by kernel_rfl) (by kernel_rfl) ?_
 refine q_mv rfl rfl rfl ?_
 refine q_gt_u64 rfl rfl rfl rfl ?_
 refine x_end ?_
 refine nk_cut (e' := [(0, _), (1, _), (2, _), (3, _), (4, _), (5, _), (12, _)]) [0, 1, 2, 3, 4, 5, 12] rfl ?_
 refine nk_seq ?_
 refine ew_cond rfl ?_ ?_
 ·intro hc12
  replace hc12 := of_decide_eq_true hc12
  refine ew_seq ?_
  refine rg (.q 0 (.h 1 (.q 2 XT.done))) (by kernel_rfl) (by kernel_rfl) ?_
  refine q_ldS 0 Try.isAgg161 Try.sizeOf161 rfl rfl rfl rfl rfl ?_
  refine h_stS (cs' := [_, _]) (S' := [_, _, _]) 1 Try.sizeOf161 rfl rfl rfl rfl rfl (allOne rfl) rfl (leb rfl) rfl rfl kp0 ?_
  refine q_as (sv := .i 4611686018427387904) rfl rfl rfl ?_
  refine x_end ?_
  refine nk_cut (e' := [(0, _), (1, _), (2, _), (3, _), (4, _), (5, _), (12, _)]) [0, 1, 2, 3, 4, 5, 12] rfl ?_
  refine nk_seq ?_
  refine ew_ret (r := .tup [_, _]) rfl rfl (.cons (.agg 1 Try.isAgg161 Try.sizeOf161 rfl rfl rfl) (.cons (.tmp rfl) .nil)) rfl ?_
  exact ⟨_, _, _, by rw [show (numD r).1 = 4611686018427387904 from num_gt hc12]; rfl, hrd1, rfl, rfl⟩
 ·intro hc12
  replace hc12 := of_decide_eq_false hc12
  have hle := num_le hc12
  refine ew_skip ?_
  refine nk_seq ?_
  refine ew_seq ?_
  refine rg (.q 0 (.q 1 (.q 2 (.h 3 (.q 4 XT.done))))) (by kernel_rfl) (by kernel_rfl) ?_
  refine q_ldS 0 Try.isAgg161 Try.sizeOf161 rfl rfl rfl rfl rfl ?_
  refine q_mv rfl rfl rfl ?_
  refine q_cv_u64_i Try.underlying3 (by kernel_rfl) rfl rfl rfl (by omega) ?_
  refine h_stS (cs' := [_, _]) (S' := [_, _, _]) 1 Try.sizeOf161 rfl rfl rfl rfl rfl (allOne rfl) rfl (leb rfl) rfl rfl kp0 ?_
  refine q_as rfl rfl rfl ?_
  refine x_end ?_
  refine nk_cut (e' := [(0, _), (1, _), (2, _), (3, _), (4, _), (5, _), (12, _)]) [0, 1, 2, 3, 4, 5, 12] rfl ?_
  refine nk_seq ?_
  refine ew_ret (r := .tup [_, _]) rfl rfl (.cons (.agg 1 Try.isAgg161 Try.sizeOf161 rfl rfl rfl) (.cons (.tmp rfl) .nil)) rfl ?_
  exact ⟨_, _, _, by rw [show (numD r).1 = ((getN (r.take 8).1).toNat : Int) from num_eq hc12]; rfl, hrd1, rfl, rfl⟩


theorem nums_map (r : Rd) (k : Nat) : (numsD k r).1.map SV.i ++ [.i (numD (numsD k r).2).1] = (numsD (k + 1) r).1.map SV.i := by simp [numsD]

theorem RNums_hc {H : Hp} {A : Option Addr} {n c : Nat} {r : Rd} (hr : RdS H A n c r) :
  HC Try.prog 92 [.agg [.sl A n c, .i r.code]] [] H (fun rr S' H' => ∃ A2 n2 c2 A' c', rr = .tup [.agg [.sl A2 n2 c2, .i (numsD 6 r).2.code], .sl A' 6 c'] ∧ RdS H' A2 n2 c2 (numsD 6 r).2 ∧ 6 ≤ c' ∧ S' = [.own A' 3 ((numsD 6 r).1.map SV.i) (c' * 1)] ∧ H' = H) := by
 refine hc_intro (n := 26) Try.func92 rfl Try.ntmps92 rfl (fun B hB => ?_)
 refine ew_cut (e' := [(0, _)]) [0] rfl ?_
 refine ew_seq ?_
 refine rg (.h 0 (.h 1 (.q 2 XT.done))) (by kernel_rfl) (by kernel_rfl) ?_
 refine h_boxS rfl rfl rfl ?_
 intro g1
 refine ⟨kp0, ?_⟩
 refine h_alloc (cs := [_, _]) Try.zeroValue161 rfl rfl (zc_161 Try.zeroValue161) ?_
 intro g2
 refine ⟨kp0, ?_⟩
 refine q_as (sv := .sl none 0 0) rfl rfl rfl ?_
 refine x_end ?_
 refine nk_cut (e' := [(0, _), (1, _), (2, _), (3, _)]) [0, 1, 2, 3] rfl ?_
 refine nk_seq ?_
 refine ew_seq ?_
 refine rg (.q 0 (.h 1 (.h 2 XT.done))) (by kernel_rfl) (by kernel_rfl) ?_
 refine q_ldS 1 Try.isAgg161 Try.sizeOf161 rfl rfl rfl rfl rfl ?_
 refine h_alloc (cs := [_, _]) Try.zeroValue161 rfl rfl (zc_161 Try.zeroValue161) ?_
 intro g3
 refine ⟨kp0, ?_⟩
 refine h_stS (cs' := [_, _]) (S' := [_, _, _]) 0 Try.sizeOf161 rfl rfl rfl rfl rfl (allOne rfl) rfl (leb rfl) rfl rfl kp0 ?_
 refine x_end ?_
 refine nk_cut (e' := [(0, _), (1, _), (2, _), (3, _), (4, _)]) [0, 1, 2, 3, 4] rfl ?_
 refine nk_seq ?_
 refine ew_seq ?_
 refine rg (.q 0 XT.done) (by kernel_rfl) (by kernel_rfl) ?_
 refine q_as (sv := .sl none 0 0) rfl rfl rfl ?_
 refine x_nil 3 ?_
 refine x_end ?_
 refine nk_cut (e' := [(0, _), (1, _), (2, _), (3, _), (4, _), (5, _)]) [0, 1, 2, 3, 4, 5] rfl ?_
 refine nk_seq ?_
 refine ew_seq ?_
 refine ew_seq ?_
 refine rg (.q 0 XT.done) (by kernel_rfl) (by kernel_rfl) ?_
 refine q_as (sv := .i 0) rfl rfl rfl ?_
 refine x_end ?_
 refine nk_cut (e' := [(0, _), (1, _), (2, _), (3, _), (4, _), (5, _), (6, _)]) [0, 1, 2, 3, 4, 5, 6] rfl ?_
 refine nk_seq ?_
 refine ew_block ?_
 let Ev1 : Nat × Option Addr × Nat × Nat × Option Addr × Nat → Env := fun ⟨k, A2, n2, c2, A3, c3⟩ => [(5, .sl A3 k c3), (6, .i (k : Int))]
 let Sv1 : Nat × Option Addr × Nat × Nat × Option Addr × Nat → Res := fun ⟨k, A2, n2, c2, A3, c3⟩ => [.own A3 3 ((numsD k r).1.map SV.i) (c3 * 1), .box g3 161 [.sl A2 n2 c2, .i (numsD k r).2.code], .box g2 161 [.sl none 0 0, .i 0], .box g1 161 [.sl A n c, .i r.code]]
 let Gv1 : Nat × Option Addr × Nat × Nat × Option Addr × Nat → Hp → Prop := fun ⟨k, A2, n2, c2, A3, c3⟩ H' => H = H' ∧ (k ≤ 6 ∧ k ≤ c3 ∧ RdS H' A2 n2 c2 (numsD k r).2)
 let Mv1 : Nat × Option Addr × Nat × Nat × Option Addr × Nat → Nat := fun ⟨k, A2, n2, c2, A3, c3⟩ => 6 - k
 refine ew_loop (mkE [(0, _), (1, _), (2, _), (3, _), (4, _)] Ev1) (Sv1) Gv1 Mv1 (⟨0, A, n, c, none, 0⟩ : Nat × Option Addr × Nat × Nat × Option Addr × Nat) ⟨rfl, rfl, rfl, rfl, rfl, rfl, rfl, trivial⟩ rfl ⟨rfl, ⟨by omega, by omega, hr⟩⟩ ?_
 rintro ⟨k, A2, n2, c2, A3, c3⟩ H' ⟨rfl, hG⟩
 obtain ⟨hk, hkc, hrk⟩ := hG
 refine ew_S (S' := [_, _, _, _]) rfl ?_
 refine ew_cut (e' := [(5, _), (6, _), (0, _), (1, _), (2, _), (3, _), (4, _)]) [5, 6, 0, 1, 2, 3, 4] rfl ?_
 refine ew_seq ?_
 refine ew_seq ?_
 refine rg (.q 0 (.q 1 XT.done)) (by kernel_rfl) (by kernel_rfl) ?_
 refine q_mv rfl rfl rfl ?_
 refine q_lt rfl rfl rfl rfl ?_
 refine x_end ?_
 refine nk_cut (e' := [(0, _), (1, _), (2, _), (3, _), (4, _), (5, _), (6, _), (11, _)]) [0, 1, 2, 3, 4, 5, 6, 11] rfl ?_
 refine nk_seq ?_
 refine ew_cond rfl ?_ ?_
 ·intro hc11
  try simp only [decide_eq_true_eq] at hc11
  refine ew_skip ?_
  refine nk_seq ?_
  refine ew_seq ?_
  refine ew_block ?_
  refine ew_seq ?_
  refine rg (.q 0 (.h 1 (.q 2 (.q 3 (.q 4 (.h 5 (.h 6 (.q 7 XT.done)))))))) (by kernel_rfl) (by kernel_rfl) ?_
  refine q_ldS 1 Try.isAgg161 Try.sizeOf161 rfl rfl rfl rfl rfl ?_
  refine h_call0 Try.call132 rfl rfl rfl (RNum_hc hrk) ?_
  rintro r_ S_ H hl1 ⟨A1, n1, c1, rfl, hrd1, rfl, rfl⟩
  refine ⟨kp0, ?_⟩
  refine x_S (S' := [_, _, _, _]) rfl ?_
  refine q_mv rfl rfl rfl ?_
  refine q_ext rfl rfl rfl rfl ?_
  refine q_ext rfl rfl rfl rfl ?_
  refine h_alloc (cs := [_, _]) Try.zeroValue161 rfl rfl (zc_161 Try.zeroValue161) ?_
  intro g5
  refine ⟨kp0, ?_⟩
  refine h_stS (cs' := [_, _]) (S' := [_, _, _, _, _]) 0 Try.sizeOf161 rfl rfl rfl rfl rfl (allOne rfl) rfl (leb rfl) rfl rfl kp0 ?_
  refine q_as rfl rfl rfl ?_
  refine x_end ?_
  refine nk_cut (e' := [(0, _), (1, _), (2, _), (3, _), (4, _), (5, _), (6, _), (7, _), (8, _), (11, _)]) [0, 1, 2, 3, 4, 5, 6, 7, 8, 11] rfl ?_
  refine nk_seq ?_
  refine ew_seq ?_
  refine rg (.q 0 (.h 1 XT.done)) (by kernel_rfl) (by kernel_rfl) ?_
  refine q_ldS 0 Try.isAgg161 Try.sizeOf161 rfl rfl rfl rfl rfl ?_
  refine h_stS (cs' := [_, _]) (S' := [_, _, _, _, _]) 2 Try.sizeOf161 rfl rfl rfl rfl rfl (allOne rfl) rfl (leb rfl) rfl rfl kp0 ?_
  refine x_end ?_
  refine nk_cut (e' := [(0, _), (1, _), (2, _), (3, _), (4, _), (5, _), (6, _), (7, _), (8, _), (11, _)]) [0, 1, 2, 3, 4, 5, 6, 7, 8, 11] rfl ?_
  refine nk_seq ?_
  refine rg (.q 0 (.q 1 (.h 2 (.h 3 (.q 4 XT.done))))) (by kernel_rfl) (by kernel_rfl) ?_
  refine q_mv rfl rfl rfl ?_
  refine q_mv rfl rfl rfl ?_
  refine h_bs (cs := [_]) Try.underlying154 info_3 rfl rfl rfl rfl rfl rfl rfl rfl rfl (by decide) ?_
  intro g6
  refine ⟨kp0, ?_⟩
  refine h_appO (sz := 1) (S1 := [_, _, _, _, _]) 0 1 Try.underlying154 info_3 rfl rfl rfl (by decide) rfl rfl rfl rfl rfl rfl rfl rfl (by rw [List.length_map, numsD_len, Nat.mul_one]) (by omega) rfl (allOne rfl) (by simp only [by_3]; omega) (by omega) ?_
  intro A2 c2 hcap1
  refine ⟨kp0, ?_⟩
  refine x_S (S' := [_, _, _, _, _]) rfl ?_
  refine q_as rfl rfl rfl ?_
  refine x_end ?_
  refine nk_cut (e' := [(0, _), (1, _), (2, _), (3, _), (4, _), (5, _), (6, _), (7, _), (8, _), (11, _)]) [0, 1, 2, 3, 4, 5, 6, 7, 8, 11] rfl ?_
  refine nk_blk ?_
  refine nk_seq ?_
  refine rg (.q 0 (.q 1 (.q 2 XT.done))) (by kernel_rfl) (by kernel_rfl) ?_
  refine q_mv rfl rfl rfl ?_
  refine q_add rfl rfl rfl rfl (by omega) (by omega) ?_
  refine q_as rfl rfl rfl ?_
  refine x_end ?_
  refine nk_cut (e' := [(0, _), (1, _), (2, _), (3, _), (4, _), (5, _), (6, _), (7, _), (8, _), (11, _)]) [0, 1, 2, 3, 4, 5, 6, 7, 8, 11] rfl ?_
  refine nk_perm (S' := [_, _, _, _, _]) (permL [1, 2, 3, 4, 0] rfl) ?_
  refine nk_drop (S := [_, _, _, _]) (S' := [_]) ?_
  refine nk_round (μ := Mv1) (i := (k, A2, n2, c2, A3, c3)) (S := Sv1) (G := Gv1) (⟨k + 1, A1, n1, c1, A2, c2⟩ : Nat × Option Addr × Nat × Nat × Option Addr × Nat) ?_ ?_ ?_ ?_
  ·exact ⟨rfl, rfl, rfl, rfl, rfl, rfl, rfl, trivial⟩
  ·exact (congrArg (fun l => Chunk.own _ 3 l _ :: _) (nums_map r k))
  ·exact ⟨rfl, ⟨by omega, by omega, hrd1⟩⟩
  ·dsimp only [Mv1]; omega
 ·intro hc11
  try simp only [decide_eq_false_iff_not] at hc11
  refine ew_exit _ rfl ?_
  refine nk_seq ?_
  refine ew_seq ?_
  refine rg (.q 0 (.q 1 (.h 2 (.q 3 XT.done)))) (by kernel_rfl) (by kernel_rfl) ?_
  refine q_ldS 1 Try.isAgg161 Try.sizeOf161 rfl rfl rfl rfl rfl ?_
  refine q_mv rfl rfl rfl ?_
  refine h_stS (cs' := [_, _]) (S' := [_, _, _, _]) 2 Try.sizeOf161 rfl rfl rfl rfl rfl (allOne rfl) rfl (leb rfl) rfl rfl kp0 ?_
  refine q_as rfl rfl rfl ?_
  refine x_end ?_
  refine nk_cut (e' := [(0, _), (1, _), (2, _), (3, _), (4, _), (5, _), (6, _), (11, _)]) [0, 1, 2, 3, 4, 5, 6, 11] rfl ?_
  refine nk_seq ?_
  refine ew_ret1 (r := .tup [_, _]) 0 rfl rfl (.cons (.agg 2 Try.isAgg161 Try.sizeOf161 rfl rfl rfl) (.cons (.tmp rfl) .nil)) rfl rfl ?_
  have h6 : k = 6 := by omega
  subst h6
  exact ⟨A2, n2, c2, A3, c3, rfl, hrk, hkc, rfl, rfl⟩


def zeroAn : An := ⟨0, 0, 0, 0, 0, 0, ⟨none, 0, 0, []⟩, none, 0, 0, []⟩
theorem zeroAn_ok {H : Hp} : An.ok H zeroAn := ⟨BS.nil, KS.nil, by decide, ⟨by decide, by intro x hx; cases hx⟩⟩
theorem dec_mag {xs : List UInt8} (h : ¬ ((Rd.mk xs 0).take 8).1 = magicB) : Anc.dec xs = (zeroAnc, 9) := if_pos h
theorem dec_code {xs : List UInt8} (hm : ((Rd.mk xs 0).take 8).1 = magicB) (h : ¬ (decK xs).2.code = 0) : Anc.dec xs = (zeroAnc, (decK xs).2.code) := (if_neg (fun h2 => h2 hm)).trans (if_pos h)
theorem dec_chk {xs : List UInt8} (hm : ((Rd.mk xs 0).take 8).1 = magicB) (h : (decK xs).2.code = 0) (h2 : ¬ (decA xs).check = 0) : Anc.dec xs = (zeroAnc, (decA xs).check) := (if_neg (fun h2 => h2 hm)).trans ((if_neg (fun h3 => h3 h)).trans (if_pos h2))
theorem dec_ok {xs : List UInt8} (hm : ((Rd.mk xs 0).take 8).1 = magicB) (h : (decK xs).2.code = 0) (h2 : (decA xs).check = 0) : Anc.dec xs = (decA xs, 0) := (if_neg (fun h2 => h2 hm)).trans ((if_neg (fun h3 => h3 h)).trans (if_neg (fun h3 => h3 h2)))
theorem decN_le (xs : List UInt8) {i : Nat} (h : i < 6) : 0 ≤ (decN xs).1.getD i 0 ∧ (decN xs).1.getD i 0 ≤ 4611686018427387904 := by
  have hl : (decN xs).1.length = 6 := numsD_len _ 6
  refine numsD_le ((Rd.mk xs 0).take 8).2 6 _ ?_
  have : (decN xs).1.getD i 0 = (decN xs).1[i]'(by omega) := by simp [hl, h]
  rw [this]
  exact List.getElem_mem _
theorem decN_get (xs : List UInt8) {i : Nat} (h : i < 6) : ((decN xs).1.map SV.i)[i]? = some (.i ((decN xs).1.getD i 0)) := by
  have hl : (decN xs).1.length = 6 := numsD_len _ 6
  simp [hl, h]
structure KD (H : Hp) (ks : List Kk) (l : List KekV) : Prop where
  v : ks.map Kk.v = l
  ok : ∀ x ∈ ks, x.k.ok H
  n : ∀ x ∈ ks, x.k.n ≤ 32
theorem KD.mono {H H' : Hp} {ks : List Kk} {l : List KekV} (h : KD H ks l) (hle : HLe H H') : KD H' ks l := ⟨h.v, fun x hx => BS.mono (h.ok x hx) hle, h.n⟩
theorem KD.nil {H : Hp} : KD H [] [] := ⟨rfl, by simp, by simp⟩
theorem KD.len {H : Hp} {ks : List Kk} {l : List KekV} (h : KD H ks l) : ks.length = l.length := by rw [← h.v, List.length_map]
theorem KD.snoc {H : Hp} {ks : List Kk} {r : Rd} {k : Nat} (h : KD H ks (keksD k r).1) {A : Option Addr} {n c : Nat} {key : List UInt8} (hb : BS H A n c key) (hkey : key = ((((keksD k r).2.take 2).2.take 2).2.take 32).1) :
    KD H (ks ++ [⟨((getN ((keksD k r).2.take 2).1).toNat : Int), ((getN (((keksD k r).2.take 2).2.take 2).1).toNat : Int), ⟨A, n, c, key⟩⟩]) (keksD (k + 1) r).1 := by
  subst hkey
  refine ⟨by rw [List.map_append, h.v]; rfl, fun x hx => ?_, fun x hx => ?_⟩
  · rcases List.mem_append.1 hx with hx | hx
    · exact h.ok x hx
    · simp only [List.mem_singleton] at hx
      subst hx
      exact hb
  · rcases List.mem_append.1 hx with hx | hx
    · exact h.n x hx
    · simp only [List.mem_singleton] at hx
      subst hx
      show n ≤ 32
      rw [← hb.len]
      exact take_len _ 32
theorem kcells_snoc (ks : List Kk) (x : Kk) : kcells ks ++ x.cells = kcells (ks ++ [x]) := by simp [kcells]
theorem KD.ks {H : Hp} {ks : List Kk} {l : List KekV} (h : KD H ks l) {A : Option Addr} {n c : Nat} (hr : RR H A (kcells ks)) (hn : l.length = n) (hc : n ≤ c) : KS H A n c ks := ⟨hr, by rw [h.len, hn], hc, h.ok⟩
theorem KD.kl {H : Hp} {ks : List Kk} {l : List KekV} (h : KD H ks l) (hn : l.length ≤ 1099511627776) : KL ks := ⟨by rw [h.len]; exact hn, fun x hx => Nat.le_trans (h.n x hx) (by decide)⟩
theorem decC_small (xs : List UInt8) : (getN (decC xs).1).toNat < 256 := take_small (decM xs).2 1 (by decide)

theorem RAGet_hc {H : Hp} {A : Option Addr} {n c : Nat} {xs : List UInt8} (hx : BS H A n c xs) (hn : n ≤ 1099511627776) :
  HC Try.prog 34 [.sl A n c] [] H (fun rr S' H' => ∃ (a : An), rr = .tup [.agg a.cells, .i (Anc.dec xs).2] ∧ An.ok H' a ∧ a.v = (Anc.dec xs).1 ∧ S' = [] ∧ HLe H H') := by
 have hr0 : RdS H A n c ⟨xs, 0⟩ := ⟨hx, hn⟩
 have hn3 := decN_le xs (i := 3) (by decide)
 refine hc_intro (n := 113) Try.func34 rfl Try.ntmps34 rfl (fun B hB => ?_)
 refine ew_cut (e' := [(0, _)]) [0] rfl ?_
 refine ew_seq ?_
 refine rg (.h 0 (.q 1 XT.done)) (by kernel_rfl) (by kernel_rfl) ?_
 refine h_alloc (cs := [_, _, _, _, _, _, _, _]) Try.zeroValue60 rfl rfl (zc_60 Try.zeroValue60) ?_
 intro g1
 refine ⟨kp0, ?_⟩
 refine q_as (sv := .i 0) rfl rfl rfl ?_
 refine x_end ?_
 refine nk_cut (e' := [(0, _), (2, _), (3, _)]) [0, 2, 3] rfl ?_
 refine nk_seq ?_
 refine ew_seq ?_
 refine rg (.q 0 (.q 1 (.h 2 (.q 3 (.q 4 (.q 5 (.h 6 (.h 7 (.q 8 XT.done))))))))) (by kernel_rfl) (by kernel_rfl) ?_
 refine q_mv rfl rfl rfl ?_
 refine q_bld (cs := [_, _]) bf_161 rfl rfl rfl rfl ?_
 refine h_call0 Try.call91 rfl rfl rfl (RBytesV_hc hr0 (by omega)) ?_
 rintro r_ S_ H hl1 ⟨A1, n1, c1, A2, n2, c2, rfl, hbt1, hrd1, rfl, rfl⟩
 refine ⟨kp0, ?_⟩
 refine x_S (S' := [_]) rfl ?_
 refine q_mv rfl rfl rfl ?_
 refine q_ext rfl rfl rfl rfl ?_
 refine q_ext rfl rfl rfl rfl ?_
 refine h_alloc (cs := [_, _]) Try.zeroValue161 rfl rfl (zc_161 Try.zeroValue161) ?_
 intro g2
 refine ⟨kp0, ?_⟩
 refine h_stS (cs' := [_, _]) (S' := [_, _]) 0 Try.sizeOf161 rfl rfl rfl rfl rfl (allOne rfl) rfl (leb rfl) rfl rfl kp0 ?_
 refine q_as rfl rfl rfl ?_
 refine x_end ?_
 refine nk_cut (e' := [(0, _), (2, _), (3, _), (4, _), (5, _)]) [0, 2, 3, 4, 5] rfl ?_
 refine nk_seq ?_
 refine ew_seq ?_
 refine ew_seq ?_
 refine rg (.q 0 (.h 1 (.q 2 XT.done))) (by kernel_rfl) (by kernel_rfl) ?_
 refine q_mv rfl rfl rfl ?_
 refine h_cvs Try.underlying26 Try.underlying5 Try.underlying9 rfl rfl rfl hbt1 kp0 ?_
 refine q_ne_s rfl rfl rfl rfl ?_
 refine x_end ?_
 refine nk_cut (e' := [(0, _), (2, _), (3, _), (4, _), (5, _), (29, _)]) [0, 2, 3, 4, 5, 29] rfl ?_
 refine nk_seq ?_
 refine ew_cond rfl ?_ ?_
 ·intro hc29
  have hm := mag_T hc29
  refine ew_seq ?_
  refine rg (.q 0 (.h 1 (.q 2 XT.done))) (by kernel_rfl) (by kernel_rfl) ?_
  refine q_bld (cs := [_, _, _, _, _, _, _, _]) bf_60 rfl rfl rfl rfl ?_
  refine h_stS (cs' := [_, _, _, _, _, _, _, _]) (S' := [_, _]) 1 Try.sizeOf60 rfl rfl rfl rfl rfl (allOne rfl) rfl (leb rfl) rfl rfl kp0 ?_
  refine q_as (sv := .i 9) rfl rfl rfl ?_
  refine x_end ?_
  refine nk_cut (e' := [(0, _), (2, _), (3, _), (4, _), (5, _), (29, _)]) [0, 2, 3, 4, 5, 29] rfl ?_
  refine nk_seq ?_
  refine ew_ret (r := .tup [_, _]) rfl rfl (.cons (.agg 1 Try.isAgg60 Try.sizeOf60 rfl rfl rfl) (.cons (.tmp rfl) .nil)) rfl ?_
  have hd := dec_mag hm
  exact ⟨zeroAn, by rw [hd]; rfl, zeroAn_ok, by rw [hd]; rfl, rfl, HLe.refl _⟩
 ·intro hc29
  have hm := mag_F hc29
  refine ew_skip ?_
  refine nk_seq ?_
  refine ew_seq ?_
  refine rg (.q 0 (.h 1 (.q 2 (.q 3 (.q 4 (.h 5 (.h 6 (.q 7 XT.done)))))))) (by kernel_rfl) (by kernel_rfl) ?_
  refine q_ldS 0 Try.isAgg161 Try.sizeOf161 rfl rfl rfl rfl rfl ?_
  refine h_call0 Try.call92 rfl rfl rfl (RNums_hc hrd1) ?_
  rintro r_ S_ H hl2 ⟨A3, n3, c3, A4, c4, rfl, hrd2, hcap1, rfl, rfl⟩
  refine ⟨kp0, ?_⟩
  refine x_S (S' := [_, _, _]) rfl ?_
  refine q_mv rfl rfl rfl ?_
  refine q_ext rfl rfl rfl rfl ?_
  refine q_ext rfl rfl rfl rfl ?_
  refine h_alloc (cs := [_, _]) Try.zeroValue161 rfl rfl (zc_161 Try.zeroValue161) ?_
  intro g4
  refine ⟨kp0, ?_⟩
  refine h_stS (cs' := [_, _]) (S' := [_, _, _, _]) 0 Try.sizeOf161 rfl rfl rfl rfl rfl (allOne rfl) rfl (leb rfl) rfl rfl kp0 ?_
  refine q_as rfl rfl rfl ?_
  refine x_end ?_
  refine nk_cut (e' := [(0, _), (2, _), (3, _), (4, _), (5, _), (6, _), (7, _), (29, _)]) [0, 2, 3, 4, 5, 6, 7, 29] rfl ?_
  refine nk_seq ?_
  refine ew_seq ?_
  refine rg (.q 0 (.h 1 (.q 2 (.q 3 (.q 4 (.h 5 (.h 6 (.q 7 XT.done)))))))) (by kernel_rfl) (by kernel_rfl) ?_
  refine q_ldS 0 Try.isAgg161 Try.sizeOf161 rfl rfl rfl rfl rfl ?_
  refine h_call0 Try.call91 rfl rfl rfl (RBytesV_hc hrd2 (by omega)) ?_
  rintro r_ S_ H hl3 ⟨A5, n4, c5, A6, n5, c6, rfl, hbt2, hrd3, rfl, rfl⟩
  refine ⟨kp0, ?_⟩
  refine x_S (S' := [_, _, _, _]) rfl ?_
  refine q_mv rfl rfl rfl ?_
  refine q_ext rfl rfl rfl rfl ?_
  refine q_ext rfl rfl rfl rfl ?_
  refine h_alloc (cs := [_, _]) Try.zeroValue161 rfl rfl (zc_161 Try.zeroValue161) ?_
  intro g5
  refine ⟨kp0, ?_⟩
  refine h_stS (cs' := [_, _]) (S' := [_, _, _, _, _]) 0 Try.sizeOf161 rfl rfl rfl rfl rfl (allOne rfl) rfl (leb rfl) rfl rfl kp0 ?_
  refine q_as rfl rfl rfl ?_
  refine x_end ?_
  refine nk_cut (e' := [(0, _), (2, _), (3, _), (4, _), (5, _), (6, _), (7, _), (8, _), (9, _), (29, _)]) [0, 2, 3, 4, 5, 6, 7, 8, 9, 29] rfl ?_
  refine nk_seq ?_
  refine ew_seq ?_
  refine rg (.q 0 (.h 1 (.q 2 (.q 3 (.q 4 (.h 5 (.h 6 (.q 7 XT.done)))))))) (by kernel_rfl) (by kernel_rfl) ?_
  refine q_ldS 0 Try.isAgg161 Try.sizeOf161 rfl rfl rfl rfl rfl ?_
  refine h_call0 Try.call93 rfl rfl rfl (RNumberV_hc hrd3 (by omega)) ?_
  rintro r_ S_ H hl4 ⟨A7, n6, c7, rfl, hrd4, rfl, rfl⟩
  refine ⟨kp0, ?_⟩
  refine x_S (S' := [_, _, _, _, _]) rfl ?_
  refine q_mv rfl rfl rfl ?_
  refine q_ext rfl rfl rfl rfl ?_
  refine q_ext rfl rfl rfl rfl ?_
  refine h_alloc (cs := [_, _]) Try.zeroValue161 rfl rfl (zc_161 Try.zeroValue161) ?_
  intro g6
  refine ⟨kp0, ?_⟩
  refine h_stS (cs' := [_, _]) (S' := [_, _, _, _, _, _]) 0 Try.sizeOf161 rfl rfl rfl rfl rfl (allOne rfl) rfl (leb rfl) rfl rfl kp0 ?_
  refine q_as rfl rfl rfl ?_
  refine x_end ?_
  refine nk_cut (e' := [(0, _), (2, _), (3, _), (4, _), (5, _), (6, _), (7, _), (8, _), (9, _), (10, _), (11, _), (29, _)]) [0, 2, 3, 4, 5, 6, 7, 8, 9, 10, 11, 29] rfl ?_
  refine nk_seq ?_
  refine ew_seq ?_
  refine rd (by kernel_rfl) [0, 1, 2, 3, 4, 5, 6, 7, 8, 9, 10, 11, 12, 13, 14, 15, 16, 17, 18, 19, 20] [0, 1, 2, 3, 4, 5, 6, 7, 8, 9, 10, 11, 12, 13, 14, 15, 16, 17, 18, 19, 20, 21] (.q 0 (.q 1 (.q 2 (.q 3 (.q 4 (.q 5 (.q 6 (.q 7 (.q 8 (.q 9 (.q 10 (.q 11 (.q 12 (.q 13 (.q 14 (.q 15 (.q 16 (.q 17 (.q 18 (.q 19 (.q 20 (.h 21 (.h 22 XT.done))))))))))))))))))))))) (by kernel_rfl) (by kernel_rfl) (keepL _ [3]) (keepL_sub _ _) ?_
  refine q_mv rfl rfl rfl ?_
  refine x_own 3 rfl (by rw [List.length_map, numsD_len]; decide) ?_
  intro hAs
  refine q_ixs1 Try.underlying154 Try.sizeOf3 rfl rfl rfl rfl rfl hAs (by omega) (by omega) ?_
  refine q_ldo 0 Try.isAgg3 rfl rfl rfl rfl (decN_get xs (i := 0) (by decide)) ?_
  refine q_mv rfl rfl rfl ?_
  refine q_ixs1 Try.underlying154 Try.sizeOf3 rfl rfl rfl rfl rfl hAs (by omega) (by omega) ?_
  refine q_ldo 0 Try.isAgg3 rfl rfl rfl rfl (decN_get xs (i := 1) (by decide)) ?_
  refine q_mv rfl rfl rfl ?_
  refine q_ixs1 Try.underlying154 Try.sizeOf3 rfl rfl rfl rfl rfl hAs (by omega) (by omega) ?_
  refine q_ldo 0 Try.isAgg3 rfl rfl rfl rfl (decN_get xs (i := 2) (by decide)) ?_
  refine q_mv rfl rfl rfl ?_
  refine q_ixs1 Try.underlying154 Try.sizeOf3 rfl rfl rfl rfl rfl hAs (by omega) (by omega) ?_
  refine q_ldo 0 Try.isAgg3 rfl rfl rfl rfl (decN_get xs (i := 3) (by decide)) ?_
  refine q_sub rfl rfl rfl rfl (by omega) (by omega) ?_
  refine q_mv rfl rfl rfl ?_
  refine q_ixs1 Try.underlying154 Try.sizeOf3 rfl rfl rfl rfl rfl hAs (by omega) (by omega) ?_
  refine q_ldo 0 Try.isAgg3 rfl rfl rfl rfl (decN_get xs (i := 4) (by decide)) ?_
  refine q_mv rfl rfl rfl ?_
  refine q_ixs1 Try.underlying154 Try.sizeOf3 rfl rfl rfl rfl rfl hAs (by omega) (by omega) ?_
  refine q_ldo 0 Try.isAgg3 rfl rfl rfl rfl (decN_get xs (i := 5) (by decide)) ?_
  refine q_mv rfl rfl rfl ?_
  refine q_bld (cs := [_, _, _, _, _, _, _, _]) bf_60 rfl rfl rfl rfl ?_
  refine h_alloc (cs := [_, _, _, _, _, _, _, _]) Try.zeroValue60 rfl rfl (zc_60 Try.zeroValue60) ?_
  intro g7
  refine ⟨(fun _ => ⟨by first | exact kpL [4] rfl | simp [keepL, nth], HLe.refl _⟩), ?_⟩
  refine h_stS (cs' := [_, _, _, _, _, _, _, _]) (S' := [_, _, _, _, _, _, _]) 0 Try.sizeOf60 rfl rfl rfl rfl rfl (allOne rfl) rfl (leb rfl) rfl rfl (fun h => absurd h (by decide)) ?_
  refine x_end ?_
  refine nk_cut (e' := [(0, _), (2, _), (3, _), (4, _), (5, _), (6, _), (7, _), (8, _), (9, _), (10, _), (11, _), (12, _), (29, _)]) [0, 2, 3, 4, 5, 6, 7, 8, 9, 10, 11, 12, 29] rfl ?_
  refine nk_seq ?_
  refine ew_seq ?_
  refine ew_seq ?_
  refine ew_perm (S' := [_, _, _, _, _, _, _]) (permL [1, 0, 6, 2, 3, 4, 5] rfl) ?_
  refine ew_drop (S := [_, _, _]) (S' := [_, _, _, _]) ?_
  have hcnt := decC_small xs
  refine ew_nil 153 ?_
  refine rg (.q 0 XT.done) (by kernel_rfl) (by kernel_rfl) ?_
  refine q_as (sv := .i 0) rfl rfl rfl ?_
  refine x_end ?_
  refine nk_cut (e' := [(0, _), (2, _), (3, _), (4, _), (5, _), (6, _), (7, _), (8, _), (9, _), (10, _), (11, _), (12, _), (13, _), (29, _)]) [0, 2, 3, 4, 5, 6, 7, 8, 9, 10, 11, 12, 13, 29] rfl ?_
  refine nk_seq ?_
  refine ew_block ?_
  let Ev1 : Nat × Option Addr × Nat × Nat × Option Addr × Nat × List Kk → Env := fun ⟨k, A2, n2, c2, A3, c3, ks⟩ => [(13, .i (k : Int)), (11, .u64 (getN (decC xs).1))]
  let Sv1 : Nat × Option Addr × Nat × Nat × Option Addr × Nat × List Kk → Res := fun ⟨k, A2, n2, c2, A3, c3, ks⟩ => [.own A3 153 (kcells ks) (c3 * 3), .box g6 161 [.sl A2 n2 c2, .i (keksD k (decC xs).2).2.code], .box g7 60 [.i ((decN xs).1.getD 0 0), .i ((decN xs).1.getD 1 0), .i ((decN xs).1.getD 2 0), .i ((decN xs).1.getD 3 0 - 1), .i ((decN xs).1.getD 4 0), .i ((decN xs).1.getD 5 0), .sl A5 n4 c5, .sl A3 k c3], .box g1 60 zeroAn.cells]
  let Gv1 : Nat × Option Addr × Nat × Nat × Option Addr × Nat × List Kk → Hp → Prop := fun ⟨k, A2, n2, c2, A3, c3, ks⟩ H' => H = H' ∧ (k ≤ (getN (decC xs).1).toNat ∧ k ≤ c3 ∧ RdS H' A2 n2 c2 (keksD k (decC xs).2).2 ∧ KD H' ks (keksD k (decC xs).2).1)
  let Mv1 : Nat × Option Addr × Nat × Nat × Option Addr × Nat × List Kk → Nat := fun ⟨k, A2, n2, c2, A3, c3, ks⟩ => (getN (decC xs).1).toNat - k
  refine ew_loop (mkE [(0, _), (2, _), (3, _), (4, _), (5, _), (6, _), (7, _), (8, _), (9, _), (10, _), (12, _), (29, _)] Ev1) (Sv1) Gv1 Mv1 (⟨0, _, _, _, none, 0, []⟩ : Nat × Option Addr × Nat × Nat × Option Addr × Nat × List Kk) ⟨rfl, rfl, rfl, rfl, rfl, rfl, rfl, rfl, rfl, rfl, rfl, rfl, rfl, rfl, trivial⟩ rfl ⟨rfl, ⟨by omega, by omega, hrd4, KD.nil⟩⟩ ?_
  rintro ⟨k, A2, n2, c2, A3, c3, ks⟩ H' ⟨rfl, hG⟩
  obtain ⟨hk, hkc, hrk, hkd⟩ := hG
  refine ew_S (S' := [_, _, _, _]) rfl ?_
  refine ew_cut (e' := [(13, _), (11, _), (0, _), (2, _), (3, _), (4, _), (5, _), (6, _), (7, _), (8, _), (9, _), (10, _), (12, _), (29, _)]) [13, 11, 0, 2, 3, 4, 5, 6, 7, 8, 9, 10, 12, 29] rfl ?_
  refine ew_seq ?_
  refine ew_seq ?_
  refine rg (.q 0 (.q 1 (.q 2 (.q 3 XT.done)))) (by kernel_rfl) (by kernel_rfl) ?_
  refine q_mv rfl rfl rfl ?_
  refine q_mv rfl rfl rfl ?_
  refine q_cv_u64_i Try.underlying3 (by kernel_rfl) rfl rfl rfl (by omega) ?_
  refine q_lt rfl rfl rfl rfl ?_
  refine x_end ?_
  refine nk_cut (e' := [(0, _), (2, _), (3, _), (4, _), (5, _), (6, _), (7, _), (8, _), (9, _), (10, _), (11, _), (12, _), (13, _), (29, _), (70, _)]) [0, 2, 3, 4, 5, 6, 7, 8, 9, 10, 11, 12, 13, 29, 70] rfl ?_
  refine nk_seq ?_
  refine ew_cond rfl ?_ ?_
  ·intro hc70
   try simp only [decide_eq_true_eq] at hc70
   have hs1 : (getN ((keksD k (decC xs).2).2.take 2).1).toNat < 65536 := take_small _ 2 (by decide)
   have hs2 : (getN (((keksD k (decC xs).2).2.take 2).2.take 2).1).toNat < 65536 := take_small _ 2 (by decide)
   have hkl := hkd.len
   rw [keksD_len] at hkl
   refine ew_skip ?_
   refine nk_seq ?_
   refine ew_seq ?_
   refine ew_block ?_
   refine ew_seq ?_
   refine rg (.q 0 (.h 1 (.q 2 (.q 3 (.q 4 (.h 5 (.h 6 (.q 7 XT.done)))))))) (by kernel_rfl) (by kernel_rfl) ?_
   refine q_ldS 1 Try.isAgg161 Try.sizeOf161 rfl rfl rfl rfl rfl ?_
   refine h_call0 Try.call93 rfl rfl rfl (RNumberV_hc hrk (by omega)) ?_
   rintro r_ S_ H hl5 ⟨A8, n7, c8, rfl, hrd5, rfl, rfl⟩
   refine ⟨kp0, ?_⟩
   refine x_S (S' := [_, _, _, _]) rfl ?_
   refine q_mv rfl rfl rfl ?_
   refine q_ext rfl rfl rfl rfl ?_
   refine q_ext rfl rfl rfl rfl ?_
   refine h_alloc (cs := [_, _]) Try.zeroValue161 rfl rfl (zc_161 Try.zeroValue161) ?_
   intro g8
   refine ⟨kp0, ?_⟩
   refine h_stS (cs' := [_, _]) (S' := [_, _, _, _, _]) 0 Try.sizeOf161 rfl rfl rfl rfl rfl (allOne rfl) rfl (leb rfl) rfl rfl kp0 ?_
   refine q_as rfl rfl rfl ?_
   refine x_end ?_
   refine nk_cut (e' := [(0, _), (2, _), (3, _), (4, _), (5, _), (6, _), (7, _), (8, _), (9, _), (10, _), (11, _), (12, _), (13, _), (14, _), (15, _), (29, _), (70, _)]) [0, 2, 3, 4, 5, 6, 7, 8, 9, 10, 11, 12, 13, 14, 15, 29, 70] rfl ?_
   refine nk_seq ?_
   refine ew_seq ?_
   refine rg (.q 0 (.h 1 (.q 2 (.q 3 (.q 4 (.h 5 (.h 6 (.q 7 XT.done)))))))) (by kernel_rfl) (by kernel_rfl) ?_
   refine q_ldS 0 Try.isAgg161 Try.sizeOf161 rfl rfl rfl rfl rfl ?_
   refine h_call0 Try.call93 rfl rfl rfl (RNumberV_hc hrd5 (by omega)) ?_
   rintro r_ S_ H hl6 ⟨A9, n8, c9, rfl, hrd6, rfl, rfl⟩
   refine ⟨kp0, ?_⟩
   refine x_S (S' := [_, _, _, _, _]) rfl ?_
   refine q_mv rfl rfl rfl ?_
   refine q_ext rfl rfl rfl rfl ?_
   refine q_ext rfl rfl rfl rfl ?_
   refine h_alloc (cs := [_, _]) Try.zeroValue161 rfl rfl (zc_161 Try.zeroValue161) ?_
   intro g9
   refine ⟨kp0, ?_⟩
   refine h_stS (cs' := [_, _]) (S' := [_, _, _, _, _, _]) 0 Try.sizeOf161 rfl rfl rfl rfl rfl (allOne rfl) rfl (leb rfl) rfl rfl kp0 ?_
   refine q_as rfl rfl rfl ?_
   refine x_end ?_
   refine nk_cut (e' := [(0, _), (2, _), (3, _), (4, _), (5, _), (6, _), (7, _), (8, _), (9, _), (10, _), (11, _), (12, _), (13, _), (14, _), (15, _), (16, _), (17, _), (29, _), (70, _)]) [0, 2, 3, 4, 5, 6, 7, 8, 9, 10, 11, 12, 13, 14, 15, 16, 17, 29, 70] rfl ?_
   refine nk_seq ?_
   refine ew_seq ?_
   refine rg (.q 0 (.h 1 (.q 2 (.q 3 (.q 4 (.h 5 (.h 6 (.q 7 XT.done)))))))) (by kernel_rfl) (by kernel_rfl) ?_
   refine q_ldS 0 Try.isAgg161 Try.sizeOf161 rfl rfl rfl rfl rfl ?_
   refine h_call0 Try.call91 rfl rfl rfl (RBytesV_hc hrd6 (by omega)) ?_
   rintro r_ S_ H hl7 ⟨A10, n9, c10, A11, n10, c11, rfl, hbt3, hrd7, rfl, rfl⟩
   refine ⟨kp0, ?_⟩
   refine x_S (S' := [_, _, _, _, _, _]) rfl ?_
   refine q_mv rfl rfl rfl ?_
   refine q_ext rfl rfl rfl rfl ?_
   refine q_ext rfl rfl rfl rfl ?_
   refine h_alloc (cs := [_, _]) Try.zeroValue161 rfl rfl (zc_161 Try.zeroValue161) ?_
   intro g10
   refine ⟨kp0, ?_⟩
   refine h_stS (cs' := [_, _]) (S' := [_, _, _, _, _, _, _]) 0 Try.sizeOf161 rfl rfl rfl rfl rfl (allOne rfl) rfl (leb rfl) rfl rfl kp0 ?_
   refine q_as rfl rfl rfl ?_
   refine x_end ?_
   refine nk_cut (e' := [(0, _), (2, _), (3, _), (4, _), (5, _), (6, _), (7, _), (8, _), (9, _), (10, _), (11, _), (12, _), (13, _), (14, _), (15, _), (16, _), (17, _), (18, _), (19, _), (29, _), (70, _)]) [0, 2, 3, 4, 5, 6, 7, 8, 9, 10, 11, 12, 13, 14, 15, 16, 17, 18, 19, 29, 70] rfl ?_
   refine nk_seq ?_
   refine ew_seq ?_
   refine rg (.q 0 (.h 1 XT.done)) (by kernel_rfl) (by kernel_rfl) ?_
   refine q_ldS 0 Try.isAgg161 Try.sizeOf161 rfl rfl rfl rfl rfl ?_
   refine h_stS (cs' := [_, _]) (S' := [_, _, _, _, _, _, _]) 4 Try.sizeOf161 rfl rfl rfl rfl rfl (allOne rfl) rfl (leb rfl) rfl rfl kp0 ?_
   refine x_end ?_
   refine nk_cut (e' := [(0, _), (2, _), (3, _), (4, _), (5, _), (6, _), (7, _), (8, _), (9, _), (10, _), (11, _), (12, _), (13, _), (14, _), (15, _), (16, _), (17, _), (18, _), (19, _), (29, _), (70, _)]) [0, 2, 3, 4, 5, 6, 7, 8, 9, 10, 11, 12, 13, 14, 15, 16, 17, 18, 19, 29, 70] rfl ?_
   refine nk_seq ?_
   refine rg (.q 0 (.q 1 (.q 2 (.q 3 (.q 4 (.q 5 (.q 6 (.q 7 (.h 8 (.h 9 (.q 10 (.h 11 XT.done)))))))))))) (by kernel_rfl) (by kernel_rfl) ?_
   refine q_fa fa_60_7 rfl rfl rfl ?_
   refine q_ld 5 Try.isAgg58 rfl rfl rfl rfl rfl ?_
   refine q_mv rfl rfl rfl ?_
   refine q_cv_u64_i Try.underlying3 (by kernel_rfl) rfl rfl rfl (by omega) ?_
   refine q_mv rfl rfl rfl ?_
   refine q_cv_u64_i Try.underlying3 (by kernel_rfl) rfl rfl rfl (by omega) ?_
   refine q_mv rfl rfl rfl ?_
   refine q_bld (cs := [_, _, _]) bf_153 rfl rfl rfl rfl ?_
   refine h_bs (cs := [_, _, _]) Try.underlying58 info_153 rfl rfl rfl rfl rfl rfl rfl rfl rfl (by decide) ?_
   intro g11
   refine ⟨kp0, ?_⟩
   refine h_appO (sz := 3) (S1 := [_, _, _, _, _, _, _]) 0 3 Try.underlying58 info_153 rfl rfl rfl (by decide) rfl rfl rfl rfl rfl rfl rfl rfl (by rw [kcells_len, hkl]) (by omega) rfl (allOne rfl) (by simp only [by_153]; omega) (by omega) ?_
   intro A12 c12 hcap2
   refine ⟨kp0, ?_⟩
   refine x_S (S' := [_, _, _, _, _, _, _]) rfl ?_
   refine q_fa fa_60_7 rfl rfl rfl ?_
   refine h_st (cs' := [_, _, _, _, _, _, _, _]) (S' := [_, _, _, _, _, _, _]) 5 Try.sizeOf58 rfl rfl rfl rfl rfl rfl (ltb rfl) rfl rfl kp0 ?_
   refine x_end ?_
   refine nk_cut (e' := [(0, _), (2, _), (3, _), (4, _), (5, _), (6, _), (7, _), (8, _), (9, _), (10, _), (11, _), (12, _), (13, _), (14, _), (15, _), (16, _), (17, _), (18, _), (19, _), (29, _), (70, _)]) [0, 2, 3, 4, 5, 6, 7, 8, 9, 10, 11, 12, 13, 14, 15, 16, 17, 18, 19, 29, 70] rfl ?_
   refine nk_blk ?_
   refine nk_seq ?_
   refine rg (.q 0 (.q 1 (.q 2 XT.done))) (by kernel_rfl) (by kernel_rfl) ?_
   refine q_mv rfl rfl rfl ?_
   refine q_add rfl rfl rfl rfl (by omega) (by omega) ?_
   refine q_as rfl rfl rfl ?_
   refine x_end ?_
   refine nk_cut (e' := [(0, _), (2, _), (3, _), (4, _), (5, _), (6, _), (7, _), (8, _), (9, _), (10, _), (11, _), (12, _), (13, _), (14, _), (15, _), (16, _), (17, _), (18, _), (19, _), (29, _), (70, _)]) [0, 2, 3, 4, 5, 6, 7, 8, 9, 10, 11, 12, 13, 14, 15, 16, 17, 18, 19, 29, 70] rfl ?_
   refine nk_perm (S' := [_, _, _, _, _, _, _]) (permL [3, 4, 5, 6, 0, 1, 2] rfl) ?_
   refine nk_drop (S := [_, _, _, _]) (S' := [_, _, _]) ?_
   refine nk_round (μ := Mv1) (i := (k, A2, n2, c2, A3, c3, ks)) (S := Sv1) (G := Gv1) (⟨k + 1, A11, n10, c11, A12, c12, ks ++ [⟨((getN ((keksD k (decC xs).2).2.take 2).1).toNat : Int), ((getN (((keksD k (decC xs).2).2.take 2).2.take 2).1).toNat : Int), ⟨A10, n9, c10, ((((keksD k (decC xs).2).2.take 2).2.take 2).2.take 32).1⟩⟩]⟩ : Nat × Option Addr × Nat × Nat × Option Addr × Nat × List Kk) ?_ ?_ ?_ ?_
   ·exact ⟨rfl, rfl, rfl, rfl, rfl, rfl, rfl, rfl, rfl, rfl, rfl, rfl, rfl, rfl, trivial⟩
   ·exact (congrArg (fun l => Chunk.own _ 153 l _ :: _) (kcells_snoc ks ⟨((getN ((keksD k (decC xs).2).2.take 2).1).toNat : Int), ((getN (((keksD k (decC xs).2).2.take 2).2.take 2).1).toNat : Int), ⟨A10, n9, c10, ((((keksD k (decC xs).2).2.take 2).2.take 2).2.take 32).1⟩⟩))
   ·exact ⟨rfl, ⟨by omega, by omega, hrd7, hkd.snoc hbt3 rfl⟩⟩
   ·dsimp only [Mv1]; omega
  ·intro hc70
   try simp only [decide_eq_false_iff_not] at hc70
   refine ew_exit _ rfl ?_
   refine nk_seq ?_
   refine ew_seq ?_
   refine ew_seq ?_
   refine rg (.q 0 (.q 1 (.q 2 XT.done))) (by kernel_rfl) (by kernel_rfl) ?_
   refine q_fa fa_161_1 rfl rfl rfl ?_
   refine q_ld 1 Try.isAgg32 rfl rfl rfl rfl rfl ?_
   refine q_ne rfl rfl rfl rfl ?_
   refine x_end ?_
   refine nk_cut (e' := [(0, _), (2, _), (3, _), (4, _), (5, _), (6, _), (7, _), (8, _), (9, _), (10, _), (11, _), (12, _), (13, _), (29, _), (70, _), (102, _)]) [0, 2, 3, 4, 5, 6, 7, 8, 9, 10, 11, 12, 13, 29, 70, 102] rfl ?_
   refine nk_seq ?_
   refine ew_cond rfl ?_ ?_
   ·intro hc102
    simp only [ne_eq, decide_eq_true_eq, decide_eq_false_iff_not, Decidable.not_not] at hc102
    refine ew_seq ?_
    refine rd (by kernel_rfl) [0, 1, 2, 4] [0, 1, 2, 3, 4] (.q 0 (.q 1 (.q 2 (.h 3 (.q 4 XT.done))))) (by kernel_rfl) (by kernel_rfl) (keepL _ [1]) (keepL_sub _ _) ?_
    refine q_bld (cs := [_, _, _, _, _, _, _, _]) bf_60 rfl rfl rfl rfl ?_
    refine q_fa fa_161_1 rfl rfl rfl ?_
    refine q_ld 0 Try.isAgg32 rfl rfl rfl rfl rfl ?_
    refine h_stS (cs' := [_, _, _, _, _, _, _, _]) (S' := [_, _, _, _]) 3 Try.sizeOf60 rfl rfl rfl rfl rfl (allOne rfl) rfl (leb rfl) rfl rfl (fun _ => ⟨by first | exact kpL [1] rfl | simp [keepL, nth], HLe.refl _⟩) ?_
    refine q_as rfl rfl rfl ?_
    refine x_end ?_
    refine nk_cut (e' := [(0, _), (2, _), (3, _), (4, _), (5, _), (6, _), (7, _), (8, _), (9, _), (10, _), (11, _), (12, _), (13, _), (29, _), (70, _), (102, _)]) [0, 2, 3, 4, 5, 6, 7, 8, 9, 10, 11, 12, 13, 29, 70, 102] rfl ?_
    refine nk_seq ?_
    refine ew_ret (r := .tup [_, _]) rfl rfl (.cons (.agg 3 Try.isAgg60 Try.sizeOf60 rfl rfl rfl) (.cons (.tmp rfl) .nil)) rfl ?_
    have hkn : k = (getN (decC xs).1).toNat := by omega
    have hK : keksD k (decC xs).2 = decK xs := by rw [hkn]; rfl
    rw [hK] at hc102 ⊢
    have hd := dec_code hm hc102
    exact ⟨zeroAn, by rw [hd]; rfl, zeroAn_ok, by rw [hd]; rfl, rfl, HLe.refl _⟩
   ·intro hc102
    simp only [ne_eq, decide_eq_true_eq, decide_eq_false_iff_not, Decidable.not_not] at hc102
    refine ew_skip ?_
    refine nk_seq ?_
    refine ew_seq ?_
    refine ew_seq ?_
    refine pubE (S' := [_, _, _]) 0 rfl rfl ?_
    intro Hp1 hp1 hrL
    replace hx := hx.mono hp1
    replace hr0 := hr0.mono hp1
    replace hbt1 := hbt1.mono hp1
    replace hrd1 := hrd1.mono hp1
    replace hrd2 := hrd2.mono hp1
    replace hbt2 := hbt2.mono hp1
    replace hrd3 := hrd3.mono hp1
    replace hrd4 := hrd4.mono hp1
    replace hrk := hrk.mono hp1
    replace hkd := hkd.mono hp1
    have hkn : k = (getN (decC xs).1).toNat := by omega
    have hK : keksD k (decC xs).2 = decK xs := by rw [hkn]; rfl
    have hcode : (decK xs).2.code = 0 := by rw [← hK]; omega
    have ha : An.ok Hp1 ⟨(decN xs).1.getD 0 0, (decN xs).1.getD 1 0, (decN xs).1.getD 2 0, (decN xs).1.getD 3 0 - 1, (decN xs).1.getD 4 0, (decN xs).1.getD 5 0, ⟨A5, n4, c5, (decM xs).1⟩, A3, k, c3, ks⟩ := ⟨hbt2, hkd.ks hrL (by rw [keksD_len]) hkc, by have hl := hbt2.len; have hl2 : ((decM xs).1).length ≤ 32 := take_len (decN xs).2 32; show n4 ≤ 1099511627776; have hl3 : ((decM xs).1).length = n4 := hl; omega, hkd.kl (by rw [keksD_len]; omega)⟩
    have hv : An.v ⟨(decN xs).1.getD 0 0, (decN xs).1.getD 1 0, (decN xs).1.getD 2 0, (decN xs).1.getD 3 0 - 1, (decN xs).1.getD 4 0, (decN xs).1.getD 5 0, ⟨A5, n4, c5, (decM xs).1⟩, A3, k, c3, ks⟩ = decA xs := by simp only [An.v, decA, hkd.v, hK]
    generalize (decN xs).1.getD 0 0 = z0 at *
    generalize (decN xs).1.getD 1 0 = z1 at *
    generalize (decN xs).1.getD 2 0 = z2 at *
    generalize (decN xs).1.getD 3 0 = z3 at *
    generalize (decN xs).1.getD 4 0 = z4 at *
    generalize (decN xs).1.getD 5 0 = z5 at *
    refine rg (.q 0 (.h 1 (.q 2 XT.done))) (by kernel_rfl) (by kernel_rfl) ?_
    refine q_ldS 1 Try.isAgg60 Try.sizeOf60 rfl rfl rfl rfl rfl ?_
    have hcells : An.cells ⟨z0, z1, z2, z3 - 1, z4, z5, ⟨A5, n4, c5, (decM xs).1⟩, A3, k, c3, ks⟩ = [.i z0, .i z1, .i z2, .i (z3 - 1), .i z4, .i z5, .sl A5 n4 c5, .sl A3 k c3] := rfl
    have hca := RAChk_hc ha
    rw [hcells] at hca
    refine h_call0 Try.call36 rfl rfl rfl (hca) ?_
    rintro r_ S_ Hp1 hl8 ⟨rfl, rfl, rfl⟩
    refine ⟨kp0, ?_⟩
    refine x_S (S' := [_, _, _]) rfl ?_
    refine q_as rfl rfl rfl ?_
    refine x_end ?_
    refine nk_cut (e' := [(0, _), (2, _), (3, _), (4, _), (5, _), (6, _), (7, _), (8, _), (9, _), (10, _), (11, _), (12, _), (13, _), (20, _), (29, _), (70, _), (102, _)]) [0, 2, 3, 4, 5, 6, 7, 8, 9, 10, 11, 12, 13, 20, 29, 70, 102] rfl ?_
    refine nk_seq ?_
    refine ew_seq ?_
    refine rg (.q 0 (.q 1 XT.done)) (by kernel_rfl) (by kernel_rfl) ?_
    refine q_mv rfl rfl rfl ?_
    refine q_ne rfl rfl rfl rfl ?_
    refine x_end ?_
    refine nk_cut (e' := [(0, _), (2, _), (3, _), (4, _), (5, _), (6, _), (7, _), (8, _), (9, _), (10, _), (11, _), (12, _), (13, _), (20, _), (29, _), (70, _), (102, _), (109, _)]) [0, 2, 3, 4, 5, 6, 7, 8, 9, 10, 11, 12, 13, 20, 29, 70, 102, 109] rfl ?_
    refine nk_seq ?_
    refine ew_cond rfl ?_ ?_
    ·intro hc109
     simp only [ne_eq, decide_eq_true_eq, decide_eq_false_iff_not, Decidable.not_not] at hc109
     refine ew_seq ?_
     refine rg (.q 0 (.q 1 (.h 2 (.q 3 XT.done)))) (by kernel_rfl) (by kernel_rfl) ?_
     refine q_bld (cs := [_, _, _, _, _, _, _, _]) bf_60 rfl rfl rfl rfl ?_
     refine q_mv rfl rfl rfl ?_
     refine h_stS (cs' := [_, _, _, _, _, _, _, _]) (S' := [_, _, _]) 2 Try.sizeOf60 rfl rfl rfl rfl rfl (allOne rfl) rfl (leb rfl) rfl rfl kp0 ?_
     refine q_as rfl rfl rfl ?_
     refine x_end ?_
     refine nk_cut (e' := [(0, _), (2, _), (3, _), (4, _), (5, _), (6, _), (7, _), (8, _), (9, _), (10, _), (11, _), (12, _), (13, _), (20, _), (29, _), (70, _), (102, _), (109, _)]) [0, 2, 3, 4, 5, 6, 7, 8, 9, 10, 11, 12, 13, 20, 29, 70, 102, 109] rfl ?_
     refine nk_seq ?_
     refine ew_ret (r := .tup [_, _]) rfl rfl (.cons (.agg 2 Try.isAgg60 Try.sizeOf60 rfl rfl rfl) (.cons (.tmp rfl) .nil)) rfl ?_
     rw [hv] at hc109 ⊢
     have hd := dec_chk hm hcode hc109
     exact ⟨zeroAn, by rw [hd]; rfl, zeroAn_ok, by rw [hd]; rfl, rfl, hp1⟩
    ·intro hc109
     simp only [ne_eq, decide_eq_true_eq, decide_eq_false_iff_not, Decidable.not_not] at hc109
     refine ew_skip ?_
     refine nk_seq ?_
     refine ew_seq ?_
     refine rg (.q 0 (.h 1 (.q 2 XT.done))) (by kernel_rfl) (by kernel_rfl) ?_
     refine q_ldS 1 Try.isAgg60 Try.sizeOf60 rfl rfl rfl rfl rfl ?_
     refine h_stS (cs' := [_, _, _, _, _, _, _, _]) (S' := [_, _, _]) 2 Try.sizeOf60 rfl rfl rfl rfl rfl (allOne rfl) rfl (leb rfl) rfl rfl kp0 ?_
     refine q_as (sv := .i 0) rfl rfl rfl ?_
     refine x_end ?_
     refine nk_cut (e' := [(0, _), (2, _), (3, _), (4, _), (5, _), (6, _), (7, _), (8, _), (9, _), (10, _), (11, _), (12, _), (13, _), (20, _), (29, _), (70, _), (102, _), (109, _)]) [0, 2, 3, 4, 5, 6, 7, 8, 9, 10, 11, 12, 13, 20, 29, 70, 102, 109] rfl ?_
     refine nk_seq ?_
     refine ew_ret (r := .tup [_, _]) rfl rfl (.cons (.agg 2 Try.isAgg60 Try.sizeOf60 rfl rfl rfl) (.cons (.tmp rfl) .nil)) rfl ?_
     rw [hv] at hc109
     have hd := dec_ok hm hcode (by omega)
     exact ⟨⟨z0, z1, z2, z3 - 1, z4, z5, ⟨A5, n4, c5, (decM xs).1⟩, A3, k, c3, ks⟩, by rw [hd]; rfl, ha, by rw [hd]; exact hv, rfl, hp1⟩


theorem sub1 {v : Int} (h : 0 ≤ v ∧ v ≤ 4611686018427387904) : -9223372036854775808 ≤ v - 1 ∧ v - 1 ≤ 9223372036854775807 := ⟨by omega, by omega⟩
theorem u64_lt {k : Nat} {c : UInt64} (hc : c.toNat < 256) (hk : k ≤ c.toNat) : (UInt64.ofNat k < c) ↔ k < c.toNat := by
  rw [UInt64.lt_iff_toNat_lt, UInt64.toNat_ofNat']
  omega
theorem u64_succ (k : Nat) : UInt64.ofNat k + 1 = UInt64.ofNat (k + 1) := by
  apply UInt64.toNat_inj.1
  rw [UInt64.toNat_add, UInt64.toNat_ofNat', UInt64.toNat_ofNat']
  have : (1 : UInt64).toNat = 1 := rfl
  rw [this]
  omega

theorem AGet_hc {H : Hp} {A : Option Addr} {n c : Nat} {xs : List UInt8} (hx : BS H A n c xs) (hn : n ≤ 1099511627776) :
  HC Try.prog 33 [.sl A n c] [] H (fun rr S' H' => ∃ (a : An), rr = .tup [.agg a.cells, .i (Anc.dec xs).2] ∧ An.ok H' a ∧ a.v = (Anc.dec xs).1 ∧ S' = [] ∧ HLe H H') := by
 refine hc_intro (n := 71) Try.func33 rfl Try.ntmps33 rfl (fun B hB => ?_)
 refine ew_cut (e' := [(0, _)]) [0] rfl ?_
 refine ew_seq ?_
 refine rg (.h 0 (.q 1 XT.done)) (by kernel_rfl) (by kernel_rfl) ?_
 refine h_alloc (cs := [_, _, _, _, _, _, _, _]) Try.zeroValue60 rfl rfl (zc_60 Try.zeroValue60) ?_
 intro g1
 refine ⟨kp0, ?_⟩
 refine q_as (sv := .i 0) rfl rfl rfl ?_
 refine x_end ?_
 refine nk_cut (e' := [(0, _), (2, _), (3, _)]) [0, 2, 3] rfl ?_
 refine nk_seq ?_
 refine ew_seq ?_
 refine rg (.q 0 (.h 1 (.h 2 (.h 3 XT.done)))) (by kernel_rfl) (by kernel_rfl) ?_
 refine q_mv rfl rfl rfl ?_
 refine h_call0 Try.call86 rfl rfl rfl (Read_hc hx (by omega)) ?_
 rintro r_ S_ Hn1 hl1 ⟨gr1, A1, n1, c1, rfl, rfl, hrd1, hle1⟩
 replace hx := hx.mono hl1
 refine ⟨kp0, ?_⟩
 refine x_S (S' := [_, _]) rfl ?_
 refine h_alloc (cs := [_]) Try.zeroValue157 rfl rfl (zc_157 Try.zeroValue157) ?_
 intro g2
 refine ⟨kp0, ?_⟩
 refine h_st (cs' := [_]) (S' := [_, _, _]) 0 Try.sizeOf157 rfl rfl rfl rfl rfl rfl (ltb rfl) rfl rfl kp0 ?_
 refine x_end ?_
 refine nk_cut (e' := [(0, _), (2, _), (3, _), (4, _)]) [0, 2, 3, 4] rfl ?_
 refine nk_seq ?_
 refine ew_seq ?_
 refine ew_seq ?_
 refine rg (.q 0 (.h 1 (.h 2 (.q 3 XT.done)))) (by kernel_rfl) (by kernel_rfl) ?_
 refine q_ld 0 Try.isAgg157 rfl rfl rfl rfl rfl ?_
 refine h_call Try.call87 (S2 := [_, _]) rfl rfl rfl (nth_split (k := 1) rfl) (RBytes_hc hrd1 (by omega)) ?_
 rintro r_ S_ Hn1 hl2 ⟨A2, c2, A3, n2, c3, rfl, hcap1, rfl, hrd2, rfl⟩
 refine ⟨kp0, ?_⟩
 refine x_S (S' := [_, _, _, _]) rfl ?_
 refine pubX (S' := [_, _, _]) 0 rfl rfl ?_
 intro Hp1 hp1 hr1
 replace hx := hx.mono hp1
 replace hrd1 := hrd1.mono hp1
 replace hrd2 := hrd2.mono hp1
 have hbm : BS Hp1 A2 ((Rd.mk xs 0).take 8).1.length c2 ((Rd.mk xs 0).take 8).1 := ⟨hr1, rfl, hcap1⟩
 refine h_cvs Try.underlying26 Try.underlying5 Try.underlying9 rfl rfl rfl hbm kp0 ?_
 refine q_ne_s rfl rfl rfl rfl ?_
 refine x_end ?_
 refine nk_cut (e' := [(0, _), (2, _), (3, _), (4, _), (14, _)]) [0, 2, 3, 4, 14] rfl ?_
 refine nk_seq ?_
 refine ew_cond rfl ?_ ?_
 ·intro hc14
  have hm := mag_T hc14
  refine ew_seq ?_
  refine rg (.q 0 (.h 1 (.q 2 XT.done))) (by kernel_rfl) (by kernel_rfl) ?_
  refine q_bld (cs := [_, _, _, _, _, _, _, _]) bf_60 rfl rfl rfl rfl ?_
  refine h_stS (cs' := [_, _, _, _, _, _, _, _]) (S' := [_, _, _]) 2 Try.sizeOf60 rfl rfl rfl rfl rfl (allOne rfl) rfl (leb rfl) rfl rfl kp0 ?_
  refine q_as (sv := .i 9) rfl rfl rfl ?_
  refine x_end ?_
  refine nk_cut (e' := [(0, _), (2, _), (3, _), (4, _), (14, _)]) [0, 2, 3, 4, 14] rfl ?_
  refine nk_seq ?_
  refine ew_ret (r := .tup [_, _]) rfl rfl (.cons (.agg 2 Try.isAgg60 Try.sizeOf60 rfl rfl rfl) (.cons (.tmp rfl) .nil)) rfl ?_
  have hd := dec_mag hm
  exact ⟨zeroAn, by rw [hd]; rfl, zeroAn_ok, by rw [hd]; rfl, rfl, (hl1.trans hp1)⟩
 ·intro hc14
  have hm := mag_F hc14
  refine ew_skip ?_
  refine nk_seq ?_
  refine ew_seq ?_
  refine rg (.q 0 (.q 1 XT.done)) (by kernel_rfl) (by kernel_rfl) ?_
  refine q_fn rfl rfl rfl ?_
  refine q_as rfl rfl rfl ?_
  refine x_end ?_
  refine nk_cut (e' := [(0, _), (2, _), (3, _), (4, _), (5, _), (14, _)]) [0, 2, 3, 4, 5, 14] rfl ?_
  refine nk_seq ?_
  refine ew_seq ?_
  refine rg (.q 0 (.h 1 (.q 2 (.h 3 (.q 4 (.h 5 (.q 6 (.h 7 (.h 8 XT.done))))))))) (by kernel_rfl) (by kernel_rfl) ?_
  refine q_mv rfl rfl rfl ?_
  refine h_callv Try.call88 (S2 := [_]) rfl rfl rfl rfl rfl (permL [1, 0, 2] rfl) (AGet1_hc hrd2) ?_
  rintro r_ S_ Hp1 hl3 ⟨A4, n3, c4, rfl, rfl, hrd3, rfl⟩
  refine ⟨kp0, ?_⟩
  refine x_S (S' := [_, _, _]) rfl ?_
  refine q_mv rfl rfl rfl ?_
  refine h_callv Try.call88 (S2 := [_]) rfl rfl rfl rfl rfl (permL [0, 1, 2] rfl) (AGet1_hc hrd3) ?_
  rintro r_ S_ Hp1 hl4 ⟨A5, n4, c5, rfl, rfl, hrd4, rfl⟩
  refine ⟨kp0, ?_⟩
  refine x_S (S' := [_, _, _]) rfl ?_
  refine q_mv rfl rfl rfl ?_
  refine h_callv Try.call88 (S2 := [_]) rfl rfl rfl rfl rfl (permL [0, 1, 2] rfl) (AGet1_hc hrd4) ?_
  rintro r_ S_ Hp1 hl5 ⟨A6, n5, c6, rfl, rfl, hrd5, rfl⟩
  refine ⟨kp0, ?_⟩
  refine x_S (S' := [_, _, _]) rfl ?_
  refine q_bld (cs := [_, _, _, _, _, _, _, _]) bf_60 rfl rfl rfl rfl ?_
  refine h_alloc (cs := [_, _, _, _, _, _, _, _]) Try.zeroValue60 rfl rfl (zc_60 Try.zeroValue60) ?_
  intro g4
  refine ⟨kp0, ?_⟩
  refine h_stS (cs' := [_, _, _, _, _, _, _, _]) (S' := [_, _, _, _]) 0 Try.sizeOf60 rfl rfl rfl rfl rfl (allOne rfl) rfl (leb rfl) rfl rfl kp0 ?_
  refine x_end ?_
  refine nk_cut (e' := [(0, _), (2, _), (3, _), (4, _), (5, _), (6, _), (14, _)]) [0, 2, 3, 4, 5, 6, 14] rfl ?_
  refine nk_seq ?_
  refine ew_seq ?_
  refine rg (.q 0 (.h 1 (.q 2 (.q 3 (.h 4 (.q 5 (.h 6 (.q 7 (.h 8 (.q 9 (.h 10 (.q 11 (.h 12 XT.done))))))))))))) (by kernel_rfl) (by kernel_rfl) ?_
  refine q_mv rfl rfl rfl ?_
  refine h_callv Try.call88 (S2 := [_, _]) rfl rfl rfl rfl rfl (permL [1, 2, 0, 3] rfl) (AGet1_hc hrd5) ?_
  rintro r_ S_ Hp1 hl6 ⟨A7, n6, c7, rfl, rfl, hrd6, rfl⟩
  refine ⟨kp0, ?_⟩
  refine x_S (S' := [_, _, _, _]) rfl ?_
  refine q_sub rfl rfl rfl rfl (sub1 (numD_le _)).1 (sub1 (numD_le _)).2 ?_
  refine q_mv rfl rfl rfl ?_
  refine h_callv Try.call88 (S2 := [_, _]) rfl rfl rfl rfl rfl (permL [0, 1, 2, 3] rfl) (AGet1_hc hrd6) ?_
  rintro r_ S_ Hp1 hl7 ⟨A8, n7, c8, rfl, rfl, hrd7, rfl⟩
  refine ⟨kp0, ?_⟩
  refine x_S (S' := [_, _, _, _]) rfl ?_
  refine q_mv rfl rfl rfl ?_
  refine h_callv Try.call88 (S2 := [_, _]) rfl rfl rfl rfl rfl (permL [0, 1, 2, 3] rfl) (AGet1_hc hrd7) ?_
  rintro r_ S_ Hp1 hl8 ⟨A9, n8, c9, rfl, rfl, hrd8, rfl⟩
  refine ⟨kp0, ?_⟩
  refine x_S (S' := [_, _, _, _]) rfl ?_
  refine q_fa fa_60_3 rfl rfl rfl ?_
  refine h_st (cs' := [_, _, _, _, _, _, _, _]) (S' := [_, _, _, _]) 2 Try.sizeOf3 rfl rfl rfl rfl rfl rfl (ltb rfl) rfl rfl kp0 ?_
  refine q_fa fa_60_4 rfl rfl rfl ?_
  refine h_st (cs' := [_, _, _, _, _, _, _, _]) (S' := [_, _, _, _]) 2 Try.sizeOf3 rfl rfl rfl rfl rfl rfl (ltb rfl) rfl rfl kp0 ?_
  refine q_fa fa_60_5 rfl rfl rfl ?_
  refine h_st (cs' := [_, _, _, _, _, _, _, _]) (S' := [_, _, _, _]) 2 Try.sizeOf3 rfl rfl rfl rfl rfl rfl (ltb rfl) rfl rfl kp0 ?_
  refine x_end ?_
  refine nk_cut (e' := [(0, _), (2, _), (3, _), (4, _), (5, _), (6, _), (14, _)]) [0, 2, 3, 4, 5, 6, 14] rfl ?_
  refine nk_seq ?_
  refine ew_seq ?_
  refine rg (.q 0 (.h 1 (.q 2 (.h 3 XT.done)))) (by kernel_rfl) (by kernel_rfl) ?_
  refine q_ld 0 Try.isAgg157 rfl rfl rfl rfl rfl ?_
  refine h_call Try.call87 (S2 := [_, _, _]) rfl rfl rfl (nth_split (k := 1) rfl) (RBytes_hc hrd8 (by omega)) ?_
  rintro r_ S_ Hp1 hl9 ⟨A10, c10, A11, n9, c11, rfl, hcap2, rfl, hrd9, rfl⟩
  refine ⟨kp0, ?_⟩
  refine x_S (S' := [_, _, _, _, _]) rfl ?_
  refine q_fa fa_60_6 rfl rfl rfl ?_
  refine h_st (cs' := [_, _, _, _, _, _, _, _]) (S' := [_, _, _, _, _]) 3 Try.sizeOf26 rfl rfl rfl rfl rfl rfl (ltb rfl) rfl rfl kp0 ?_
  refine x_end ?_
  refine nk_cut (e' := [(0, _), (2, _), (3, _), (4, _), (5, _), (6, _), (14, _)]) [0, 2, 3, 4, 5, 6, 14] rfl ?_
  refine pubN (S' := [_, _, _, _]) 0 rfl rfl ?_
  intro Hp2 hp2 hr2
  replace hx := hx.mono hp2
  replace hrd1 := hrd1.mono hp2
  replace hrd2 := hrd2.mono hp2
  replace hr1 := hr1.mono hp2
  replace hrd3 := hrd3.mono hp2
  replace hrd4 := hrd4.mono hp2
  replace hrd5 := hrd5.mono hp2
  replace hrd6 := hrd6.mono hp2
  replace hrd7 := hrd7.mono hp2
  replace hrd8 := hrd8.mono hp2
  replace hrd9 := hrd9.mono hp2
  have hma : BS Hp2 A10 (decM xs).1.length c10 (decM xs).1 := ⟨hr2, rfl, hcap2⟩
  refine nk_seq ?_
  refine ew_seq ?_
  refine ew_seq ?_
  refine ew_perm (S' := [_, _, _, _]) (permL [2, 1, 0, 3] rfl) ?_
  have hcnt := decC_small xs
  refine ew_nil 153 ?_
  refine rg (.q 0 (.h 1 (.q 2 XT.done))) (by kernel_rfl) (by kernel_rfl) ?_
  refine q_ld 2 Try.isAgg157 rfl rfl rfl rfl rfl ?_
  refine h_call Try.call89 (S2 := [_, _, _, _]) rfl rfl rfl (nth_split (k := 3) rfl) (RNumber_hc hrd9 (by omega)) ?_
  rintro r_ S_ Hp2 hl10 ⟨A12, n10, c12, rfl, rfl, hrd10, rfl⟩
  refine ⟨kp0, ?_⟩
  refine x_S (S' := [_, _, _, _, _]) rfl ?_
  refine q_mv (sv := .u64 0) rfl rfl rfl ?_
  refine x_end ?_
  refine nk_cut (e' := [(0, _), (2, _), (3, _), (4, _), (5, _), (6, _), (14, _), (38, _), (39, _)]) [0, 2, 3, 4, 5, 6, 14, 38, 39] rfl ?_
  refine nk_seq ?_
  refine ew_block ?_
  refine ew_perm (S' := [_, _, _, _, _]) (permL [1, 2, 3, 0, 4] rfl) ?_
  let Ev1 : Nat × Option Addr × Nat × Nat × Option Addr × Nat × List Kk → Env := fun ⟨k, A2, n2, c2, A3, c3, ks⟩ => [(39, .u64 (UInt64.ofNat k)), (38, .u64 (getN (decC xs).1))]
  let Sv1 : Nat × Option Addr × Nat × Nat × Option Addr × Nat × List Kk → Res := fun ⟨k, A2, n2, c2, A3, c3, ks⟩ => [.own A3 153 (kcells ks) (c3 * 3), .box g4 60 [.i ((decN xs).1.getD 0 0), .i ((decN xs).1.getD 1 0), .i ((decN xs).1.getD 2 0), .i ((decN xs).1.getD 3 0 - 1), .i ((decN xs).1.getD 4 0), .i ((decN xs).1.getD 5 0), .sl A10 (decM xs).1.length c10, .sl A3 k c3], .box g2 157 [.p ⟨gr1, 0, none⟩], .box gr1 215 [.sl A2 n2 c2, .i (keksD k (decC xs).2).2.code], .box g1 60 zeroAn.cells]
  let Gv1 : Nat × Option Addr × Nat × Nat × Option Addr × Nat × List Kk → Hp → Prop := fun ⟨k, A2, n2, c2, A3, c3, ks⟩ H' => HLe Hp2 H' ∧ (k ≤ (getN (decC xs).1).toNat ∧ k ≤ c3 ∧ RdS H' A2 n2 c2 (keksD k (decC xs).2).2 ∧ KD H' ks (keksD k (decC xs).2).1)
  let Mv1 : Nat × Option Addr × Nat × Nat × Option Addr × Nat × List Kk → Nat := fun ⟨k, A2, n2, c2, A3, c3, ks⟩ => (getN (decC xs).1).toNat - k
  refine ew_loop (mkE [(0, _), (2, _), (3, _), (4, _), (5, _), (6, _), (14, _)] Ev1) (Sv1) Gv1 Mv1 (⟨0, _, _, _, none, 0, []⟩ : Nat × Option Addr × Nat × Nat × Option Addr × Nat × List Kk) ⟨rfl, rfl, rfl, rfl, rfl, rfl, rfl, rfl, rfl, trivial⟩ rfl ⟨HLe.refl _, ⟨by omega, by omega, hrd10, KD.nil⟩⟩ ?_
  rintro ⟨k, A2, n2, c2, A3, c3, ks⟩ Hl1 ⟨hl11, hG⟩
  replace hx := hx.mono hl11
  replace hrd1 := hrd1.mono hl11
  replace hrd2 := hrd2.mono hl11
  replace hr1 := hr1.mono hl11
  replace hrd3 := hrd3.mono hl11
  replace hrd4 := hrd4.mono hl11
  replace hrd5 := hrd5.mono hl11
  replace hrd6 := hrd6.mono hl11
  replace hrd7 := hrd7.mono hl11
  replace hrd8 := hrd8.mono hl11
  replace hrd9 := hrd9.mono hl11
  replace hma := hma.mono hl11
  replace hrd10 := hrd10.mono hl11
  obtain ⟨hk, hkc, hrk, hkd⟩ := hG
  refine ew_S (S' := [_, _, _, _, _]) rfl ?_
  refine ew_cut (e' := [(39, _), (38, _), (0, _), (2, _), (3, _), (4, _), (5, _), (6, _), (14, _)]) [39, 38, 0, 2, 3, 4, 5, 6, 14] rfl ?_
  refine ew_seq ?_
  refine rg (.q 0 XT.done) (by kernel_rfl) (by kernel_rfl) ?_
  refine q_lt_u64 rfl rfl rfl rfl ?_
  refine x_end ?_
  refine nk_cut (e' := [(0, _), (2, _), (3, _), (4, _), (5, _), (6, _), (14, _), (38, _), (39, _), (40, _)]) [0, 2, 3, 4, 5, 6, 14, 38, 39, 40] rfl ?_
  refine nk_seq ?_
  refine ew_seq ?_
  refine ew_cond rfl ?_ ?_
  ·intro hc40
   replace hc40 := (u64_lt hcnt hk).1 (of_decide_eq_true hc40)
   have hs1 : (getN ((keksD k (decC xs).2).2.take 2).1).toNat < 65536 := take_small _ 2 (by decide)
   have hs2 : (getN (((keksD k (decC xs).2).2.take 2).2.take 2).1).toNat < 65536 := take_small _ 2 (by decide)
   have hkl := hkd.len
   rw [keksD_len] at hkl
   refine ew_skip ?_
   refine nk_seq ?_
   refine ew_seq ?_
   refine ew_block ?_
   refine ew_seq ?_
   refine rd (by kernel_rfl) [0, 2, 3, 5, 6] [0, 1, 2, 3, 4, 5, 6, 7] (.q 0 (.q 3 (.br 1 (.q 2 (.br 4 (.q 5 (.q 6 (.h 7 (.h 8 XT.done)))) 7 (.h 4 (.q 5 (.q 6 (.h 8 XT.done)))))) 7 (.h 1 (.q 2 (.h 4 (.q 5 (.q 6 (.h 8 XT.done))))))))) (by kernel_rfl) (by kernel_rfl) (keepL _ [2]) (keepL_sub _ _) ?_
   refine q_ld 0 Try.isAgg157 rfl rfl rfl rfl rfl ?_
   refine q_ld 0 Try.isAgg157 rfl rfl rfl rfl rfl ?_
   refine x_br ?_ ?_
   ·skip
    refine h_call Try.call89 (S2 := [_, _, _, _]) rfl rfl rfl (nth_split (k := 3) rfl) (RNumber_hc hrk (by omega)) ?_
    rintro r_ S_ Hl1 hl12 ⟨A13, n11, c13, rfl, rfl, hrd11, rfl⟩
    refine ⟨(fun _ => ⟨by first | exact kpL [3] rfl | simp [keepL, nth], HLe.refl _⟩), ?_⟩
    refine x_S (S' := [_, _, _, _, _]) rfl ?_
    refine q_cv_u64_i Try.underlying3 (by kernel_rfl) rfl rfl rfl (by omega) ?_
    refine x_br ?_ ?_
    ·skip
     refine h_call Try.call89 (S2 := [_, _, _, _]) rfl rfl rfl (nth_split (k := 0) rfl) (RNumber_hc hrd11 (by omega)) ?_
     rintro r_ S_ Hl1 hl13 ⟨A14, n12, c14, rfl, rfl, hrd12, rfl⟩
     refine ⟨(fun _ => ⟨by first | exact kpL [3] rfl | simp [keepL, nth], HLe.refl _⟩), ?_⟩
     refine x_S (S' := [_, _, _, _, _]) rfl ?_
     refine q_cv_u64_i Try.underlying3 (by kernel_rfl) rfl rfl rfl (by omega) ?_
     refine q_bld (cs := [_, _, _]) bf_153 rfl rfl rfl rfl ?_
     refine h_alloc (cs := [_, _, _]) Try.zeroValue153 rfl rfl (zc_153 Try.zeroValue153) ?_
     intro g6
     refine ⟨(fun _ => ⟨by first | exact kpL [4] rfl | simp [keepL, nth], HLe.refl _⟩), ?_⟩
     refine h_stS (cs' := [_, _, _]) (S' := [_, _, _, _, _, _]) 0 Try.sizeOf153 rfl rfl rfl rfl rfl (allOne rfl) rfl (leb rfl) rfl rfl (fun h => absurd h (by decide)) ?_
     refine x_end ?_
     refine nk_cut (e' := [(0, _), (2, _), (3, _), (4, _), (5, _), (6, _), (7, _), (14, _), (38, _), (39, _), (40, _)]) [0, 2, 3, 4, 5, 6, 7, 14, 38, 39, 40] rfl ?_
     refine nk_seq ?_
     refine ew_seq ?_
     refine rg (.q 0 (.h 1 (.q 2 (.h 3 XT.done)))) (by kernel_rfl) (by kernel_rfl) ?_
     refine q_ld 4 Try.isAgg157 rfl rfl rfl rfl rfl ?_
     refine h_call Try.call87 (S2 := [_, _, _, _, _]) rfl rfl rfl (nth_split (k := 1) rfl) (RBytes_hc hrd12 (by omega)) ?_
     rintro r_ S_ Hl1 hl14 ⟨A15, c15, A16, n13, c16, rfl, hcap3, rfl, hrd13, rfl⟩
     refine ⟨kp0, ?_⟩
     refine x_S (S' := [_, _, _, _, _, _, _]) rfl ?_
     refine q_fa fa_153_2 rfl rfl rfl ?_
     refine h_st (cs' := [_, _, _]) (S' := [_, _, _, _, _, _, _]) 2 Try.sizeOf26 rfl rfl rfl rfl rfl rfl (ltb rfl) rfl rfl kp0 ?_
     refine x_end ?_
     refine nk_cut (e' := [(0, _), (2, _), (3, _), (4, _), (5, _), (6, _), (7, _), (14, _), (38, _), (39, _), (40, _)]) [0, 2, 3, 4, 5, 6, 7, 14, 38, 39, 40] rfl ?_
     refine pubN (S' := [_, _, _, _, _, _]) 0 rfl rfl ?_
     intro Hp3 hp3 hr3
     replace hx := hx.mono hp3
     replace hrd1 := hrd1.mono hp3
     replace hrd2 := hrd2.mono hp3
     replace hr1 := hr1.mono hp3
     replace hrd3 := hrd3.mono hp3
     replace hrd4 := hrd4.mono hp3
     replace hrd5 := hrd5.mono hp3
     replace hrd6 := hrd6.mono hp3
     replace hrd7 := hrd7.mono hp3
     replace hrd8 := hrd8.mono hp3
     replace hrd9 := hrd9.mono hp3
     replace hma := hma.mono hp3
     replace hrd10 := hrd10.mono hp3
     replace hrk := hrk.mono hp3
     replace hkd := hkd.mono hp3
     replace hrd11 := hrd11.mono hp3
     replace hrd12 := hrd12.mono hp3
     replace hrd13 := hrd13.mono hp3
     have hke : BS Hp3 A15 _ c15 _ := ⟨hr3, rfl, hcap3⟩
     refine nk_seq ?_
     refine rg (.q 0 (.q 1 (.q 2 (.h 3 (.h 4 (.q 5 (.h 6 XT.done))))))) (by kernel_rfl) (by kernel_rfl) ?_
     refine q_fa fa_60_7 rfl rfl rfl ?_
     refine q_ld 3 Try.isAgg58 rfl rfl rfl rfl rfl ?_
     refine q_ldS 1 Try.isAgg153 Try.sizeOf153 rfl rfl rfl rfl rfl ?_
     refine h_bs (cs := [_, _, _]) Try.underlying58 info_153 rfl rfl rfl rfl rfl rfl rfl rfl rfl (by decide) ?_
     intro g8
     refine ⟨kp0, ?_⟩
     refine h_appO (sz := 3) (S1 := [_, _, _, _, _, _]) 0 2 Try.underlying58 info_153 rfl rfl rfl (by decide) rfl rfl rfl rfl rfl rfl rfl rfl (by rw [kcells_len, hkl]) (by omega) rfl (allOne rfl) (by simp only [by_153]; omega) (by omega) ?_
     intro A17 c17 hcap4
     refine ⟨kp0, ?_⟩
     refine x_S (S' := [_, _, _, _, _, _]) rfl ?_
     refine q_fa fa_60_7 rfl rfl rfl ?_
     refine h_st (cs' := [_, _, _, _, _, _, _, _]) (S' := [_, _, _, _, _, _]) 3 Try.sizeOf58 rfl rfl rfl rfl rfl rfl (ltb rfl) rfl rfl kp0 ?_
     refine x_end ?_
     refine nk_cut (e' := [(0, _), (2, _), (3, _), (4, _), (5, _), (6, _), (7, _), (14, _), (38, _), (39, _), (40, _)]) [0, 2, 3, 4, 5, 6, 7, 14, 38, 39, 40] rfl ?_
     refine nk_blk ?_
     refine nk_seq ?_
     refine rg (.q 0 (.q 1 XT.done)) (by kernel_rfl) (by kernel_rfl) ?_
     refine q_add_u64 rfl rfl rfl rfl ?_
     refine q_mv rfl rfl rfl ?_
     refine x_end ?_
     refine nk_cut (e' := [(0, _), (2, _), (3, _), (4, _), (5, _), (6, _), (7, _), (14, _), (38, _), (39, _), (40, _)]) [0, 2, 3, 4, 5, 6, 7, 14, 38, 39, 40] rfl ?_
     refine nk_perm (S' := [_, _, _, _, _, _]) (permL [2, 3, 4, 0, 5, 1] rfl) ?_
     refine nk_drop (S := [_, _, _, _, _]) (S' := [_]) ?_
     refine nk_round (μ := Mv1) (i := (k, A2, n2, c2, A3, c3, ks)) (S := Sv1) (G := Gv1) (⟨k + 1, A16, n13, c16, A17, c17, ks ++ [⟨((getN ((keksD k (decC xs).2).2.take 2).1).toNat : Int), ((getN (((keksD k (decC xs).2).2.take 2).2.take 2).1).toNat : Int), ⟨A15, ((((keksD k (decC xs).2).2.take 2).2.take 2).2.take 32).1.length, c15, ((((keksD k (decC xs).2).2.take 2).2.take 2).2.take 32).1⟩⟩]⟩ : Nat × Option Addr × Nat × Nat × Option Addr × Nat × List Kk) ?_ ?_ ?_ ?_
     ·exact ⟨congrArg (fun z => some (SV.u64 z)) (u64_succ k), rfl, rfl, rfl, rfl, rfl, rfl, rfl, rfl, trivial⟩
     ·exact (congrArg (fun l => Chunk.own _ 153 l _ :: _) (kcells_snoc ks ⟨((getN ((keksD k (decC xs).2).2.take 2).1).toNat : Int), ((getN (((keksD k (decC xs).2).2.take 2).2.take 2).1).toNat : Int), ⟨A15, ((((keksD k (decC xs).2).2.take 2).2.take 2).2.take 32).1.length, c15, ((((keksD k (decC xs).2).2.take 2).2.take 2).2.take 32).1⟩⟩))
     ·exact ⟨(hl11.trans hp3), ⟨by omega, by omega, hrd13, hkd.snoc hke rfl⟩⟩
     ·dsimp only [Mv1]; omega
    ·skip
     refine h_alloc (cs := [_, _, _]) Try.zeroValue153 rfl rfl (zc_153 Try.zeroValue153) ?_
     intro g9
     refine ⟨(fun _ => ⟨by first | exact kpL [4] rfl | simp [keepL, nth], HLe.refl _⟩), ?_⟩
     refine h_call Try.call89 (S2 := [_, _, _, _, _]) rfl rfl rfl (nth_split (k := 1) rfl) (RNumber_hc hrd11 (by omega)) ?_
     rintro r_ S_ Hl1 hl15 ⟨A18, n14, c18, rfl, rfl, hrd14, rfl⟩
     refine ⟨(fun _ => ⟨by first | exact kpL [4] rfl | simp [keepL, nth], HLe.refl _⟩), ?_⟩
     refine x_S (S' := [_, _, _, _, _, _]) rfl ?_
     refine q_cv_u64_i Try.underlying3 (by kernel_rfl) rfl rfl rfl (by omega) ?_
     refine q_bld (cs := [_, _, _]) bf_153 rfl rfl rfl rfl ?_
     refine h_stS (cs' := [_, _, _]) (S' := [_, _, _, _, _, _]) 1 Try.sizeOf153 rfl rfl rfl rfl rfl (allOne rfl) rfl (leb rfl) rfl rfl (fun h => absurd h (by decide)) ?_
     refine x_end ?_
     refine nk_cut (e' := [(0, _), (2, _), (3, _), (4, _), (5, _), (6, _), (7, _), (14, _), (38, _), (39, _), (40, _)]) [0, 2, 3, 4, 5, 6, 7, 14, 38, 39, 40] rfl ?_
     refine nk_seq ?_
     refine ew_seq ?_
     refine rg (.q 0 (.h 1 (.q 2 (.h 3 XT.done)))) (by kernel_rfl) (by kernel_rfl) ?_
     refine q_ld 4 Try.isAgg157 rfl rfl rfl rfl rfl ?_
     refine h_call Try.call87 (S2 := [_, _, _, _, _]) rfl rfl rfl (nth_split (k := 0) rfl) (RBytes_hc hrd14 (by omega)) ?_
     rintro r_ S_ Hl1 hl16 ⟨A19, c19, A20, n15, c20, rfl, hcap5, rfl, hrd15, rfl⟩
     refine ⟨kp0, ?_⟩
     refine x_S (S' := [_, _, _, _, _, _, _]) rfl ?_
     refine q_fa fa_153_2 rfl rfl rfl ?_
     refine h_st (cs' := [_, _, _]) (S' := [_, _, _, _, _, _, _]) 2 Try.sizeOf26 rfl rfl rfl rfl rfl rfl (ltb rfl) rfl rfl kp0 ?_
     refine x_end ?_
     refine nk_cut (e' := [(0, _), (2, _), (3, _), (4, _), (5, _), (6, _), (7, _), (14, _), (38, _), (39, _), (40, _)]) [0, 2, 3, 4, 5, 6, 7, 14, 38, 39, 40] rfl ?_
     refine pubN (S' := [_, _, _, _, _, _]) 0 rfl rfl ?_
     intro Hp4 hp4 hr4
     replace hx := hx.mono hp4
     replace hrd1 := hrd1.mono hp4
     replace hrd2 := hrd2.mono hp4
     replace hr1 := hr1.mono hp4
     replace hrd3 := hrd3.mono hp4
     replace hrd4 := hrd4.mono hp4
     replace hrd5 := hrd5.mono hp4
     replace hrd6 := hrd6.mono hp4
     replace hrd7 := hrd7.mono hp4
     replace hrd8 := hrd8.mono hp4
     replace hrd9 := hrd9.mono hp4
     replace hma := hma.mono hp4
     replace hrd10 := hrd10.mono hp4
     replace hrk := hrk.mono hp4
     replace hkd := hkd.mono hp4
     replace hrd11 := hrd11.mono hp4
     replace hrd14 := hrd14.mono hp4
     replace hrd15 := hrd15.mono hp4
     have hke : BS Hp4 A19 _ c19 _ := ⟨hr4, rfl, hcap5⟩
     refine nk_seq ?_
     refine rg (.q 0 (.q 1 (.q 2 (.h 3 (.h 4 (.q 5 (.h 6 XT.done))))))) (by kernel_rfl) (by kernel_rfl) ?_
     refine q_fa fa_60_7 rfl rfl rfl ?_
     refine q_ld 3 Try.isAgg58 rfl rfl rfl rfl rfl ?_
     refine q_ldS 1 Try.isAgg153 Try.sizeOf153 rfl rfl rfl rfl rfl ?_
     refine h_bs (cs := [_, _, _]) Try.underlying58 info_153 rfl rfl rfl rfl rfl rfl rfl rfl rfl (by decide) ?_
     intro g11
     refine ⟨kp0, ?_⟩
     refine h_appO (sz := 3) (S1 := [_, _, _, _, _, _]) 0 2 Try.underlying58 info_153 rfl rfl rfl (by decide) rfl rfl rfl rfl rfl rfl rfl rfl (by rw [kcells_len, hkl]) (by omega) rfl (allOne rfl) (by simp only [by_153]; omega) (by omega) ?_
     intro A21 c21 hcap6
     refine ⟨kp0, ?_⟩
     refine x_S (S' := [_, _, _, _, _, _]) rfl ?_
     refine q_fa fa_60_7 rfl rfl rfl ?_
     refine h_st (cs' := [_, _, _, _, _, _, _, _]) (S' := [_, _, _, _, _, _]) 3 Try.sizeOf58 rfl rfl rfl rfl rfl rfl (ltb rfl) rfl rfl kp0 ?_
     refine x_end ?_
     refine nk_cut (e' := [(0, _), (2, _), (3, _), (4, _), (5, _), (6, _), (7, _), (14, _), (38, _), (39, _), (40, _)]) [0, 2, 3, 4, 5, 6, 7, 14, 38, 39, 40] rfl ?_
     refine nk_blk ?_
     refine nk_seq ?_
     refine rg (.q 0 (.q 1 XT.done)) (by kernel_rfl) (by kernel_rfl) ?_
     refine q_add_u64 rfl rfl rfl rfl ?_
     refine q_mv rfl rfl rfl ?_
     refine x_end ?_
     refine nk_cut (e' := [(0, _), (2, _), (3, _), (4, _), (5, _), (6, _), (7, _), (14, _), (38, _), (39, _), (40, _)]) [0, 2, 3, 4, 5, 6, 7, 14, 38, 39, 40] rfl ?_
     refine nk_perm (S' := [_, _, _, _, _, _]) (permL [2, 3, 4, 0, 5, 1] rfl) ?_
     refine nk_drop (S := [_, _, _, _, _]) (S' := [_]) ?_
     refine nk_round (μ := Mv1) (i := (k, A2, n2, c2, A3, c3, ks)) (S := Sv1) (G := Gv1) (⟨k + 1, A20, n15, c20, A21, c21, ks ++ [⟨((getN ((keksD k (decC xs).2).2.take 2).1).toNat : Int), ((getN (((keksD k (decC xs).2).2.take 2).2.take 2).1).toNat : Int), ⟨A19, ((((keksD k (decC xs).2).2.take 2).2.take 2).2.take 32).1.length, c19, ((((keksD k (decC xs).2).2.take 2).2.take 2).2.take 32).1⟩⟩]⟩ : Nat × Option Addr × Nat × Nat × Option Addr × Nat × List Kk) ?_ ?_ ?_ ?_
     ·exact ⟨congrArg (fun z => some (SV.u64 z)) (u64_succ k), rfl, rfl, rfl, rfl, rfl, rfl, rfl, rfl, trivial⟩
     ·exact (congrArg (fun l => Chunk.own _ 153 l _ :: _) (kcells_snoc ks ⟨((getN ((keksD k (decC xs).2).2.take 2).1).toNat : Int), ((getN (((keksD k (decC xs).2).2.take 2).2.take 2).1).toNat : Int), ⟨A19, ((((keksD k (decC xs).2).2.take 2).2.take 2).2.take 32).1.length, c19, ((((keksD k (decC xs).2).2.take 2).2.take 2).2.take 32).1⟩⟩))
     ·exact ⟨(hl11.trans hp4), ⟨by omega, by omega, hrd15, hkd.snoc hke rfl⟩⟩
     ·dsimp only [Mv1]; omega
   ·skip
    refine h_alloc (cs := [_, _, _]) Try.zeroValue153 rfl rfl (zc_153 Try.zeroValue153) ?_
    intro g12
    refine ⟨(fun _ => ⟨by first | exact kpL [3] rfl | simp [keepL, nth], HLe.refl _⟩), ?_⟩
    refine h_call Try.call89 (S2 := [_, _, _, _, _]) rfl rfl rfl (nth_split (k := 4) rfl) (RNumber_hc hrk (by omega)) ?_
    rintro r_ S_ Hl1 hl17 ⟨A22, n16, c22, rfl, rfl, hrd16, rfl⟩
    refine ⟨(fun _ => ⟨by first | exact kpL [4] rfl | simp [keepL, nth], HLe.refl _⟩), ?_⟩
    refine x_S (S' := [_, _, _, _, _, _]) rfl ?_
    refine q_cv_u64_i Try.underlying3 (by kernel_rfl) rfl rfl rfl (by omega) ?_
    refine h_call Try.call89 (S2 := [_, _, _, _, _]) rfl rfl rfl (nth_split (k := 0) rfl) (RNumber_hc hrd16 (by omega)) ?_
    rintro r_ S_ Hl1 hl18 ⟨A23, n17, c23, rfl, rfl, hrd17, rfl⟩
    refine ⟨(fun _ => ⟨by first | exact kpL [4] rfl | simp [keepL, nth], HLe.refl _⟩), ?_⟩
    refine x_S (S' := [_, _, _, _, _, _]) rfl ?_
    refine q_cv_u64_i Try.underlying3 (by kernel_rfl) rfl rfl rfl (by omega) ?_
    refine q_bld (cs := [_, _, _]) bf_153 rfl rfl rfl rfl ?_
    refine h_stS (cs' := [_, _, _]) (S' := [_, _, _, _, _, _]) 1 Try.sizeOf153 rfl rfl rfl rfl rfl (allOne rfl) rfl (leb rfl) rfl rfl (fun h => absurd h (by decide)) ?_
    refine x_end ?_
    refine nk_cut (e' := [(0, _), (2, _), (3, _), (4, _), (5, _), (6, _), (7, _), (14, _), (38, _), (39, _), (40, _)]) [0, 2, 3, 4, 5, 6, 7, 14, 38, 39, 40] rfl ?_
    refine nk_seq ?_
    refine ew_seq ?_
    refine rg (.q 0 (.h 1 (.q 2 (.h 3 XT.done)))) (by kernel_rfl) (by kernel_rfl) ?_
    refine q_ld 4 Try.isAgg157 rfl rfl rfl rfl rfl ?_
    refine h_call Try.call87 (S2 := [_, _, _, _, _]) rfl rfl rfl (nth_split (k := 0) rfl) (RBytes_hc hrd17 (by omega)) ?_
    rintro r_ S_ Hl1 hl19 ⟨A24, c24, A25, n18, c25, rfl, hcap7, rfl, hrd18, rfl⟩
    refine ⟨kp0, ?_⟩
    refine x_S (S' := [_, _, _, _, _, _, _]) rfl ?_
    refine q_fa fa_153_2 rfl rfl rfl ?_
    refine h_st (cs' := [_, _, _]) (S' := [_, _, _, _, _, _, _]) 2 Try.sizeOf26 rfl rfl rfl rfl rfl rfl (ltb rfl) rfl rfl kp0 ?_
    refine x_end ?_
    refine nk_cut (e' := [(0, _), (2, _), (3, _), (4, _), (5, _), (6, _), (7, _), (14, _), (38, _), (39, _), (40, _)]) [0, 2, 3, 4, 5, 6, 7, 14, 38, 39, 40] rfl ?_
    refine pubN (S' := [_, _, _, _, _, _]) 0 rfl rfl ?_
    intro Hp5 hp5 hr5
    replace hx := hx.mono hp5
    replace hrd1 := hrd1.mono hp5
    replace hrd2 := hrd2.mono hp5
    replace hr1 := hr1.mono hp5
    replace hrd3 := hrd3.mono hp5
    replace hrd4 := hrd4.mono hp5
    replace hrd5 := hrd5.mono hp5
    replace hrd6 := hrd6.mono hp5
    replace hrd7 := hrd7.mono hp5
    replace hrd8 := hrd8.mono hp5
    replace hrd9 := hrd9.mono hp5
    replace hma := hma.mono hp5
    replace hrd10 := hrd10.mono hp5
    replace hrk := hrk.mono hp5
    replace hkd := hkd.mono hp5
    replace hrd16 := hrd16.mono hp5
    replace hrd17 := hrd17.mono hp5
    replace hrd18 := hrd18.mono hp5
    have hke : BS Hp5 A24 _ c24 _ := ⟨hr5, rfl, hcap7⟩
    refine nk_seq ?_
    refine rg (.q 0 (.q 1 (.q 2 (.h 3 (.h 4 (.q 5 (.h 6 XT.done))))))) (by kernel_rfl) (by kernel_rfl) ?_
    refine q_fa fa_60_7 rfl rfl rfl ?_
    refine q_ld 3 Try.isAgg58 rfl rfl rfl rfl rfl ?_
    refine q_ldS 1 Try.isAgg153 Try.sizeOf153 rfl rfl rfl rfl rfl ?_
    refine h_bs (cs := [_, _, _]) Try.underlying58 info_153 rfl rfl rfl rfl rfl rfl rfl rfl rfl (by decide) ?_
    intro g14
    refine ⟨kp0, ?_⟩
    refine h_appO (sz := 3) (S1 := [_, _, _, _, _, _]) 0 2 Try.underlying58 info_153 rfl rfl rfl (by decide) rfl rfl rfl rfl rfl rfl rfl rfl (by rw [kcells_len, hkl]) (by omega) rfl (allOne rfl) (by simp only [by_153]; omega) (by omega) ?_
    intro A26 c26 hcap8
    refine ⟨kp0, ?_⟩
    refine x_S (S' := [_, _, _, _, _, _]) rfl ?_
    refine q_fa fa_60_7 rfl rfl rfl ?_
    refine h_st (cs' := [_, _, _, _, _, _, _, _]) (S' := [_, _, _, _, _, _]) 3 Try.sizeOf58 rfl rfl rfl rfl rfl rfl (ltb rfl) rfl rfl kp0 ?_
    refine x_end ?_
    refine nk_cut (e' := [(0, _), (2, _), (3, _), (4, _), (5, _), (6, _), (7, _), (14, _), (38, _), (39, _), (40, _)]) [0, 2, 3, 4, 5, 6, 7, 14, 38, 39, 40] rfl ?_
    refine nk_blk ?_
    refine nk_seq ?_
    refine rg (.q 0 (.q 1 XT.done)) (by kernel_rfl) (by kernel_rfl) ?_
    refine q_add_u64 rfl rfl rfl rfl ?_
    refine q_mv rfl rfl rfl ?_
    refine x_end ?_
    refine nk_cut (e' := [(0, _), (2, _), (3, _), (4, _), (5, _), (6, _), (7, _), (14, _), (38, _), (39, _), (40, _)]) [0, 2, 3, 4, 5, 6, 7, 14, 38, 39, 40] rfl ?_
    refine nk_perm (S' := [_, _, _, _, _, _]) (permL [2, 3, 4, 0, 5, 1] rfl) ?_
    refine nk_drop (S := [_, _, _, _, _]) (S' := [_]) ?_
    refine nk_round (μ := Mv1) (i := (k, A2, n2, c2, A3, c3, ks)) (S := Sv1) (G := Gv1) (⟨k + 1, A25, n18, c25, A26, c26, ks ++ [⟨((getN ((keksD k (decC xs).2).2.take 2).1).toNat : Int), ((getN (((keksD k (decC xs).2).2.take 2).2.take 2).1).toNat : Int), ⟨A24, ((((keksD k (decC xs).2).2.take 2).2.take 2).2.take 32).1.length, c24, ((((keksD k (decC xs).2).2.take 2).2.take 2).2.take 32).1⟩⟩]⟩ : Nat × Option Addr × Nat × Nat × Option Addr × Nat × List Kk) ?_ ?_ ?_ ?_
    ·exact ⟨congrArg (fun z => some (SV.u64 z)) (u64_succ k), rfl, rfl, rfl, rfl, rfl, rfl, rfl, rfl, trivial⟩
    ·exact (congrArg (fun l => Chunk.own _ 153 l _ :: _) (kcells_snoc ks ⟨((getN ((keksD k (decC xs).2).2.take 2).1).toNat : Int), ((getN (((keksD k (decC xs).2).2.take 2).2.take 2).1).toNat : Int), ⟨A24, ((((keksD k (decC xs).2).2.take 2).2.take 2).2.take 32).1.length, c24, ((((keksD k (decC xs).2).2.take 2).2.take 2).2.take 32).1⟩⟩))
    ·exact ⟨(hl11.trans hp5), ⟨by omega, by omega, hrd18, hkd.snoc hke rfl⟩⟩
    ·dsimp only [Mv1]; omega
  ·intro hc40
   replace hc40 : ¬ k < (getN (decC xs).1).toNat := fun h => of_decide_eq_false hc40 ((u64_lt hcnt hk).2 h)
   refine ew_exit _ rfl ?_
   refine nk_seq ?_
   refine ew_seq ?_
   refine ew_seq ?_
   refine rg (.q 0 (.h 1 (.q 2 XT.done))) (by kernel_rfl) (by kernel_rfl) ?_
   refine q_ld 2 Try.isAgg157 rfl rfl rfl rfl rfl ?_
   refine h_call Try.call90 (S2 := [_, _, _, _]) rfl rfl rfl (nth_split (k := 3) rfl) (RCode_hc hrk) ?_
   rintro r_ S_ Hl1 hl20 ⟨rfl, rfl, rfl⟩
   refine ⟨kp0, ?_⟩
   refine x_S (S' := [_, _, _, _, _]) rfl ?_
   refine q_ne rfl rfl rfl rfl ?_
   refine x_end ?_
   refine nk_cut (e' := [(0, _), (2, _), (3, _), (4, _), (5, _), (6, _), (14, _), (38, _), (39, _), (40, _), (60, _)]) [0, 2, 3, 4, 5, 6, 14, 38, 39, 40, 60] rfl ?_
   refine nk_seq ?_
   refine ew_cond rfl ?_ ?_
   ·intro hc60
    simp only [ne_eq, decide_eq_true_eq, decide_eq_false_iff_not, Decidable.not_not] at hc60
    refine ew_seq ?_
    refine rg (.q 0 (.q 1 (.h 2 (.h 3 (.q 4 XT.done))))) (by kernel_rfl) (by kernel_rfl) ?_
    refine q_bld (cs := [_, _, _, _, _, _, _, _]) bf_60 rfl rfl rfl rfl ?_
    refine q_ld 3 Try.isAgg157 rfl rfl rfl rfl rfl ?_
    refine h_call Try.call90 (S2 := [_, _, _, _]) rfl rfl rfl (nth_split (k := 0) rfl) (RCode_hc hrk) ?_
    rintro r_ S_ Hl1 hl21 ⟨rfl, rfl, rfl⟩
    refine ⟨kp0, ?_⟩
    refine x_S (S' := [_, _, _, _, _]) rfl ?_
    refine h_stS (cs' := [_, _, _, _, _, _, _, _]) (S' := [_, _, _, _, _]) 4 Try.sizeOf60 rfl rfl rfl rfl rfl (allOne rfl) rfl (leb rfl) rfl rfl kp0 ?_
    refine q_as rfl rfl rfl ?_
    refine x_end ?_
    refine nk_cut (e' := [(0, _), (2, _), (3, _), (4, _), (5, _), (6, _), (14, _), (38, _), (39, _), (40, _), (60, _)]) [0, 2, 3, 4, 5, 6, 14, 38, 39, 40, 60] rfl ?_
    refine nk_seq ?_
    refine ew_ret (r := .tup [_, _]) rfl rfl (.cons (.agg 4 Try.isAgg60 Try.sizeOf60 rfl rfl rfl) (.cons (.tmp rfl) .nil)) rfl ?_
    have hkn : k = (getN (decC xs).1).toNat := by omega
    have hK : keksD k (decC xs).2 = decK xs := by rw [hkn]; rfl
    rw [hK] at hc60 ⊢
    have hd := dec_code hm hc60
    exact ⟨zeroAn, by rw [hd]; rfl, zeroAn_ok, by rw [hd]; rfl, rfl, (((hl1.trans hp1).trans hp2).trans hl11)⟩
   ·intro hc60
    simp only [ne_eq, decide_eq_true_eq, decide_eq_false_iff_not, Decidable.not_not] at hc60
    refine ew_skip ?_
    refine nk_seq ?_
    refine ew_seq ?_
    refine ew_seq ?_
    refine pubE (S' := [_, _, _, _]) 1 rfl rfl ?_
    intro Hp6 hp6 hrL
    replace hx := hx.mono hp6
    replace hrd1 := hrd1.mono hp6
    replace hrd2 := hrd2.mono hp6
    replace hr1 := hr1.mono hp6
    replace hrd3 := hrd3.mono hp6
    replace hrd4 := hrd4.mono hp6
    replace hrd5 := hrd5.mono hp6
    replace hrd6 := hrd6.mono hp6
    replace hrd7 := hrd7.mono hp6
    replace hrd8 := hrd8.mono hp6
    replace hrd9 := hrd9.mono hp6
    replace hma := hma.mono hp6
    replace hrd10 := hrd10.mono hp6
    replace hrk := hrk.mono hp6
    replace hkd := hkd.mono hp6
    have hkn : k = (getN (decC xs).1).toNat := by omega
    have hK : keksD k (decC xs).2 = decK xs := by rw [hkn]; rfl
    have hcode : (decK xs).2.code = 0 := by rw [← hK]; omega
    have ha : An.ok Hp6 ⟨(decN xs).1.getD 0 0, (decN xs).1.getD 1 0, (decN xs).1.getD 2 0, (decN xs).1.getD 3 0 - 1, (decN xs).1.getD 4 0, (decN xs).1.getD 5 0, ⟨A10, (decM xs).1.length, c10, (decM xs).1⟩, A3, k, c3, ks⟩ := ⟨hma, hkd.ks hrL (by rw [keksD_len]) hkc, by have hl := hma.len; have hl2 : ((decM xs).1).length ≤ 32 := take_len (decN xs).2 32; show (decM xs).1.length ≤ 1099511627776; have hl3 : ((decM xs).1).length = (decM xs).1.length := hl; omega, hkd.kl (by rw [keksD_len]; omega)⟩
    have hv : An.v ⟨(decN xs).1.getD 0 0, (decN xs).1.getD 1 0, (decN xs).1.getD 2 0, (decN xs).1.getD 3 0 - 1, (decN xs).1.getD 4 0, (decN xs).1.getD 5 0, ⟨A10, (decM xs).1.length, c10, (decM xs).1⟩, A3, k, c3, ks⟩ = decA xs := by simp only [An.v, decA, hkd.v, hK]
    generalize (decN xs).1.getD 0 0 = z0 at *
    generalize (decN xs).1.getD 1 0 = z1 at *
    generalize (decN xs).1.getD 2 0 = z2 at *
    generalize (decN xs).1.getD 3 0 = z3 at *
    generalize (decN xs).1.getD 4 0 = z4 at *
    generalize (decN xs).1.getD 5 0 = z5 at *
    refine rg (.q 0 (.h 1 (.q 2 XT.done))) (by kernel_rfl) (by kernel_rfl) ?_
    refine q_ldS 1 Try.isAgg60 Try.sizeOf60 rfl rfl rfl rfl rfl ?_
    have hcells : An.cells ⟨z0, z1, z2, z3 - 1, z4, z5, ⟨A10, (decM xs).1.length, c10, (decM xs).1⟩, A3, k, c3, ks⟩ = [.i z0, .i z1, .i z2, .i (z3 - 1), .i z4, .i z5, .sl A10 (decM xs).1.length c10, .sl A3 k c3] := rfl
    have hca := AChk_hc ha
    rw [hcells] at hca
    refine h_call0 Try.call35 rfl rfl rfl (hca) ?_
    rintro r_ S_ Hp6 hl22 ⟨rfl, rfl, rfl⟩
    refine ⟨kp0, ?_⟩
    refine x_S (S' := [_, _, _, _]) rfl ?_
    refine q_as rfl rfl rfl ?_
    refine x_end ?_
    refine nk_cut (e' := [(0, _), (2, _), (3, _), (4, _), (5, _), (6, _), (8, _), (14, _), (38, _), (39, _), (40, _), (60, _)]) [0, 2, 3, 4, 5, 6, 8, 14, 38, 39, 40, 60] rfl ?_
    refine nk_seq ?_
    refine ew_seq ?_
    refine rg (.q 0 (.q 1 XT.done)) (by kernel_rfl) (by kernel_rfl) ?_
    refine q_mv rfl rfl rfl ?_
    refine q_ne rfl rfl rfl rfl ?_
    refine x_end ?_
    refine nk_cut (e' := [(0, _), (2, _), (3, _), (4, _), (5, _), (6, _), (8, _), (14, _), (38, _), (39, _), (40, _), (60, _), (67, _)]) [0, 2, 3, 4, 5, 6, 8, 14, 38, 39, 40, 60, 67] rfl ?_
    refine nk_seq ?_
    refine ew_cond rfl ?_ ?_
    ·intro hc67
     simp only [ne_eq, decide_eq_true_eq, decide_eq_false_iff_not, Decidable.not_not] at hc67
     refine ew_seq ?_
     refine rg (.q 0 (.q 1 (.h 2 (.q 3 XT.done)))) (by kernel_rfl) (by kernel_rfl) ?_
     refine q_bld (cs := [_, _, _, _, _, _, _, _]) bf_60 rfl rfl rfl rfl ?_
     refine q_mv rfl rfl rfl ?_
     refine h_stS (cs' := [_, _, _, _, _, _, _, _]) (S' := [_, _, _, _]) 3 Try.sizeOf60 rfl rfl rfl rfl rfl (allOne rfl) rfl (leb rfl) rfl rfl kp0 ?_
     refine q_as rfl rfl rfl ?_
     refine x_end ?_
     refine nk_cut (e' := [(0, _), (2, _), (3, _), (4, _), (5, _), (6, _), (8, _), (14, _), (38, _), (39, _), (40, _), (60, _), (67, _)]) [0, 2, 3, 4, 5, 6, 8, 14, 38, 39, 40, 60, 67] rfl ?_
     refine nk_seq ?_
     refine ew_ret (r := .tup [_, _]) rfl rfl (.cons (.agg 3 Try.isAgg60 Try.sizeOf60 rfl rfl rfl) (.cons (.tmp rfl) .nil)) rfl ?_
     rw [hv] at hc67 ⊢
     have hd := dec_chk hm hcode hc67
     exact ⟨zeroAn, by rw [hd]; rfl, zeroAn_ok, by rw [hd]; rfl, rfl, ((((hl1.trans hp1).trans hp2).trans hl11).trans hp6)⟩
    ·intro hc67
     simp only [ne_eq, decide_eq_true_eq, decide_eq_false_iff_not, Decidable.not_not] at hc67
     refine ew_skip ?_
     refine nk_seq ?_
     refine ew_seq ?_
     refine rg (.q 0 (.h 1 (.q 2 XT.done))) (by kernel_rfl) (by kernel_rfl) ?_
     refine q_ldS 1 Try.isAgg60 Try.sizeOf60 rfl rfl rfl rfl rfl ?_
     refine h_stS (cs' := [_, _, _, _, _, _, _, _]) (S' := [_, _, _, _]) 3 Try.sizeOf60 rfl rfl rfl rfl rfl (allOne rfl) rfl (leb rfl) rfl rfl kp0 ?_
     refine q_as (sv := .i 0) rfl rfl rfl ?_
     refine x_end ?_
     refine nk_cut (e' := [(0, _), (2, _), (3, _), (4, _), (5, _), (6, _), (8, _), (14, _), (38, _), (39, _), (40, _), (60, _), (67, _)]) [0, 2, 3, 4, 5, 6, 8, 14, 38, 39, 40, 60, 67] rfl ?_
     refine nk_seq ?_
     refine ew_ret (r := .tup [_, _]) rfl rfl (.cons (.agg 3 Try.isAgg60 Try.sizeOf60 rfl rfl rfl) (.cons (.tmp rfl) .nil)) rfl ?_
     rw [hv] at hc67
     have hd := dec_ok hm hcode (by omega)
     exact ⟨⟨z0, z1, z2, z3 - 1, z4, z5, ⟨A10, (decM xs).1.length, c10, (decM xs).1⟩, A3, k, c3, ks⟩, by rw [hd]; rfl, ha, by rw [hd]; exact hv, rfl, ((((hl1.trans hp1).trans hp2).trans hl11).trans hp6)⟩

end Go.GW
