/- Contracts of functions of the loaded program, printed by our own program gen.py. -/
import Derived.Test.YtcchamnagcpaiaaGwJ
import Derived.Test.YtcchamnagcpaiaaGwK
namespace Go.GW
open Go Go.Proofs
set_option linter.unusedSimpArgs false
set_option linter.unusedVariables false


/-- the number of bytes, the highest first -/
def getN (xs : List UInt8) : UInt64 := xs.foldl (fun n c => shl_u64 n 8 ||| c.toUInt64) 0
theorem getN_snoc (xs : List UInt8) (k : Nat) (h : k < xs.length) : getN (xs.take (k + 1)) = shl_u64 (getN (xs.take k)) 8 ||| (xs.getD k 0).toUInt64 := by
  unfold getN
  rw [List.take_succ_eq_append_getElem h, List.foldl_append]
  simp [h]

theorem Get_hc {H : Hp} {A : Option Addr} {n c : Nat} {xs : List UInt8} (hx : BS H A n c xs) (hn : n ≤ 4611686018427387904) :
  HC Try.prog 130 [.sl A n c] [] H (fun r S' H' => r = .u64 (getN xs) ∧ S' = [] ∧ H' = H) := by
 refine hc_intro (n := 19) Try.func130 rfl Try.ntmps130 rfl (fun B hB => ?_)
 refine ew_cut (e' := [(0, _)]) [0] rfl ?_
 refine ew_seq ?_
 refine rg (.q 0 XT.done) (by kernel_rfl) (by kernel_rfl) ?_
 refine q_as (sv := .u64 0) rfl rfl rfl ?_
 refine x_end ?_
 refine nk_cut (e' := [(0, _), (2, _)]) [0, 2] rfl ?_
 refine nk_seq ?_
 refine ew_seq ?_
 refine rg (.q 0 XT.done) (by kernel_rfl) (by kernel_rfl) ?_
 refine q_as (sv := .u64 0) rfl rfl rfl ?_
 refine x_end ?_
 refine nk_cut (e' := [(0, _), (2, _), (3, _)]) [0, 2, 3] rfl ?_
 refine nk_seq ?_
 refine ew_seq ?_
 refine ew_seq ?_
 refine rg (.q 0 (.q 1 (.q 2 XT.done))) (by kernel_rfl) (by kernel_rfl) ?_
 refine q_mv rfl rfl rfl ?_
 refine q_len Try.underlying26 rfl rfl rfl ?_
 refine q_mv (sv := .i 0) rfl rfl rfl ?_
 refine x_end ?_
 refine nk_cut (e' := [(0, _), (2, _), (3, _), (6, _), (7, _), (8, _)]) [0, 2, 3, 6, 7, 8] rfl ?_
 refine nk_seq ?_
 refine ew_block ?_
 let Ev1 : Nat → Env := fun k => [(3, .u64 (getN (xs.take k))), (8, .i (k : Int))]
 let Gv1 : Nat → Hp → Prop := fun k H' => H = H' ∧ (k ≤ n)
 let Mv1 : Nat → Nat := fun k => n - k
 refine ew_loop (mkE [(0, _), (2, _), (6, _), (7, _)] Ev1) (mkS [] (fun _ => [])) Gv1 Mv1 (0 : Nat) ⟨rfl, rfl, rfl, rfl, rfl, rfl, trivial⟩ rfl ⟨rfl, by omega⟩ ?_
 rintro k H' ⟨rfl, hG⟩
 refine ew_S (S' := []) rfl ?_
 refine ew_cut (e' := [(3, _), (8, _), (0, _), (2, _), (6, _), (7, _)]) [3, 8, 0, 2, 6, 7] rfl ?_
 refine ew_seq ?_
 refine rg (.q 0 XT.done) (by kernel_rfl) (by kernel_rfl) ?_
 refine q_lt rfl rfl rfl rfl ?_
 refine x_end ?_
 refine nk_cut (e' := [(0, _), (2, _), (3, _), (6, _), (7, _), (8, _), (9, _)]) [0, 2, 3, 6, 7, 8, 9] rfl ?_
 refine nk_seq ?_
 refine ew_seq ?_
 refine ew_cond rfl ?_ ?_
 ·intro hc9
  try simp only [decide_eq_true_eq] at hc9
  refine ew_skip ?_
  refine nk_seq ?_
  refine ew_seq ?_
  refine ew_block ?_
  refine ew_seq ?_
  refine rg (.q 0 (.q 1 (.q 2 XT.done))) (by kernel_rfl) (by kernel_rfl) ?_
  refine q_ixs1 Try.underlying26 Try.sizeOf5 rfl rfl rfl rfl rfl (hx.ne (by omega)) (by omega) (by omega) ?_
  refine q_ldp Try.isAgg5 rfl rfl rfl (hx.cell (j := k) (by omega)) ?_
  refine q_as rfl rfl rfl ?_
  refine x_end ?_
  refine nk_cut (e' := [(0, _), (2, _), (3, _), (5, _), (6, _), (7, _), (8, _), (9, _)]) [0, 2, 3, 5, 6, 7, 8, 9] rfl ?_
  refine nk_seq ?_
  refine rg (.q 0 (.q 1 (.q 2 (.q 3 (.q 4 (.q 5 XT.done)))))) (by kernel_rfl) (by kernel_rfl) ?_
  refine q_mv rfl rfl rfl ?_
  refine q_shl_u64u rfl rfl rfl rfl ?_
  refine q_mv rfl rfl rfl ?_
  refine q_cv_u8_u64 Try.underlying156 (by kernel_rfl) rfl rfl rfl ?_
  refine q_or_u64 rfl rfl rfl rfl ?_
  refine q_as rfl rfl rfl ?_
  refine x_end ?_
  refine nk_cut (e' := [(0, _), (2, _), (3, _), (5, _), (6, _), (7, _), (8, _), (9, _)]) [0, 2, 3, 5, 6, 7, 8, 9] rfl ?_
  refine nk_blk ?_
  refine nk_seq ?_
  refine rg (.q 0 (.q 1 XT.done)) (by kernel_rfl) (by kernel_rfl) ?_
  refine q_add rfl rfl rfl rfl (by omega) (by omega) ?_
  refine q_mv rfl rfl rfl ?_
  refine x_end ?_
  refine nk_cut (e' := [(0, _), (2, _), (3, _), (5, _), (6, _), (7, _), (8, _), (9, _)]) [0, 2, 3, 5, 6, 7, 8, 9] rfl ?_
  refine nk_round (μ := Mv1) (i := k) (S := _) (G := Gv1) (k + 1 : Nat) ?_ ?_ ?_ ?_
  ·exact ⟨congrArg (fun z => some (SV.u64 z)) (getN_snoc xs k (by rw [hx.len]; omega)).symm, rfl, rfl, rfl, rfl, rfl, trivial⟩
  ·exact rfl
  ·exact ⟨rfl, by omega⟩
  ·dsimp only [Mv1]; omega
 ·intro hc9
  try simp only [decide_eq_false_iff_not] at hc9
  have hk : k = n := by omega
  refine ew_exit _ rfl ?_
  refine nk_seq ?_
  refine ew_seq ?_
  refine rg (.q 0 (.q 1 XT.done)) (by kernel_rfl) (by kernel_rfl) ?_
  refine q_mv rfl rfl rfl ?_
  refine q_as rfl rfl rfl ?_
  refine x_end ?_
  refine nk_cut (e' := [(0, _), (2, _), (3, _), (6, _), (7, _), (8, _), (9, _)]) [0, 2, 3, 6, 7, 8, 9] rfl ?_
  refine nk_seq ?_
  refine ew_retS rfl rfl (.cons (.tmp rfl) .nil) ?_
  exact ⟨by rw [List.take_of_length_le (by rw [hx.len]; omega)], rfl, rfl⟩


/-- a number in so many bytes, the highest first -/
def putN : UInt64 → Nat → List UInt8
  | _, 0 => []
  | n, s + 1 => putN (n / 256) s ++ [(n % 256).toUInt8]
theorem putN_length (s : Nat) : ∀ n, (putN n s).length = s := by
  induction s with
  | zero => intro n; rfl
  | succ s ih => intro n; simp [putN, ih]
theorem putN_get (s : Nat) : ∀ (n : UInt64) (j : Nat), j < s → (putN n s)[j]? = some (UInt8.ofNat (n.toNat / 256 ^ (s - 1 - j) % 256)) := by
  induction s with
  | zero => intro n j hj; omega
  | succ s ih =>
    intro n j hj
    unfold putN
    by_cases hjs : j < s
    · rw [List.getElem?_append_left (by rw [putN_length]; exact hjs), ih _ _ hjs]
      congr 2
      rw [UInt64.toNat_div, Nat.div_div_eq_div_mul, show s + 1 - 1 - j = (s - 1 - j) + 1 by omega, Nat.pow_succ, Nat.mul_comm]
      rfl
    · have hjs2 : j = s := by omega
      subst hjs2
      rw [List.getElem?_append_right (by rw [putN_length]; exact Nat.le_refl _), putN_length, Nat.sub_self]
      simp only [List.getElem?_cons_zero, Option.some.injEq]
      rw [show j + 1 - 1 - j = 0 by omega, Nat.pow_zero, Nat.div_one]
      apply UInt8.toNat_inj.1
      simp [UInt64.toNat_mod]
theorem putN_snoc (n : UInt64) (s k : Nat) (h : k < s) (x : UInt8) (hx : x.toNat = n.toNat / 256 ^ (s - 1 - k) % 256) : (putN n s).take (k + 1) = (putN n s).take k ++ [x] := by
  have hl : k < (putN n s).length := by rw [putN_length]; exact h
  rw [List.take_succ_eq_append_getElem hl]
  congr 2
  have h1 := putN_get s n k h
  rw [List.getElem?_eq_getElem hl, Option.some.injEq] at h1
  rw [h1]
  apply UInt8.toNat_inj.1
  rw [UInt8.toNat_ofNat']
  omega
theorem putN_zero (n : UInt64) (i : Nat) (h : 7 < i) : (0 : UInt8).toNat = n.toNat / 256 ^ i % 256 := by
  have h1 : n.toNat < 256 ^ i := Nat.lt_of_lt_of_le n.toNat_lt (by
    have := Nat.pow_le_pow_right (n := 256) (by omega) (show 8 ≤ i by omega)
    exact Nat.le_trans (by decide) this)
  rw [Nat.div_eq_of_lt h1]
  rfl
theorem putN_byte (n : UInt64) (i c : Nat) (h : c = 8 * i) : (shr_u64 n c).toUInt8.toNat = n.toNat / 256 ^ i % 256 := by
  subst h
  unfold shr_u64
  rw [UInt64.toNat_toUInt8, UInt64.toNat_ofNat', Nat.shiftRight_eq_div_pow, Nat.pow_mul]
  have h1 : n.toNat / (2 ^ 8) ^ i < 2 ^ 64 := Nat.lt_of_le_of_lt (Nat.div_le_self _ _) n.toNat_lt
  rw [Nat.mod_eq_of_lt h1]
theorem map_snoc {α β : Type} (f : α → β) {l m : List α} {x : α} (h : l = m ++ [x]) : m.map f ++ [f x] = l.map f := by rw [h]; simp

theorem Put_hc {H : Hp} {n : UInt64} {size : Int} (hs : size ≤ 1048576) (hs0 : -1048576 ≤ size) :
  HC Try.prog 84 [.u64 n, .i size] [] H (fun r S' H' => ∃ A c, r = .sl A size.toNat c ∧ S' = [.own A 5 ((putN n size.toNat).map SV.u8) (c * 1)] ∧ size.toNat ≤ c ∧ H' = H) := by
 refine hc_intro (n := 27) Try.func84 rfl Try.ntmps84 rfl (fun B hB => ?_)
 refine ew_cut (e' := [(0, _), (1, _)]) [0, 1] rfl ?_
 refine ew_seq ?_
 refine rg (.q 0 XT.done) (by kernel_rfl) (by kernel_rfl) ?_
 refine q_as (sv := .sl none 0 0) rfl rfl rfl ?_
 refine x_end ?_
 refine nk_cut (e' := [(0, _), (1, _), (4, _)]) [0, 1, 4] rfl ?_
 refine nk_seq ?_
 refine ew_seq ?_
 refine rg (.q 0 XT.done) (by kernel_rfl) (by kernel_rfl) ?_
 refine q_as (sv := .sl none 0 0) rfl rfl rfl ?_
 refine x_nil 5 ?_
 refine x_end ?_
 refine nk_cut (e' := [(0, _), (1, _), (4, _), (5, _)]) [0, 1, 4, 5] rfl ?_
 refine nk_seq ?_
 refine ew_seq ?_
 refine ew_seq ?_
 refine rg (.q 0 (.q 1 (.q 2 XT.done))) (by kernel_rfl) (by kernel_rfl) ?_
 refine q_mv rfl rfl rfl ?_
 refine q_sub rfl rfl rfl rfl (by omega) (by omega) ?_
 refine q_as rfl rfl rfl ?_
 refine x_end ?_
 refine nk_cut (e' := [(0, _), (1, _), (4, _), (5, _), (6, _)]) [0, 1, 4, 5, 6] rfl ?_
 refine nk_seq ?_
 refine ew_block ?_
 let Ev1 : Nat × Option Addr × Nat → Env := fun ⟨k, A, c⟩ => [(5, .sl A k c), (6, .i (size - 1 - (k : Int)))]
 let Sv1 : Nat × Option Addr × Nat → Res := fun ⟨k, A, c⟩ => [.own A 5 (((putN n size.toNat).take k).map SV.u8) (c * 1)]
 let Gv1 : Nat × Option Addr × Nat → Hp → Prop := fun ⟨k, A, c⟩ H' => H = H' ∧ (k ≤ size.toNat ∧ k ≤ c)
 let Mv1 : Nat × Option Addr × Nat → Nat := fun ⟨k, A, c⟩ => size.toNat - k
 refine ew_loop (mkE [(0, _), (1, _), (4, _)] Ev1) (Sv1) Gv1 Mv1 (⟨0, none, 0⟩ : Nat × Option Addr × Nat) ⟨rfl, congrArg (fun z => some (SV.i z)) (by omega), rfl, rfl, rfl, trivial⟩ rfl ⟨rfl, ⟨by omega, by omega⟩⟩ ?_
 rintro ⟨k, A, c⟩ H' ⟨rfl, hG⟩
 obtain ⟨hk, hkc⟩ := hG
 refine ew_S (S' := [_]) rfl ?_
 refine ew_cut (e' := [(5, _), (6, _), (0, _), (1, _), (4, _)]) [5, 6, 0, 1, 4] rfl ?_
 refine ew_seq ?_
 refine ew_seq ?_
 refine rg (.q 0 (.q 1 XT.done)) (by kernel_rfl) (by kernel_rfl) ?_
 refine q_mv rfl rfl rfl ?_
 refine q_ge rfl rfl rfl rfl ?_
 refine x_end ?_
 refine nk_cut (e' := [(0, _), (1, _), (4, _), (5, _), (6, _), (10, _)]) [0, 1, 4, 5, 6, 10] rfl ?_
 refine nk_seq ?_
 refine ew_cond rfl ?_ ?_
 ·intro hc10
  try simp only [decide_eq_true_eq] at hc10
  refine ew_skip ?_
  refine nk_seq ?_
  refine ew_seq ?_
  refine ew_block ?_
  refine ew_seq ?_
  refine ew_seq ?_
  refine rg (.q 0 (.q 1 XT.done)) (by kernel_rfl) (by kernel_rfl) ?_
  refine q_mv rfl rfl rfl ?_
  refine q_gt rfl rfl rfl rfl ?_
  refine x_end ?_
  refine nk_cut (e' := [(0, _), (1, _), (4, _), (5, _), (6, _), (10, _), (14, _)]) [0, 1, 4, 5, 6, 10, 14] rfl ?_
  refine nk_seq ?_
  refine ew_cond rfl ?_ ?_
  ·intro hc14
   try simp only [decide_eq_true_eq] at hc14
   refine ew_seq ?_
   refine rg (.q 0 (.h 1 (.h 2 (.q 3 XT.done)))) (by kernel_rfl) (by kernel_rfl) ?_
   refine q_mv rfl rfl rfl ?_
   refine h_bs (cs := [_]) Try.underlying26 info_5 rfl rfl rfl rfl rfl rfl rfl rfl rfl (by decide) ?_
   intro g2
   refine ⟨kp0, ?_⟩
   refine h_appO (sz := 1) (S1 := [_]) 0 0 Try.underlying26 info_5 rfl rfl rfl (by decide) rfl rfl rfl rfl rfl rfl rfl rfl (by simp [putN_length]; omega) (by omega) rfl (allOne rfl) (by simp only [by_5]; omega) (by omega) ?_
   intro A1 c1 hcap1
   refine ⟨kp0, ?_⟩
   refine x_S (S' := [_]) rfl ?_
   refine q_as rfl rfl rfl ?_
   refine x_end ?_
   refine nk_cut (e' := [(0, _), (1, _), (4, _), (5, _), (6, _), (10, _), (14, _)]) [0, 1, 4, 5, 6, 10, 14] rfl ?_
   refine nk_seq ?_
   refine ew_exit _ rfl ?_
   refine nk_seq ?_
   refine rg (.q 0 (.q 1 (.q 2 XT.done))) (by kernel_rfl) (by kernel_rfl) ?_
   refine q_mv rfl rfl rfl ?_
   refine q_sub rfl rfl rfl rfl (by omega) (by omega) ?_
   refine q_as rfl rfl rfl ?_
   refine x_end ?_
   refine nk_cut (e' := [(0, _), (1, _), (4, _), (5, _), (6, _), (10, _), (14, _)]) [0, 1, 4, 5, 6, 10, 14] rfl ?_
   refine nk_round (μ := Mv1) (i := (k, A, c)) (S := Sv1) (G := Gv1) (⟨k + 1, A1, c1⟩ : Nat × Option Addr × Nat) ?_ ?_ ?_ ?_
   ·exact ⟨rfl, congrArg (fun z => some (SV.i z)) (by omega), rfl, rfl, rfl, trivial⟩
   ·exact congrArg (fun l => [Chunk.own A1 5 l (c1 * 1)]) (map_snoc SV.u8 (putN_snoc n size.toNat k (by omega) _ (by first | exact putN_zero _ _ (by omega) | exact putN_byte _ _ _ (by omega))))
   ·exact ⟨rfl, ⟨by omega, by omega⟩⟩
   ·dsimp only [Mv1]; omega
  ·intro hc14
   try simp only [decide_eq_false_iff_not] at hc14
   refine ew_skip ?_
   refine nk_seq ?_
   refine rg (.q 0 (.q 1 (.q 2 (.q 3 (.q 4 (.q 5 (.h 6 (.h 7 (.q 8 XT.done))))))))) (by kernel_rfl) (by kernel_rfl) ?_
   iterate 3 refine q_mv rfl rfl rfl ?_
   refine q_mul rfl rfl rfl rfl (by omega) (by omega) ?_
   refine q_shr_u64 rfl rfl rfl rfl (by omega) ?_
   refine q_cv_u64_u8 Try.underlying5 (by kernel_rfl) rfl rfl rfl ?_
   refine h_bs (cs := [_]) Try.underlying26 info_5 rfl rfl rfl rfl rfl rfl rfl rfl rfl (by decide) ?_
   intro g3
   refine ⟨kp0, ?_⟩
   refine h_appO (sz := 1) (S1 := [_]) 0 0 Try.underlying26 info_5 rfl rfl rfl (by decide) rfl rfl rfl rfl rfl rfl rfl rfl (by simp [putN_length]; omega) (by omega) rfl (allOne rfl) (by simp only [by_5]; omega) (by omega) ?_
   intro A2 c2 hcap2
   refine ⟨kp0, ?_⟩
   refine x_S (S' := [_]) rfl ?_
   refine q_as rfl rfl rfl ?_
   refine x_end ?_
   refine nk_cut (e' := [(0, _), (1, _), (4, _), (5, _), (6, _), (10, _), (14, _)]) [0, 1, 4, 5, 6, 10, 14] rfl ?_
   refine nk_blk ?_
   refine nk_seq ?_
   refine rg (.q 0 (.q 1 (.q 2 XT.done))) (by kernel_rfl) (by kernel_rfl) ?_
   refine q_mv rfl rfl rfl ?_
   refine q_sub rfl rfl rfl rfl (by omega) (by omega) ?_
   refine q_as rfl rfl rfl ?_
   refine x_end ?_
   refine nk_cut (e' := [(0, _), (1, _), (4, _), (5, _), (6, _), (10, _), (14, _)]) [0, 1, 4, 5, 6, 10, 14] rfl ?_
   refine nk_round (μ := Mv1) (i := (k, A, c)) (S := Sv1) (G := Gv1) (⟨k + 1, A2, c2⟩ : Nat × Option Addr × Nat) ?_ ?_ ?_ ?_
   ·exact ⟨rfl, congrArg (fun z => some (SV.i z)) (by omega), rfl, rfl, rfl, trivial⟩
   ·exact congrArg (fun l => [Chunk.own A2 5 l (c2 * 1)]) (map_snoc SV.u8 (putN_snoc n size.toNat k (by omega) _ (by first | exact putN_zero _ _ (by omega) | exact putN_byte _ _ _ (by omega))))
   ·exact ⟨rfl, ⟨by omega, by omega⟩⟩
   ·dsimp only [Mv1]; omega
 ·intro hc10
  try simp only [decide_eq_false_iff_not] at hc10
  have hk2 : k = size.toNat := by omega
  subst hk2
  refine ew_exit _ rfl ?_
  refine nk_seq ?_
  refine ew_seq ?_
  refine rg (.q 0 (.q 1 XT.done)) (by kernel_rfl) (by kernel_rfl) ?_
  refine q_mv rfl rfl rfl ?_
  refine q_as rfl rfl rfl ?_
  refine x_end ?_
  refine nk_cut (e' := [(0, _), (1, _), (4, _), (5, _), (6, _), (10, _)]) [0, 1, 4, 5, 6, 10] rfl ?_
  refine nk_seq ?_
  refine ew_retk 0 rfl rfl (.cons (.tmp rfl) .nil) rfl rfl ?_
  exact ⟨A, c, rfl, by rw [List.take_of_length_le (by rw [putN_length]; exact Nat.le_refl _)], hkc, rfl⟩


theorem oneU8 (xs : List UInt8) : ∀ s ∈ xs.map SV.u8, s.one = true := by
  intro s hs
  obtain ⟨x, _, rfl⟩ := List.mem_map.1 hs
  rfl
theorem map_app {α β : Type} (f : α → β) {l m n : List α} (h : l = m ++ n) : m.map f ++ n.map f = l.map f := by rw [h]; simp

theorem Join_hc {H : Hp} {A : Option Addr} {n c : Nat} {ps : List Sli} (hx : BSS H A n c ps) (hb : (catB ps).length ≤ 1099511627776) (hn : n ≤ 1099511627776) :
  HC Try.prog 80 [.sl A n c] [] H (fun r S' H' => ∃ A' c', r = .sl A' (catB ps).length c' ∧ S' = [.own A' 5 ((catB ps).map SV.u8) (c' * 1)] ∧ (catB ps).length ≤ c' ∧ H' = H) := by
 refine hc_intro (n := 33) Try.func80 rfl Try.ntmps80 rfl (fun B hB => ?_)
 refine ew_cut (e' := [(0, _)]) [0] rfl ?_
 refine ew_seq ?_
 refine rg (.q 0 XT.done) (by kernel_rfl) (by kernel_rfl) ?_
 refine q_as (sv := .sl none 0 0) rfl rfl rfl ?_
 refine x_end ?_
 refine nk_cut (e' := [(0, _), (2, _)]) [0, 2] rfl ?_
 refine nk_seq ?_
 refine ew_seq ?_
 refine rg (.q 0 XT.done) (by kernel_rfl) (by kernel_rfl) ?_
 refine q_as (sv := .i 0) rfl rfl rfl ?_
 refine x_end ?_
 refine nk_cut (e' := [(0, _), (2, _), (3, _)]) [0, 2, 3] rfl ?_
 refine nk_seq ?_
 refine ew_seq ?_
 refine ew_seq ?_
 refine rg (.q 0 (.q 1 (.q 2 XT.done))) (by kernel_rfl) (by kernel_rfl) ?_
 refine q_mv rfl rfl rfl ?_
 refine q_len Try.underlying77 rfl rfl rfl ?_
 refine q_mv (sv := .i 0) rfl rfl rfl ?_
 refine x_end ?_
 refine nk_cut (e' := [(0, _), (2, _), (3, _), (9, _), (10, _), (11, _)]) [0, 2, 3, 9, 10, 11] rfl ?_
 refine nk_seq ?_
 refine ew_block ?_
 let Ev1 : Nat → Env := fun k => [(3, .i ((catB (ps.take k)).length : Int)), (11, .i (k : Int))]
 let Gv1 : Nat → Hp → Prop := fun k H' => H = H' ∧ (k ≤ n)
 let Mv1 : Nat → Nat := fun k => n - k
 refine ew_loop (mkE [(0, _), (2, _), (9, _), (10, _)] Ev1) (mkS [] (fun _ => [])) Gv1 Mv1 (0 : Nat) ⟨rfl, rfl, rfl, rfl, rfl, rfl, trivial⟩ rfl ⟨rfl, by omega⟩ ?_
 rintro k H' ⟨rfl, hG⟩
 refine ew_S (S' := []) rfl ?_
 refine ew_cut (e' := [(3, _), (11, _), (0, _), (2, _), (9, _), (10, _)]) [3, 11, 0, 2, 9, 10] rfl ?_
 refine ew_seq ?_
 refine rg (.q 0 XT.done) (by kernel_rfl) (by kernel_rfl) ?_
 refine q_lt rfl rfl rfl rfl ?_
 refine x_end ?_
 refine nk_cut (e' := [(0, _), (2, _), (3, _), (9, _), (10, _), (11, _), (12, _)]) [0, 2, 3, 9, 10, 11, 12] rfl ?_
 refine nk_seq ?_
 refine ew_seq ?_
 refine ew_cond rfl ?_ ?_
 ·intro hc12
  try simp only [decide_eq_true_eq] at hc12
  have h1 := catB_snoc ps k (by rw [hx.len]; omega)
  have h2 := hx.at_ (j := k) (by omega)
  have h3 := catB_take_le ps (k + 1)
  have h4 := congrArg List.length h1
  rw [List.length_append, h2.len] at h4
  refine ew_skip ?_
  refine nk_seq ?_
  refine ew_seq ?_
  refine ew_block ?_
  refine ew_seq ?_
  refine rg (.q 0 (.q 1 (.q 2 XT.done))) (by kernel_rfl) (by kernel_rfl) ?_
  refine q_ixs1 Try.underlying77 Try.sizeOf26 rfl rfl rfl rfl rfl (hx.ne (by omega)) (by omega) (by omega) ?_
  refine q_ldp Try.isAgg26 rfl rfl rfl (hx.cell (j := k) (by omega)) ?_
  refine q_as rfl rfl rfl ?_
  refine x_end ?_
  refine nk_cut (e' := [(0, _), (2, _), (3, _), (5, _), (9, _), (10, _), (11, _), (12, _)]) [0, 2, 3, 5, 9, 10, 11, 12] rfl ?_
  refine nk_seq ?_
  refine rg (.q 0 (.q 1 (.q 2 (.q 3 (.q 4 XT.done))))) (by kernel_rfl) (by kernel_rfl) ?_
  refine q_mv rfl rfl rfl ?_
  refine q_mv rfl rfl rfl ?_
  refine q_len Try.underlying26 rfl rfl rfl ?_
  refine q_add rfl rfl rfl rfl (by omega) (by omega) ?_
  refine q_as rfl rfl rfl ?_
  refine x_end ?_
  refine nk_cut (e' := [(0, _), (2, _), (3, _), (5, _), (9, _), (10, _), (11, _), (12, _)]) [0, 2, 3, 5, 9, 10, 11, 12] rfl ?_
  refine nk_blk ?_
  refine nk_seq ?_
  refine rg (.q 0 (.q 1 XT.done)) (by kernel_rfl) (by kernel_rfl) ?_
  refine q_add rfl rfl rfl rfl (by omega) (by omega) ?_
  refine q_mv rfl rfl rfl ?_
  refine x_end ?_
  refine nk_cut (e' := [(0, _), (2, _), (3, _), (5, _), (9, _), (10, _), (11, _), (12, _)]) [0, 2, 3, 5, 9, 10, 11, 12] rfl ?_
  refine nk_round (μ := Mv1) (i := k) (S := _) (G := Gv1) (k + 1 : Nat) ?_ ?_ ?_ ?_
  ·exact ⟨congrArg (fun z => some (SV.i z)) (by omega), rfl, rfl, rfl, rfl, rfl, trivial⟩
  ·exact rfl
  ·exact ⟨rfl, by omega⟩
  ·dsimp only [Mv1]; omega
 ·intro hc12
  try simp only [decide_eq_false_iff_not] at hc12
  have hk : k = n := by omega
  have hall : catB (ps.take k) = catB ps := by rw [List.take_of_length_le (by rw [hx.len]; omega)]
  rw [hall]
  refine ew_exit _ rfl ?_
  refine nk_seq ?_
  refine ew_seq ?_
  refine rg (.q 0 (.h 1 (.q 2 XT.done))) (by kernel_rfl) (by kernel_rfl) ?_
  refine q_mv rfl rfl rfl ?_
  refine h_mk (z := .u8 0) Try.underlying26 info_5 rfl rfl rfl rfl rfl rfl rfl (by omega) (by omega) (by simp only [by_5]; omega) (by omega) ?_
  intro g1
  refine ⟨kp0, ?_⟩
  refine q_as rfl rfl rfl ?_
  refine x_end ?_
  refine nk_cut (e' := [(0, _), (2, _), (3, _), (6, _), (9, _), (10, _), (11, _), (12, _)]) [0, 2, 3, 6, 9, 10, 11, 12] rfl ?_
  refine nk_seq ?_
  refine ew_seq ?_
  refine ew_seq ?_
  refine rg (.q 0 (.q 1 (.q 2 XT.done))) (by kernel_rfl) (by kernel_rfl) ?_
  refine q_mv rfl rfl rfl ?_
  refine q_len Try.underlying77 rfl rfl rfl ?_
  refine q_mv (sv := .i 0) rfl rfl rfl ?_
  refine x_end ?_
  refine nk_cut (e' := [(0, _), (2, _), (3, _), (6, _), (9, _), (10, _), (11, _), (12, _), (22, _), (23, _), (24, _)]) [0, 2, 3, 6, 9, 10, 11, 12, 22, 23, 24] rfl ?_
  refine nk_seq ?_
  refine ew_block ?_
  let Ev2 : Nat × Option Addr × Nat → Env := fun ⟨k, A, c⟩ => [(6, .sl A (catB (ps.take k)).length c), (24, .i (k : Int))]
  let Sv2 : Nat × Option Addr × Nat → Res := fun ⟨k, A, c⟩ => [.own A 5 ((catB (ps.take k)).map SV.u8) (c * 1)]
  let Gv2 : Nat × Option Addr × Nat → Hp → Prop := fun ⟨k, A, c⟩ H' => H = H' ∧ (k ≤ n ∧ (catB (ps.take k)).length ≤ c)
  let Mv2 : Nat × Option Addr × Nat → Nat := fun ⟨k, A, c⟩ => n - k
  refine ew_loop (mkE [(0, _), (2, _), (3, _), (9, _), (10, _), (11, _), (12, _), (22, _), (23, _)] Ev2) (Sv2) Gv2 Mv2 (⟨0, some ⟨g1, 0, none⟩, (catB ps).length⟩ : Nat × Option Addr × Nat) ⟨rfl, rfl, rfl, rfl, rfl, rfl, rfl, rfl, rfl, rfl, rfl, trivial⟩ (by simp [Sv2, catB]) ⟨rfl, ⟨by omega, by simp [catB]⟩⟩ ?_
  rintro ⟨k2, A2, c2⟩ H' ⟨rfl, hG⟩
  obtain ⟨hk2, hkc⟩ := hG
  refine ew_S (S' := [_]) rfl ?_
  refine ew_cut (e' := [(6, _), (24, _), (0, _), (2, _), (3, _), (9, _), (10, _), (11, _), (12, _), (22, _), (23, _)]) [6, 24, 0, 2, 3, 9, 10, 11, 12, 22, 23] rfl ?_
  refine ew_seq ?_
  refine rg (.q 0 XT.done) (by kernel_rfl) (by kernel_rfl) ?_
  refine q_lt rfl rfl rfl rfl ?_
  refine x_end ?_
  refine nk_cut (e' := [(0, _), (2, _), (3, _), (6, _), (9, _), (10, _), (11, _), (12, _), (22, _), (23, _), (24, _), (25, _)]) [0, 2, 3, 6, 9, 10, 11, 12, 22, 23, 24, 25] rfl ?_
  refine nk_seq ?_
  refine ew_seq ?_
  refine ew_cond rfl ?_ ?_
  ·intro hc25
   try simp only [decide_eq_true_eq] at hc25
   have h1 := catB_snoc ps k2 (by rw [hx.len]; omega)
   have h2 := hx.at_ (j := k2) (by omega)
   have h3 := catB_take_le ps (k2 + 1)
   have h4 := congrArg List.length h1
   rw [List.length_append, h2.len] at h4
   refine ew_skip ?_
   refine nk_seq ?_
   refine ew_seq ?_
   refine ew_block ?_
   refine ew_seq ?_
   refine rg (.q 0 (.q 1 (.q 2 XT.done))) (by kernel_rfl) (by kernel_rfl) ?_
   refine q_ixs1 Try.underlying77 Try.sizeOf26 rfl rfl rfl rfl rfl (hx.ne (by omega)) (by omega) (by omega) ?_
   refine q_ldp Try.isAgg26 rfl rfl rfl (hx.cell (j := k2) (by omega)) ?_
   refine q_as rfl rfl rfl ?_
   refine x_end ?_
   refine nk_cut (e' := [(0, _), (2, _), (3, _), (6, _), (8, _), (9, _), (10, _), (11, _), (12, _), (22, _), (23, _), (24, _), (25, _)]) [0, 2, 3, 6, 8, 9, 10, 11, 12, 22, 23, 24, 25] rfl ?_
   refine nk_seq ?_
   refine rg (.q 0 (.q 1 (.h 2 (.q 3 XT.done)))) (by kernel_rfl) (by kernel_rfl) ?_
   refine q_mv rfl rfl rfl ?_
   refine q_mv rfl rfl rfl ?_
   refine h_app (sz := 1) 0 Try.underlying26 info_5 rfl rfl rfl (by decide) rfl rfl rfl rfl rfl rfl (by simp) (by omega) h2.rr (by rw [List.length_map, h2.len, Nat.mul_one]) (oneU8 _) (by simp only [by_5]; omega) (by omega) ?_
   intro A1 c1 hcap1
   refine ⟨kp0, ?_⟩
   refine x_S (S' := [_]) rfl ?_
   refine q_as rfl rfl rfl ?_
   refine x_end ?_
   refine nk_cut (e' := [(0, _), (2, _), (3, _), (6, _), (8, _), (9, _), (10, _), (11, _), (12, _), (22, _), (23, _), (24, _), (25, _)]) [0, 2, 3, 6, 8, 9, 10, 11, 12, 22, 23, 24, 25] rfl ?_
   refine nk_blk ?_
   refine nk_seq ?_
   refine rg (.q 0 (.q 1 XT.done)) (by kernel_rfl) (by kernel_rfl) ?_
   refine q_add rfl rfl rfl rfl (by omega) (by omega) ?_
   refine q_mv rfl rfl rfl ?_
   refine x_end ?_
   refine nk_cut (e' := [(0, _), (2, _), (3, _), (6, _), (8, _), (9, _), (10, _), (11, _), (12, _), (22, _), (23, _), (24, _), (25, _)]) [0, 2, 3, 6, 8, 9, 10, 11, 12, 22, 23, 24, 25] rfl ?_
   refine nk_round (μ := Mv2) (i := (k2, A2, c2)) (S := Sv2) (G := Gv2) (⟨k2 + 1, A1, c1⟩ : Nat × Option Addr × Nat) ?_ ?_ ?_ ?_
   ·exact ⟨congrArg (fun z => some (SV.sl A1 z c1)) (by omega), rfl, rfl, rfl, rfl, rfl, rfl, rfl, rfl, rfl, rfl, trivial⟩
   ·exact congrArg (fun l => [Chunk.own A1 5 l (c1 * 1)]) (map_app SV.u8 h1)
   ·exact ⟨rfl, ⟨by omega, by omega⟩⟩
   ·dsimp only [Mv2]; omega
  ·intro hc25
   try simp only [decide_eq_false_iff_not] at hc25
   have hk3 : k2 = n := by omega
   have hall2 : catB (ps.take k2) = catB ps := by rw [List.take_of_length_le (by rw [hx.len]; omega)]
   rw [hall2] at hkc ⊢
   refine ew_exit _ rfl ?_
   refine nk_seq ?_
   refine ew_seq ?_
   refine rg (.q 0 (.q 1 XT.done)) (by kernel_rfl) (by kernel_rfl) ?_
   refine q_mv rfl rfl rfl ?_
   refine q_as rfl rfl rfl ?_
   refine x_end ?_
   refine nk_cut (e' := [(0, _), (2, _), (3, _), (6, _), (9, _), (10, _), (11, _), (12, _), (22, _), (23, _), (24, _), (25, _)]) [0, 2, 3, 6, 9, 10, 11, 12, 22, 23, 24, 25] rfl ?_
   refine nk_seq ?_
   refine ew_retk 0 rfl rfl (.cons (.tmp rfl) .nil) rfl rfl ?_
   exact ⟨A2, c2, rfl, rfl, hkc, rfl⟩


def orX (xs ys : List UInt8) : UInt8 := (List.zipWith (· ^^^ ·) xs ys).foldl (· ||| ·) 0
theorem getD_get {xs : List UInt8} {k : Nat} (h : k < xs.length) : xs.getD k 0 = xs[k] := by simp [h]
theorem orX_snoc (xs ys : List UInt8) (k : Nat) (h : k < xs.length) (h2 : k < ys.length) : orX (xs.take (k + 1)) (ys.take (k + 1)) = orX (xs.take k) (ys.take k) ||| (xs.getD k 0 ^^^ ys.getD k 0) := by
  unfold orX
  rw [List.take_succ_eq_append_getElem h, List.take_succ_eq_append_getElem h2, List.zipWith_append (by simp; omega), List.foldl_append, getD_get h, getD_get h2]
  rfl
theorem or_eq_zero (a b : UInt8) : a ||| b = 0 ↔ a = 0 ∧ b = 0 := by
  constructor
  · intro h
    have h1 : (a ||| b).toBitVec = 0#8 := by rw [h]; rfl
    have h2 : a.toBitVec ||| b.toBitVec = 0#8 := h1
    have h3 := BitVec.or_eq_zero_iff.1 h2
    exact ⟨UInt8.toBitVec_inj.1 h3.1, UInt8.toBitVec_inj.1 h3.2⟩
  · rintro ⟨rfl, rfl⟩; rfl
theorem xor_eq_zero (a b : UInt8) : a ^^^ b = 0 ↔ a = b := by
  constructor
  · intro h
    have h1 : (a ^^^ b).toBitVec = 0#8 := by rw [h]; rfl
    have h2 : a.toBitVec ^^^ b.toBitVec = 0#8 := h1
    exact UInt8.toBitVec_inj.1 (BitVec.xor_eq_zero_iff.1 h2)
  · rintro rfl
    apply UInt8.toBitVec_inj.1
    show a.toBitVec ^^^ a.toBitVec = 0#8
    simp
theorem orX_zero (xs ys : List UInt8) (h : xs.length = ys.length) (k : Nat) : k ≤ xs.length → (orX (xs.take k) (ys.take k) = 0 ↔ xs.take k = ys.take k) := by
  induction k with
  | zero => intro _; simp [orX]
  | succ k ih =>
    intro hk
    rw [orX_snoc xs ys k (by omega) (by omega), or_eq_zero, xor_eq_zero, ih (by omega), List.take_succ_eq_append_getElem (show k < xs.length by omega), List.take_succ_eq_append_getElem (show k < ys.length by omega), getD_get, getD_get]
    constructor
    · rintro ⟨h1, h2⟩; rw [h1, h2]
    · intro h1
      have h2 := List.append_inj h1 (by simp; omega)
      exact ⟨h2.1, by simpa using h2.2⟩

theorem Same_hc {H : Hp} {A1 A2 : Option Addr} {n1 c1 n2 c2 : Nat} {xs ys : List UInt8} (hx : BS H A1 n1 c1 xs) (hy : BS H A2 n2 c2 ys) (hn : n1 ≤ 1099511627776) :
  HC Try.prog 96 [.sl A1 n1 c1, .sl A2 n2 c2] [] H (fun r S' H' => r = .b (decide (xs = ys)) ∧ S' = [] ∧ H' = H) := by
 have hlx := hx.len
 have hly := hy.len
 refine hc_intro (n := 31) Try.func96 rfl Try.ntmps96 rfl (fun B hB => ?_)
 refine ew_cut (e' := [(0, _), (1, _)]) [0, 1] rfl ?_
 refine ew_seq ?_
 refine rg (.q 0 XT.done) (by kernel_rfl) (by kernel_rfl) ?_
 refine q_as (sv := .b false) rfl rfl rfl ?_
 refine x_end ?_
 refine nk_cut (e' := [(0, _), (1, _), (4, _)]) [0, 1, 4] rfl ?_
 refine nk_seq ?_
 refine ew_seq ?_
 refine ew_seq ?_
 refine rg (.q 0 (.q 1 (.q 2 (.q 3 (.q 4 XT.done))))) (by kernel_rfl) (by kernel_rfl) ?_
 refine q_mv rfl rfl rfl ?_
 refine q_len Try.underlying26 rfl rfl rfl ?_
 refine q_mv rfl rfl rfl ?_
 refine q_len Try.underlying26 rfl rfl rfl ?_
 refine q_ne rfl rfl rfl rfl ?_
 refine x_end ?_
 refine nk_cut (e' := [(0, _), (1, _), (4, _), (11, _)]) [0, 1, 4, 11] rfl ?_
 refine nk_seq ?_
 refine ew_cond rfl ?_ ?_
 ·intro hc11
  simp only [ne_eq, decide_eq_true_eq, decide_eq_false_iff_not, Decidable.not_not] at hc11
  refine ew_seq ?_
  refine rg (.q 0 XT.done) (by kernel_rfl) (by kernel_rfl) ?_
  refine q_as (sv := .b false) rfl rfl rfl ?_
  refine x_end ?_
  refine nk_cut (e' := [(0, _), (1, _), (4, _), (11, _)]) [0, 1, 4, 11] rfl ?_
  refine nk_seq ?_
  refine ew_retS rfl rfl (.cons (.tmp rfl) .nil) ?_
  exact ⟨by rw [decide_eq_false (fun h => hc11 (by rw [← hlx, ← hly, h]))], rfl, rfl⟩
 ·intro hc11
  simp only [ne_eq, decide_eq_true_eq, decide_eq_false_iff_not, Decidable.not_not] at hc11
  refine ew_skip ?_
  refine nk_seq ?_
  refine ew_seq ?_
  refine rg (.q 0 XT.done) (by kernel_rfl) (by kernel_rfl) ?_
  refine q_as (sv := .u8 0) rfl rfl rfl ?_
  refine x_end ?_
  refine nk_cut (e' := [(0, _), (1, _), (4, _), (5, _), (11, _)]) [0, 1, 4, 5, 11] rfl ?_
  refine nk_seq ?_
  refine ew_seq ?_
  refine ew_seq ?_
  refine rg (.q 0 (.q 1 (.q 2 XT.done))) (by kernel_rfl) (by kernel_rfl) ?_
  refine q_mv rfl rfl rfl ?_
  refine q_len Try.underlying26 rfl rfl rfl ?_
  refine q_mv (sv := .i 0) rfl rfl rfl ?_
  refine x_end ?_
  refine nk_cut (e' := [(0, _), (1, _), (4, _), (5, _), (11, _), (13, _), (14, _)]) [0, 1, 4, 5, 11, 13, 14] rfl ?_
  refine nk_seq ?_
  refine ew_block ?_
  let Ev1 : Nat → Env := fun k => [(5, .u8 (orX (xs.take k) (ys.take k))), (14, .i (k : Int))]
  let Gv1 : Nat → Hp → Prop := fun k H' => H = H' ∧ (k ≤ n1)
  let Mv1 : Nat → Nat := fun k => n1 - k
  refine ew_loop (mkE [(0, _), (1, _), (4, _), (11, _), (13, _)] Ev1) (mkS [] (fun _ => [])) Gv1 Mv1 (0 : Nat) ⟨rfl, rfl, rfl, rfl, rfl, rfl, rfl, trivial⟩ rfl ⟨rfl, by omega⟩ ?_
  rintro k H' ⟨rfl, hG⟩
  refine ew_S (S' := []) rfl ?_
  refine ew_cut (e' := [(5, _), (14, _), (0, _), (1, _), (4, _), (11, _), (13, _)]) [5, 14, 0, 1, 4, 11, 13] rfl ?_
  refine ew_seq ?_
  refine rg (.q 0 XT.done) (by kernel_rfl) (by kernel_rfl) ?_
  refine q_lt rfl rfl rfl rfl ?_
  refine x_end ?_
  refine nk_cut (e' := [(0, _), (1, _), (4, _), (5, _), (11, _), (13, _), (14, _), (15, _)]) [0, 1, 4, 5, 11, 13, 14, 15] rfl ?_
  refine nk_seq ?_
  refine ew_seq ?_
  refine ew_cond rfl ?_ ?_
  ·intro hc15
   try simp only [decide_eq_true_eq] at hc15
   refine ew_skip ?_
   refine nk_seq ?_
   refine ew_seq ?_
   refine ew_block ?_
   refine ew_seq ?_
   refine rg (.q 0 (.q 1 XT.done)) (by kernel_rfl) (by kernel_rfl) ?_
   refine q_mv rfl rfl rfl ?_
   refine q_as rfl rfl rfl ?_
   refine x_end ?_
   refine nk_cut (e' := [(0, _), (1, _), (4, _), (5, _), (6, _), (11, _), (13, _), (14, _), (15, _)]) [0, 1, 4, 5, 6, 11, 13, 14, 15] rfl ?_
   refine nk_seq ?_
   refine rd (by kernel_rfl) [0, 1, 2, 3, 4, 5, 6, 7, 8, 9, 10, 11] [0, 1, 2, 3, 4, 5, 6, 7, 8, 9, 10, 11] (.q 0 (.q 1 (.q 2 (.q 3 (.q 4 (.q 5 (.q 6 (.q 7 (.q 8 (.q 9 (.q 10 (.q 11 XT.done)))))))))))) (by kernel_rfl) (by kernel_rfl) (keepL _ []) (keepL_sub _ _) ?_
   iterate 3 refine q_mv rfl rfl rfl ?_
   refine q_ixs1 Try.underlying26 Try.sizeOf5 rfl rfl rfl rfl rfl (hx.ne (by omega)) (by omega) (by omega) ?_
   refine q_ldp Try.isAgg5 rfl rfl rfl (hx.cell (j := k) (by omega)) ?_
   refine q_mv rfl rfl rfl ?_
   refine q_mv rfl rfl rfl ?_
   refine q_ixs1 Try.underlying26 Try.sizeOf5 rfl rfl rfl rfl rfl (hy.ne (by omega)) (by omega) (by omega) ?_
   refine q_ldp Try.isAgg5 rfl rfl rfl (hy.cell (j := k) (by omega)) ?_
   refine q_xor_u8 rfl rfl rfl rfl ?_
   refine q_or_u8 rfl rfl rfl rfl ?_
   refine q_as rfl rfl rfl ?_
   refine x_end ?_
   refine nk_cut (e' := [(0, _), (1, _), (4, _), (5, _), (6, _), (11, _), (13, _), (14, _), (15, _)]) [0, 1, 4, 5, 6, 11, 13, 14, 15] rfl ?_
   refine nk_blk ?_
   refine nk_seq ?_
   refine rg (.q 0 (.q 1 XT.done)) (by kernel_rfl) (by kernel_rfl) ?_
   refine q_add rfl rfl rfl rfl (by omega) (by omega) ?_
   refine q_mv rfl rfl rfl ?_
   refine x_end ?_
   refine nk_cut (e' := [(0, _), (1, _), (4, _), (5, _), (6, _), (11, _), (13, _), (14, _), (15, _)]) [0, 1, 4, 5, 6, 11, 13, 14, 15] rfl ?_
   refine nk_round (μ := Mv1) (i := k) (S := _) (G := Gv1) (k + 1 : Nat) ?_ ?_ ?_ ?_
   ·exact ⟨congrArg (fun z => some (SV.u8 z)) (orX_snoc xs ys k (by omega) (by omega)).symm, rfl, rfl, rfl, rfl, rfl, rfl, trivial⟩
   ·exact rfl
   ·exact ⟨rfl, by omega⟩
   ·dsimp only [Mv1]; omega
  ·intro hc15
   try simp only [decide_eq_false_iff_not] at hc15
   refine ew_exit _ rfl ?_
   refine nk_seq ?_
   refine ew_seq ?_
   refine rg (.q 0 (.q 1 (.q 2 XT.done))) (by kernel_rfl) (by kernel_rfl) ?_
   refine q_mv rfl rfl rfl ?_
   refine q_eq_u8 rfl rfl rfl rfl ?_
   refine q_as rfl rfl rfl ?_
   refine x_end ?_
   refine nk_cut (e' := [(0, _), (1, _), (4, _), (5, _), (11, _), (13, _), (14, _), (15, _)]) [0, 1, 4, 5, 11, 13, 14, 15] rfl ?_
   refine nk_seq ?_
   refine ew_retS rfl rfl (.cons (.tmp rfl) .nil) ?_
   refine ⟨congrArg SV.b (decide_eq_decide.2 ?_), rfl, rfl⟩
   have h1 := orX_zero xs ys (by omega) k (by omega)
   rw [List.take_of_length_le (show xs.length ≤ k by omega), List.take_of_length_le (show ys.length ≤ k by omega)] at h1 ⊢
   exact h1


theorem RSame_hc {H : Hp} {A1 A2 : Option Addr} {n1 c1 n2 c2 : Nat} {xs ys : List UInt8} (hx : BS H A1 n1 c1 xs) (hy : BS H A2 n2 c2 ys) (hn : n1 ≤ 1099511627776) :
  HC Try.prog 24 [.sl A1 n1 c1, .sl A2 n2 c2] [] H (fun r S' H' => r = .b (decide (xs = ys)) ∧ S' = [] ∧ H' = H) := by
 have hlx := hx.len
 have hly := hy.len
 refine hc_intro (n := 26) Try.func24 rfl Try.ntmps24 rfl (fun B hB => ?_)
 refine ew_cut (e' := [(0, _), (1, _)]) [0, 1] rfl ?_
 refine ew_seq ?_
 refine rg (.q 0 XT.done) (by kernel_rfl) (by kernel_rfl) ?_
 refine q_as (sv := .b false) rfl rfl rfl ?_
 refine x_end ?_
 refine nk_cut (e' := [(0, _), (1, _), (4, _)]) [0, 1, 4] rfl ?_
 refine nk_seq ?_
 refine ew_seq ?_
 refine ew_seq ?_
 refine rg (.q 0 (.q 1 (.q 2 (.q 3 (.q 4 XT.done))))) (by kernel_rfl) (by kernel_rfl) ?_
 refine q_mv rfl rfl rfl ?_
 refine q_len Try.underlying26 rfl rfl rfl ?_
 refine q_mv rfl rfl rfl ?_
 refine q_len Try.underlying26 rfl rfl rfl ?_
 refine q_ne rfl rfl rfl rfl ?_
 refine x_end ?_
 refine nk_cut (e' := [(0, _), (1, _), (4, _), (10, _)]) [0, 1, 4, 10] rfl ?_
 refine nk_seq ?_
 refine ew_cond rfl ?_ ?_
 ·intro hc10
  simp only [ne_eq, decide_eq_true_eq, decide_eq_false_iff_not, Decidable.not_not] at hc10
  refine ew_seq ?_
  refine rg (.q 0 XT.done) (by kernel_rfl) (by kernel_rfl) ?_
  refine q_as (sv := .b false) rfl rfl rfl ?_
  refine x_end ?_
  refine nk_cut (e' := [(0, _), (1, _), (4, _), (10, _)]) [0, 1, 4, 10] rfl ?_
  refine nk_seq ?_
  refine ew_retS rfl rfl (.cons (.tmp rfl) .nil) ?_
  exact ⟨by rw [decide_eq_false (fun h => hc10 (by rw [← hlx, ← hly, h]))], rfl, rfl⟩
 ·intro hc10
  simp only [ne_eq, decide_eq_true_eq, decide_eq_false_iff_not, Decidable.not_not] at hc10
  refine ew_skip ?_
  refine nk_seq ?_
  refine ew_seq ?_
  refine ew_seq ?_
  refine rg (.q 0 XT.done) (by kernel_rfl) (by kernel_rfl) ?_
  refine q_as (sv := .i 0) rfl rfl rfl ?_
  refine x_end ?_
  refine nk_cut (e' := [(0, _), (1, _), (4, _), (5, _), (10, _)]) [0, 1, 4, 5, 10] rfl ?_
  refine nk_seq ?_
  refine ew_block ?_
  let Ev1 : Nat → Env := fun k => [(5, .i (k : Int))]
  let Gv1 : Nat → Hp → Prop := fun k H' => H = H' ∧ (k ≤ n1 ∧ xs.take k = ys.take k)
  let Mv1 : Nat → Nat := fun k => n1 - k
  refine ew_loop (mkE [(0, _), (1, _), (4, _), (10, _)] Ev1) (mkS [] (fun _ => [])) Gv1 Mv1 (0 : Nat) ⟨rfl, rfl, rfl, rfl, rfl, trivial⟩ rfl ⟨rfl, ⟨by omega, rfl⟩⟩ ?_
  rintro k H' ⟨rfl, hG⟩
  obtain ⟨hk, htk⟩ := hG
  refine ew_S (S' := []) rfl ?_
  refine ew_cut (e' := [(5, _), (0, _), (1, _), (4, _), (10, _)]) [5, 0, 1, 4, 10] rfl ?_
  refine ew_seq ?_
  refine ew_seq ?_
  refine rg (.q 0 (.q 1 (.q 2 (.q 3 XT.done)))) (by kernel_rfl) (by kernel_rfl) ?_
  refine q_mv rfl rfl rfl ?_
  refine q_mv rfl rfl rfl ?_
  refine q_len Try.underlying26 rfl rfl rfl ?_
  refine q_lt rfl rfl rfl rfl ?_
  refine x_end ?_
  refine nk_cut (e' := [(0, _), (1, _), (4, _), (5, _), (10, _), (14, _)]) [0, 1, 4, 5, 10, 14] rfl ?_
  refine nk_seq ?_
  refine ew_cond rfl ?_ ?_
  ·intro hc14
   try simp only [decide_eq_true_eq] at hc14
   refine ew_skip ?_
   refine nk_seq ?_
   refine ew_seq ?_
   refine ew_block ?_
   refine ew_seq ?_
   refine rd (by kernel_rfl) [0, 1, 2, 3, 4, 5, 6, 7, 8] [0, 1, 2, 3, 4, 5, 6, 7, 8] (.q 0 (.q 1 (.q 2 (.q 3 (.q 4 (.q 5 (.q 6 (.q 7 (.q 8 XT.done))))))))) (by kernel_rfl) (by kernel_rfl) (keepL _ []) (keepL_sub _ _) ?_
   refine q_mv rfl rfl rfl ?_
   refine q_mv rfl rfl rfl ?_
   refine q_ixs1 Try.underlying26 Try.sizeOf5 rfl rfl rfl rfl rfl (hx.ne (by omega)) (by omega) (by omega) ?_
   refine q_ldp Try.isAgg5 rfl rfl rfl (hx.cell (j := k) (by omega)) ?_
   refine q_mv rfl rfl rfl ?_
   refine q_mv rfl rfl rfl ?_
   refine q_ixs1 Try.underlying26 Try.sizeOf5 rfl rfl rfl rfl rfl (hy.ne (by omega)) (by omega) (by omega) ?_
   refine q_ldp Try.isAgg5 rfl rfl rfl (hy.cell (j := k) (by omega)) ?_
   refine q_ne_u8 rfl rfl rfl rfl ?_
   refine x_end ?_
   refine nk_cut (e' := [(0, _), (1, _), (4, _), (5, _), (10, _), (14, _), (25, _)]) [0, 1, 4, 5, 10, 14, 25] rfl ?_
   refine nk_seq ?_
   refine ew_cond rfl ?_ ?_
   ·intro hc25
    simp only [ne_eq, decide_eq_true_eq, decide_eq_false_iff_not, Decidable.not_not] at hc25
    refine ew_seq ?_
    refine rg (.q 0 XT.done) (by kernel_rfl) (by kernel_rfl) ?_
    refine q_as (sv := .b false) rfl rfl rfl ?_
    refine x_end ?_
    refine nk_cut (e' := [(0, _), (1, _), (4, _), (5, _), (10, _), (14, _), (25, _)]) [0, 1, 4, 5, 10, 14, 25] rfl ?_
    refine nk_seq ?_
    refine ew_retS rfl rfl (.cons (.tmp rfl) .nil) ?_
    exact ⟨by rw [decide_eq_false (fun h => hc25 (by rw [h]))], rfl, rfl⟩
   ·intro hc25
    simp only [ne_eq, decide_eq_true_eq, decide_eq_false_iff_not, Decidable.not_not] at hc25
    refine ew_skip ?_
    refine nk_blk ?_
    refine nk_seq ?_
    refine rg (.q 0 (.q 1 (.q 2 XT.done))) (by kernel_rfl) (by kernel_rfl) ?_
    refine q_mv rfl rfl rfl ?_
    refine q_add rfl rfl rfl rfl (by omega) (by omega) ?_
    refine q_as rfl rfl rfl ?_
    refine x_end ?_
    refine nk_cut (e' := [(0, _), (1, _), (4, _), (5, _), (10, _), (14, _), (25, _)]) [0, 1, 4, 5, 10, 14, 25] rfl ?_
    refine nk_round (μ := Mv1) (i := k) (S := _) (G := Gv1) (k + 1 : Nat) ?_ ?_ ?_ ?_
    ·exact ⟨rfl, rfl, rfl, rfl, rfl, trivial⟩
    ·exact rfl
    ·exact ⟨rfl, ⟨by omega, by rw [List.take_succ_eq_append_getElem (show k < xs.length by omega), List.take_succ_eq_append_getElem (show k < ys.length by omega), htk, ← getD_get, ← getD_get, hc25]⟩⟩
    ·dsimp only [Mv1]; omega
  ·intro hc14
   try simp only [decide_eq_false_iff_not] at hc14
   refine ew_exit _ rfl ?_
   refine nk_seq ?_
   refine ew_seq ?_
   refine rg (.q 0 XT.done) (by kernel_rfl) (by kernel_rfl) ?_
   refine q_as (sv := .b true) rfl rfl rfl ?_
   refine x_end ?_
   refine nk_cut (e' := [(0, _), (1, _), (4, _), (5, _), (10, _), (14, _)]) [0, 1, 4, 5, 10, 14] rfl ?_
   refine nk_seq ?_
   refine ew_retS rfl rfl (.cons (.tmp rfl) .nil) ?_
   refine ⟨?_, rfl, rfl⟩
   rw [List.take_of_length_le (show xs.length ≤ k by omega), List.take_of_length_le (show ys.length ≤ k by omega)] at htk
   rw [decide_eq_true htk]

end Go.GW
