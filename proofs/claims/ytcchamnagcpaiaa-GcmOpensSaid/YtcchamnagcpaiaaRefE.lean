/- Contracts of functions of the loaded program, printed by our own program gen.py. -/
import Derived.Test.YtcchamnagcpaiaaRefD
namespace Go.GW
open Go Go.Proofs
set_option linter.unusedSimpArgs false
set_option linter.unusedVariables false


structure LB (H : Hp) (A : Option Addr) (n c : Nat) (xs : List Bool) : Prop where
  rr : RR H A (xs.map SV.b)
  len : xs.length = n
  cap : n ≤ c
theorem LB.mono {H H' : Hp} {A : Option Addr} {n c : Nat} {xs : List Bool} (h : LB H A n c xs) (hle : HLe H H') : LB H' A n c xs := ⟨h.rr.mono hle, h.len, h.cap⟩
theorem LB.ne {H : Hp} {A : Option Addr} {n c : Nat} {xs : List Bool} (h : LB H A n c xs) (h0 : 0 < n) : A.isSome = true := h.rr.isSome (by rw [List.length_map, h.len]; exact h0)
theorem LB.cell {H : Hp} {A : Option Addr} {n c : Nat} {xs : List Bool} (h : LB H A n c xs) {j : Nat} (hj : j < n) : cellH H (eaddr A j) = some (SV.b (xs.getD j false)).val := by
  have hl : j < xs.length := by rw [h.len]; exact hj
  refine h.rr.cell (j := j) ?_
  simp [hl]
theorem LB.at_ {H : Hp} {A : Option Addr} {n c : Nat} {xs : List Bool} (h : LB H A n c xs) {k j : Nat} (hk : k = j) (hj : j < n) : cellH H (eaddr A k) = some (SV.b (xs.getD j false)).val := by subst hk; exact h.cell hj
theorem LB.of {H : Hp} {A : Option Addr} {n c : Nat} {xs : List Bool} (h : RR H A (xs.map SV.b)) (hl : xs.length = n) (hc : n ≤ c) : LB H A n c xs := ⟨h, hl, hc⟩
/-- a bit of the bytes, the highest of each first -/
def bitB (xs : List UInt8) (i : Nat) : Bool := decide (i / 8 < xs.length) && decide (shr_u8 (xs.getD (i / 8) 0) (7 - i % 8) &&& 1 = 1)
def bitsB (xs : List UInt8) : List Bool := rgf (bitB xs) 128
theorem bitsB_len (xs : List UInt8) : (bitsB xs).length = 128 := rgf_len _ _
theorem bitB_T {xs : List UInt8} {i : Nat} (h : i / 8 < xs.length) : decide (shr_u8 (xs.getD (i / 8) 0) (7 - i % 8) &&& 1 = 1) = bitB xs i := by unfold bitB; rw [decide_eq_true h]; rfl
theorem bitB_F {xs : List UInt8} {i : Nat} (h : ¬ i / 8 < xs.length) : false = bitB xs i := by unfold bitB; rw [decide_eq_false h]; rfl
/-- the bytes of the first i bits -/
def bytK (xs : List Bool) : Nat → List UInt8
  | 0 => List.replicate 16 0
  | i + 1 => if xs.getD i false then (bytK xs i).set (i / 8) ((bytK xs i).getD (i / 8) 0 ||| shl_u8 1 (7 - i % 8)) else bytK xs i
theorem bytK_len (xs : List Bool) (i : Nat) : (bytK xs i).length = 16 := by
  induction i with
  | zero => rfl
  | succ i ih => rw [bytK]; split <;> simp [ih]
def bytesB (xs : List Bool) : List UInt8 := bytK xs 128
theorem bytesB_len (xs : List Bool) : (bytesB xs).length = 16 := bytK_len _ _
theorem bytK_T {xs : List Bool} {i : Nat} (h : xs.getD i false = true) : (bytK xs i).set (i / 8) ((bytK xs i).getD (i / 8) 0 ||| shl_u8 1 (7 - i % 8)) = bytK xs (i + 1) := by rw [bytK, if_pos h]
theorem bytK_F {xs : List Bool} {i : Nat} (h : xs.getD i false = false) : bytK xs i = bytK xs (i + 1) := by rw [bytK, if_neg (by rw [h]; decide)]
theorem getM {α : Type} (C : α → SV) {l : List α} (z : α) {k i : Nat} (hk : k = i) (hi : i < l.length) : (l.map C)[k]? = some (C (l.getD i z)) := by
  subst hk
  simp [hi]

theorem RfBits_hc {H : Hp} {A : Option Addr} {n c : Nat} {xs : List UInt8} (hx : BS H A n c xs) (hn : n ≤ 1099511627776) :
  HC Try.prog 114 [.sl A n c] [] H (fun r S' H' => ∃ A c, r = .sl A 128 c ∧ S' = [.own A 4 ((bitsB xs).map SV.b) (c * 1)] ∧ 128 ≤ c ∧ H' = H) := by
 have hlx := hx.len
 refine hc_intro (n := 31) Try.func114 rfl Try.ntmps114 rfl (fun B hB => ?_)
 refine ew_cut (e' := [(0, _)]) [0] rfl ?_
 refine ew_seq ?_
 refine rg (.q 0 XT.done) (by kernel_rfl) (by kernel_rfl) ?_
 refine q_as (sv := .sl none 0 0) rfl rfl rfl ?_
 refine x_end ?_
 refine nk_cut (e' := [(0, _), (2, _)]) [0, 2] rfl ?_
 refine nk_seq ?_
 refine ew_seq ?_
 refine rg (.q 0 XT.done) (by kernel_rfl) (by kernel_rfl) ?_
 refine q_as (sv := .sl none 0 0) rfl rfl rfl ?_
 refine x_nil 4 ?_
 refine x_end ?_
 refine nk_cut (e' := [(0, _), (2, _), (3, _)]) [0, 2, 3] rfl ?_
 refine nk_seq ?_
 refine ew_seq ?_
 refine ew_seq ?_
 refine rg (.q 0 XT.done) (by kernel_rfl) (by kernel_rfl) ?_
 refine q_as (sv := .i 0) rfl rfl rfl ?_
 refine x_end ?_
 refine nk_cut (e' := [(0, _), (2, _), (3, _), (4, _)]) [0, 2, 3, 4] rfl ?_
 refine nk_seq ?_
 refine ew_block ?_
 let Ev1 : Nat × Option Addr × Nat → Env := fun ⟨k, A, c⟩ => [(4, .i (k : Int)), (3, .sl A k c)]
 let Sv1 : Nat × Option Addr × Nat → Res := fun ⟨k, A, c⟩ => [.own A 4 ((rgf (bitB xs) k).map SV.b) (c * 1)]
 let Gv1 : Nat × Option Addr × Nat → Hp → Prop := fun ⟨k, A, c⟩ H' => H = H' ∧ (k ≤ 128 ∧ k ≤ c)
 let Mv1 : Nat × Option Addr × Nat → Nat := fun ⟨k, A, c⟩ => 128 - k
 refine ew_loop (mkE [(0, _), (2, _)] Ev1) (Sv1) Gv1 Mv1 (⟨0, none, 0⟩ : Nat × Option Addr × Nat) ⟨rfl, rfl, rfl, rfl, trivial⟩ rfl ⟨rfl, ⟨by omega, Nat.zero_le _⟩⟩ ?_
 rintro ⟨k, A, c⟩ H' ⟨rfl, hG⟩
 obtain ⟨hk, hkc⟩ := hG
 have hrl := rgf_len (bitB xs) k
 refine ew_S (S' := [_]) rfl ?_
 refine ew_cut (e' := [(4, _), (3, _), (0, _), (2, _)]) [4, 3, 0, 2] rfl ?_
 refine ew_seq ?_
 refine ew_seq ?_
 refine rg (.q 0 (.q 1 XT.done)) (by kernel_rfl) (by kernel_rfl) ?_
 refine q_mv rfl rfl rfl ?_
 refine q_lt rfl rfl rfl rfl ?_
 refine x_end ?_
 refine nk_cut (e' := [(0, _), (2, _), (3, _), (4, _), (6, _)]) [0, 2, 3, 4, 6] rfl ?_
 refine nk_seq ?_
 refine ew_cond rfl ?_ ?_
 ·intro hc6
  try simp only [decide_eq_true_eq] at hc6
  refine ew_skip ?_
  refine nk_seq ?_
  refine ew_seq ?_
  refine ew_block ?_
  refine rg (.q 0 (.q 1 (.q 2 (.q 3 (.q 4 (.q 5 (.q 6 (.q 7 (.q 8 (.q 9 (.q 10 (.q 11 (.q 12 (.q 13 (.q 14 (.q 15 (.q 16 (.q 17 (.q 18 (.h 19 (.h 20 (.q 21 XT.done)))))))))))))))))))))) (by kernel_rfl) (by kernel_rfl) ?_
  refine q_mv rfl rfl rfl ?_
  refine q_mv rfl rfl rfl ?_
  refine q_quo rfl rfl rfl rfl (by omega) (by omega) (by omega) ?_
  refine q_mv rfl rfl rfl ?_
  refine q_len Try.underlying26 rfl rfl rfl ?_
  refine q_lt rfl rfl rfl rfl ?_
  refine q_mv rfl rfl rfl ?_
  refine x_spl (d := 15) rfl ?_ ?_
  ·intro hb15
   try simp only [Bool.not_eq_true', Bool.not_eq_false', decide_eq_true_eq, decide_eq_false_iff_not, ne_eq, Decidable.not_not] at hb15
   refine q_mv rfl rfl rfl ?_
   refine q_mv rfl rfl rfl ?_
   refine q_quo rfl rfl rfl rfl (by omega) (by omega) (by omega) ?_
   refine q_ixs1 Try.underlying26 Try.sizeOf5 rfl rfl rfl rfl rfl (hx.ne (by omega)) (by omega) (by omega) ?_
   refine q_ldp Try.isAgg5 rfl rfl rfl (hx.cell (j := k / 8) (by omega)) ?_
   refine q_mv rfl rfl rfl ?_
   refine q_rem rfl rfl rfl rfl (by omega) (by omega) (by omega) ?_
   refine q_sub rfl rfl rfl rfl (by omega) (by omega) ?_
   refine q_shr_u8 rfl rfl rfl rfl (by omega) ?_
   refine q_and_u8 rfl rfl rfl rfl ?_
   refine q_eq_u8 rfl rfl rfl rfl ?_
   refine q_pkT rfl rfl rfl rfl ?_
   refine h_bs (cs := [_]) Try.underlying48 info_4 rfl rfl rfl rfl rfl rfl rfl rfl rfl (by decide) ?_
   intro g2
   refine ⟨kp0, ?_⟩
   refine h_appO (sz := 1) (S1 := [_]) 0 0 Try.underlying48 info_4 rfl rfl rfl (by decide) rfl rfl rfl rfl rfl rfl rfl rfl (by rw [List.length_map, hrl, Nat.mul_one]) hkc rfl (allOne rfl) (by simp only [by_4]; omega) (by omega) ?_
   intro A1 c1 hcap1
   refine ⟨kp0, ?_⟩
   refine x_S (S' := [_]) rfl ?_
   refine q_as rfl rfl rfl ?_
   refine x_end ?_
   refine nk_cut (e' := [(0, _), (2, _), (3, _), (4, _), (6, _)]) [0, 2, 3, 4, 6] rfl ?_
   refine nk_blk ?_
   refine nk_seq ?_
   refine rg (.q 0 (.q 1 (.q 2 XT.done))) (by kernel_rfl) (by kernel_rfl) ?_
   refine q_mv rfl rfl rfl ?_
   refine q_add rfl rfl rfl rfl (by omega) (by omega) ?_
   refine q_as rfl rfl rfl ?_
   refine x_end ?_
   refine nk_cut (e' := [(0, _), (2, _), (3, _), (4, _), (6, _)]) [0, 2, 3, 4, 6] rfl ?_
   have hm7 : (7 - (k : Int) % 8).toNat = 7 - k % 8 := by omega
   have hbit := bitB_T (xs := xs) (i := k) (by omega)
   refine nk_round (μ := Mv1) (i := (k, A, c)) (S := Sv1) (G := Gv1) (⟨k + 1, A1, c1⟩ : Nat × Option Addr × Nat) ?_ ?_ ?_ ?_
   ·exact ⟨rfl, rfl, rfl, rfl, trivial⟩
   ·exact (by dsimp only [Sv1]; rw [← rgf_map (bitB xs) SV.b hbit, ← hm7] <;> rfl)
   ·exact ⟨rfl, ⟨by omega, by omega⟩⟩
   ·dsimp only [Mv1]; omega
  ·intro hb15
   try simp only [Bool.not_eq_true', Bool.not_eq_false', decide_eq_true_eq, decide_eq_false_iff_not, ne_eq, Decidable.not_not] at hb15
   iterate 11 refine q_skip rfl rfl ?_
   refine q_pkF rfl rfl rfl rfl ?_
   refine h_bs (cs := [_]) Try.underlying48 info_4 rfl rfl rfl rfl rfl rfl rfl rfl rfl (by decide) ?_
   intro g3
   refine ⟨kp0, ?_⟩
   refine h_appO (sz := 1) (S1 := [_]) 0 0 Try.underlying48 info_4 rfl rfl rfl (by decide) rfl rfl rfl rfl rfl rfl rfl rfl (by rw [List.length_map, hrl, Nat.mul_one]) hkc rfl (allOne rfl) (by simp only [by_4]; omega) (by omega) ?_
   intro A2 c2 hcap2
   refine ⟨kp0, ?_⟩
   refine x_S (S' := [_]) rfl ?_
   refine q_as rfl rfl rfl ?_
   refine x_end ?_
   refine nk_cut (e' := [(0, _), (2, _), (3, _), (4, _), (6, _)]) [0, 2, 3, 4, 6] rfl ?_
   refine nk_blk ?_
   refine nk_seq ?_
   refine rg (.q 0 (.q 1 (.q 2 XT.done))) (by kernel_rfl) (by kernel_rfl) ?_
   refine q_mv rfl rfl rfl ?_
   refine q_add rfl rfl rfl rfl (by omega) (by omega) ?_
   refine q_as rfl rfl rfl ?_
   refine x_end ?_
   refine nk_cut (e' := [(0, _), (2, _), (3, _), (4, _), (6, _)]) [0, 2, 3, 4, 6] rfl ?_
   have hm7 : (7 - (k : Int) % 8).toNat = 7 - k % 8 := by omega
   have hbit := bitB_F (xs := xs) (i := k) (by omega)
   refine nk_round (μ := Mv1) (i := (k, A, c)) (S := Sv1) (G := Gv1) (⟨k + 1, A2, c2⟩ : Nat × Option Addr × Nat) ?_ ?_ ?_ ?_
   ·exact ⟨rfl, rfl, rfl, rfl, trivial⟩
   ·exact (by dsimp only [Sv1]; rw [← rgf_map (bitB xs) SV.b hbit] <;> rfl)
   ·exact ⟨rfl, ⟨by omega, by omega⟩⟩
   ·dsimp only [Mv1]; omega
 ·intro hc6
  try simp only [decide_eq_false_iff_not] at hc6
  have hk : k = 128 := by omega
  subst hk
  refine ew_exit _ rfl ?_
  refine nk_seq ?_
  refine ew_seq ?_
  refine rg (.q 0 (.q 1 XT.done)) (by kernel_rfl) (by kernel_rfl) ?_
  refine q_mv rfl rfl rfl ?_
  refine q_as rfl rfl rfl ?_
  refine x_end ?_
  refine nk_cut (e' := [(0, _), (2, _), (3, _), (4, _), (6, _)]) [0, 2, 3, 4, 6] rfl ?_
  refine nk_seq ?_
  refine ew_retk 0 rfl rfl (.cons (.tmp rfl) .nil) rfl rfl ?_
  exact ⟨A, c, rfl, rfl, hkc, rfl⟩


theorem RfBytes_hc {H : Hp} {A : Option Addr} {c : Nat} {xs : List Bool} (hx : LB H A 128 c xs) :
  HC Try.prog 152 [.sl A 128 c] [] H (fun r S' H' => ∃ A c, r = .sl A 16 c ∧ S' = [.own A 5 ((bytesB xs).map SV.u8) (c * 1)] ∧ 16 ≤ c ∧ H' = H) := by
 have hlx := hx.len
 refine hc_intro (n := 29) Try.func152 rfl Try.ntmps152 rfl (fun B hB => ?_)
 refine ew_cut (e' := [(0, _)]) [0] rfl ?_
 refine ew_seq ?_
 refine rg (.q 0 XT.done) (by kernel_rfl) (by kernel_rfl) ?_
 refine q_as (sv := .sl none 0 0) rfl rfl rfl ?_
 refine x_end ?_
 refine nk_cut (e' := [(0, _), (2, _)]) [0, 2] rfl ?_
 refine nk_seq ?_
 refine ew_seq ?_
 refine rg (.h 0 (.q 1 XT.done)) (by kernel_rfl) (by kernel_rfl) ?_
 refine h_mk (z := .u8 0) Try.underlying26 info_5 rfl rfl rfl rfl rfl rfl rfl (by omega) (by omega) (by simp only [by_5]; omega) (by omega) ?_
 intro g1
 refine ⟨kp0, ?_⟩
 refine q_as rfl rfl rfl ?_
 refine x_end ?_
 refine nk_cut (e' := [(0, _), (2, _), (3, _)]) [0, 2, 3] rfl ?_
 refine nk_seq ?_
 refine ew_seq ?_
 refine ew_seq ?_
 refine rg (.q 0 XT.done) (by kernel_rfl) (by kernel_rfl) ?_
 refine q_as (sv := .i 0) rfl rfl rfl ?_
 refine x_end ?_
 refine nk_cut (e' := [(0, _), (2, _), (3, _), (4, _)]) [0, 2, 3, 4] rfl ?_
 refine nk_seq ?_
 refine ew_block ?_
 let Ev1 : Nat → Env := fun i => [(4, .i (i : Int))]
 let Sv1 : Nat → Res := fun i => [.own (some ⟨g1, 0, none⟩) 5 ((bytK xs i).map SV.u8) 16]
 let Gv1 : Nat → Hp → Prop := fun i H' => H = H' ∧ (i ≤ 128)
 let Mv1 : Nat → Nat := fun i => 128 - i
 refine ew_loop (mkE [(0, _), (2, _), (3, _)] Ev1) (Sv1) Gv1 Mv1 (0 : Nat) ⟨rfl, rfl, rfl, rfl, trivial⟩ rfl ⟨rfl, (by omega)⟩ ?_
 rintro i H' ⟨rfl, hG⟩
 have hbl := bytK_len xs i
 refine ew_S (S' := [_]) rfl ?_
 refine ew_cut (e' := [(4, _), (0, _), (2, _), (3, _)]) [4, 0, 2, 3] rfl ?_
 refine ew_seq ?_
 refine ew_seq ?_
 refine rg (.q 0 (.q 1 XT.done)) (by kernel_rfl) (by kernel_rfl) ?_
 refine q_mv rfl rfl rfl ?_
 refine q_lt rfl rfl rfl rfl ?_
 refine x_end ?_
 refine nk_cut (e' := [(0, _), (2, _), (3, _), (4, _), (7, _)]) [0, 2, 3, 4, 7] rfl ?_
 refine nk_seq ?_
 refine ew_cond rfl ?_ ?_
 ·intro hc7
  try simp only [decide_eq_true_eq] at hc7
  refine ew_skip ?_
  refine nk_seq ?_
  refine ew_seq ?_
  refine ew_block ?_
  refine ew_seq ?_
  refine rg (.q 0 (.q 1 (.q 2 (.q 3 XT.done)))) (by kernel_rfl) (by kernel_rfl) ?_
  refine q_mv rfl rfl rfl ?_
  refine q_mv rfl rfl rfl ?_
  refine q_ixs1 Try.underlying48 Try.sizeOf4 rfl rfl rfl rfl rfl (hx.ne (by omega)) (by omega) (by omega) ?_
  refine q_ldp Try.isAgg4 rfl rfl rfl (hx.at_ (j := i) (by omega) (by omega)) ?_
  refine x_end ?_
  refine nk_cut (e' := [(0, _), (2, _), (3, _), (4, _), (7, _), (13, _)]) [0, 2, 3, 4, 7, 13] rfl ?_
  refine nk_seq ?_
  refine ew_cond rfl ?_ ?_
  ·intro hc13
   try simp only [decide_eq_true_eq] at hc13
   refine rd (by kernel_rfl) [0, 1, 2, 3, 4, 5, 6, 7, 8, 9, 10, 11, 12, 13] [0, 1, 2, 3, 4, 5, 6, 7, 8, 9, 10, 11, 12, 13] (.q 0 (.q 1 (.q 2 (.q 3 (.q 4 (.q 5 (.q 6 (.q 7 (.q 8 (.q 9 (.q 10 (.q 11 (.q 12 (.q 13 (.h 14 XT.done))))))))))))))) (by kernel_rfl) (by kernel_rfl) (keepL _ [0]) (keepL_sub _ _) ?_
   refine q_mv rfl rfl rfl ?_
   refine q_mv rfl rfl rfl ?_
   refine q_quo rfl rfl rfl rfl (by omega) (by omega) (by omega) ?_
   refine q_mv rfl rfl rfl ?_
   refine q_mv rfl rfl rfl ?_
   refine q_quo rfl rfl rfl rfl (by omega) (by omega) (by omega) ?_
   refine q_ixs1 Try.underlying26 Try.sizeOf5 rfl rfl rfl rfl rfl rfl (by omega) (by omega) ?_
   refine q_ldo 0 Try.isAgg5 rfl rfl rfl rfl (getM SV.u8 0 (i := i / 8) (by omega) (by omega)) ?_
   refine q_mv rfl rfl rfl ?_
   refine q_rem rfl rfl rfl rfl (by omega) (by omega) (by omega) ?_
   refine q_sub rfl rfl rfl rfl (by omega) (by omega) ?_
   refine q_shl_u8 rfl rfl rfl rfl (by omega) ?_
   refine q_or_u8 rfl rfl rfl rfl ?_
   refine q_ixs1 Try.underlying26 Try.sizeOf5 rfl rfl rfl rfl rfl rfl (by omega) (by omega) ?_
   refine h_sto (cs' := (((bytK xs i).set (i / 8) ((bytK xs i).getD (i / 8) 0 ||| shl_u8 1 (7 - i % 8))).map SV.u8)) (S' := [_]) 0 Try.sizeOf5 rfl rfl rfl rfl rfl rfl (by rw [List.length_map, hbl]; omega) (by rw [show (7 - (i : Int) % 8).toNat = 7 - i % 8 by omega, show ((i : Int) / 8).toNat = i / 8 by omega, List.map_set] <;> rfl) rfl (fun h => absurd h (by decide)) ?_
   refine x_end ?_
   refine nk_cut (e' := [(0, _), (2, _), (3, _), (4, _), (7, _), (13, _)]) [0, 2, 3, 4, 7, 13] rfl ?_
   refine nk_blk ?_
   refine nk_seq ?_
   refine rg (.q 0 (.q 1 (.q 2 XT.done))) (by kernel_rfl) (by kernel_rfl) ?_
   refine q_mv rfl rfl rfl ?_
   refine q_add rfl rfl rfl rfl (by omega) (by omega) ?_
   refine q_as rfl rfl rfl ?_
   refine x_end ?_
   refine nk_cut (e' := [(0, _), (2, _), (3, _), (4, _), (7, _), (13, _)]) [0, 2, 3, 4, 7, 13] rfl ?_
   have hbt := bytK_T (xs := xs) (i := i) hc13
   refine nk_round (μ := Mv1) (i := i) (S := Sv1) (G := Gv1) (i + 1 : Nat) ?_ ?_ ?_ ?_
   ·exact ⟨rfl, rfl, rfl, rfl, trivial⟩
   ·exact (by dsimp only [Sv1]; rw [← hbt] <;> rfl)
   ·exact ⟨rfl, by omega⟩
   ·dsimp only [Mv1]; omega
  ·intro hc13
   try simp only [decide_eq_false_iff_not] at hc13
   refine ew_skip ?_
   refine nk_blk ?_
   refine nk_seq ?_
   refine rg (.q 0 (.q 1 (.q 2 XT.done))) (by kernel_rfl) (by kernel_rfl) ?_
   refine q_mv rfl rfl rfl ?_
   refine q_add rfl rfl rfl rfl (by omega) (by omega) ?_
   refine q_as rfl rfl rfl ?_
   refine x_end ?_
   refine nk_cut (e' := [(0, _), (2, _), (3, _), (4, _), (7, _), (13, _)]) [0, 2, 3, 4, 7, 13] rfl ?_
   have hbt := bytK_F (xs := xs) (i := i) hc13
   refine nk_round (μ := Mv1) (i := i) (S := Sv1) (G := Gv1) (i + 1 : Nat) ?_ ?_ ?_ ?_
   ·exact ⟨rfl, rfl, rfl, rfl, trivial⟩
   ·exact (by dsimp only [Sv1]; rw [← hbt] <;> rfl)
   ·exact ⟨rfl, by omega⟩
   ·dsimp only [Mv1]; omega
 ·intro hc7
  try simp only [decide_eq_false_iff_not] at hc7
  have hi : i = 128 := by omega
  subst hi
  refine ew_exit _ rfl ?_
  refine nk_seq ?_
  refine ew_seq ?_
  refine rg (.q 0 (.q 1 XT.done)) (by kernel_rfl) (by kernel_rfl) ?_
  refine q_mv rfl rfl rfl ?_
  refine q_as rfl rfl rfl ?_
  refine x_end ?_
  refine nk_cut (e' := [(0, _), (2, _), (3, _), (4, _), (7, _)]) [0, 2, 3, 4, 7] rfl ?_
  refine nk_seq ?_
  refine ew_retk 0 rfl rfl (.cons (.tmp rfl) .nil) rfl rfl ?_
  exact ⟨_, _, rfl, rfl, Nat.le_refl _, rfl⟩

end Go.GW
