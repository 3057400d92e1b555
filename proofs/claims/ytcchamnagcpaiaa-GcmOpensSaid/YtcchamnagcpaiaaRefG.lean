/- Contracts of functions of the loaded program, printed by our own program gen.py. -/
import Derived.Test.YtcchamnagcpaiaaRefF
namespace Go.GW
open Go Go.Proofs
set_option linter.unusedSimpArgs false
set_option linter.unusedVariables false


theorem take_m {α : Type} {l : List α} {i j : Nat} (h : min i l.length = min j l.length) : l.take i = l.take j := by
  apply List.ext_getElem
  · simpa using h
  · intro q h1 h2; simp
def blkB (xs : List UInt8) (k : Nat) : List UInt8 := (xs.drop (16 * k)).take 16
def xorB (y b : List Bool) : List Bool := pl (fun j => y.getD j false != b.getD j false) zB 128 128
theorem xorB_len (y b : List Bool) : (xorB y b).length = 128 := pl_len _ _ _ _
def hsK (h y : List Bool) (xs : List UInt8) : Nat → List Bool
  | 0 => y
  | k + 1 => timesB (xorB (hsK h y xs k) (bitsB (blkB xs k))) h
def hashB (h y : List Bool) (xs : List UInt8) : List Bool := hsK h y xs ((xs.length + 15) / 16)

theorem RfHash_hc {H : Hp} {A1 A2 A3 : Option Addr} {c1 c2 n c3 : Nat} {h y : List Bool} {xs : List UInt8} (hh : LB H A1 128 c1 h) (hy : LB H A2 128 c2 y) (hx : BS H A3 n c3 xs) (hn : n ≤ 1099511627776) :
  HC Try.prog 150 [.sl A1 128 c1, .sl A2 128 c2, .sl A3 n c3] [] H (fun r S' H' => ∃ A c, r = .sl A 128 c ∧ S' = [] ∧ LB H' A 128 c (hashB h y xs) ∧ HLe H H') := by
 have hlx := hx.len
 have hcx := hx.cap
 have hlh := hh.len
 refine hc_intro (n := 54) Try.func150 rfl Try.ntmps150 rfl (fun B hB => ?_)
 refine ew_cut (e' := [(0, _), (1, _), (2, _)]) [0, 1, 2] rfl ?_
 refine ew_seq ?_
 refine rg (.q 0 XT.done) (by kernel_rfl) (by kernel_rfl) ?_
 refine q_as (sv := .sl none 0 0) rfl rfl rfl ?_
 refine x_end ?_
 refine nk_cut (e' := [(0, _), (1, _), (2, _), (6, _)]) [0, 1, 2, 6] rfl ?_
 refine nk_seq ?_
 refine ew_seq ?_
 refine rg (.q 0 (.q 1 XT.done)) (by kernel_rfl) (by kernel_rfl) ?_
 refine q_mv rfl rfl rfl ?_
 refine q_as rfl rfl rfl ?_
 refine x_end ?_
 refine nk_cut (e' := [(0, _), (1, _), (2, _), (6, _), (7, _)]) [0, 1, 2, 6, 7] rfl ?_
 refine nk_seq ?_
 refine ew_seq ?_
 refine ew_seq ?_
 refine rg (.q 0 XT.done) (by kernel_rfl) (by kernel_rfl) ?_
 refine q_as (sv := .i 0) rfl rfl rfl ?_
 refine x_end ?_
 refine nk_cut (e' := [(0, _), (1, _), (2, _), (6, _), (7, _), (8, _)]) [0, 1, 2, 6, 7, 8] rfl ?_
 refine nk_seq ?_
 refine ew_block ?_
 let Ev1 : Nat × Option Addr × Nat → Env := fun ⟨k, A, c⟩ => [(8, .i (16 * (k : Int))), (7, .sl A 128 c)]
 let Sv1 : Nat × Option Addr × Nat → Res := fun ⟨k, A, c⟩ => []
 let Gv1 : Nat × Option Addr × Nat → Hp → Prop := fun ⟨k, A, c⟩ H' => HLe H H' ∧ (16 * k ≤ n + 15 ∧ LB H' A 128 c (hsK h y xs k))
 let Mv1 : Nat × Option Addr × Nat → Nat := fun ⟨k, A, c⟩ => n + 15 - 16 * k
 refine ew_loop (mkE [(0, _), (1, _), (2, _), (6, _)] Ev1) (Sv1) Gv1 Mv1 (⟨0, A2, c2⟩ : Nat × Option Addr × Nat) ⟨rfl, rfl, rfl, rfl, rfl, rfl, trivial⟩ rfl ⟨HLe.refl _, ⟨by omega, hy⟩⟩ ?_
 rintro ⟨k, A, c⟩ Hl1 ⟨hl1, hG⟩
 replace hh := hh.mono hl1
 replace hy := hy.mono hl1
 replace hx := hx.mono hl1
 obtain ⟨hk, hyk⟩ := hG
 have hykl := hyk.len
 refine ew_S (S' := []) rfl ?_
 refine ew_cut (e' := [(8, _), (7, _), (0, _), (1, _), (2, _), (6, _)]) [8, 7, 0, 1, 2, 6] rfl ?_
 refine ew_seq ?_
 refine ew_seq ?_
 refine rg (.q 0 (.q 1 (.q 2 (.q 3 XT.done)))) (by kernel_rfl) (by kernel_rfl) ?_
 refine q_mv rfl rfl rfl ?_
 refine q_mv rfl rfl rfl ?_
 refine q_len Try.underlying26 rfl rfl rfl ?_
 refine q_lt rfl rfl rfl rfl ?_
 refine x_end ?_
 refine nk_cut (e' := [(0, _), (1, _), (2, _), (6, _), (7, _), (8, _), (17, _)]) [0, 1, 2, 6, 7, 8, 17] rfl ?_
 refine nk_seq ?_
 refine ew_cond rfl ?_ ?_
 ·intro hc17
  try simp only [decide_eq_true_eq] at hc17
  refine ew_skip ?_
  refine nk_seq ?_
  refine ew_seq ?_
  refine ew_block ?_
  refine ew_seq ?_
  refine rg (.q 0 (.q 1 (.q 2 XT.done))) (by kernel_rfl) (by kernel_rfl) ?_
  refine q_mv rfl rfl rfl ?_
  refine q_add rfl rfl rfl rfl (by omega) (by omega) ?_
  refine q_as rfl rfl rfl ?_
  refine x_end ?_
  refine nk_cut (e' := [(0, _), (1, _), (2, _), (6, _), (7, _), (8, _), (9, _), (17, _)]) [0, 1, 2, 6, 7, 8, 9, 17] rfl ?_
  refine nk_seq ?_
  refine ew_seq ?_
  refine ew_seq ?_
  refine rg (.q 0 (.q 1 (.q 2 (.q 3 XT.done)))) (by kernel_rfl) (by kernel_rfl) ?_
  refine q_mv rfl rfl rfl ?_
  refine q_mv rfl rfl rfl ?_
  refine q_len Try.underlying26 rfl rfl rfl ?_
  refine q_gt rfl rfl rfl rfl ?_
  refine x_end ?_
  refine nk_cut (e' := [(0, _), (1, _), (2, _), (6, _), (7, _), (8, _), (9, _), (17, _), (25, _)]) [0, 1, 2, 6, 7, 8, 9, 17, 25] rfl ?_
  refine nk_seq ?_
  refine ew_cond rfl ?_ ?_
  ·intro hc25
   try simp only [decide_eq_true_eq] at hc25
   refine rg (.q 0 (.q 1 (.q 2 XT.done))) (by kernel_rfl) (by kernel_rfl) ?_
   refine q_mv rfl rfl rfl ?_
   refine q_len Try.underlying26 rfl rfl rfl ?_
   refine q_as rfl rfl rfl ?_
   refine x_end ?_
   refine nk_cut (e' := [(0, _), (1, _), (2, _), (6, _), (7, _), (8, _), (9, _), (17, _), (25, _)]) [0, 1, 2, 6, 7, 8, 9, 17, 25] rfl ?_
   refine nk_seq ?_
   refine ew_seq ?_
   refine rg (.q 0 (.q 1 (.q 2 (.q 3 (.h 4 (.q 5 XT.done)))))) (by kernel_rfl) (by kernel_rfl) ?_
   iterate 3 refine q_mv rfl rfl rfl ?_
   refine q_sl_lh Try.underlying26 Try.sizeOf5 rfl rfl rfl rfl rfl (by omega) (by omega) (by omega) ?_
   have hsl : BS Hl1 (cutA A3 c3 (16 * (k : Int)).toNat 1) ((n : Int).toNat - (16 * (k : Int)).toNat) (c3 - (16 * (k : Int)).toNat) (blkB xs k) := by
    have h := (hx.drop (L := (16 * (k : Int)).toNat) (by omega)).take (m := (n : Int).toNat - (16 * (k : Int)).toNat) (by omega)
    have e : (xs.drop (16 * (k : Int)).toNat).take ((n : Int).toNat - (16 * (k : Int)).toNat) = blkB xs k := by
     unfold blkB
     rw [show (16 * (k : Int)).toNat = 16 * k by omega]
     exact take_m (by rw [List.length_drop]; omega)
    rwa [e] at h
   refine h_call0 Try.call114 rfl rfl rfl (RfBits_hc hsl (by omega)) ?_
   rintro r_ S_ Hl1 hl2 ⟨A1, c1, rfl, rfl, hcap1, rfl⟩
   refine ⟨kp0, ?_⟩
   refine x_S (S' := [_]) rfl ?_
   refine q_as rfl rfl rfl ?_
   refine x_end ?_
   refine nk_cut (e' := [(0, _), (1, _), (2, _), (6, _), (7, _), (8, _), (9, _), (10, _), (17, _), (25, _)]) [0, 1, 2, 6, 7, 8, 9, 10, 17, 25] rfl ?_
   refine nk_seq ?_
   refine ew_seq ?_
   refine rg (.h 0 (.q 1 XT.done)) (by kernel_rfl) (by kernel_rfl) ?_
   refine h_mk (z := .b false) Try.underlying48 info_4 rfl rfl rfl rfl rfl rfl rfl (by omega) (by omega) (by simp only [by_4]; omega) (by omega) ?_
   intro g2
   refine ⟨kp0, ?_⟩
   refine q_as rfl rfl rfl ?_
   refine x_end ?_
   refine nk_cut (e' := [(0, _), (1, _), (2, _), (6, _), (7, _), (8, _), (9, _), (10, _), (11, _), (17, _), (25, _)]) [0, 1, 2, 6, 7, 8, 9, 10, 11, 17, 25] rfl ?_
   refine nk_seq ?_
   refine ew_seq ?_
   refine ew_seq ?_
   refine rg (.q 0 XT.done) (by kernel_rfl) (by kernel_rfl) ?_
   refine q_as (sv := .i 0) rfl rfl rfl ?_
   refine x_end ?_
   refine nk_cut (e' := [(0, _), (1, _), (2, _), (6, _), (7, _), (8, _), (9, _), (10, _), (11, _), (12, _), (17, _), (25, _)]) [0, 1, 2, 6, 7, 8, 9, 10, 11, 12, 17, 25] rfl ?_
   refine nk_seq ?_
   refine ew_block ?_
   let Ev2 : Nat → Env := fun j => [(12, .i (j : Int))]
   let Sv2 : Nat → Res := fun j => [.own (some ⟨g2, 0, none⟩) 4 ((pl (fun j => (hsK h y xs k).getD j false != (bitsB (blkB xs k)).getD j false) zB 128 j).map SV.b) 128, .own A1 4 ((bitsB (blkB xs k)).map SV.b) (c1 * 1)]
   let Gv2 : Nat → Hp → Prop := fun j H' => Hl1 = H' ∧ (j ≤ 128)
   let Mv2 : Nat → Nat := fun j => 128 - j
   refine ew_loop (mkE [(0, _), (1, _), (2, _), (6, _), (7, _), (8, _), (9, _), (10, _), (11, _), (17, _), (25, _)] Ev2) (Sv2) Gv2 Mv2 (0 : Nat) ⟨rfl, rfl, rfl, rfl, rfl, rfl, rfl, rfl, rfl, rfl, rfl, rfl, trivial⟩ (by dsimp only [Sv2]; rw [pl_zero, show (List.range 128).map zB = List.replicate 128 false from range_rep _ _] <;> rfl) ⟨rfl, (by omega)⟩ ?_
   rintro j H' ⟨rfl, hG⟩
   have hpl := pl_len (fun j => (hsK h y xs k).getD j false != (bitsB (blkB xs k)).getD j false) zB 128 j
   have hbl := bitsB_len (blkB xs k)
   refine ew_S (S' := [_, _]) rfl ?_
   refine ew_cut (e' := [(12, _), (0, _), (1, _), (2, _), (6, _), (7, _), (8, _), (9, _), (10, _), (11, _), (17, _), (25, _)]) [12, 0, 1, 2, 6, 7, 8, 9, 10, 11, 17, 25] rfl ?_
   refine ew_seq ?_
   refine ew_seq ?_
   refine rg (.q 0 (.q 1 XT.done)) (by kernel_rfl) (by kernel_rfl) ?_
   refine q_mv rfl rfl rfl ?_
   refine q_lt rfl rfl rfl rfl ?_
   refine x_end ?_
   refine nk_cut (e' := [(0, _), (1, _), (2, _), (6, _), (7, _), (8, _), (9, _), (10, _), (11, _), (12, _), (17, _), (25, _), (35, _)]) [0, 1, 2, 6, 7, 8, 9, 10, 11, 12, 17, 25, 35] rfl ?_
   refine nk_seq ?_
   refine ew_cond rfl ?_ ?_
   ·intro hc35
    try simp only [decide_eq_true_eq] at hc35
    refine ew_skip ?_
    refine nk_seq ?_
    refine ew_seq ?_
    refine ew_block ?_
    refine rd (by kernel_rfl) [0, 1, 2, 3, 4, 5, 6, 7, 8, 9, 10, 11] [0, 1, 2, 3, 4, 5, 6, 7, 8, 9, 10, 11] (.q 0 (.q 1 (.q 2 (.q 3 (.q 4 (.q 5 (.q 6 (.q 7 (.q 8 (.q 9 (.q 10 (.q 11 (.h 12 XT.done))))))))))))) (by kernel_rfl) (by kernel_rfl) (keepL _ [1]) (keepL_sub _ _) ?_
    iterate 4 refine q_mv rfl rfl rfl ?_
    refine q_ixs1 Try.underlying48 Try.sizeOf4 rfl rfl rfl rfl rfl (hyk.ne (by omega)) (by omega) (by omega) ?_
    refine q_ldp Try.isAgg4 rfl rfl rfl (hyk.at_ (j := j) (by omega) (by omega)) ?_
    refine q_mv rfl rfl rfl ?_
    refine q_mv rfl rfl rfl ?_
    refine x_own 1 rfl (by rw [List.length_map, hbl]; decide) ?_
    intro hAb
    refine q_ixs1 Try.underlying48 Try.sizeOf4 rfl rfl rfl rfl rfl hAb (by omega) (by omega) ?_
    refine q_ldo 0 Try.isAgg4 rfl rfl rfl rfl (getM SV.b false (i := j) (by omega) (by rw [hbl]; omega)) ?_
    refine q_ne_b Try.underlying4 rfl rfl rfl rfl ?_
    refine q_ixs1 Try.underlying48 Try.sizeOf4 rfl rfl rfl rfl rfl rfl (by omega) (by omega) ?_
    refine h_sto (cs' := ((pl (fun j => (hsK h y xs k).getD j false != (bitsB (blkB xs k)).getD j false) zB 128 (j + 1)).map SV.b)) (S' := [_, _]) 0 Try.sizeOf4 rfl rfl rfl rfl rfl rfl (by rw [List.length_map, hpl]; omega) (setM SV.b (pl_set _ _ rfl)) rfl (fun h => absurd h (by decide)) ?_
    refine x_end ?_
    refine nk_cut (e' := [(0, _), (1, _), (2, _), (6, _), (7, _), (8, _), (9, _), (10, _), (11, _), (12, _), (17, _), (25, _), (35, _)]) [0, 1, 2, 6, 7, 8, 9, 10, 11, 12, 17, 25, 35] rfl ?_
    refine nk_blk ?_
    refine nk_seq ?_
    refine rg (.q 0 (.q 1 (.q 2 XT.done))) (by kernel_rfl) (by kernel_rfl) ?_
    refine q_mv rfl rfl rfl ?_
    refine q_add rfl rfl rfl rfl (by omega) (by omega) ?_
    refine q_as rfl rfl rfl ?_
    refine x_end ?_
    refine nk_cut (e' := [(0, _), (1, _), (2, _), (6, _), (7, _), (8, _), (9, _), (10, _), (11, _), (12, _), (17, _), (25, _), (35, _)]) [0, 1, 2, 6, 7, 8, 9, 10, 11, 12, 17, 25, 35] rfl ?_
    refine nk_round (μ := Mv2) (i := j) (S := Sv2) (G := Gv2) (j + 1 : Nat) ?_ ?_ ?_ ?_
    ·exact ⟨rfl, rfl, rfl, rfl, rfl, rfl, rfl, rfl, rfl, rfl, rfl, rfl, trivial⟩
    ·exact rfl
    ·exact ⟨rfl, by omega⟩
    ·dsimp only [Mv2]; omega
   ·intro hc35
    try simp only [decide_eq_false_iff_not] at hc35
    have hj : j = 128 := by omega
    subst hj
    refine ew_exit _ rfl ?_
    refine nk_seq ?_
    refine rg (.q 0 (.q 1 (.h 2 (.q 3 XT.done)))) (by kernel_rfl) (by kernel_rfl) ?_
    refine q_mv rfl rfl rfl ?_
    refine q_mv rfl rfl rfl ?_
    refine pubX (S' := [_]) 0 rfl rfl ?_
    intro Hp1 hp1 hr1
    replace hh := hh.mono hp1
    replace hy := hy.mono hp1
    replace hx := hx.mono hp1
    replace hyk := hyk.mono hp1
    refine h_call0 Try.call162 rfl rfl rfl (RfTm_hc (LB.of (xs := xorB (hsK h y xs k) (bitsB (blkB xs k))) hr1 (xorB_len _ _) (Nat.le_refl _)) hh) ?_
    rintro r_ S_ Hp1 hl3 ⟨A2, c2, rfl, rfl, hcap2, rfl⟩
    refine ⟨kp0, ?_⟩
    refine x_S (S' := [_, _]) rfl ?_
    refine q_as rfl rfl rfl ?_
    refine x_end ?_
    refine nk_cut (e' := [(0, _), (1, _), (2, _), (6, _), (7, _), (8, _), (9, _), (10, _), (11, _), (12, _), (17, _), (25, _), (35, _)]) [0, 1, 2, 6, 7, 8, 9, 10, 11, 12, 17, 25, 35] rfl ?_
    refine nk_blk ?_
    refine nk_seq ?_
    refine rg (.q 0 (.q 1 (.q 2 XT.done))) (by kernel_rfl) (by kernel_rfl) ?_
    refine q_mv rfl rfl rfl ?_
    refine q_add rfl rfl rfl rfl (by omega) (by omega) ?_
    refine q_as rfl rfl rfl ?_
    refine x_end ?_
    refine nk_cut (e' := [(0, _), (1, _), (2, _), (6, _), (7, _), (8, _), (9, _), (10, _), (11, _), (12, _), (17, _), (25, _), (35, _)]) [0, 1, 2, 6, 7, 8, 9, 10, 11, 12, 17, 25, 35] rfl ?_
    refine pubN (S' := [_]) 0 rfl rfl ?_
    intro Hp2 hp2 hr2
    replace hh := hh.mono hp2
    replace hy := hy.mono hp2
    replace hx := hx.mono hp2
    replace hyk := hyk.mono hp2
    replace hr1 := hr1.mono hp2
    refine nk_drop (S := []) (S' := [_]) ?_
    refine nk_round (μ := Mv1) (i := (k, A, c)) (S := Sv1) (G := Gv1) (⟨k + 1, A2, c2⟩ : Nat × Option Addr × Nat) ?_ ?_ ?_ ?_
    ·exact ⟨congrArg (fun z => some (SV.i z)) (by omega), rfl, rfl, rfl, rfl, rfl, trivial⟩
    ·exact rfl
    ·exact ⟨((hl1.trans hp1).trans hp2), ⟨by omega, LB.of (xs := timesB (xorB (hsK h y xs k) (bitsB (blkB xs k))) h) hr2 (timesB_len hlh) hcap2⟩⟩
    ·dsimp only [Mv1]; omega
  ·intro hc25
   try simp only [decide_eq_false_iff_not] at hc25
   refine ew_skip ?_
   refine nk_seq ?_
   refine ew_seq ?_
   refine rg (.q 0 (.q 1 (.q 2 (.q 3 (.h 4 (.q 5 XT.done)))))) (by kernel_rfl) (by kernel_rfl) ?_
   iterate 3 refine q_mv rfl rfl rfl ?_
   refine q_sl_lh Try.underlying26 Try.sizeOf5 rfl rfl rfl rfl rfl (by omega) (by omega) (by omega) ?_
   have hsl : BS Hl1 (cutA A3 c3 (16 * (k : Int)).toNat 1) ((16 * (k : Int) + 16).toNat - (16 * (k : Int)).toNat) (c3 - (16 * (k : Int)).toNat) (blkB xs k) := by
    have h := (hx.drop (L := (16 * (k : Int)).toNat) (by omega)).take (m := (16 * (k : Int) + 16).toNat - (16 * (k : Int)).toNat) (by omega)
    have e : (xs.drop (16 * (k : Int)).toNat).take ((16 * (k : Int) + 16).toNat - (16 * (k : Int)).toNat) = blkB xs k := by
     unfold blkB
     rw [show (16 * (k : Int)).toNat = 16 * k by omega]
     exact take_m (by rw [List.length_drop]; omega)
    rwa [e] at h
   refine h_call0 Try.call114 rfl rfl rfl (RfBits_hc hsl (by omega)) ?_
   rintro r_ S_ Hl1 hl4 ⟨A3, c3, rfl, rfl, hcap3, rfl⟩
   refine ⟨kp0, ?_⟩
   refine x_S (S' := [_]) rfl ?_
   refine q_as rfl rfl rfl ?_
   refine x_end ?_
   refine nk_cut (e' := [(0, _), (1, _), (2, _), (6, _), (7, _), (8, _), (9, _), (10, _), (17, _), (25, _)]) [0, 1, 2, 6, 7, 8, 9, 10, 17, 25] rfl ?_
   refine nk_seq ?_
   refine ew_seq ?_
   refine rg (.h 0 (.q 1 XT.done)) (by kernel_rfl) (by kernel_rfl) ?_
   refine h_mk (z := .b false) Try.underlying48 info_4 rfl rfl rfl rfl rfl rfl rfl (by omega) (by omega) (by simp only [by_4]; omega) (by omega) ?_
   intro g5
   refine ⟨kp0, ?_⟩
   refine q_as rfl rfl rfl ?_
   refine x_end ?_
   refine nk_cut (e' := [(0, _), (1, _), (2, _), (6, _), (7, _), (8, _), (9, _), (10, _), (11, _), (17, _), (25, _)]) [0, 1, 2, 6, 7, 8, 9, 10, 11, 17, 25] rfl ?_
   refine nk_seq ?_
   refine ew_seq ?_
   refine ew_seq ?_
   refine rg (.q 0 XT.done) (by kernel_rfl) (by kernel_rfl) ?_
   refine q_as (sv := .i 0) rfl rfl rfl ?_
   refine x_end ?_
   refine nk_cut (e' := [(0, _), (1, _), (2, _), (6, _), (7, _), (8, _), (9, _), (10, _), (11, _), (12, _), (17, _), (25, _)]) [0, 1, 2, 6, 7, 8, 9, 10, 11, 12, 17, 25] rfl ?_
   refine nk_seq ?_
   refine ew_block ?_
   let Ev3 : Nat → Env := fun j => [(12, .i (j : Int))]
   let Sv3 : Nat → Res := fun j => [.own (some ⟨g5, 0, none⟩) 4 ((pl (fun j => (hsK h y xs k).getD j false != (bitsB (blkB xs k)).getD j false) zB 128 j).map SV.b) 128, .own A3 4 ((bitsB (blkB xs k)).map SV.b) (c3 * 1)]
   let Gv3 : Nat → Hp → Prop := fun j H' => Hl1 = H' ∧ (j ≤ 128)
   let Mv3 : Nat → Nat := fun j => 128 - j
   refine ew_loop (mkE [(0, _), (1, _), (2, _), (6, _), (7, _), (8, _), (9, _), (10, _), (11, _), (17, _), (25, _)] Ev3) (Sv3) Gv3 Mv3 (0 : Nat) ⟨rfl, rfl, rfl, rfl, rfl, rfl, rfl, rfl, rfl, rfl, rfl, rfl, trivial⟩ (by dsimp only [Sv3]; rw [pl_zero, show (List.range 128).map zB = List.replicate 128 false from range_rep _ _] <;> rfl) ⟨rfl, (by omega)⟩ ?_
   rintro j H' ⟨rfl, hG⟩
   have hpl := pl_len (fun j => (hsK h y xs k).getD j false != (bitsB (blkB xs k)).getD j false) zB 128 j
   have hbl := bitsB_len (blkB xs k)
   refine ew_S (S' := [_, _]) rfl ?_
   refine ew_cut (e' := [(12, _), (0, _), (1, _), (2, _), (6, _), (7, _), (8, _), (9, _), (10, _), (11, _), (17, _), (25, _)]) [12, 0, 1, 2, 6, 7, 8, 9, 10, 11, 17, 25] rfl ?_
   refine ew_seq ?_
   refine ew_seq ?_
   refine rg (.q 0 (.q 1 XT.done)) (by kernel_rfl) (by kernel_rfl) ?_
   refine q_mv rfl rfl rfl ?_
   refine q_lt rfl rfl rfl rfl ?_
   refine x_end ?_
   refine nk_cut (e' := [(0, _), (1, _), (2, _), (6, _), (7, _), (8, _), (9, _), (10, _), (11, _), (12, _), (17, _), (25, _), (35, _)]) [0, 1, 2, 6, 7, 8, 9, 10, 11, 12, 17, 25, 35] rfl ?_
   refine nk_seq ?_
   refine ew_cond rfl ?_ ?_
   ·intro hc35
    try simp only [decide_eq_true_eq] at hc35
    refine ew_skip ?_
    refine nk_seq ?_
    refine ew_seq ?_
    refine ew_block ?_
    refine rd (by kernel_rfl) [0, 1, 2, 3, 4, 5, 6, 7, 8, 9, 10, 11] [0, 1, 2, 3, 4, 5, 6, 7, 8, 9, 10, 11] (.q 0 (.q 1 (.q 2 (.q 3 (.q 4 (.q 5 (.q 6 (.q 7 (.q 8 (.q 9 (.q 10 (.q 11 (.h 12 XT.done))))))))))))) (by kernel_rfl) (by kernel_rfl) (keepL _ [1]) (keepL_sub _ _) ?_
    iterate 4 refine q_mv rfl rfl rfl ?_
    refine q_ixs1 Try.underlying48 Try.sizeOf4 rfl rfl rfl rfl rfl (hyk.ne (by omega)) (by omega) (by omega) ?_
    refine q_ldp Try.isAgg4 rfl rfl rfl (hyk.at_ (j := j) (by omega) (by omega)) ?_
    refine q_mv rfl rfl rfl ?_
    refine q_mv rfl rfl rfl ?_
    refine x_own 1 rfl (by rw [List.length_map, hbl]; decide) ?_
    intro hAb
    refine q_ixs1 Try.underlying48 Try.sizeOf4 rfl rfl rfl rfl rfl hAb (by omega) (by omega) ?_
    refine q_ldo 0 Try.isAgg4 rfl rfl rfl rfl (getM SV.b false (i := j) (by omega) (by rw [hbl]; omega)) ?_
    refine q_ne_b Try.underlying4 rfl rfl rfl rfl ?_
    refine q_ixs1 Try.underlying48 Try.sizeOf4 rfl rfl rfl rfl rfl rfl (by omega) (by omega) ?_
    refine h_sto (cs' := ((pl (fun j => (hsK h y xs k).getD j false != (bitsB (blkB xs k)).getD j false) zB 128 (j + 1)).map SV.b)) (S' := [_, _]) 0 Try.sizeOf4 rfl rfl rfl rfl rfl rfl (by rw [List.length_map, hpl]; omega) (setM SV.b (pl_set _ _ rfl)) rfl (fun h => absurd h (by decide)) ?_
    refine x_end ?_
    refine nk_cut (e' := [(0, _), (1, _), (2, _), (6, _), (7, _), (8, _), (9, _), (10, _), (11, _), (12, _), (17, _), (25, _), (35, _)]) [0, 1, 2, 6, 7, 8, 9, 10, 11, 12, 17, 25, 35] rfl ?_
    refine nk_blk ?_
    refine nk_seq ?_
    refine rg (.q 0 (.q 1 (.q 2 XT.done))) (by kernel_rfl) (by kernel_rfl) ?_
    refine q_mv rfl rfl rfl ?_
    refine q_add rfl rfl rfl rfl (by omega) (by omega) ?_
    refine q_as rfl rfl rfl ?_
    refine x_end ?_
    refine nk_cut (e' := [(0, _), (1, _), (2, _), (6, _), (7, _), (8, _), (9, _), (10, _), (11, _), (12, _), (17, _), (25, _), (35, _)]) [0, 1, 2, 6, 7, 8, 9, 10, 11, 12, 17, 25, 35] rfl ?_
    refine nk_round (μ := Mv3) (i := j) (S := Sv3) (G := Gv3) (j + 1 : Nat) ?_ ?_ ?_ ?_
    ·exact ⟨rfl, rfl, rfl, rfl, rfl, rfl, rfl, rfl, rfl, rfl, rfl, rfl, trivial⟩
    ·exact rfl
    ·exact ⟨rfl, by omega⟩
    ·dsimp only [Mv3]; omega
   ·intro hc35
    try simp only [decide_eq_false_iff_not] at hc35
    have hj : j = 128 := by omega
    subst hj
    refine ew_exit _ rfl ?_
    refine nk_seq ?_
    refine rg (.q 0 (.q 1 (.h 2 (.q 3 XT.done)))) (by kernel_rfl) (by kernel_rfl) ?_
    refine q_mv rfl rfl rfl ?_
    refine q_mv rfl rfl rfl ?_
    refine pubX (S' := [_]) 0 rfl rfl ?_
    intro Hp3 hp3 hr3
    replace hh := hh.mono hp3
    replace hy := hy.mono hp3
    replace hx := hx.mono hp3
    replace hyk := hyk.mono hp3
    refine h_call0 Try.call162 rfl rfl rfl (RfTm_hc (LB.of (xs := xorB (hsK h y xs k) (bitsB (blkB xs k))) hr3 (xorB_len _ _) (Nat.le_refl _)) hh) ?_
    rintro r_ S_ Hp3 hl5 ⟨A4, c4, rfl, rfl, hcap4, rfl⟩
    refine ⟨kp0, ?_⟩
    refine x_S (S' := [_, _]) rfl ?_
    refine q_as rfl rfl rfl ?_
    refine x_end ?_
    refine nk_cut (e' := [(0, _), (1, _), (2, _), (6, _), (7, _), (8, _), (9, _), (10, _), (11, _), (12, _), (17, _), (25, _), (35, _)]) [0, 1, 2, 6, 7, 8, 9, 10, 11, 12, 17, 25, 35] rfl ?_
    refine nk_blk ?_
    refine nk_seq ?_
    refine rg (.q 0 (.q 1 (.q 2 XT.done))) (by kernel_rfl) (by kernel_rfl) ?_
    refine q_mv rfl rfl rfl ?_
    refine q_add rfl rfl rfl rfl (by omega) (by omega) ?_
    refine q_as rfl rfl rfl ?_
    refine x_end ?_
    refine nk_cut (e' := [(0, _), (1, _), (2, _), (6, _), (7, _), (8, _), (9, _), (10, _), (11, _), (12, _), (17, _), (25, _), (35, _)]) [0, 1, 2, 6, 7, 8, 9, 10, 11, 12, 17, 25, 35] rfl ?_
    refine pubN (S' := [_]) 0 rfl rfl ?_
    intro Hp4 hp4 hr4
    replace hh := hh.mono hp4
    replace hy := hy.mono hp4
    replace hx := hx.mono hp4
    replace hyk := hyk.mono hp4
    replace hr3 := hr3.mono hp4
    refine nk_drop (S := []) (S' := [_]) ?_
    refine nk_round (μ := Mv1) (i := (k, A, c)) (S := Sv1) (G := Gv1) (⟨k + 1, A4, c4⟩ : Nat × Option Addr × Nat) ?_ ?_ ?_ ?_
    ·exact ⟨congrArg (fun z => some (SV.i z)) (by omega), rfl, rfl, rfl, rfl, rfl, trivial⟩
    ·exact rfl
    ·exact ⟨((hl1.trans hp3).trans hp4), ⟨by omega, LB.of (xs := timesB (xorB (hsK h y xs k) (bitsB (blkB xs k))) h) hr4 (timesB_len hlh) hcap4⟩⟩
    ·dsimp only [Mv1]; omega
 ·intro hc17
  try simp only [decide_eq_false_iff_not] at hc17
  have hkk : k = (xs.length + 15) / 16 := by omega
  subst hkk
  refine ew_exit _ rfl ?_
  refine nk_seq ?_
  refine ew_seq ?_
  refine rg (.q 0 (.q 1 XT.done)) (by kernel_rfl) (by kernel_rfl) ?_
  refine q_mv rfl rfl rfl ?_
  refine q_as rfl rfl rfl ?_
  refine x_end ?_
  refine nk_cut (e' := [(0, _), (1, _), (2, _), (6, _), (7, _), (8, _), (17, _)]) [0, 1, 2, 6, 7, 8, 17] rfl ?_
  refine nk_seq ?_
  refine ew_retS rfl rfl (.cons (.tmp rfl) .nil) ?_
  exact ⟨A, c, rfl, rfl, hyk, hl1⟩

end Go.GW
