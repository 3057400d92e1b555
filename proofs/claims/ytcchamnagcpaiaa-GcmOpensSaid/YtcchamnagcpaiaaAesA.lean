/- Contracts of functions of the loaded program, printed by our own program gen.py. -/
import Derived.Test.YtcchamnagcpaiaaOctA
import Derived.Test.YtcchamnagcpaiaaGwN
namespace Go.GW
open Go Go.Proofs
set_option linter.unusedSimpArgs false
set_option linter.unusedVariables false


theorem u8_lt (a : UInt8) : (a.toNat : Int) < 256 := by have := a.toNat_lt; omega

def dbl (c : UInt8) : UInt8 := if 128 ≤ c then shl_u8 c 1 ^^^ 27 else shl_u8 c 1
/-- the powers of three, their logarithms, the next one -/
def bp : Nat → List UInt8 × List Int × UInt8
  | 0 => (List.replicate 256 0, List.replicate 256 0, 1)
  | i + 1 => ((bp i).1.set i (bp i).2.2, (bp i).2.1.set (bp i).2.2.toNat (i : Int), (bp i).2.2 ^^^ dbl (bp i).2.2)
theorem bp_len (i : Nat) : (bp i).1.length = 256 ∧ (bp i).2.1.length = 256 := by
  induction i with
  | zero => exact ⟨List.length_replicate, List.length_replicate⟩
  | succ i ih => exact ⟨(List.length_set ..).trans ih.1, (List.length_set ..).trans ih.2⟩
def pws : List UInt8 := (bp 255).1
def lgs : List Int := (bp 255).2.1
theorem pws_len : pws.length = 256 := (bp_len 255).1
theorem lgs_len : lgs.length = 256 := (bp_len 255).2
theorem lgs_all : lgs.all (fun x => decide (0 ≤ x ∧ x ≤ 254)) = true := by decide +kernel
theorem lgs_at (j : Nat) (h : j < 256) : 0 ≤ lgs.getD j 0 ∧ lgs.getD j 0 ≤ 254 := by
  have hl : j < lgs.length := by rw [lgs_len]; exact h
  have h1 := List.all_eq_true.1 lgs_all _ (List.getElem_mem hl)
  have h2 : lgs.getD j 0 = lgs[j] := by simp [hl]
  rw [h2]
  simpa using h1
def inv8 (c : UInt8) : UInt8 := if c = 0 then 0 else pws.getD ((255 - lgs.getD c.toNat 0) % 255).toNat 0
def rot (v : UInt8) : Nat → UInt8
  | 0 => 99
  | k + 1 => rot v k ^^^ (shl_u8 v k ||| shr_u8 v (8 - k))
def fbox (i : Nat) : UInt8 := rot (inv8 (UInt8.ofNat i)) 5
def ftwo (i : Nat) : UInt8 := dbl (UInt8.ofNat i)
def aesBox : List UInt8 := (List.range 256).map fbox
def aesTwo : List UInt8 := (List.range 256).map ftwo
theorem pz512 : (pl fbox z8 256 0).map SV.u8 ++ (pl ftwo z8 256 0).map SV.u8 = List.replicate 512 (SV.u8 0) := by
  rw [pl_zero, pl_zero, show (List.range 256).map z8 = List.replicate 256 0 from range_rep 0 256, List.map_replicate, List.replicate_append_replicate]
theorem aesBox_len : aesBox.length = 256 := by simp [aesBox]
theorem aesTwo_len : aesTwo.length = 256 := by simp [aesTwo]
/-- the tables, in a box that all may read -/
def TabP (H : Hp) (g : Nat) : Prop := RR H (some ⟨g, 0, none⟩) (aesBox.map SV.u8 ++ aesTwo.map SV.u8)
theorem TabP.mono {H H' : Hp} {g : Nat} (h : TabP H g) (hle : HLe H H') : TabP H' g := RR.mono h hle

theorem Dbl_hc {H : Hp} {c : UInt8} :
  HC Try.prog 107 [.u8 c] [] H (fun r S' H' => r = .u8 (dbl c) ∧ S' = [] ∧ H' = H) := by
 refine hc_intro (n := 10) Try.func107 rfl Try.ntmps107 rfl (fun B hB => ?_)
 refine ew_cut (e' := [(0, _)]) [0] rfl ?_
 refine ew_seq ?_
 refine rg (.q 0 XT.done) (by kernel_rfl) (by kernel_rfl) ?_
 refine q_as (sv := .u8 0) rfl rfl rfl ?_
 refine x_end ?_
 refine nk_cut (e' := [(0, _), (2, _)]) [0, 2] rfl ?_
 refine nk_seq ?_
 refine ew_seq ?_
 refine ew_seq ?_
 refine rg (.q 0 (.q 1 XT.done)) (by kernel_rfl) (by kernel_rfl) ?_
 refine q_mv rfl rfl rfl ?_
 refine q_ge_u8 rfl rfl rfl rfl ?_
 refine x_end ?_
 refine nk_cut (e' := [(0, _), (2, _), (4, _)]) [0, 2, 4] rfl ?_
 refine nk_seq ?_
 refine ew_cond rfl ?_ ?_
 ·intro hc4
  try simp only [decide_eq_true_eq] at hc4
  refine ew_seq ?_
  refine rg (.q 0 (.q 1 (.q 2 (.q 3 XT.done)))) (by kernel_rfl) (by kernel_rfl) ?_
  refine q_mv rfl rfl rfl ?_
  refine q_shl_u8u rfl rfl rfl rfl ?_
  refine q_xor_u8 rfl rfl rfl rfl ?_
  refine q_as rfl rfl rfl ?_
  refine x_end ?_
  refine nk_cut (e' := [(0, _), (2, _), (4, _)]) [0, 2, 4] rfl ?_
  refine nk_seq ?_
  refine ew_retS rfl rfl (.cons (.tmp rfl) .nil) ?_
  exact ⟨congrArg SV.u8 (if_pos hc4).symm, rfl, rfl⟩
 ·intro hc4
  try simp only [decide_eq_false_iff_not] at hc4
  refine ew_skip ?_
  refine nk_seq ?_
  refine ew_seq ?_
  refine rg (.q 0 (.q 1 (.q 2 XT.done))) (by kernel_rfl) (by kernel_rfl) ?_
  refine q_mv rfl rfl rfl ?_
  refine q_shl_u8u rfl rfl rfl rfl ?_
  refine q_as rfl rfl rfl ?_
  refine x_end ?_
  refine nk_cut (e' := [(0, _), (2, _), (4, _)]) [0, 2, 4] rfl ?_
  refine nk_seq ?_
  refine ew_retS rfl rfl (.cons (.tmp rfl) .nil) ?_
  exact ⟨congrArg SV.u8 (if_neg hc4).symm, rfl, rfl⟩


theorem AesBuild_hc {H : Hp} :
  HC Try.prog 59 [] [] H (fun r S' H' => ∃ g, r = .p ⟨g, 0, none⟩ ∧ S' = [] ∧ TabP H' g ∧ HLe H H') := by
 refine hc_intro (n := 70) Try.func59 rfl Try.ntmps59 rfl (fun B hB => ?_)
 refine ew_cut (e' := []) [] rfl ?_
 refine ew_seq ?_
 refine rg (.q 0 XT.done) (by kernel_rfl) (by kernel_rfl) ?_
 refine q_as (sv := .np) rfl rfl rfl ?_
 refine x_end ?_
 refine nk_cut (e' := [(0, _)]) [0] rfl ?_
 refine nk_seq ?_
 refine ew_seq ?_
 refine rg (.q 0 (.h 1 (.q 2 XT.done))) (by kernel_rfl) (by kernel_rfl) ?_
 refine q_bld (cs := _) bf_193 rfl rfl rfl rfl ?_
 refine h_boxS rfl rfl rfl ?_
 intro g1
 refine ⟨kp0, ?_⟩
 refine q_as rfl rfl rfl ?_
 refine x_end ?_
 refine nk_cut (e' := [(0, _), (1, _)]) [0, 1] rfl ?_
 refine nk_seq ?_
 refine ew_seq ?_
 refine rg (.h 0 XT.done) (by kernel_rfl) (by kernel_rfl) ?_
 refine h_alloc (cs := _) Try.zeroValue191 rfl rfl (zc_191 Try.zeroValue191) ?_
 intro g2
 refine ⟨kp0, ?_⟩
 refine x_end ?_
 refine nk_cut (e' := [(0, _), (1, _), (2, _)]) [0, 1, 2] rfl ?_
 refine nk_seq ?_
 refine ew_seq ?_
 refine rg (.h 0 XT.done) (by kernel_rfl) (by kernel_rfl) ?_
 refine h_alloc (cs := _) Try.zeroValue194 rfl rfl (zc_194 Try.zeroValue194) ?_
 intro g3
 refine ⟨kp0, ?_⟩
 refine x_end ?_
 refine nk_cut (e' := [(0, _), (1, _), (2, _), (3, _)]) [0, 1, 2, 3] rfl ?_
 refine nk_seq ?_
 refine ew_seq ?_
 refine rg (.q 0 XT.done) (by kernel_rfl) (by kernel_rfl) ?_
 refine q_as (sv := .u8 1) rfl rfl rfl ?_
 refine x_end ?_
 refine nk_cut (e' := [(0, _), (1, _), (2, _), (3, _), (4, _)]) [0, 1, 2, 3, 4] rfl ?_
 refine nk_seq ?_
 refine ew_seq ?_
 refine ew_seq ?_
 refine rg (.q 0 XT.done) (by kernel_rfl) (by kernel_rfl) ?_
 refine q_mv (sv := .i 0) rfl rfl rfl ?_
 refine x_end ?_
 refine nk_cut (e' := [(0, _), (1, _), (2, _), (3, _), (4, _), (13, _)]) [0, 1, 2, 3, 4, 13] rfl ?_
 refine nk_seq ?_
 refine ew_block ?_
 let Ev1 : Nat → Env := fun i => [(13, .i (i : Int)), (4, .u8 (bp i).2.2)]
 let Sv1 : Nat → Res := fun i => [.box g3 194 ((bp i).2.1.map SV.i), .box g2 191 ((bp i).1.map SV.u8), .box g1 193 (List.replicate 512 (.u8 0))]
 let Gv1 : Nat → Hp → Prop := fun i H' => H = H' ∧ (i ≤ 255)
 let Mv1 : Nat → Nat := fun i => 255 - i
 refine ew_loop (mkE [(0, _), (1, _), (2, _), (3, _)] Ev1) (Sv1) Gv1 Mv1 (0 : Nat) ⟨rfl, rfl, rfl, rfl, rfl, rfl, trivial⟩ (by dsimp only [Sv1, bp]; rw [List.map_replicate, List.map_replicate]) ⟨rfl, (by omega)⟩ ?_
 rintro i H' ⟨rfl, hG⟩
 have hbl := bp_len i
 refine ew_S (S' := [_, _, _]) rfl ?_
 refine ew_cut (e' := [(13, _), (4, _), (0, _), (1, _), (2, _), (3, _)]) [13, 4, 0, 1, 2, 3] rfl ?_
 refine ew_seq ?_
 refine rg (.q 0 XT.done) (by kernel_rfl) (by kernel_rfl) ?_
 refine q_lt rfl rfl rfl rfl ?_
 refine x_end ?_
 refine nk_cut (e' := [(0, _), (1, _), (2, _), (3, _), (4, _), (13, _), (14, _)]) [0, 1, 2, 3, 4, 13, 14] rfl ?_
 refine nk_seq ?_
 refine ew_seq ?_
 refine ew_cond rfl ?_ ?_
 ·intro hc14
  try simp only [decide_eq_true_eq] at hc14
  refine ew_skip ?_
  refine nk_seq ?_
  refine ew_seq ?_
  refine ew_block ?_
  refine ew_seq ?_
  refine rg (.q 0 (.q 1 XT.done)) (by kernel_rfl) (by kernel_rfl) ?_
  refine q_mv rfl rfl rfl ?_
  refine q_as rfl rfl rfl ?_
  refine x_end ?_
  refine nk_cut (e' := [(0, _), (1, _), (2, _), (3, _), (4, _), (5, _), (13, _), (14, _)]) [0, 1, 2, 3, 4, 5, 13, 14] rfl ?_
  refine nk_seq ?_
  refine ew_seq ?_
  refine rg (.q 0 (.q 1 (.q 2 (.q 3 (.q 4 (.h 5 (.q 6 (.h 7 XT.done)))))))) (by kernel_rfl) (by kernel_rfl) ?_
  iterate 4 refine q_mv rfl rfl rfl ?_
  refine q_ixa1 Try.underlying191 Try.sizeOf5 rfl rfl rfl rfl rfl (by omega) (by omega) ?_
  refine h_st (cs' := (((bp i).1.set i (bp i).2.2).map SV.u8)) (S' := [_, _, _]) 1 Try.sizeOf5 rfl rfl rfl rfl rfl rfl (by rw [List.length_map, hbl.1]; omega) (putM SV.u8 (by omega) (by rw [hbl.1]; omega) rfl) rfl kp0 ?_
  refine q_ixa1 Try.underlying194 Try.sizeOf3 rfl rfl rfl rfl rfl (by omega) (u8_lt _) ?_
  refine h_st (cs' := (((bp i).2.1.set (bp i).2.2.toNat (i : Int)).map SV.i)) (S' := [_, _, _]) 0 Try.sizeOf3 rfl rfl rfl rfl rfl rfl (by rw [List.length_map, hbl.2]; have := u8_lt (bp i).2.2; omega) (putM SV.i (by omega) (by rw [hbl.2]; have := u8_lt (bp i).2.2; omega) rfl) rfl kp0 ?_
  refine x_end ?_
  refine nk_cut (e' := [(0, _), (1, _), (2, _), (3, _), (4, _), (5, _), (13, _), (14, _)]) [0, 1, 2, 3, 4, 5, 13, 14] rfl ?_
  refine nk_seq ?_
  refine rg (.q 0 (.q 1 (.h 2 (.q 3 (.q 4 XT.done))))) (by kernel_rfl) (by kernel_rfl) ?_
  refine q_mv rfl rfl rfl ?_
  refine q_mv rfl rfl rfl ?_
  refine h_call0 Try.call107 rfl rfl rfl (Dbl_hc) ?_
  rintro r_ S_ H hl1 ⟨rfl, rfl, rfl⟩
  refine ⟨kp0, ?_⟩
  refine x_S (S' := [_, _, _]) rfl ?_
  refine q_xor_u8 rfl rfl rfl rfl ?_
  refine q_as rfl rfl rfl ?_
  refine x_end ?_
  refine nk_cut (e' := [(0, _), (1, _), (2, _), (3, _), (4, _), (5, _), (13, _), (14, _)]) [0, 1, 2, 3, 4, 5, 13, 14] rfl ?_
  refine nk_blk ?_
  refine nk_seq ?_
  refine rg (.q 0 (.q 1 XT.done)) (by kernel_rfl) (by kernel_rfl) ?_
  refine q_add rfl rfl rfl rfl (by omega) (by omega) ?_
  refine q_mv rfl rfl rfl ?_
  refine x_end ?_
  refine nk_cut (e' := [(0, _), (1, _), (2, _), (3, _), (4, _), (5, _), (13, _), (14, _)]) [0, 1, 2, 3, 4, 5, 13, 14] rfl ?_
  refine nk_round (μ := Mv1) (i := i) (S := Sv1) (G := Gv1) (i + 1 : Nat) ?_ ?_ ?_ ?_
  ·exact ⟨rfl, rfl, rfl, rfl, rfl, rfl, trivial⟩
  ·exact rfl
  ·exact ⟨rfl, by omega⟩
  ·dsimp only [Mv1]; omega
 ·intro hc14
  try simp only [decide_eq_false_iff_not] at hc14
  have hi255 : i = 255 := by omega
  subst hi255
  refine ew_exit _ rfl ?_
  refine nk_seq ?_
  refine ew_seq ?_
  refine ew_seq ?_
  refine rg (.q 0 XT.done) (by kernel_rfl) (by kernel_rfl) ?_
  refine q_mv (sv := .i 0) rfl rfl rfl ?_
  refine x_end ?_
  refine nk_cut (e' := [(0, _), (1, _), (2, _), (3, _), (4, _), (13, _), (14, _), (27, _)]) [0, 1, 2, 3, 4, 13, 14, 27] rfl ?_
  refine nk_seq ?_
  refine ew_block ?_
  refine ew_perm (S' := [_, _, _]) (permL [2, 0, 1] rfl) ?_
  let Ev2 : Nat → Env := fun i => [(27, .i (i : Int))]
  let Sv2 : Nat → Res := fun i => [.box g1 193 ((pl fbox z8 256 i).map SV.u8 ++ (pl ftwo z8 256 i).map SV.u8), .box g3 194 (lgs.map SV.i), .box g2 191 (pws.map SV.u8)]
  let Gv2 : Nat → Hp → Prop := fun i H' => H = H' ∧ (i ≤ 256)
  let Mv2 : Nat → Nat := fun i => 256 - i
  refine ew_loop (mkE [(0, _), (1, _), (2, _), (3, _), (14, _)] Ev2) (Sv2) Gv2 Mv2 (0 : Nat) ⟨rfl, rfl, rfl, rfl, rfl, rfl, trivial⟩ (by dsimp only [Sv2]; rw [pz512]; rfl) ⟨rfl, (by omega)⟩ ?_
  rintro i H' ⟨rfl, hG⟩
  have hpb := pl_len fbox z8 256 i
  have hpt := pl_len ftwo z8 256 i
  refine ew_S (S' := [_, _, _]) rfl ?_
  refine ew_cut (e' := [(27, _), (0, _), (1, _), (2, _), (3, _), (14, _)]) [27, 0, 1, 2, 3, 14] rfl ?_
  refine ew_seq ?_
  refine rg (.q 0 XT.done) (by kernel_rfl) (by kernel_rfl) ?_
  refine q_lt rfl rfl rfl rfl ?_
  refine x_end ?_
  refine nk_cut (e' := [(0, _), (1, _), (2, _), (3, _), (14, _), (27, _), (28, _)]) [0, 1, 2, 3, 14, 27, 28] rfl ?_
  refine nk_seq ?_
  refine ew_seq ?_
  refine ew_cond rfl ?_ ?_
  ·intro hc28
   try simp only [decide_eq_true_eq] at hc28
   refine ew_skip ?_
   refine nk_seq ?_
   refine ew_seq ?_
   refine ew_block ?_
   refine ew_seq ?_
   refine rg (.q 0 (.q 1 XT.done)) (by kernel_rfl) (by kernel_rfl) ?_
   refine q_mv rfl rfl rfl ?_
   refine q_as rfl rfl rfl ?_
   refine x_end ?_
   refine nk_cut (e' := [(0, _), (1, _), (2, _), (3, _), (6, _), (14, _), (27, _), (28, _)]) [0, 1, 2, 3, 6, 14, 27, 28] rfl ?_
   refine nk_seq ?_
   refine ew_seq ?_
   refine rg (.q 0 (.q 1 (.q 2 XT.done))) (by kernel_rfl) (by kernel_rfl) ?_
   refine q_mv rfl rfl rfl ?_
   refine q_cv_i_u8 Try.underlying5 (by kernel_rfl) rfl rfl rfl (by omega) ?_
   refine q_as rfl rfl rfl ?_
   refine x_end ?_
   refine nk_cut (e' := [(0, _), (1, _), (2, _), (3, _), (6, _), (7, _), (14, _), (27, _), (28, _)]) [0, 1, 2, 3, 6, 7, 14, 27, 28] rfl ?_
   refine nk_seq ?_
   refine ew_seq ?_
   refine rd (by kernel_rfl) [0, 1, 2, 4, 5, 6] [0, 1, 2, 3, 4, 5, 6] (.q 0 (.q 1 (.q 2 (.q 4 (.q 5 (.h 3 (.q 6 (.h 7 XT.done)))))))) (by kernel_rfl) (by kernel_rfl) (keepL _ []) (keepL_sub _ _) ?_
   iterate 3 refine q_mv rfl rfl rfl ?_
   refine q_nil rfl rfl rfl ?_
   refine q_fa fa_193_1 rfl rfl rfl ?_
   refine h_call0 Try.call107 rfl rfl rfl (Dbl_hc) ?_
   rintro r_ S_ H hl2 ⟨rfl, rfl, rfl⟩
   refine ⟨(fun _ => ⟨by first | exact kpL [] rfl | simp [keepL, nth], HLe.refl _⟩), ?_⟩
   refine x_S (S' := [_, _, _]) rfl ?_
   refine q_ixa1 Try.underlying191 Try.sizeOf5 rfl rfl rfl rfl rfl (by omega) (by omega) ?_
   refine h_st (cs' := ((pl fbox z8 256 i).map SV.u8 ++ (pl ftwo z8 256 (i + 1)).map SV.u8)) (S' := [_, _, _]) 0 Try.sizeOf5 rfl rfl rfl rfl rfl rfl (by rw [List.length_append, List.length_map, List.length_map, hpb, hpt]; omega) (putMR SV.u8 (by rw [List.length_map, hpb]; omega) (by rw [hpt]; omega) (pl_set _ _ rfl)) rfl (fun h => absurd h (by decide)) ?_
   refine x_end ?_
   refine nk_cut (e' := [(0, _), (1, _), (2, _), (3, _), (6, _), (7, _), (14, _), (27, _), (28, _)]) [0, 1, 2, 3, 6, 7, 14, 27, 28] rfl ?_
   refine nk_seq ?_
   refine ew_seq ?_
   refine rg (.q 0 XT.done) (by kernel_rfl) (by kernel_rfl) ?_
   refine q_as (sv := .u8 0) rfl rfl rfl ?_
   refine x_end ?_
   refine nk_cut (e' := [(0, _), (1, _), (2, _), (3, _), (6, _), (7, _), (8, _), (14, _), (27, _), (28, _)]) [0, 1, 2, 3, 6, 7, 8, 14, 27, 28] rfl ?_
   refine nk_seq ?_
   refine ew_seq ?_
   refine ew_seq ?_
   refine rg (.q 0 (.q 1 XT.done)) (by kernel_rfl) (by kernel_rfl) ?_
   refine q_mv rfl rfl rfl ?_
   refine q_ne_u8 rfl rfl rfl rfl ?_
   refine x_end ?_
   refine nk_cut (e' := [(0, _), (1, _), (2, _), (3, _), (6, _), (7, _), (8, _), (14, _), (27, _), (28, _), (40, _)]) [0, 1, 2, 3, 6, 7, 8, 14, 27, 28, 40] rfl ?_
   refine nk_seq ?_
   refine ew_cond rfl ?_ ?_
   ·intro hc40
    try simp only [decide_eq_true_eq, decide_eq_false_iff_not, ne_eq, Decidable.not_not] at hc40
    have hc0 : ¬ UInt8.ofNat i = 0 := hc40
    have hlg := lgs_at (UInt8.ofNat i).toNat (UInt8.toNat_lt _)
    refine rg (.q 0 (.q 1 (.q 2 (.q 3 (.q 4 (.q 5 (.q 6 (.q 7 XT.done)))))))) (by kernel_rfl) (by kernel_rfl) ?_
    refine q_mv rfl rfl rfl ?_
    refine q_ixa1 Try.underlying194 Try.sizeOf3 rfl rfl rfl rfl rfl (by omega) (u8_lt _) ?_
    refine q_ld 1 Try.isAgg3 rfl rfl rfl rfl (nthM SV.i (i := (UInt8.ofNat i).toNat) 0 (Nat.zero_add _) (by rw [lgs_len]; exact UInt8.toNat_lt _)) ?_
    refine q_sub rfl rfl rfl rfl (by omega) (by omega) ?_
    refine q_rem rfl rfl rfl rfl (by omega) (by omega) (by omega) ?_
    refine q_ixa1 Try.underlying191 Try.sizeOf5 rfl rfl rfl rfl rfl (by omega) (by omega) ?_
    refine q_ld 2 Try.isAgg5 rfl rfl rfl rfl (nthM SV.u8 (i := ((255 - lgs.getD (UInt8.ofNat i).toNat 0) % 255).toNat) 0 (Nat.zero_add _) (by rw [pws_len]; omega)) ?_
    refine q_as rfl rfl rfl ?_
    refine x_v (v' := .u8 (inv8 (UInt8.ofNat i))) (congrArg SV.u8 (if_neg hc0).symm) ?_
    refine x_end ?_
    refine nk_cut (e' := [(0, _), (1, _), (2, _), (3, _), (6, _), (7, _), (8, _), (14, _), (27, _), (28, _), (40, _)]) [0, 1, 2, 3, 6, 7, 8, 14, 27, 28, 40] rfl ?_
    refine nk_seq ?_
    refine ew_seq ?_
    refine rg (.q 0 XT.done) (by kernel_rfl) (by kernel_rfl) ?_
    refine q_as (sv := .u8 99) rfl rfl rfl ?_
    refine x_end ?_
    refine nk_cut (e' := [(0, _), (1, _), (2, _), (3, _), (6, _), (7, _), (8, _), (9, _), (14, _), (27, _), (28, _), (40, _)]) [0, 1, 2, 3, 6, 7, 8, 9, 14, 27, 28, 40] rfl ?_
    refine nk_seq ?_
    refine ew_seq ?_
    refine ew_seq ?_
    refine rg (.q 0 XT.done) (by kernel_rfl) (by kernel_rfl) ?_
    refine q_mv (sv := .i 0) rfl rfl rfl ?_
    refine x_end ?_
    refine nk_cut (e' := [(0, _), (1, _), (2, _), (3, _), (6, _), (7, _), (8, _), (9, _), (14, _), (27, _), (28, _), (40, _), (48, _)]) [0, 1, 2, 3, 6, 7, 8, 9, 14, 27, 28, 40, 48] rfl ?_
    refine nk_seq ?_
    refine ew_block ?_
    let Ev3 : Nat → Env := fun k => [(48, .i (k : Int)), (9, .u8 (rot (inv8 (UInt8.ofNat i)) k))]
    let Gv3 : Nat → Hp → Prop := fun k H' => H = H' ∧ (k ≤ 5)
    let Mv3 : Nat → Nat := fun k => 5 - k
    refine ew_loop (mkE [(0, _), (1, _), (2, _), (3, _), (6, _), (7, _), (8, _), (14, _), (27, _), (28, _), (40, _)] Ev3) (mkS [_, _, _] (fun _ => [])) Gv3 Mv3 (0 : Nat) ⟨rfl, rfl, rfl, rfl, rfl, rfl, rfl, rfl, rfl, rfl, rfl, rfl, rfl, trivial⟩ rfl ⟨rfl, (by omega)⟩ ?_
    rintro k H' ⟨rfl, hG⟩
    refine ew_S (S' := [_, _, _]) rfl ?_
    refine ew_cut (e' := [(48, _), (9, _), (0, _), (1, _), (2, _), (3, _), (6, _), (7, _), (8, _), (14, _), (27, _), (28, _), (40, _)]) [48, 9, 0, 1, 2, 3, 6, 7, 8, 14, 27, 28, 40] rfl ?_
    refine ew_seq ?_
    refine rg (.q 0 XT.done) (by kernel_rfl) (by kernel_rfl) ?_
    refine q_lt rfl rfl rfl rfl ?_
    refine x_end ?_
    refine nk_cut (e' := [(0, _), (1, _), (2, _), (3, _), (6, _), (7, _), (8, _), (9, _), (14, _), (27, _), (28, _), (40, _), (48, _), (49, _)]) [0, 1, 2, 3, 6, 7, 8, 9, 14, 27, 28, 40, 48, 49] rfl ?_
    refine nk_seq ?_
    refine ew_seq ?_
    refine ew_cond rfl ?_ ?_
    ·intro hc49
     try simp only [decide_eq_true_eq] at hc49
     refine ew_skip ?_
     refine nk_seq ?_
     refine ew_seq ?_
     refine ew_block ?_
     refine ew_seq ?_
     refine rg (.q 0 (.q 1 XT.done)) (by kernel_rfl) (by kernel_rfl) ?_
     refine q_mv rfl rfl rfl ?_
     refine q_as rfl rfl rfl ?_
     refine x_end ?_
     refine nk_cut (e' := [(0, _), (1, _), (2, _), (3, _), (6, _), (7, _), (8, _), (9, _), (10, _), (14, _), (27, _), (28, _), (40, _), (48, _), (49, _)]) [0, 1, 2, 3, 6, 7, 8, 9, 10, 14, 27, 28, 40, 48, 49] rfl ?_
     refine nk_seq ?_
     refine rd (by kernel_rfl) [0, 1, 2, 3, 4, 5, 6, 7, 8, 9, 10] [0, 1, 2, 3, 4, 5, 6, 7, 8, 9, 10] (.q 0 (.q 1 (.q 2 (.q 3 (.q 4 (.q 5 (.q 6 (.q 7 (.q 8 (.q 9 (.q 10 XT.done))))))))))) (by kernel_rfl) (by kernel_rfl) (keepL _ []) (keepL_sub _ _) ?_
     iterate 3 refine q_mv rfl rfl rfl ?_
     refine q_shl_u8 rfl rfl rfl rfl (by omega) ?_
     refine q_mv rfl rfl rfl ?_
     refine q_mv rfl rfl rfl ?_
     refine q_sub rfl rfl rfl rfl (by omega) (by omega) ?_
     refine q_shr_u8 rfl rfl rfl rfl (by omega) ?_
     refine q_or_u8 rfl rfl rfl rfl ?_
     refine q_xor_u8 rfl rfl rfl rfl ?_
     refine q_as rfl rfl rfl ?_
     refine x_end ?_
     refine nk_cut (e' := [(0, _), (1, _), (2, _), (3, _), (6, _), (7, _), (8, _), (9, _), (10, _), (14, _), (27, _), (28, _), (40, _), (48, _), (49, _)]) [0, 1, 2, 3, 6, 7, 8, 9, 10, 14, 27, 28, 40, 48, 49] rfl ?_
     refine nk_blk ?_
     refine nk_seq ?_
     refine rg (.q 0 (.q 1 XT.done)) (by kernel_rfl) (by kernel_rfl) ?_
     refine q_add rfl rfl rfl rfl (by omega) (by omega) ?_
     refine q_mv rfl rfl rfl ?_
     refine x_end ?_
     refine nk_cut (e' := [(0, _), (1, _), (2, _), (3, _), (6, _), (7, _), (8, _), (9, _), (10, _), (14, _), (27, _), (28, _), (40, _), (48, _), (49, _)]) [0, 1, 2, 3, 6, 7, 8, 9, 10, 14, 27, 28, 40, 48, 49] rfl ?_
     refine nk_round (μ := Mv3) (i := k) (S := _) (G := Gv3) (k + 1 : Nat) ?_ ?_ ?_ ?_
     ·exact ⟨rfl, congrArg (fun z => some (SV.u8 (rot (inv8 (UInt8.ofNat i)) k ^^^ (shl_u8 (inv8 (UInt8.ofNat i)) k ||| shr_u8 (inv8 (UInt8.ofNat i)) z)))) (by omega), rfl, rfl, rfl, rfl, rfl, rfl, rfl, rfl, rfl, rfl, rfl, trivial⟩
     ·exact rfl
     ·exact ⟨rfl, by omega⟩
     ·dsimp only [Mv3]; omega
    ·intro hc49
     try simp only [decide_eq_false_iff_not] at hc49
     have hk5 : k = 5 := by omega
     subst hk5
     refine ew_exit _ rfl ?_
     refine nk_seq ?_
     refine rg (.q 0 (.q 1 (.q 2 (.q 3 (.q 4 (.q 5 (.h 6 XT.done))))))) (by kernel_rfl) (by kernel_rfl) ?_
     iterate 3 refine q_mv rfl rfl rfl ?_
     refine q_nil rfl rfl rfl ?_
     refine q_fa fa_193_0 rfl rfl rfl ?_
     refine q_ixa1 Try.underlying191 Try.sizeOf5 rfl rfl rfl rfl rfl (by omega) (by omega) ?_
     refine h_st (cs' := ((pl fbox z8 256 (i + 1)).map SV.u8 ++ (pl ftwo z8 256 (i + 1)).map SV.u8)) (S' := [_, _, _]) 0 Try.sizeOf5 rfl rfl rfl rfl rfl rfl (by rw [List.length_append, List.length_map, List.length_map, hpb, pl_len]; omega) (putML SV.u8 (by omega) (by rw [hpb]; omega) (pl_set _ _ rfl)) rfl kp0 ?_
     refine x_end ?_
     refine nk_cut (e' := [(0, _), (1, _), (2, _), (3, _), (6, _), (7, _), (8, _), (9, _), (14, _), (27, _), (28, _), (40, _), (48, _), (49, _)]) [0, 1, 2, 3, 6, 7, 8, 9, 14, 27, 28, 40, 48, 49] rfl ?_
     refine nk_blk ?_
     refine nk_seq ?_
     refine rg (.q 0 (.q 1 XT.done)) (by kernel_rfl) (by kernel_rfl) ?_
     refine q_add rfl rfl rfl rfl (by omega) (by omega) ?_
     refine q_mv rfl rfl rfl ?_
     refine x_end ?_
     refine nk_cut (e' := [(0, _), (1, _), (2, _), (3, _), (6, _), (7, _), (8, _), (9, _), (14, _), (27, _), (28, _), (40, _), (48, _), (49, _)]) [0, 1, 2, 3, 6, 7, 8, 9, 14, 27, 28, 40, 48, 49] rfl ?_
     refine nk_round (μ := Mv2) (i := i) (S := Sv2) (G := Gv2) (i + 1 : Nat) ?_ ?_ ?_ ?_
     ·exact ⟨rfl, rfl, rfl, rfl, rfl, rfl, trivial⟩
     ·exact rfl
     ·exact ⟨rfl, by omega⟩
     ·dsimp only [Mv2]; omega
   ·intro hc40
    try simp only [decide_eq_true_eq, decide_eq_false_iff_not, ne_eq, Decidable.not_not] at hc40
    have hc0 : UInt8.ofNat i = 0 := hc40
    refine ew_skip ?_
    refine nk_seq ?_
    refine ew_seq ?_
    refine ew_sub (e' := [(8, .u8 (inv8 (UInt8.ofNat i))), (0, _), (1, _), (2, _), (3, _), (6, _), (7, _), (14, _), (27, _), (28, _), (40, _)]) ⟨by rw [show inv8 (UInt8.ofNat i) = 0 from if_pos hc0]; rfl, rfl, rfl, rfl, rfl, rfl, rfl, rfl, rfl, rfl, rfl, trivial⟩ ?_
    refine rg (.q 0 XT.done) (by kernel_rfl) (by kernel_rfl) ?_
    refine q_as (sv := .u8 99) rfl rfl rfl ?_
    refine x_end ?_
    refine nk_cut (e' := [(0, _), (1, _), (2, _), (3, _), (6, _), (7, _), (8, _), (9, _), (14, _), (27, _), (28, _), (40, _)]) [0, 1, 2, 3, 6, 7, 8, 9, 14, 27, 28, 40] rfl ?_
    refine nk_seq ?_
    refine ew_seq ?_
    refine ew_seq ?_
    refine rg (.q 0 XT.done) (by kernel_rfl) (by kernel_rfl) ?_
    refine q_mv (sv := .i 0) rfl rfl rfl ?_
    refine x_end ?_
    refine nk_cut (e' := [(0, _), (1, _), (2, _), (3, _), (6, _), (7, _), (8, _), (9, _), (14, _), (27, _), (28, _), (40, _), (48, _)]) [0, 1, 2, 3, 6, 7, 8, 9, 14, 27, 28, 40, 48] rfl ?_
    refine nk_seq ?_
    refine ew_block ?_
    let Ev4 : Nat → Env := fun k => [(48, .i (k : Int)), (9, .u8 (rot (inv8 (UInt8.ofNat i)) k))]
    let Gv4 : Nat → Hp → Prop := fun k H' => H = H' ∧ (k ≤ 5)
    let Mv4 : Nat → Nat := fun k => 5 - k
    refine ew_loop (mkE [(0, _), (1, _), (2, _), (3, _), (6, _), (7, _), (8, _), (14, _), (27, _), (28, _), (40, _)] Ev4) (mkS [_, _, _] (fun _ => [])) Gv4 Mv4 (0 : Nat) ⟨rfl, rfl, rfl, rfl, rfl, rfl, rfl, rfl, rfl, rfl, rfl, rfl, rfl, trivial⟩ rfl ⟨rfl, (by omega)⟩ ?_
    rintro k H' ⟨rfl, hG⟩
    refine ew_S (S' := [_, _, _]) rfl ?_
    refine ew_cut (e' := [(48, _), (9, _), (0, _), (1, _), (2, _), (3, _), (6, _), (7, _), (8, _), (14, _), (27, _), (28, _), (40, _)]) [48, 9, 0, 1, 2, 3, 6, 7, 8, 14, 27, 28, 40] rfl ?_
    refine ew_seq ?_
    refine rg (.q 0 XT.done) (by kernel_rfl) (by kernel_rfl) ?_
    refine q_lt rfl rfl rfl rfl ?_
    refine x_end ?_
    refine nk_cut (e' := [(0, _), (1, _), (2, _), (3, _), (6, _), (7, _), (8, _), (9, _), (14, _), (27, _), (28, _), (40, _), (48, _), (49, _)]) [0, 1, 2, 3, 6, 7, 8, 9, 14, 27, 28, 40, 48, 49] rfl ?_
    refine nk_seq ?_
    refine ew_seq ?_
    refine ew_cond rfl ?_ ?_
    ·intro hc49
     try simp only [decide_eq_true_eq] at hc49
     refine ew_skip ?_
     refine nk_seq ?_
     refine ew_seq ?_
     refine ew_block ?_
     refine ew_seq ?_
     refine rg (.q 0 (.q 1 XT.done)) (by kernel_rfl) (by kernel_rfl) ?_
     refine q_mv rfl rfl rfl ?_
     refine q_as rfl rfl rfl ?_
     refine x_end ?_
     refine nk_cut (e' := [(0, _), (1, _), (2, _), (3, _), (6, _), (7, _), (8, _), (9, _), (10, _), (14, _), (27, _), (28, _), (40, _), (48, _), (49, _)]) [0, 1, 2, 3, 6, 7, 8, 9, 10, 14, 27, 28, 40, 48, 49] rfl ?_
     refine nk_seq ?_
     refine rd (by kernel_rfl) [0, 1, 2, 3, 4, 5, 6, 7, 8, 9, 10] [0, 1, 2, 3, 4, 5, 6, 7, 8, 9, 10] (.q 0 (.q 1 (.q 2 (.q 3 (.q 4 (.q 5 (.q 6 (.q 7 (.q 8 (.q 9 (.q 10 XT.done))))))))))) (by kernel_rfl) (by kernel_rfl) (keepL _ []) (keepL_sub _ _) ?_
     iterate 3 refine q_mv rfl rfl rfl ?_
     refine q_shl_u8 rfl rfl rfl rfl (by omega) ?_
     refine q_mv rfl rfl rfl ?_
     refine q_mv rfl rfl rfl ?_
     refine q_sub rfl rfl rfl rfl (by omega) (by omega) ?_
     refine q_shr_u8 rfl rfl rfl rfl (by omega) ?_
     refine q_or_u8 rfl rfl rfl rfl ?_
     refine q_xor_u8 rfl rfl rfl rfl ?_
     refine q_as rfl rfl rfl ?_
     refine x_end ?_
     refine nk_cut (e' := [(0, _), (1, _), (2, _), (3, _), (6, _), (7, _), (8, _), (9, _), (10, _), (14, _), (27, _), (28, _), (40, _), (48, _), (49, _)]) [0, 1, 2, 3, 6, 7, 8, 9, 10, 14, 27, 28, 40, 48, 49] rfl ?_
     refine nk_blk ?_
     refine nk_seq ?_
     refine rg (.q 0 (.q 1 XT.done)) (by kernel_rfl) (by kernel_rfl) ?_
     refine q_add rfl rfl rfl rfl (by omega) (by omega) ?_
     refine q_mv rfl rfl rfl ?_
     refine x_end ?_
     refine nk_cut (e' := [(0, _), (1, _), (2, _), (3, _), (6, _), (7, _), (8, _), (9, _), (10, _), (14, _), (27, _), (28, _), (40, _), (48, _), (49, _)]) [0, 1, 2, 3, 6, 7, 8, 9, 10, 14, 27, 28, 40, 48, 49] rfl ?_
     refine nk_round (μ := Mv4) (i := k) (S := _) (G := Gv4) (k + 1 : Nat) ?_ ?_ ?_ ?_
     ·exact ⟨rfl, congrArg (fun z => some (SV.u8 (rot (inv8 (UInt8.ofNat i)) k ^^^ (shl_u8 (inv8 (UInt8.ofNat i)) k ||| shr_u8 (inv8 (UInt8.ofNat i)) z)))) (by omega), rfl, rfl, rfl, rfl, rfl, rfl, rfl, rfl, rfl, rfl, rfl, trivial⟩
     ·exact rfl
     ·exact ⟨rfl, by omega⟩
     ·dsimp only [Mv4]; omega
    ·intro hc49
     try simp only [decide_eq_false_iff_not] at hc49
     have hk5 : k = 5 := by omega
     subst hk5
     refine ew_exit _ rfl ?_
     refine nk_seq ?_
     refine rg (.q 0 (.q 1 (.q 2 (.q 3 (.q 4 (.q 5 (.h 6 XT.done))))))) (by kernel_rfl) (by kernel_rfl) ?_
     iterate 3 refine q_mv rfl rfl rfl ?_
     refine q_nil rfl rfl rfl ?_
     refine q_fa fa_193_0 rfl rfl rfl ?_
     refine q_ixa1 Try.underlying191 Try.sizeOf5 rfl rfl rfl rfl rfl (by omega) (by omega) ?_
     refine h_st (cs' := ((pl fbox z8 256 (i + 1)).map SV.u8 ++ (pl ftwo z8 256 (i + 1)).map SV.u8)) (S' := [_, _, _]) 0 Try.sizeOf5 rfl rfl rfl rfl rfl rfl (by rw [List.length_append, List.length_map, List.length_map, hpb, pl_len]; omega) (putML SV.u8 (by omega) (by rw [hpb]; omega) (pl_set _ _ rfl)) rfl kp0 ?_
     refine x_end ?_
     refine nk_cut (e' := [(0, _), (1, _), (2, _), (3, _), (6, _), (7, _), (8, _), (9, _), (14, _), (27, _), (28, _), (40, _), (48, _), (49, _)]) [0, 1, 2, 3, 6, 7, 8, 9, 14, 27, 28, 40, 48, 49] rfl ?_
     refine nk_blk ?_
     refine nk_seq ?_
     refine rg (.q 0 (.q 1 XT.done)) (by kernel_rfl) (by kernel_rfl) ?_
     refine q_add rfl rfl rfl rfl (by omega) (by omega) ?_
     refine q_mv rfl rfl rfl ?_
     refine x_end ?_
     refine nk_cut (e' := [(0, _), (1, _), (2, _), (3, _), (6, _), (7, _), (8, _), (9, _), (14, _), (27, _), (28, _), (40, _), (48, _), (49, _)]) [0, 1, 2, 3, 6, 7, 8, 9, 14, 27, 28, 40, 48, 49] rfl ?_
     refine nk_round (μ := Mv2) (i := i) (S := Sv2) (G := Gv2) (i + 1 : Nat) ?_ ?_ ?_ ?_
     ·exact ⟨rfl, rfl, rfl, rfl, rfl, rfl, trivial⟩
     ·exact rfl
     ·exact ⟨rfl, by omega⟩
     ·dsimp only [Mv2]; omega
  ·intro hc28
   try simp only [decide_eq_false_iff_not] at hc28
   have hi256 : i = 256 := by omega
   subst hi256
   refine ew_exit _ rfl ?_
   refine nk_seq ?_
   refine ew_seq ?_
   refine rg (.q 0 (.q 1 XT.done)) (by kernel_rfl) (by kernel_rfl) ?_
   refine q_mv rfl rfl rfl ?_
   refine q_as rfl rfl rfl ?_
   refine x_end ?_
   refine nk_cut (e' := [(0, _), (1, _), (2, _), (3, _), (14, _), (27, _), (28, _)]) [0, 1, 2, 3, 14, 27, 28] rfl ?_
   refine nk_seq ?_
   refine pubBE 0 rfl rfl ?_
   intro Hq hlq hrq
   refine ew_retS rfl rfl (.cons (.tmp rfl) .nil) ?_
   rw [pl_all _ _ (Nat.le_refl _), pl_all _ _ (Nat.le_refl _)] at hrq
   exact ⟨_, rfl, rfl, hrq, hlq⟩

end Go.GW
