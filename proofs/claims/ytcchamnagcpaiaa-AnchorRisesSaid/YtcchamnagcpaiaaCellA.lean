/- Contracts of functions of the loaded program, printed by our own program gen.py. -/
import Derived.Test.YtcchamnagcpaiaaReadA
namespace Go.GW
open Go Go.Proofs


theorem RPowNew_hc {H : Hp} :
  HC Try.prog 17 [] [] H (fun r S' H' => r = .agg pow0.rcells ∧ S' = [] ∧ H' = H) := by
 refine hc_intro (n := 2) Try.func17 rfl Try.ntmps17 rfl (fun B hB => ?_)
 refine ew_cut (e' := []) [] rfl ?_
 refine ew_seq ?_
 refine rg (.h 0 XT.done) (by kernel_rfl) (by kernel_rfl) ?_
 refine h_alloc (cs := [_, _, _, _]) Try.zeroValue36 rfl rfl (zc_36 Try.zeroValue36) ?_
 intro g1
 refine ⟨kp0, ?_⟩
 refine x_end ?_
 refine nk_cut (e' := [(0, _)]) [0] rfl ?_
 refine nk_seq ?_
 refine ew_seq ?_
 refine rg (.q 0 (.h 1 XT.done)) (by kernel_rfl) (by kernel_rfl) ?_
 refine q_bld (cs := [_, _, _, _]) bf_36 rfl rfl rfl rfl ?_
 refine h_stS (cs' := [_, _, _, _]) (S' := [_]) 0 Try.sizeOf36 rfl rfl rfl rfl rfl (allOne rfl) rfl (leb rfl) rfl rfl kp0 ?_
 refine x_end ?_
 refine nk_cut (e' := [(0, _)]) [0] rfl ?_
 refine nk_seq ?_
 refine ew_retS rfl rfl (.cons (.agg 0 Try.isAgg36 Try.sizeOf36 rfl rfl rfl) .nil) ?_
 exact ⟨rfl, rfl, rfl⟩


theorem RPowFuse_hc {H : Hp} {p : Pow} {n : Int} {dn : Bool} :
  HC Try.prog 53 [.agg p.rcells, .i n, .b dn] [] H (fun r S' H' => r = .agg (p.setFuse n dn).rcells ∧ S' = [] ∧ H' = H) := by
 refine hc_intro (n := 17) Try.func53 rfl Try.ntmps53 rfl (fun B hB => ?_)
 refine ew_cut (e' := [(0, _), (1, _), (2, _)]) [0, 1, 2] rfl ?_
 refine ew_sub (e' := [(0, .agg [_, _, _, _]), (1, _), (2, _)]) ⟨rfl, rfl, rfl, trivial⟩ ?_
 refine ew_seq ?_
 refine rg (.h 0 (.h 1 XT.done)) (by kernel_rfl) (by kernel_rfl) ?_
 refine h_boxS rfl rfl rfl ?_
 intro g1
 refine ⟨kp0, ?_⟩
 refine h_alloc (cs := [_, _, _, _]) Try.zeroValue36 rfl rfl (zc_36 Try.zeroValue36) ?_
 intro g2
 refine ⟨kp0, ?_⟩
 refine x_end ?_
 refine nk_cut (e' := [(0, _), (1, _), (2, _), (3, _), (6, _)]) [0, 1, 2, 3, 6] rfl ?_
 refine nk_seq ?_
 refine ew_seq ?_
 refine rg (.q 0 (.h 1 (.h 2 XT.done))) (by kernel_rfl) (by kernel_rfl) ?_
 refine q_ldS 1 Try.isAgg36 Try.sizeOf36 rfl rfl rfl rfl rfl ?_
 refine h_alloc (cs := [_, _, _, _]) Try.zeroValue36 rfl rfl (zc_36 Try.zeroValue36) ?_
 intro g3
 refine ⟨kp0, ?_⟩
 refine h_stS (cs' := [_, _, _, _]) (S' := [_, _, _]) 0 Try.sizeOf36 rfl rfl rfl rfl rfl (allOne rfl) rfl (leb rfl) rfl rfl kp0 ?_
 refine x_end ?_
 refine nk_cut (e' := [(0, _), (1, _), (2, _), (3, _), (6, _), (7, _)]) [0, 1, 2, 3, 6, 7] rfl ?_
 refine nk_seq ?_
 refine ew_seq ?_
 refine rg (.q 0 (.q 1 (.h 2 XT.done))) (by kernel_rfl) (by kernel_rfl) ?_
 refine q_mv rfl rfl rfl ?_
 refine q_fa fa_36_1 rfl rfl rfl ?_
 refine h_st (cs' := [_, _, _, _]) (S' := [_, _, _]) 0 Try.sizeOf3 rfl rfl rfl rfl rfl rfl (ltb rfl) rfl rfl kp0 ?_
 refine x_end ?_
 refine nk_cut (e' := [(0, _), (1, _), (2, _), (3, _), (6, _), (7, _)]) [0, 1, 2, 3, 6, 7] rfl ?_
 refine nk_seq ?_
 refine ew_seq ?_
 refine ew_seq ?_
 refine rg (.q 0 (.q 1 XT.done)) (by kernel_rfl) (by kernel_rfl) ?_
 refine q_mv rfl rfl rfl ?_
 refine q_lt rfl rfl rfl rfl ?_
 refine x_end ?_
 refine nk_cut (e' := [(0, _), (1, _), (2, _), (3, _), (6, _), (7, _), (12, _)]) [0, 1, 2, 3, 6, 7, 12] rfl ?_
 refine nk_seq ?_
 refine ew_cond rfl ?_ ?_
 ·intro hc12
  try simp only [decide_eq_true_eq] at hc12
  refine rg (.q 0 (.h 1 XT.done)) (by kernel_rfl) (by kernel_rfl) ?_
  refine q_fa fa_36_1 rfl rfl rfl ?_
  refine h_st (sv := .i (-1)) (cs' := [_, _, _, _]) (S' := [_, _, _]) 0 Try.sizeOf3 rfl rfl rfl rfl rfl rfl (ltb rfl) rfl rfl kp0 ?_
  refine x_end ?_
  refine nk_cut (e' := [(0, _), (1, _), (2, _), (3, _), (6, _), (7, _), (12, _)]) [0, 1, 2, 3, 6, 7, 12] rfl ?_
  refine nk_seq ?_
  refine ew_seq ?_
  refine rg (.q 0 (.q 1 (.h 2 XT.done))) (by kernel_rfl) (by kernel_rfl) ?_
  refine q_mv rfl rfl rfl ?_
  refine q_fa fa_36_2 rfl rfl rfl ?_
  refine h_st (cs' := [_, _, _, _]) (S' := [_, _, _]) 0 Try.sizeOf4 rfl rfl rfl rfl rfl rfl (ltb rfl) rfl rfl kp0 ?_
  refine x_end ?_
  refine nk_cut (e' := [(0, _), (1, _), (2, _), (3, _), (6, _), (7, _), (12, _)]) [0, 1, 2, 3, 6, 7, 12] rfl ?_
  refine nk_seq ?_
  refine ew_seq ?_
  refine rg (.q 0 (.h 1 XT.done)) (by kernel_rfl) (by kernel_rfl) ?_
  refine q_ldS 0 Try.isAgg36 Try.sizeOf36 rfl rfl rfl rfl rfl ?_
  refine h_stS (cs' := [_, _, _, _]) (S' := [_, _, _]) 1 Try.sizeOf36 rfl rfl rfl rfl rfl (allOne rfl) rfl (leb rfl) rfl rfl kp0 ?_
  refine x_end ?_
  refine nk_cut (e' := [(0, _), (1, _), (2, _), (3, _), (6, _), (7, _), (12, _)]) [0, 1, 2, 3, 6, 7, 12] rfl ?_
  refine nk_seq ?_
  refine ew_retS rfl rfl (.cons (.agg 1 Try.isAgg36 Try.sizeOf36 rfl rfl rfl) .nil) ?_
  exact ⟨by simp only [Pow.setFuse, Pow.rcells]; rw [show max n (-1) = -1 by omega], rfl, rfl⟩
 ·intro hc12
  try simp only [decide_eq_false_iff_not] at hc12
  refine ew_skip ?_
  refine nk_seq ?_
  refine ew_seq ?_
  refine rg (.q 0 (.q 1 (.h 2 XT.done))) (by kernel_rfl) (by kernel_rfl) ?_
  refine q_mv rfl rfl rfl ?_
  refine q_fa fa_36_2 rfl rfl rfl ?_
  refine h_st (cs' := [_, _, _, _]) (S' := [_, _, _]) 0 Try.sizeOf4 rfl rfl rfl rfl rfl rfl (ltb rfl) rfl rfl kp0 ?_
  refine x_end ?_
  refine nk_cut (e' := [(0, _), (1, _), (2, _), (3, _), (6, _), (7, _), (12, _)]) [0, 1, 2, 3, 6, 7, 12] rfl ?_
  refine nk_seq ?_
  refine ew_seq ?_
  refine rg (.q 0 (.h 1 XT.done)) (by kernel_rfl) (by kernel_rfl) ?_
  refine q_ldS 0 Try.isAgg36 Try.sizeOf36 rfl rfl rfl rfl rfl ?_
  refine h_stS (cs' := [_, _, _, _]) (S' := [_, _, _]) 1 Try.sizeOf36 rfl rfl rfl rfl rfl (allOne rfl) rfl (leb rfl) rfl rfl kp0 ?_
  refine x_end ?_
  refine nk_cut (e' := [(0, _), (1, _), (2, _), (3, _), (6, _), (7, _), (12, _)]) [0, 1, 2, 3, 6, 7, 12] rfl ?_
  refine nk_seq ?_
  refine ew_retS rfl rfl (.cons (.agg 1 Try.isAgg36 Try.sizeOf36 rfl rfl rfl) .nil) ?_
  exact ⟨by simp only [Pow.setFuse, Pow.rcells]; rw [show max n (-1) = n by omega], rfl, rfl⟩


theorem RPowBack_hc {H : Hp} {p : Pow} :
  HC Try.prog 55 [.agg p.rcells] [] H (fun r S' H' => r = .agg p.back.rcells ∧ S' = [] ∧ H' = H) := by
 refine hc_intro (n := 6) Try.func55 rfl Try.ntmps55 rfl (fun B hB => ?_)
 refine ew_cut (e' := [(0, _)]) [0] rfl ?_
 refine ew_seq ?_
 refine rg (.h 0 (.h 1 XT.done)) (by kernel_rfl) (by kernel_rfl) ?_
 refine h_boxS rfl rfl rfl ?_
 intro g1
 refine ⟨kp0, ?_⟩
 refine h_alloc (cs := [_, _, _, _]) Try.zeroValue36 rfl rfl (zc_36 Try.zeroValue36) ?_
 intro g2
 refine ⟨kp0, ?_⟩
 refine x_end ?_
 refine nk_cut (e' := [(0, _), (1, _), (2, _)]) [0, 1, 2] rfl ?_
 refine nk_seq ?_
 refine ew_seq ?_
 refine rg (.q 0 (.q 1 (.q 2 (.h 3 XT.done)))) (by kernel_rfl) (by kernel_rfl) ?_
 refine q_fa fa_36_0 rfl rfl rfl ?_
 refine q_ld 1 Try.isAgg3 rfl rfl rfl rfl rfl ?_
 refine q_bld (cs := [_, _, _, _]) bf_36 rfl rfl rfl rfl ?_
 refine h_stS (cs' := [_, _, _, _]) (S' := [_, _]) 0 Try.sizeOf36 rfl rfl rfl rfl rfl (allOne rfl) rfl (leb rfl) rfl rfl kp0 ?_
 refine x_end ?_
 refine nk_cut (e' := [(0, _), (1, _), (2, _)]) [0, 1, 2] rfl ?_
 refine nk_seq ?_
 refine ew_retS rfl rfl (.cons (.agg 0 Try.isAgg36 Try.sizeOf36 rfl rfl rfl) .nil) ?_
 exact ⟨rfl, rfl, rfl⟩


theorem RPowStep_hc {H : Hp} {p : Pow} (hp : p.ok) :
  HC Try.prog 134 [.agg p.rcells] [] H (fun r S' H' => r = .tup [.agg p.step.1.rcells, .b p.step.2.1, .b p.step.2.2] ∧ S' = [] ∧ H' = H) := by
 obtain ⟨hf0, hf1, hs0, hs1⟩ := hp
 refine hc_intro (n := 30) Try.func134 rfl Try.ntmps134 rfl (fun B hB => ?_)
 refine ew_cut (e' := [(0, _)]) [0] rfl ?_
 refine ew_sub (e' := [(0, .agg [_, _, _, _])]) ⟨rfl, trivial⟩ ?_
 refine ew_seq ?_
 refine rg (.h 0 (.h 1 (.q 2 (.q 3 XT.done)))) (by kernel_rfl) (by kernel_rfl) ?_
 refine h_boxS rfl rfl rfl ?_
 intro g1
 refine ⟨kp0, ?_⟩
 refine h_alloc (cs := [_, _, _, _]) Try.zeroValue36 rfl rfl (zc_36 Try.zeroValue36) ?_
 intro g2
 refine ⟨kp0, ?_⟩
 refine q_as (sv := .b false) rfl rfl rfl ?_
 refine q_as (sv := .b false) rfl rfl rfl ?_
 refine x_end ?_
 refine nk_cut (e' := [(0, _), (1, _), (2, _), (3, _), (4, _)]) [0, 1, 2, 3, 4] rfl ?_
 refine nk_seq ?_
 refine ew_seq ?_
 refine ew_seq ?_
 refine rg (.q 0 (.q 1 XT.done)) (by kernel_rfl) (by kernel_rfl) ?_
 refine q_fa fa_36_3 rfl rfl rfl ?_
 refine q_ld 1 Try.isAgg4 rfl rfl rfl rfl rfl ?_
 refine x_end ?_
 refine nk_cut (e' := [(0, _), (1, _), (2, _), (3, _), (4, _), (7, _)]) [0, 1, 2, 3, 4, 7] rfl ?_
 refine nk_seq ?_
 refine ew_cond rfl ?_ ?_
 ·intro hc7
  refine ew_seq ?_
  refine rg (.q 0 (.h 1 (.q 2 (.q 3 XT.done)))) (by kernel_rfl) (by kernel_rfl) ?_
  refine q_ldS 1 Try.isAgg36 Try.sizeOf36 rfl rfl rfl rfl rfl ?_
  refine h_stS (cs' := [_, _, _, _]) (S' := [_, _]) 0 Try.sizeOf36 rfl rfl rfl rfl rfl (allOne rfl) rfl (leb rfl) rfl rfl kp0 ?_
  refine q_as (sv := .b false) rfl rfl rfl ?_
  refine q_as (sv := .b false) rfl rfl rfl ?_
  refine x_end ?_
  refine nk_cut (e' := [(0, _), (1, _), (2, _), (3, _), (4, _), (7, _)]) [0, 1, 2, 3, 4, 7] rfl ?_
  refine nk_seq ?_
  refine ew_ret (r := .tup [_, _, _]) rfl rfl (.cons (.agg 0 Try.isAgg36 Try.sizeOf36 rfl rfl rfl) (.cons (.tmp rfl) (.cons (.tmp rfl) .nil))) rfl ?_
  exact ⟨by simp [Pow.step, Pow.rcells, hc7], rfl, rfl⟩
 ·intro hc7
  refine ew_skip ?_
  refine nk_seq ?_
  refine ew_seq ?_
  refine rg (.q 0 (.h 1 (.h 2 XT.done))) (by kernel_rfl) (by kernel_rfl) ?_
  refine q_ldS 1 Try.isAgg36 Try.sizeOf36 rfl rfl rfl rfl rfl ?_
  refine h_alloc (cs := [_, _, _, _]) Try.zeroValue36 rfl rfl (zc_36 Try.zeroValue36) ?_
  intro g3
  refine ⟨kp0, ?_⟩
  refine h_stS (cs' := [_, _, _, _]) (S' := [_, _, _]) 0 Try.sizeOf36 rfl rfl rfl rfl rfl (allOne rfl) rfl (leb rfl) rfl rfl kp0 ?_
  refine x_end ?_
  refine nk_cut (e' := [(0, _), (1, _), (2, _), (3, _), (4, _), (5, _), (7, _)]) [0, 1, 2, 3, 4, 5, 7] rfl ?_
  refine nk_seq ?_
  refine ew_seq ?_
  refine rg (.q 0 (.q 1 (.q 2 (.q 3 (.h 4 XT.done))))) (by kernel_rfl) (by kernel_rfl) ?_
  refine q_fa fa_36_0 rfl rfl rfl ?_
  refine q_ld 2 Try.isAgg3 rfl rfl rfl rfl rfl ?_
  refine q_add rfl rfl rfl rfl (by omega) (by omega) ?_
  refine q_fa fa_36_0 rfl rfl rfl ?_
  refine h_st (cs' := [_, _, _, _]) (S' := [_, _, _]) 0 Try.sizeOf3 rfl rfl rfl rfl rfl rfl (ltb rfl) rfl rfl kp0 ?_
  refine x_end ?_
  refine nk_cut (e' := [(0, _), (1, _), (2, _), (3, _), (4, _), (5, _), (7, _)]) [0, 1, 2, 3, 4, 5, 7] rfl ?_
  refine nk_seq ?_
  refine ew_seq ?_
  refine ew_seq ?_
  refine rg (.q 0 (.q 1 (.q 2 XT.done))) (by kernel_rfl) (by kernel_rfl) ?_
  refine q_fa fa_36_1 rfl rfl rfl ?_
  refine q_ld 2 Try.isAgg3 rfl rfl rfl rfl rfl ?_
  refine q_lt rfl rfl rfl rfl ?_
  refine x_end ?_
  refine nk_cut (e' := [(0, _), (1, _), (2, _), (3, _), (4, _), (5, _), (7, _), (16, _)]) [0, 1, 2, 3, 4, 5, 7, 16] rfl ?_
  refine nk_seq ?_
  refine ew_cond rfl ?_ ?_
  ·intro hc16
   try simp only [decide_eq_true_eq] at hc16
   refine ew_seq ?_
   refine rg (.q 0 (.h 1 (.q 2 (.q 3 XT.done)))) (by kernel_rfl) (by kernel_rfl) ?_
   refine q_ldS 0 Try.isAgg36 Try.sizeOf36 rfl rfl rfl rfl rfl ?_
   refine h_stS (cs' := [_, _, _, _]) (S' := [_, _, _]) 1 Try.sizeOf36 rfl rfl rfl rfl rfl (allOne rfl) rfl (leb rfl) rfl rfl kp0 ?_
   refine q_as (sv := .b true) rfl rfl rfl ?_
   refine q_as (sv := .b true) rfl rfl rfl ?_
   refine x_end ?_
   refine nk_cut (e' := [(0, _), (1, _), (2, _), (3, _), (4, _), (5, _), (7, _), (16, _)]) [0, 1, 2, 3, 4, 5, 7, 16] rfl ?_
   refine nk_seq ?_
   refine ew_ret (r := .tup [_, _, _]) rfl rfl (.cons (.agg 1 Try.isAgg36 Try.sizeOf36 rfl rfl rfl) (.cons (.tmp rfl) (.cons (.tmp rfl) .nil))) rfl ?_
   exact ⟨by simp [Pow.step, Pow.rcells, hc7, hc16], rfl, rfl⟩
  ·intro hc16
   try simp only [decide_eq_false_iff_not] at hc16
   refine ew_skip ?_
   refine nk_seq ?_
   refine ew_seq ?_
   refine rg (.q 0 (.q 1 (.q 2 (.q 3 (.h 4 XT.done))))) (by kernel_rfl) (by kernel_rfl) ?_
   refine q_fa fa_36_1 rfl rfl rfl ?_
   refine q_ld 2 Try.isAgg3 rfl rfl rfl rfl rfl ?_
   refine q_sub rfl rfl rfl rfl (by omega) (by omega) ?_
   refine q_fa fa_36_1 rfl rfl rfl ?_
   refine h_st (cs' := [_, _, _, _]) (S' := [_, _, _]) 0 Try.sizeOf3 rfl rfl rfl rfl rfl rfl (ltb rfl) rfl rfl kp0 ?_
   refine x_end ?_
   refine nk_cut (e' := [(0, _), (1, _), (2, _), (3, _), (4, _), (5, _), (7, _), (16, _)]) [0, 1, 2, 3, 4, 5, 7, 16] rfl ?_
   refine nk_seq ?_
   refine ew_seq ?_
   refine ew_seq ?_
   refine rg (.q 0 (.q 1 (.q 2 XT.done))) (by kernel_rfl) (by kernel_rfl) ?_
   refine q_fa fa_36_1 rfl rfl rfl ?_
   refine q_ld 2 Try.isAgg3 rfl rfl rfl rfl rfl ?_
   refine q_eq rfl rfl rfl rfl ?_
   refine x_end ?_
   refine nk_cut (e' := [(0, _), (1, _), (2, _), (3, _), (4, _), (5, _), (7, _), (16, _), (24, _)]) [0, 1, 2, 3, 4, 5, 7, 16, 24] rfl ?_
   refine nk_seq ?_
   refine ew_cond rfl ?_ ?_
   ·intro hc24
    try simp only [decide_eq_true_eq] at hc24
    refine ew_seq ?_
    refine rg (.q 0 (.h 1 XT.done)) (by kernel_rfl) (by kernel_rfl) ?_
    refine q_fa fa_36_3 rfl rfl rfl ?_
    refine h_st (sv := .b true) (cs' := [_, _, _, _]) (S' := [_, _, _]) 0 Try.sizeOf4 rfl rfl rfl rfl rfl rfl (ltb rfl) rfl rfl kp0 ?_
    refine x_end ?_
    refine nk_cut (e' := [(0, _), (1, _), (2, _), (3, _), (4, _), (5, _), (7, _), (16, _), (24, _)]) [0, 1, 2, 3, 4, 5, 7, 16, 24] rfl ?_
    refine nk_seq ?_
    refine ew_seq ?_
    refine rd (by kernel_rfl) [0, 1, 2, 4, 5] [0, 1, 2, 3, 4, 5] (.q 0 (.q 1 (.q 2 (.h 3 (.q 4 (.q 5 XT.done)))))) (by kernel_rfl) (by kernel_rfl) (keepL _ [0, 2]) (keepL_sub _ _) ?_
    refine q_ldS 0 Try.isAgg36 Try.sizeOf36 rfl rfl rfl rfl rfl ?_
    refine q_fa fa_36_2 rfl rfl rfl ?_
    refine q_ld 1 Try.isAgg4 rfl rfl rfl rfl rfl ?_
    refine h_stS (cs' := [_, _, _, _]) (S' := [_, _, _]) 1 Try.sizeOf36 rfl rfl rfl rfl rfl (allOne rfl) rfl (leb rfl) rfl rfl (fun _ => ⟨by first | exact kpL [0, 2] rfl | simp [keepL, nth], HLe.refl _⟩) ?_
    refine q_as (sv := .b false) rfl rfl rfl ?_
    refine q_as rfl rfl rfl ?_
    refine x_end ?_
    refine nk_cut (e' := [(0, _), (1, _), (2, _), (3, _), (4, _), (5, _), (7, _), (16, _), (24, _)]) [0, 1, 2, 3, 4, 5, 7, 16, 24] rfl ?_
    refine nk_seq ?_
    refine ew_ret (r := .tup [_, _, _]) rfl rfl (.cons (.agg 1 Try.isAgg36 Try.sizeOf36 rfl rfl rfl) (.cons (.tmp rfl) (.cons (.tmp rfl) .nil))) rfl ?_
    exact ⟨by simp [Pow.step, Pow.rcells, hc7, hc16, hc24], rfl, rfl⟩
   ·intro hc24
    try simp only [decide_eq_false_iff_not] at hc24
    refine ew_skip ?_
    refine nk_seq ?_
    refine ew_seq ?_
    refine rg (.q 0 (.h 1 (.q 2 (.q 3 XT.done)))) (by kernel_rfl) (by kernel_rfl) ?_
    refine q_ldS 0 Try.isAgg36 Try.sizeOf36 rfl rfl rfl rfl rfl ?_
    refine h_stS (cs' := [_, _, _, _]) (S' := [_, _, _]) 1 Try.sizeOf36 rfl rfl rfl rfl rfl (allOne rfl) rfl (leb rfl) rfl rfl kp0 ?_
    refine q_as (sv := .b true) rfl rfl rfl ?_
    refine q_as (sv := .b true) rfl rfl rfl ?_
    refine x_end ?_
    refine nk_cut (e' := [(0, _), (1, _), (2, _), (3, _), (4, _), (5, _), (7, _), (16, _), (24, _)]) [0, 1, 2, 3, 4, 5, 7, 16, 24] rfl ?_
    refine nk_seq ?_
    refine ew_ret (r := .tup [_, _, _]) rfl rfl (.cons (.agg 1 Try.isAgg36 Try.sizeOf36 rfl rfl rfl) (.cons (.tmp rfl) (.cons (.tmp rfl) .nil))) rfl ?_
    exact ⟨by simp [Pow.step, Pow.rcells, hc7, hc16, hc24], rfl, rfl⟩


def zeros (n : Nat) : List UInt8 := List.replicate n 0
def pad (xs : List UInt8) : List UInt8 := xs ++ zeros (1024 - xs.length)

/-- a cell's four sectors, as they were written, and how many were -/
structure Cel where
  s0 : List UInt8
  s1 : List UInt8
  s2 : List UInt8
  s3 : List UInt8
  writes : Int

def Cel.get (c : Cel) (i : Int) : List UInt8 := if i = 0 then c.s0 else if i = 1 then c.s1 else if i = 2 then c.s2 else c.s3
def Cel.put (c : Cel) (i : Int) (b : List UInt8) : Cel :=
  if i = 0 then { c with s0 := b, writes := c.writes + 1 } else if i = 1 then { c with s1 := b, writes := c.writes + 1 } else if i = 2 then { c with s2 := b, writes := c.writes + 1 } else { c with s3 := b, writes := c.writes + 1 }
def cel0 : Cel := ⟨[], [], [], [], 0⟩

def Cel.read (c : Cel) (p : Pow) (i : Int) : List UInt8 × Int :=
  if i < 0 ∨ 4 ≤ i then ([], 2) else if p.down = true then ([], 5) else (pad (c.get i), 0)
def Cel.write (c : Cel) (p : Pow) (i : Int) (b : List UInt8) : Cel × Pow × Int :=
  if i < 0 ∨ 4 ≤ i then (c, p, 2) else if 1024 < b.length then (c, p, 17)
  else (if p.step.2.2 = true then c.put i b else c, p.step.1, if p.step.2.1 = true then 0 else 5)

/-- a sector's slice -/
structure Sec (H : Hp) (a : Sli) (s : List UInt8) : Prop where
  ok : a.ok H
  xs : a.xs = s
  lim : s.length ≤ 1024
theorem Sec.mono {H H' : Hp} {a : Sli} {s : List UInt8} (h : Sec H a s) (hle : HLe H H') : Sec H' a s := ⟨BS.mono h.ok hle, h.xs, h.lim⟩

/-- the cells of a cell's struct -/
def celCells (gp : Nat) (a0 a1 a2 a3 : Sli) (w : Int) : List SV := [.p ⟨gp, 0, none⟩, .sl a0.A a0.n a0.c, .sl a1.A a1.n a1.c, .sl a2.A a2.n a2.c, .sl a3.A a3.n a3.c, .i w]

structure CelS (H : Hp) (a0 a1 a2 a3 : Sli) (c : Cel) : Prop where
  h0 : Sec H a0 c.s0
  h1 : Sec H a1 c.s1
  h2 : Sec H a2 c.s2
  h3 : Sec H a3 c.s3
  w0 : 0 ≤ c.writes
  w1 : c.writes ≤ 4611686018427387904
theorem CelS.mono {H H' : Hp} {a0 a1 a2 a3 : Sli} {c : Cel} (h : CelS H a0 a1 a2 a3 c) (hle : HLe H H') : CelS H' a0 a1 a2 a3 c := ⟨h.h0.mono hle, h.h1.mono hle, h.h2.mono hle, h.h3.mono hle, h.w0, h.w1⟩
theorem Sec.nil {H : Hp} : Sec H ⟨none, 0, 0, []⟩ [] := ⟨BS.nil, rfl, by simp⟩
theorem two_sli {g : Nat} {H' : Hp} {a : Sli} {s zs : List UInt8} {A2 : Option Addr} {n2 c2 : Nat} (hr : RR H' (some ⟨g, 0, none⟩) [.sl a.A a.n a.c, .sl A2 n2 c2]) (ha : Sec H' a s) (hz : BS H' A2 n2 c2 zs) : BSS H' (some ⟨g, 0, none⟩) 2 2 [a, ⟨A2, n2, c2, zs⟩] :=
  ⟨hr, rfl, Nat.le_refl _, fun p hp => by
    simp only [List.mem_cons, List.not_mem_nil, or_false] at hp
    rcases hp with rfl | rfl
    · exact ha.ok
    · exact hz⟩

theorem CelNew_hc {H : Hp} {gp : Nat} :
  HC Try.prog 40 [.p ⟨gp, 0, none⟩] [] H (fun r S' H' => ∃ gc, r = .tup [.p ⟨gc, 0, none⟩, .i 0] ∧ S' = [.box gc 173 (celCells gp ⟨none, 0, 0, []⟩ ⟨none, 0, 0, []⟩ ⟨none, 0, 0, []⟩ ⟨none, 0, 0, []⟩ 0)] ∧ H' = H) := by
 refine hc_intro (n := 9) Try.func40 rfl Try.ntmps40 rfl (fun B hB => ?_)
 refine ew_cut (e' := [(0, _)]) [0] rfl ?_
 refine ew_seq ?_
 refine rg (.q 0 (.q 1 XT.done)) (by kernel_rfl) (by kernel_rfl) ?_
 refine q_as (sv := .np) rfl rfl rfl ?_
 refine q_as (sv := .i 0) rfl rfl rfl ?_
 refine x_end ?_
 refine nk_cut (e' := [(0, _), (2, _), (3, _)]) [0, 2, 3] rfl ?_
 refine nk_seq ?_
 refine ew_seq ?_
 refine ew_seq ?_
 refine rg (.q 0 (.q 1 XT.done)) (by kernel_rfl) (by kernel_rfl) ?_
 refine q_mv rfl rfl rfl ?_
 refine q_eq_pn Try.underlying29 rfl rfl rfl rfl ?_
 refine x_end ?_
 refine nk_cut (e' := [(0, _), (2, _), (3, _), (5, _)]) [0, 2, 3, 5] rfl ?_
 refine nk_seq ?_
 refine ew_false rfl ?_
 refine ew_skip ?_
 refine nk_seq ?_
 refine ew_seq ?_
 refine rg (.q 0 (.q 1 (.h 2 (.q 3 (.q 4 XT.done))))) (by kernel_rfl) (by kernel_rfl) ?_
 refine q_mv rfl rfl rfl ?_
 refine q_bld (cs := [_, _, _, _, _, _]) bf_173 rfl rfl rfl rfl ?_
 refine h_boxS rfl rfl rfl ?_
 intro g1
 refine ⟨kp0, ?_⟩
 refine q_as rfl rfl rfl ?_
 refine q_as (sv := .i 0) rfl rfl rfl ?_
 refine x_end ?_
 refine nk_cut (e' := [(0, _), (2, _), (3, _), (5, _)]) [0, 2, 3, 5] rfl ?_
 refine nk_seq ?_
 refine ew_retAm (r := .tup [_, _]) rfl rfl (.cons (.tmp rfl) (.cons (.tmp rfl) .nil)) rfl ?_
 exact ⟨_, rfl, rfl, rfl⟩


theorem CelRead_hc {H : Hp} {gc gp : Nat} {p : Pow} {a0 a1 a2 a3 : Sli} {cl : Cel} (hcs : CelS H a0 a1 a2 a3 cl) {at_ : Int} (hat0 : -4611686018427387904 ≤ at_) (hat1 : at_ ≤ 4611686018427387904) :
  HC Try.prog 99 [.p ⟨gc, 0, none⟩, .i at_] [.box gc 173 (celCells gp a0 a1 a2 a3 cl.writes), .box gp 127 p.cells] H (fun r S' H' => ∃ A c, r = .tup [.sl A (cl.read p at_).1.length c, .i (cl.read p at_).2] ∧ (cl.read p at_).1.length ≤ c ∧ S' = [.own A 5 ((cl.read p at_).1.map SV.u8) (c * 1), .box gc 173 (celCells gp a0 a1 a2 a3 cl.writes), .box gp 127 p.cells] ∧ H' = H) := by
 refine hc_intro (n := 36) Try.func99 rfl Try.ntmps99 rfl (fun B hB => ?_)
 refine ew_cut (e' := [(0, _), (1, _)]) [0, 1] rfl ?_
 refine ew_seq ?_
 refine rg (.q 0 (.q 1 XT.done)) (by kernel_rfl) (by kernel_rfl) ?_
 refine q_as (sv := .sl none 0 0) rfl rfl rfl ?_
 refine q_as (sv := .i 0) rfl rfl rfl ?_
 refine x_end ?_
 refine nk_cut (e' := [(0, _), (1, _), (4, _), (5, _)]) [0, 1, 4, 5] rfl ?_
 refine nk_seq ?_
 refine ew_seq ?_
 refine ew_block ?_
 refine ew_seq ?_
 by_cases h1 : at_ < 0
 ·skip
  refine rg (.q 0 (.q 1 (.q 2 (.q 3 (.q 4 (.q 5 (.q 6 XT.done))))))) (by kernel_rfl) (by kernel_rfl) ?_
  refine q_mv rfl rfl rfl ?_
  refine q_lt rfl rfl rfl rfl ?_
  refine x_T (decide_eq_true h1) ?_
  refine q_mv rfl rfl rfl ?_
  refine q_skip rfl rfl ?_
  refine q_skip rfl rfl ?_
  refine q_pkT rfl rfl rfl rfl ?_
  refine q_as rfl rfl rfl ?_
  refine x_end ?_
  refine nk_cut (e' := [(0, _), (1, _), (4, _), (5, _), (6, _)]) [0, 1, 4, 5, 6] rfl ?_
  refine nk_seq ?_
  refine ew_true rfl ?_
  refine ew_seq ?_
  refine rg (.q 0 (.q 1 XT.done)) (by kernel_rfl) (by kernel_rfl) ?_
  refine q_as (sv := .sl none 0 0) rfl rfl rfl ?_
  refine q_as (sv := .i 2) rfl rfl rfl ?_
  refine x_end ?_
  refine nk_cut (e' := [(0, _), (1, _), (4, _), (5, _), (6, _)]) [0, 1, 4, 5, 6] rfl ?_
  refine nk_seq ?_
  refine ew_shrink hB ?_
  refine ew_nil 5 ?_
  refine ew_retAm (r := .tup [_, _]) rfl rfl (.cons (.tmp rfl) (.cons (.tmp rfl) .nil)) rfl ?_
  have hrd : cl.read p at_ = ([], 2) := by simp [Cel.read, h1]
  rw [hrd]
  exact ⟨none, 0, rfl, Nat.le_refl _, rfl, rfl⟩
 ·skip
  by_cases h2 : 4 ≤ at_
  ·skip
   refine rg (.q 0 (.q 1 (.q 2 (.q 3 (.q 4 (.q 5 (.q 6 XT.done))))))) (by kernel_rfl) (by kernel_rfl) ?_
   refine q_mv rfl rfl rfl ?_
   refine q_lt rfl rfl rfl rfl ?_
   refine x_F (decide_eq_false h1) ?_
   refine q_mv rfl rfl rfl ?_
   refine q_mv rfl rfl rfl ?_
   refine q_ge rfl rfl rfl rfl ?_
   refine x_T (decide_eq_true h2) ?_
   refine q_pkF rfl rfl rfl rfl ?_
   refine q_as rfl rfl rfl ?_
   refine x_end ?_
   refine nk_cut (e' := [(0, _), (1, _), (4, _), (5, _), (6, _)]) [0, 1, 4, 5, 6] rfl ?_
   refine nk_seq ?_
   refine ew_true rfl ?_
   refine ew_seq ?_
   refine rg (.q 0 (.q 1 XT.done)) (by kernel_rfl) (by kernel_rfl) ?_
   refine q_as (sv := .sl none 0 0) rfl rfl rfl ?_
   refine q_as (sv := .i 2) rfl rfl rfl ?_
   refine x_end ?_
   refine nk_cut (e' := [(0, _), (1, _), (4, _), (5, _), (6, _)]) [0, 1, 4, 5, 6] rfl ?_
   refine nk_seq ?_
   refine ew_shrink hB ?_
   refine ew_nil 5 ?_
   refine ew_retAm (r := .tup [_, _]) rfl rfl (.cons (.tmp rfl) (.cons (.tmp rfl) .nil)) rfl ?_
   have hrd : cl.read p at_ = ([], 2) := by simp [Cel.read, h2]
   rw [hrd]
   exact ⟨none, 0, rfl, Nat.le_refl _, rfl, rfl⟩
  ·skip
   refine rg (.q 0 (.q 1 (.q 2 (.q 3 (.q 4 (.q 5 (.q 6 XT.done))))))) (by kernel_rfl) (by kernel_rfl) ?_
   refine q_mv rfl rfl rfl ?_
   refine q_lt rfl rfl rfl rfl ?_
   refine x_F (decide_eq_false h1) ?_
   refine q_mv rfl rfl rfl ?_
   refine q_mv rfl rfl rfl ?_
   refine q_ge rfl rfl rfl rfl ?_
   refine x_F (decide_eq_false h2) ?_
   refine q_pkF rfl rfl rfl rfl ?_
   refine q_as rfl rfl rfl ?_
   refine x_end ?_
   refine nk_cut (e' := [(0, _), (1, _), (4, _), (5, _), (6, _)]) [0, 1, 4, 5, 6] rfl ?_
   refine nk_seq ?_
   refine ew_false rfl ?_
   refine ew_seq ?_
   refine rg (.q 0 (.q 1 (.q 2 (.q 3 (.h 4 (.q 5 XT.done)))))) (by kernel_rfl) (by kernel_rfl) ?_
   refine q_mv rfl rfl rfl ?_
   refine q_nil rfl rfl rfl ?_
   refine q_fa fa_173_0 rfl rfl rfl ?_
   refine q_ld 0 Try.isAgg29 rfl rfl rfl rfl rfl ?_
   refine h_call Try.call23 (S2 := [_]) rfl rfl rfl (nth_split (k := 1) rfl) (PowDown_hc) ?_
   rintro r_ S_ H hl1 ⟨rfl, rfl, rfl⟩
   refine ⟨kp0, ?_⟩
   refine x_S (S' := [_, _]) rfl ?_
   refine q_as rfl rfl rfl ?_
   refine x_end ?_
   refine nk_cut (e' := [(0, _), (1, _), (4, _), (5, _), (6, _), (13, _)]) [0, 1, 4, 5, 6, 13] rfl ?_
   refine nk_seq ?_
   refine ew_cond rfl ?_ ?_
   ·intro hc13
    refine ew_seq ?_
    refine rg (.q 0 (.q 1 XT.done)) (by kernel_rfl) (by kernel_rfl) ?_
    refine q_as (sv := .sl none 0 0) rfl rfl rfl ?_
    refine q_as (sv := .i 5) rfl rfl rfl ?_
    refine x_end ?_
    refine nk_cut (e' := [(0, _), (1, _), (4, _), (5, _), (6, _), (13, _)]) [0, 1, 4, 5, 6, 13] rfl ?_
    refine nk_seq ?_
    refine ew_perm (S' := [_, _]) (permL [1, 0] rfl) ?_
    refine ew_shrink hB ?_
    refine ew_nil 5 ?_
    refine ew_retAm (r := .tup [_, _]) rfl rfl (.cons (.tmp rfl) (.cons (.tmp rfl) .nil)) rfl ?_
    have hrd : cl.read p at_ = ([], 5) := by simp [Cel.read, h1, h2, hc13]
    rw [hrd]
    exact ⟨none, 0, rfl, Nat.le_refl _, rfl, rfl⟩
   ·intro hc13
    have h3 : at_ = 0 ∨ at_ = 1 ∨ at_ = 2 ∨ at_ = 3 := by omega
    have hg : ∃ (a : Sli), nth (celCells gp a0 a1 a2 a3 cl.writes) (0 + 1 + at_.toNat) = some (.sl a.A a.n a.c) ∧ Sec H a (cl.get at_) := by
     rcases h3 with rfl | rfl | rfl | rfl
     ·exact ⟨a0, rfl, hcs.h0⟩
     ·exact ⟨a1, rfl, hcs.h1⟩
     ·exact ⟨a2, rfl, hcs.h2⟩
     ·exact ⟨a3, rfl, hcs.h3⟩
    obtain ⟨a, hget, hsec⟩ := hg
    have hal := hsec.ok.len
    have hlim := hsec.lim
    rw [← hsec.xs, hal] at hlim
    refine ew_skip ?_
    refine nk_blk ?_
    refine nk_seq ?_
    refine ew_seq ?_
    refine rd (by kernel_rfl) [0, 1, 2, 3, 4, 5, 6, 7, 8, 9, 10, 11, 12, 13, 17, 18] [0, 1, 2, 3, 4, 5, 6, 7, 8, 9, 10, 11, 12, 13, 14, 15, 16, 17, 18] (.q 0 (.q 1 (.q 2 (.q 3 (.q 4 (.q 5 (.q 6 (.q 7 (.q 8 (.q 9 (.q 10 (.q 11 (.q 12 (.q 13 (.h 14 (.h 15 (.h 16 (.q 17 (.q 18 XT.done))))))))))))))))))) (by kernel_rfl) (by kernel_rfl) (keepL _ [1]) (keepL_sub _ _) ?_
    refine q_mv rfl rfl rfl ?_
    refine q_mv rfl rfl rfl ?_
    refine q_nil rfl rfl rfl ?_
    refine q_fa fa_173_1 rfl rfl rfl ?_
    refine q_ixa1 Try.underlying171 Try.sizeOf26 rfl rfl rfl rfl rfl (by omega) (by omega) ?_
    refine q_ld 0 Try.isAgg26 rfl rfl rfl rfl hget ?_
    refine q_mv rfl rfl rfl ?_
    refine q_mv rfl rfl rfl ?_
    refine q_nil rfl rfl rfl ?_
    refine q_fa fa_173_1 rfl rfl rfl ?_
    refine q_ixa1 Try.underlying171 Try.sizeOf26 rfl rfl rfl rfl rfl (by omega) (by omega) ?_
    refine q_ld 0 Try.isAgg26 rfl rfl rfl rfl hget ?_
    refine q_len Try.underlying26 rfl rfl rfl ?_
    refine q_sub rfl rfl rfl rfl (by omega) (by omega) ?_
    refine h_mk (z := .u8 0) Try.underlying26 info_5 rfl rfl rfl rfl rfl rfl rfl (by omega) (by omega) (by simp only [by_5]; omega) (by omega) ?_
    intro g1
    refine ⟨(fun _ => ⟨by first | exact kpL [2] rfl | simp [keepL, nth], HLe.refl _⟩), ?_⟩
    refine h_bs (cs := [_, _]) Try.underlying77 info_26 rfl rfl rfl rfl rfl rfl rfl rfl rfl (by decide) ?_
    intro g2
    refine ⟨(fun _ => ⟨by first | exact kpL [3] rfl | simp [keepL, nth], HLe.refl _⟩), ?_⟩
    refine pubX (S' := [_, _, _]) 1 rfl rfl ?_
    intro Hp1 hp1 hr1
    replace hcs := hcs.mono hp1
    replace hsec := hsec.mono hp1
    refine pubX (S' := [_, _]) 0 rfl rfl ?_
    intro Hp2 hp2 hr2
    replace hcs := hcs.mono hp2
    replace hsec := hsec.mono hp2
    replace hr1 := hr1.mono hp2
    refine h_call0 Try.call80 rfl rfl rfl (Join_hc (two_sli (zs := List.replicate (1024 - (a.n : Int)).toNat 0) hr2 hsec (bs_zero hr1 (Nat.le_refl _))) (by simp [catB, hal]; omega) (by omega)) ?_
    rintro r_ S_ Hp2 hl2 ⟨A1, c1, rfl, rfl, hcap1, rfl⟩
    refine ⟨(fun _ => ⟨by first | exact kpL [2] rfl | simp [keepL, nth], (hp1.trans hp2)⟩), ?_⟩
    refine x_S (S' := [_, _, _]) rfl ?_
    refine q_as rfl rfl rfl ?_
    refine q_as (sv := .i 0) rfl rfl rfl ?_
    refine x_end ?_
    refine nk_cut (e' := [(0, _), (1, _), (4, _), (5, _), (6, _), (13, _)]) [0, 1, 4, 5, 6, 13] rfl ?_
    refine nk_seq ?_
    refine ew_perm (S' := [_, _, _]) (permL [0, 2, 1] rfl) ?_
    refine ew_shrink hB ?_
    refine ew_retAm (r := .tup [_, _]) rfl rfl (.cons (.tmp rfl) (.cons (.tmp rfl) .nil)) rfl ?_
    have hcat : catB [a, ⟨some ⟨g1, 0, none⟩, (1024 - (a.n : Int)).toNat, (1024 - (a.n : Int)).toNat, List.replicate (1024 - (a.n : Int)).toNat 0⟩] = pad (cl.get at_) := by
     have e1 : (1024 - (a.n : Int)).toNat = 1024 - (cl.get at_).length := by rw [← hsec.xs, hal]; omega
     simp [catB, pad, zeros, hsec.xs, e1]
    rw [hcat] at hcap1 ⊢
    have hrd : cl.read p at_ = (pad (cl.get at_), 0) := by simp [Cel.read, h1, h2, hc13]
    rw [hrd]
    exact ⟨A1, c1, rfl, hcap1, rfl, rfl⟩


theorem cel_put {H : Hp} {a0 a1 a2 a3 : Sli} {cl : Cel} (h : CelS H a0 a1 a2 a3 cl) {a : Sli} {s : List UInt8} (ha : Sec H a s) {i : Int} (h0 : 0 ≤ i) (h4 : i < 4) (hw : cl.writes ≤ 4611686018427387903) (gp : Nat) :
    ∃ b0 b1 b2 b3, putL (celCells gp a0 a1 a2 a3 cl.writes) (0 + 1 + i.toNat) [.sl a.A a.n a.c] = celCells gp b0 b1 b2 b3 cl.writes ∧ CelS H b0 b1 b2 b3 (cl.put i s) := by
  have hw0 := h.w0
  rcases (by omega : i = 0 ∨ i = 1 ∨ i = 2 ∨ i = 3) with rfl | rfl | rfl | rfl
  · exact ⟨a, a1, a2, a3, rfl, ⟨ha, h.h1, h.h2, h.h3, (show 0 ≤ cl.writes + 1 by omega), (show cl.writes + 1 ≤ _ by omega)⟩⟩
  · exact ⟨a0, a, a2, a3, rfl, ⟨h.h0, ha, h.h2, h.h3, (show 0 ≤ cl.writes + 1 by omega), (show cl.writes + 1 ≤ _ by omega)⟩⟩
  · exact ⟨a0, a1, a, a3, rfl, ⟨h.h0, h.h1, ha, h.h3, (show 0 ≤ cl.writes + 1 by omega), (show cl.writes + 1 ≤ _ by omega)⟩⟩
  · exact ⟨a0, a1, a2, a, rfl, ⟨h.h0, h.h1, h.h2, ha, (show 0 ≤ cl.writes + 1 by omega), (show cl.writes + 1 ≤ _ by omega)⟩⟩
theorem put_writes (cl : Cel) (i : Int) (s : List UInt8) : (cl.put i s).writes = cl.writes + 1 := by
  unfold Cel.put
  split
  · rfl
  · split
    · rfl
    · split <;> rfl

theorem CelWrite1_hc {H : Hp} {gb gv ga gc gp : Nat} {A : Option Addr} {n c : Nat} {xs : List UInt8} {a0 a1 a2 a3 : Sli} {cl : Cel} (hcs : CelS H a0 a1 a2 a3 cl) (hx : BS H A n c xs) (hn : n ≤ 1024) {at_ : Int} (h0 : 0 ≤ at_) (h4 : at_ < 4) (hw : cl.writes ≤ 4611686018427387903) :
  HC Try.prog 136 [.p ⟨gb, 0, none⟩, .p ⟨gv, 0, none⟩, .p ⟨ga, 0, none⟩] [.box gb 26 [.sl A n c], .box gv 71 [.p ⟨gc, 0, none⟩], .box ga 3 [.i at_], .box gc 173 (celCells gp a0 a1 a2 a3 cl.writes)] H (fun r S' H' => r = .tup [] ∧ ∃ b0 b1 b2 b3, S' = [.box gb 26 [.sl A n c], .box gv 71 [.p ⟨gc, 0, none⟩], .box ga 3 [.i at_], .box gc 173 (celCells gp b0 b1 b2 b3 (cl.put at_ xs).writes)] ∧ CelS H' b0 b1 b2 b3 (cl.put at_ xs) ∧ HLe H H') := by
 have hxl : xs.length ≤ 1024 := by rw [hx.len]; exact hn
 refine hc_intro (n := 18) Try.func136 rfl Try.ntmps136 rfl (fun B hB => ?_)
 refine ew_cut (e' := [(0, _), (1, _), (2, _)]) [0, 1, 2] rfl ?_
 refine ew_seq ?_
 refine rd (by kernel_rfl) [0, 1, 2, 5, 6, 7] [0, 1, 2, 3, 4, 5, 6, 7] (.q 0 (.q 1 (.q 2 (.q 5 (.q 6 (.h 3 (.h 4 (.q 7 (.h 8 XT.done))))))))) (by kernel_rfl) (by kernel_rfl) (keepL _ [0, 1, 2]) (keepL_sub _ _) ?_
 refine q_ld 1 Try.isAgg71 rfl rfl rfl rfl rfl ?_
 refine q_ld 2 Try.isAgg3 rfl rfl rfl rfl rfl ?_
 refine q_ld 0 Try.isAgg26 rfl rfl rfl rfl rfl ?_
 refine q_nil rfl rfl rfl ?_
 refine q_fa fa_173_1 rfl rfl rfl ?_
 refine h_bs (cs := [_]) Try.underlying77 info_26 rfl rfl rfl rfl rfl rfl rfl rfl rfl (by decide) ?_
 intro g1
 refine ⟨(fun _ => ⟨by first | exact kpL [1, 2, 3] rfl | simp [keepL, nth], HLe.refl _⟩), ?_⟩
 refine pubX (S' := [_, _, _, _]) 0 rfl rfl ?_
 intro Hp1 hp1 hr1
 replace hcs := hcs.mono hp1
 replace hx := hx.mono hp1
 refine h_call0 Try.call80 rfl rfl rfl (Join_hc (one_sli hr1 hx) (by rw [catB_one]; omega) (by omega)) ?_
 rintro r_ S_ Hp1 hl1 ⟨A1, c1, rfl, rfl, hcap1, rfl⟩
 refine ⟨(fun _ => ⟨by first | exact kpL [1, 2, 3] rfl | simp [keepL, nth], hp1⟩), ?_⟩
 refine x_S (S' := [_, _, _, _, _]) rfl ?_
 refine q_ixa1 Try.underlying171 Try.sizeOf26 rfl rfl rfl rfl rfl (by omega) (by omega) ?_
 refine pubX (S' := [_, _, _, _]) 0 rfl rfl ?_
 intro Hp2 hp2 hr2
 replace hcs := hcs.mono hp2
 replace hx := hx.mono hp2
 replace hr1 := hr1.mono hp2
 rw [catB_one] at hr2
 obtain ⟨b0, b1, b2, b3, hput, hcs2⟩ := cel_put hcs (a := ⟨A1, (catB [⟨A, n, c, xs⟩]).length, c1, xs⟩) (s := xs) ⟨⟨hr2, by rw [catB_one], hcap1⟩, rfl, hxl⟩ h0 h4 hw gp
 refine h_st (cs' := celCells gp b0 b1 b2 b3 cl.writes) (S' := [_, _, _, _]) 3 Try.sizeOf26 rfl rfl rfl rfl rfl rfl (by simp [celCells]; omega) hput rfl (fun h => absurd h (by decide)) ?_
 refine x_end ?_
 refine nk_cut (e' := [(0, _), (1, _), (2, _)]) [0, 1, 2] rfl ?_
 refine nk_seq ?_
 refine rg (.q 0 (.q 1 (.q 2 (.q 3 (.q 4 (.q 5 (.q 6 (.h 7 XT.done)))))))) (by kernel_rfl) (by kernel_rfl) ?_
 refine q_ld 1 Try.isAgg71 rfl rfl rfl rfl rfl ?_
 refine q_nil rfl rfl rfl ?_
 refine q_fa fa_173_2 rfl rfl rfl ?_
 refine q_ld 3 Try.isAgg3 rfl rfl rfl rfl rfl ?_
 refine q_add rfl rfl rfl rfl (by have := hcs.w0; omega) (by omega) ?_
 refine q_nil rfl rfl rfl ?_
 refine q_fa fa_173_2 rfl rfl rfl ?_
 refine h_st (cs' := [_, _, _, _, _, _]) (S' := [_, _, _, _]) 3 Try.sizeOf3 rfl rfl rfl rfl rfl rfl (ltb rfl) rfl rfl kp0 ?_
 refine x_end ?_
 refine nk_cut (e' := [(0, _), (1, _), (2, _)]) [0, 1, 2] rfl ?_
 refine nk_retAm (r := .tup []) rfl .nil rfl ?_
 exact ⟨rfl, b0, b1, b2, b3, by rw [put_writes]; rfl, hcs2, hp1.trans hp2⟩


theorem CelWrite_hc {H : Hp} {gc gp : Nat} {p : Pow} (hpw : p.ok) {a0 a1 a2 a3 : Sli} {cl : Cel} (hcs : CelS H a0 a1 a2 a3 cl) {at_ : Int} (hat0 : -4611686018427387904 ≤ at_) (hat1 : at_ ≤ 4611686018427387904) (hw : cl.writes ≤ 4611686018427387903) {A : Option Addr} {n c : Nat} {xs : List UInt8} (hx : BS H A n c xs) (hn : n ≤ 1099511627776) :
  HC Try.prog 101 [.p ⟨gc, 0, none⟩, .i at_, .sl A n c] [.box gc 173 (celCells gp a0 a1 a2 a3 cl.writes), .box gp 127 p.cells] H (fun r S' H' => ∃ b0 b1 b2 b3, r = .i (cl.write p at_ xs).2.2 ∧ S' = [.box gc 173 (celCells gp b0 b1 b2 b3 (cl.write p at_ xs).1.writes), .box gp 127 (cl.write p at_ xs).2.1.cells] ∧ CelS H' b0 b1 b2 b3 (cl.write p at_ xs).1 ∧ HLe H H') := by
 have hxl := hx.len
 refine hc_intro (n := 25) Try.func101 rfl Try.ntmps101 rfl (fun B hB => ?_)
 refine ew_cut (e' := [(0, _), (1, _), (2, _)]) [0, 1, 2] rfl ?_
 refine ew_seq ?_
 refine rg (.h 0 (.h 1 (.h 2 (.q 3 XT.done)))) (by kernel_rfl) (by kernel_rfl) ?_
 refine h_box1 rfl rfl rfl rfl ?_
 intro g1
 refine ⟨kp0, ?_⟩
 refine h_box1 rfl rfl rfl rfl ?_
 intro g2
 refine ⟨kp0, ?_⟩
 refine h_box1 rfl rfl rfl rfl ?_
 intro g3
 refine ⟨kp0, ?_⟩
 refine q_as (sv := .i 0) rfl rfl rfl ?_
 refine x_end ?_
 refine nk_cut (e' := [(0, _), (1, _), (2, _), (3, _), (4, _), (5, _), (6, _)]) [0, 1, 2, 3, 4, 5, 6] rfl ?_
 refine nk_seq ?_
 refine ew_seq ?_
 refine ew_block ?_
 refine ew_seq ?_
 by_cases h1 : at_ < 0
 ·skip
  refine rg (.q 0 (.q 1 (.q 2 (.q 3 (.q 4 (.q 5 (.q 6 XT.done))))))) (by kernel_rfl) (by kernel_rfl) ?_
  refine q_ld 1 Try.isAgg3 rfl rfl rfl rfl rfl ?_
  refine q_lt rfl rfl rfl rfl ?_
  refine q_mv rfl rfl rfl ?_
  refine x_T (decide_eq_true h1) ?_
  refine q_skip rfl rfl ?_
  refine q_skip rfl rfl ?_
  refine q_pkT rfl rfl rfl rfl ?_
  refine q_as rfl rfl rfl ?_
  refine x_end ?_
  refine nk_cut (e' := [(0, _), (1, _), (2, _), (3, _), (4, _), (5, _), (6, _), (7, _)]) [0, 1, 2, 3, 4, 5, 6, 7] rfl ?_
  refine nk_seq ?_
  refine ew_true rfl ?_
  refine ew_seq ?_
  refine rg (.q 0 XT.done) (by kernel_rfl) (by kernel_rfl) ?_
  refine q_as (sv := .i 2) rfl rfl rfl ?_
  refine x_end ?_
  refine nk_cut (e' := [(0, _), (1, _), (2, _), (3, _), (4, _), (5, _), (6, _), (7, _)]) [0, 1, 2, 3, 4, 5, 6, 7] rfl ?_
  refine nk_seq ?_
  refine ew_perm (S' := [_, _, _, _, _]) (permL [3, 4, 0, 1, 2] rfl) ?_
  refine ew_retpS (S' := [_, _]) (G := [_, _, _]) rfl rfl (.cons (.tmp rfl) .nil) (List.Perm.refl _) ?_
  have hwr : cl.write p at_ xs = (cl, p, 2) := by simp [Cel.write, h1]
  rw [hwr]
  exact ⟨a0, a1, a2, a3, rfl, rfl, hcs, HLe.refl _⟩
 ·skip
  by_cases h2 : 4 ≤ at_
  ·skip
   refine rg (.q 0 (.q 1 (.q 2 (.q 3 (.q 4 (.q 5 (.q 6 XT.done))))))) (by kernel_rfl) (by kernel_rfl) ?_
   refine q_ld 1 Try.isAgg3 rfl rfl rfl rfl rfl ?_
   refine q_lt rfl rfl rfl rfl ?_
   refine q_mv rfl rfl rfl ?_
   refine x_F (decide_eq_false h1) ?_
   refine q_ld 1 Try.isAgg3 rfl rfl rfl rfl rfl ?_
   refine q_ge rfl rfl rfl rfl ?_
   refine x_T (decide_eq_true h2) ?_
   refine q_pkF rfl rfl rfl rfl ?_
   refine q_as rfl rfl rfl ?_
   refine x_end ?_
   refine nk_cut (e' := [(0, _), (1, _), (2, _), (3, _), (4, _), (5, _), (6, _), (7, _)]) [0, 1, 2, 3, 4, 5, 6, 7] rfl ?_
   refine nk_seq ?_
   refine ew_true rfl ?_
   refine ew_seq ?_
   refine rg (.q 0 XT.done) (by kernel_rfl) (by kernel_rfl) ?_
   refine q_as (sv := .i 2) rfl rfl rfl ?_
   refine x_end ?_
   refine nk_cut (e' := [(0, _), (1, _), (2, _), (3, _), (4, _), (5, _), (6, _), (7, _)]) [0, 1, 2, 3, 4, 5, 6, 7] rfl ?_
   refine nk_seq ?_
   refine ew_perm (S' := [_, _, _, _, _]) (permL [3, 4, 0, 1, 2] rfl) ?_
   refine ew_retpS (S' := [_, _]) (G := [_, _, _]) rfl rfl (.cons (.tmp rfl) .nil) (List.Perm.refl _) ?_
   have hwr : cl.write p at_ xs = (cl, p, 2) := by simp [Cel.write, h2]
   rw [hwr]
   exact ⟨a0, a1, a2, a3, rfl, rfl, hcs, HLe.refl _⟩
  ·skip
   refine rg (.q 0 (.q 1 (.q 2 (.q 3 (.q 4 (.q 5 (.q 6 XT.done))))))) (by kernel_rfl) (by kernel_rfl) ?_
   refine q_ld 1 Try.isAgg3 rfl rfl rfl rfl rfl ?_
   refine q_lt rfl rfl rfl rfl ?_
   refine q_mv rfl rfl rfl ?_
   refine x_F (decide_eq_false h1) ?_
   refine q_ld 1 Try.isAgg3 rfl rfl rfl rfl rfl ?_
   refine q_ge rfl rfl rfl rfl ?_
   refine x_F (decide_eq_false h2) ?_
   refine q_pkF rfl rfl rfl rfl ?_
   refine q_as rfl rfl rfl ?_
   refine x_end ?_
   refine nk_cut (e' := [(0, _), (1, _), (2, _), (3, _), (4, _), (5, _), (6, _), (7, _)]) [0, 1, 2, 3, 4, 5, 6, 7] rfl ?_
   refine nk_seq ?_
   refine ew_false rfl ?_
   refine ew_seq ?_
   refine rg (.q 0 (.q 1 (.q 2 (.q 3 XT.done)))) (by kernel_rfl) (by kernel_rfl) ?_
   refine q_ld 0 Try.isAgg26 rfl rfl rfl rfl rfl ?_
   refine q_len Try.underlying26 rfl rfl rfl ?_
   refine q_gt rfl rfl rfl rfl ?_
   refine q_as rfl rfl rfl ?_
   refine x_end ?_
   refine nk_cut (e' := [(0, _), (1, _), (2, _), (3, _), (4, _), (5, _), (6, _), (7, _), (14, _)]) [0, 1, 2, 3, 4, 5, 6, 7, 14] rfl ?_
   refine nk_seq ?_
   refine ew_cond rfl ?_ ?_
   ·intro hc14
    try simp only [decide_eq_true_eq] at hc14
    refine ew_seq ?_
    refine rg (.q 0 XT.done) (by kernel_rfl) (by kernel_rfl) ?_
    refine q_as (sv := .i 17) rfl rfl rfl ?_
    refine x_end ?_
    refine nk_cut (e' := [(0, _), (1, _), (2, _), (3, _), (4, _), (5, _), (6, _), (7, _), (14, _)]) [0, 1, 2, 3, 4, 5, 6, 7, 14] rfl ?_
    refine nk_seq ?_
    refine ew_perm (S' := [_, _, _, _, _]) (permL [3, 4, 0, 1, 2] rfl) ?_
    refine ew_retpS (S' := [_, _]) (G := [_, _, _]) rfl rfl (.cons (.tmp rfl) .nil) (List.Perm.refl _) ?_
    have hwr : cl.write p at_ xs = (cl, p, 17) := by
     have h3 : 1024 < xs.length := by omega
     simp [Cel.write, h1, h2, h3]
    rw [hwr]
    exact ⟨a0, a1, a2, a3, rfl, rfl, hcs, HLe.refl _⟩
   ·intro hc14
    try simp only [decide_eq_false_iff_not] at hc14
    refine ew_skip ?_
    refine nk_blk ?_
    refine nk_seq ?_
    refine ew_seq ?_
    refine ew_seq ?_
    refine rg (.q 0 (.q 1 (.q 2 (.q 3 (.q 4 (.h 5 (.q 6 XT.done))))))) (by kernel_rfl) (by kernel_rfl) ?_
    refine q_ld 2 Try.isAgg71 rfl rfl rfl rfl rfl ?_
    refine q_nil rfl rfl rfl ?_
    refine q_fa fa_173_0 rfl rfl rfl ?_
    refine q_ld 3 Try.isAgg29 rfl rfl rfl rfl rfl ?_
    refine q_fn rfl rfl rfl ?_
    refine h_call Try.call135 (S2 := []) rfl rfl rfl (permL [4, 0, 2, 1, 3] rfl) (PowStep_hc hpw Try.call136 (CelWrite1_hc hcs hx (by omega) (by omega) (by omega) hw)) ?_
    rintro r_ Sd2 H2 hl1 ⟨rfl, Sd2, rfl, hle2, hdone, hnot⟩
    replace hcs := hcs.mono hl1
    replace hx := hx.mono hl1
    refine ⟨kp0, ?_⟩
    refine x_S (S' := (_ :: Sd2)) (List.append_nil _) ?_
    obtain ⟨b0, b1, b2, b3, rfl, hcs2⟩ : ∃ b0 b1 b2 b3, Sd2 = [.box g3 26 [.sl A n c], .box g1 71 [.p ⟨gc, 0, none⟩], .box g2 3 [.i at_], .box gc 173 (celCells gp b0 b1 b2 b3 (if p.step.2.2 = true then cl.put at_ xs else cl).writes)] ∧ CelS H2 b0 b1 b2 b3 (if p.step.2.2 = true then cl.put at_ xs else cl) := by
     cases hd : p.step.2.2 with
     | true =>
      obtain ⟨_, _, b0, b1, b2, b3, e1, e2, _⟩ := hdone hd
      exact ⟨b0, b1, b2, b3, e1, e2⟩
     | false =>
      obtain ⟨e1, _⟩ := hnot hd
      exact ⟨a0, a1, a2, a3, e1, hcs⟩
    refine x_S (S' := [_, _, _, _, _]) rfl ?_
    refine q_not rfl rfl rfl ?_
    refine x_end ?_
    refine nk_cut (e' := [(0, _), (1, _), (2, _), (3, _), (4, _), (5, _), (6, _), (7, _), (14, _), (24, _)]) [0, 1, 2, 3, 4, 5, 6, 7, 14, 24] rfl ?_
    refine nk_seq ?_
    refine ew_cond rfl ?_ ?_
    ·intro hc24
     simp only [Bool.not_eq_true', Bool.not_eq_false'] at hc24
     refine ew_seq ?_
     refine rg (.q 0 XT.done) (by kernel_rfl) (by kernel_rfl) ?_
     refine q_as (sv := .i 5) rfl rfl rfl ?_
     refine x_end ?_
     refine nk_cut (e' := [(0, _), (1, _), (2, _), (3, _), (4, _), (5, _), (6, _), (7, _), (14, _), (24, _)]) [0, 1, 2, 3, 4, 5, 6, 7, 14, 24] rfl ?_
     refine nk_seq ?_
     refine ew_perm (S' := [_, _, _, _, _]) (permL [4, 0, 1, 2, 3] rfl) ?_
     refine ew_retpS (S' := [_, _]) (G := [_, _, _]) rfl rfl (.cons (.tmp rfl) .nil) (List.Perm.refl _) ?_
     have hwr : cl.write p at_ xs = (if p.step.2.2 = true then cl.put at_ xs else cl, p.step.1, 5) := by
      have h3 : ¬ 1024 < xs.length := by omega
      simp [Cel.write, h1, h2, h3, hc24]
     rw [hwr]
     exact ⟨b0, b1, b2, b3, rfl, rfl, hcs2, hle2⟩
    ·intro hc24
     simp only [Bool.not_eq_true', Bool.not_eq_false'] at hc24
     refine ew_skip ?_
     refine nk_seq ?_
     refine ew_seq ?_
     refine rg (.q 0 XT.done) (by kernel_rfl) (by kernel_rfl) ?_
     refine q_as (sv := .i 0) rfl rfl rfl ?_
     refine x_end ?_
     refine nk_cut (e' := [(0, _), (1, _), (2, _), (3, _), (4, _), (5, _), (6, _), (7, _), (14, _), (24, _)]) [0, 1, 2, 3, 4, 5, 6, 7, 14, 24] rfl ?_
     refine nk_seq ?_
     refine ew_perm (S' := [_, _, _, _, _]) (permL [4, 0, 1, 2, 3] rfl) ?_
     refine ew_retpS (S' := [_, _]) (G := [_, _, _]) rfl rfl (.cons (.tmp rfl) .nil) (List.Perm.refl _) ?_
     have hwr : cl.write p at_ xs = (if p.step.2.2 = true then cl.put at_ xs else cl, p.step.1, 0) := by
      have h3 : ¬ 1024 < xs.length := by omega
      simp [Cel.write, h1, h2, h3, hc24]
     rw [hwr]
     exact ⟨b0, b1, b2, b3, rfl, rfl, hcs2, hle2⟩

end Go.GW
