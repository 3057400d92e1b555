/- Contracts of functions of the loaded program, printed by our own program gen.py. -/
import Derived.Test.YtcchamnagcpaiaaFldA
namespace Go.GW
open Go Go.Proofs
set_option linter.unusedSimpArgs false
set_option linter.unusedVariables false


theorem ElTimes_hc {H : Hp} {gh : Nat} {h e : El} (ht : TabE H gh h) :
  HC Try.prog 161 [.p ⟨gh, 0, none⟩, .agg e.cells] [] H (fun r S' H' => r = .agg (h.times e).cells ∧ S' = [] ∧ H' = H) := by
 refine hc_intro (n := 59) Try.func161 rfl Try.ntmps161 rfl (fun B hB => ?_)
 refine ew_cut (e' := [(0, _), (1, _)]) [0, 1] rfl ?_
 refine ew_sub (e' := [(0, _), (1, .agg [_, _])]) ⟨rfl, rfl, trivial⟩ ?_
 refine ew_seq ?_
 refine rg (.h 0 (.h 1 XT.done)) (by kernel_rfl) (by kernel_rfl) ?_
 refine h_boxS rfl rfl rfl ?_
 intro g1
 refine ⟨kp0, ?_⟩
 refine h_alloc (cs := [_, _]) Try.zeroValue187 rfl rfl (zc_187 Try.zeroValue187) ?_
 intro g2
 refine ⟨kp0, ?_⟩
 refine x_end ?_
 refine nk_cut (e' := [(0, _), (1, _), (3, _), (4, _)]) [0, 1, 3, 4] rfl ?_
 refine nk_seq ?_
 refine ew_seq ?_
 refine rg (.h 0 XT.done) (by kernel_rfl) (by kernel_rfl) ?_
 refine h_alloc (cs := [_, _]) Try.zeroValue187 rfl rfl (zc_187 Try.zeroValue187) ?_
 intro g3
 refine ⟨kp0, ?_⟩
 refine x_end ?_
 refine nk_cut (e' := [(0, _), (1, _), (3, _), (4, _), (5, _)]) [0, 1, 3, 4, 5] rfl ?_
 refine nk_seq ?_
 refine ew_seq ?_
 refine ew_seq ?_
 refine rg (.q 0 (.q 1 (.q 2 (.q 3 (.q 4 (.q 5 XT.done)))))) (by kernel_rfl) (by kernel_rfl) ?_
 refine q_fa fa_187_1 rfl rfl rfl ?_
 refine q_ld 2 Try.isAgg156 rfl rfl rfl rfl rfl ?_
 refine q_fa fa_187_0 rfl rfl rfl ?_
 refine q_ld 2 Try.isAgg156 rfl rfl rfl rfl rfl ?_
 refine q_bld (cs := [_, _]) bf_246 rfl rfl rfl rfl ?_
 refine q_mv (sv := .i 0) rfl rfl rfl ?_
 refine x_end ?_
 refine nk_cut (e' := [(0, _), (1, _), (3, _), (4, _), (5, _), (14, _), (15, _)]) [0, 1, 3, 4, 5, 14, 15] rfl ?_
 refine nk_seq ?_
 refine ew_block ?_
 let Ev1 : Nat → Env := fun u => [(15, .i (u : Int))]
 let Sv1 : Nat → Res := fun u => [.box g3 187 [.u64 (tm h e u).hi, .u64 (tm h e u).lo], .box g2 187 [.u64 0, .u64 0], .box g1 187 [.u64 e.hi, .u64 e.lo]]
 let Gv1 : Nat → Hp → Prop := fun u H' => H = H' ∧ (u ≤ 2)
 let Mv1 : Nat → Nat := fun u => 2 - u
 refine ew_loop (mkE [(0, _), (1, _), (3, _), (4, _), (5, _), (14, _)] Ev1) (Sv1) Gv1 Mv1 (0 : Nat) ⟨rfl, rfl, rfl, rfl, rfl, rfl, rfl, trivial⟩ rfl ⟨rfl, (by omega)⟩ ?_
 rintro u H' ⟨rfl, hG⟩
 refine ew_S (S' := [_, _, _]) rfl ?_
 refine ew_cut (e' := [(15, _), (0, _), (1, _), (3, _), (4, _), (5, _), (14, _)]) [15, 0, 1, 3, 4, 5, 14] rfl ?_
 refine ew_seq ?_
 refine rg (.q 0 XT.done) (by kernel_rfl) (by kernel_rfl) ?_
 refine q_lt rfl rfl rfl rfl ?_
 refine x_end ?_
 refine nk_cut (e' := [(0, _), (1, _), (3, _), (4, _), (5, _), (14, _), (15, _), (16, _)]) [0, 1, 3, 4, 5, 14, 15, 16] rfl ?_
 refine nk_seq ?_
 refine ew_seq ?_
 refine ew_cond rfl ?_ ?_
 ·intro hc16
  try simp only [decide_eq_true_eq] at hc16
  refine ew_skip ?_
  refine nk_seq ?_
  refine ew_seq ?_
  refine ew_block ?_
  refine ew_seq ?_
  refine rg (.q 0 (.q 1 XT.done)) (by kernel_rfl) (by kernel_rfl) ?_
  refine q_idx Try.underlying246 Try.sizeOf156 Try.isAgg156 rfl rfl rfl rfl rfl (by omega) (by omega) (show ([SV.u64 e.lo, .u64 e.hi] : List SV)[(u : Int).toNat]? = some (.u64 (wsel e u)) by rcases (by omega : u = 0 ∨ u = 1) with rfl | rfl <;> rfl) ?_
  refine q_as rfl rfl rfl ?_
  refine x_end ?_
  refine nk_cut (e' := [(0, _), (1, _), (3, _), (4, _), (5, _), (7, _), (14, _), (15, _), (16, _)]) [0, 1, 3, 4, 5, 7, 14, 15, 16] rfl ?_
  refine nk_seq ?_
  refine ew_seq ?_
  refine rg (.q 0 XT.done) (by kernel_rfl) (by kernel_rfl) ?_
  refine q_as (sv := .i 0) rfl rfl rfl ?_
  refine x_end ?_
  refine nk_cut (e' := [(0, _), (1, _), (3, _), (4, _), (5, _), (7, _), (8, _), (14, _), (15, _), (16, _)]) [0, 1, 3, 4, 5, 7, 8, 14, 15, 16] rfl ?_
  refine nk_seq ?_
  refine ew_block ?_
  let Ev2 : Nat → Env := fun q => [(8, .i (4 * (q : Int)))]
  let Sv2 : Nat → Res := fun q => [.box g3 187 [.u64 ((hst h (tm h e u) (wsel e u) q)).hi, .u64 ((hst h (tm h e u) (wsel e u) q)).lo], .box g2 187 [.u64 0, .u64 0], .box g1 187 [.u64 e.hi, .u64 e.lo]]
  let Gv2 : Nat → Hp → Prop := fun q H' => H = H' ∧ (q ≤ 16)
  let Mv2 : Nat → Nat := fun q => 16 - q
  refine ew_loop (mkE [(0, _), (1, _), (3, _), (4, _), (5, _), (7, _), (14, _), (15, _), (16, _)] Ev2) (Sv2) Gv2 Mv2 (0 : Nat) ⟨rfl, rfl, rfl, rfl, rfl, rfl, rfl, rfl, rfl, rfl, trivial⟩ rfl ⟨rfl, (by omega)⟩ ?_
  rintro q H' ⟨rfl, hG⟩
  refine ew_S (S' := [_, _, _]) rfl ?_
  refine ew_cut (e' := [(8, _), (0, _), (1, _), (3, _), (4, _), (5, _), (7, _), (14, _), (15, _), (16, _)]) [8, 0, 1, 3, 4, 5, 7, 14, 15, 16] rfl ?_
  refine ew_seq ?_
  refine ew_seq ?_
  refine rg (.q 0 (.q 1 XT.done)) (by kernel_rfl) (by kernel_rfl) ?_
  refine q_mv rfl rfl rfl ?_
  refine q_lt rfl rfl rfl rfl ?_
  refine x_end ?_
  refine nk_cut (e' := [(0, _), (1, _), (3, _), (4, _), (5, _), (7, _), (8, _), (14, _), (15, _), (16, _), (19, _)]) [0, 1, 3, 4, 5, 7, 8, 14, 15, 16, 19] rfl ?_
  refine nk_seq ?_
  refine ew_cond rfl ?_ ?_
  ·intro hc19
   try simp only [decide_eq_true_eq] at hc19
   have hq4 : hst h (tm h e u) (wsel e u) (q + 1) = hstep h (hst h (tm h e u) (wsel e u) q) (shr_u64 (wsel e u) (4 * (q : Int)).toNat) := by rw [show (4 * (q : Int)).toNat = 4 * q by omega]; rfl
   refine ew_skip ?_
   refine nk_seq ?_
   refine ew_seq ?_
   refine ew_block ?_
   refine ew_seq ?_
   refine rd (by kernel_rfl) [0, 1, 2, 3, 4, 5, 6, 7, 8] [0, 1, 2, 3, 4, 5, 6, 7, 8] (.q 0 (.q 1 (.q 2 (.q 3 (.q 4 (.q 5 (.q 6 (.q 7 (.q 8 XT.done))))))))) (by kernel_rfl) (by kernel_rfl) (keepL _ [0]) (keepL_sub _ _) ?_
   refine q_mv rfl rfl rfl ?_
   refine q_fa fa_187_1 rfl rfl rfl ?_
   refine q_ld 0 Try.isAgg156 rfl rfl rfl rfl rfl ?_
   refine q_and_u64 rfl rfl rfl rfl ?_
   refine q_nil rfl rfl rfl ?_
   refine q_fa fa_234_1 rfl rfl rfl ?_
   refine q_ixa1 Try.underlying232 Try.sizeOf156 rfl rfl rfl rfl rfl (by omega) (Int.ofNat_lt.2 (and15_lt _)) ?_
   refine q_ldp Try.isAgg156 rfl rfl rfl (tab_ov ht (d := ((hst h (tm h e u) (wsel e u) q).lo &&& 15).toNat) rfl (and15_lt _)) ?_
   refine q_as rfl rfl rfl ?_
   refine x_end ?_
   refine nk_cut (e' := [(0, _), (1, _), (3, _), (4, _), (5, _), (7, _), (8, _), (9, _), (14, _), (15, _), (16, _), (19, _)]) [0, 1, 3, 4, 5, 7, 8, 9, 14, 15, 16, 19] rfl ?_
   refine nk_seq ?_
   refine ew_seq ?_
   refine rg (.q 0 (.q 1 (.q 2 (.q 3 (.q 4 (.q 5 (.q 6 (.q 7 (.q 8 (.q 9 (.q 10 (.h 11 XT.done)))))))))))) (by kernel_rfl) (by kernel_rfl) ?_
   refine q_fa fa_187_0 rfl rfl rfl ?_
   refine q_ld 0 Try.isAgg156 rfl rfl rfl rfl rfl ?_
   refine q_shr_u64u rfl rfl rfl rfl ?_
   refine q_fa fa_187_1 rfl rfl rfl ?_
   refine q_ld 0 Try.isAgg156 rfl rfl rfl rfl rfl ?_
   refine q_shr_u64u rfl rfl rfl rfl ?_
   refine q_fa fa_187_0 rfl rfl rfl ?_
   refine q_ld 0 Try.isAgg156 rfl rfl rfl rfl rfl ?_
   refine q_shl_u64u rfl rfl rfl rfl ?_
   refine q_or_u64 rfl rfl rfl rfl ?_
   refine q_bld (cs := [_, _]) bf_187 rfl rfl rfl rfl ?_
   refine h_stS (cs' := [_, _]) (S' := [_, _, _]) 0 Try.sizeOf187 rfl rfl rfl rfl rfl (allOne rfl) rfl (leb rfl) rfl rfl kp0 ?_
   refine x_end ?_
   refine nk_cut (e' := [(0, _), (1, _), (3, _), (4, _), (5, _), (7, _), (8, _), (9, _), (14, _), (15, _), (16, _), (19, _)]) [0, 1, 3, 4, 5, 7, 8, 9, 14, 15, 16, 19] rfl ?_
   refine nk_seq ?_
   refine ew_seq ?_
   refine rg (.q 0 (.q 1 (.q 2 (.q 3 (.q 4 (.h 5 XT.done)))))) (by kernel_rfl) (by kernel_rfl) ?_
   refine q_fa fa_187_0 rfl rfl rfl ?_
   refine q_ld 0 Try.isAgg156 rfl rfl rfl rfl rfl ?_
   refine q_mv rfl rfl rfl ?_
   refine q_xor_u64 rfl rfl rfl rfl ?_
   refine q_fa fa_187_0 rfl rfl rfl ?_
   refine h_st (cs' := [_, _]) (S' := [_, _, _]) 0 Try.sizeOf156 rfl rfl rfl rfl rfl rfl (ltb rfl) rfl rfl kp0 ?_
   refine x_end ?_
   refine nk_cut (e' := [(0, _), (1, _), (3, _), (4, _), (5, _), (7, _), (8, _), (9, _), (14, _), (15, _), (16, _), (19, _)]) [0, 1, 3, 4, 5, 7, 8, 9, 14, 15, 16, 19] rfl ?_
   refine nk_seq ?_
   refine rd (by kernel_rfl) [0, 1, 2, 3, 4, 5, 6, 7, 8, 9] [0, 1, 2, 3, 4, 5, 6, 7, 8, 9] (.q 0 (.q 1 (.q 2 (.q 3 (.q 4 (.q 5 (.q 6 (.q 7 (.q 8 (.q 9 (.h 10 (.h 11 XT.done)))))))))))) (by kernel_rfl) (by kernel_rfl) (keepL _ [0]) (keepL_sub _ _) ?_
   refine q_ldS 0 Try.isAgg187 Try.sizeOf187 rfl rfl rfl rfl rfl ?_
   iterate 3 refine q_mv rfl rfl rfl ?_
   refine q_shr_u64 rfl rfl rfl rfl (by omega) ?_
   refine q_and_u64 rfl rfl rfl rfl ?_
   refine q_nil rfl rfl rfl ?_
   refine q_fa fa_234_0 rfl rfl rfl ?_
   refine q_ixa Try.underlying231 Try.sizeOf187 rfl rfl rfl rfl rfl (by omega) (Int.ofNat_lt.2 (and15_lt _)) ?_
   refine q_ldSr Try.isAgg187 Try.sizeOf187 rfl rfl rfl (tab_el ht (d := (shr_u64 (wsel e u) (4 * (q : Int)).toNat &&& 15).toNat) (by rw [Nat.zero_add, Nat.mul_comm]; rfl) (and15_lt _)) rfl ?_
   refine h_call0 Try.call143 rfl rfl rfl (ElAdd_hc (a := ⟨shr_u64 (hst h (tm h e u) (wsel e u) q).hi 4 ^^^ tov.getD ((hst h (tm h e u) (wsel e u) q).lo &&& 15).toNat 0, shr_u64 (hst h (tm h e u) (wsel e u) q).lo 4 ||| shl_u64 (hst h (tm h e u) (wsel e u) q).hi 60⟩) (b := (tby h).getD (shr_u64 (wsel e u) (4 * (q : Int)).toNat &&& 15).toNat default)) ?_
   rintro r_ S_ H hl1 ⟨rfl, rfl, rfl⟩
   refine ⟨(fun h => absurd h (by decide)), ?_⟩
   refine x_S (S' := [_, _, _]) rfl ?_
   refine h_stS (cs' := [_, _]) (S' := [_, _, _]) 0 Try.sizeOf187 rfl rfl rfl rfl rfl (allOne rfl) rfl (leb rfl) rfl rfl (fun h => absurd h (by decide)) ?_
   refine x_end ?_
   refine nk_cut (e' := [(0, _), (1, _), (3, _), (4, _), (5, _), (7, _), (8, _), (9, _), (14, _), (15, _), (16, _), (19, _)]) [0, 1, 3, 4, 5, 7, 8, 9, 14, 15, 16, 19] rfl ?_
   refine nk_blk ?_
   refine nk_seq ?_
   refine rg (.q 0 (.q 1 (.q 2 XT.done))) (by kernel_rfl) (by kernel_rfl) ?_
   refine q_mv rfl rfl rfl ?_
   refine q_add rfl rfl rfl rfl (by omega) (by omega) ?_
   refine q_as rfl rfl rfl ?_
   refine x_end ?_
   refine nk_cut (e' := [(0, _), (1, _), (3, _), (4, _), (5, _), (7, _), (8, _), (9, _), (14, _), (15, _), (16, _), (19, _)]) [0, 1, 3, 4, 5, 7, 8, 9, 14, 15, 16, 19] rfl ?_
   refine nk_round (μ := Mv2) (i := q) (S := Sv2) (G := Gv2) (q + 1 : Nat) ?_ ?_ ?_ ?_
   ·exact ⟨congrArg (fun z => some (SV.i z)) (by omega), rfl, rfl, rfl, rfl, rfl, rfl, rfl, rfl, rfl, trivial⟩
   ·exact (by dsimp only [Sv2]; rw [hq4]; rfl)
   ·exact ⟨rfl, by omega⟩
   ·dsimp only [Mv2]; omega
  ·intro hc19
   try simp only [decide_eq_false_iff_not] at hc19
   have hq16 : q = 16 := by omega
   subst hq16
   refine ew_exit _ rfl ?_
   refine nk_blk ?_
   refine nk_seq ?_
   refine rg (.q 0 (.q 1 XT.done)) (by kernel_rfl) (by kernel_rfl) ?_
   refine q_add rfl rfl rfl rfl (by omega) (by omega) ?_
   refine q_mv rfl rfl rfl ?_
   refine x_end ?_
   refine nk_cut (e' := [(0, _), (1, _), (3, _), (4, _), (5, _), (7, _), (8, _), (14, _), (15, _), (16, _), (19, _)]) [0, 1, 3, 4, 5, 7, 8, 14, 15, 16, 19] rfl ?_
   refine nk_round (μ := Mv1) (i := u) (S := Sv1) (G := Gv1) (u + 1 : Nat) ?_ ?_ ?_ ?_
   ·exact ⟨rfl, rfl, rfl, rfl, rfl, rfl, rfl, trivial⟩
   ·exact rfl
   ·exact ⟨rfl, by omega⟩
   ·dsimp only [Mv1]; omega
 ·intro hc16
  try simp only [decide_eq_false_iff_not] at hc16
  have hu2 : u = 2 := by omega
  subst hu2
  refine ew_exit _ rfl ?_
  refine nk_seq ?_
  refine ew_seq ?_
  refine rg (.q 0 (.h 1 XT.done)) (by kernel_rfl) (by kernel_rfl) ?_
  refine q_ldS 0 Try.isAgg187 Try.sizeOf187 rfl rfl rfl rfl rfl ?_
  refine h_stS (cs' := [_, _]) (S' := [_, _, _]) 1 Try.sizeOf187 rfl rfl rfl rfl rfl (allOne rfl) rfl (leb rfl) rfl rfl kp0 ?_
  refine x_end ?_
  refine nk_cut (e' := [(0, _), (1, _), (3, _), (4, _), (5, _), (14, _), (15, _), (16, _)]) [0, 1, 3, 4, 5, 14, 15, 16] rfl ?_
  refine nk_seq ?_
  refine ew_retS rfl rfl (.cons (.agg 1 Try.isAgg187 Try.sizeOf187 rfl rfl rfl) .nil) ?_
  exact ⟨rfl, rfl, rfl⟩


theorem FldBuild_hc {H : Hp} {e : El} :
  HC Try.prog 105 [.agg e.cells] [] H (fun r S' H' => ∃ g, r = .p ⟨g, 0, none⟩ ∧ S' = [] ∧ TabE H' g e ∧ HLe H H') := by
 refine hc_intro (n := 82) Try.func105 rfl Try.ntmps105 rfl (fun B hB => ?_)
 refine ew_cut (e' := [(0, _)]) [0] rfl ?_
 refine ew_sub (e' := [(0, .agg [_, _])]) ⟨rfl, trivial⟩ ?_
 refine ew_seq ?_
 refine rg (.h 0 (.q 1 XT.done)) (by kernel_rfl) (by kernel_rfl) ?_
 refine h_boxS rfl rfl rfl ?_
 intro g1
 refine ⟨kp0, ?_⟩
 refine q_as (sv := .np) rfl rfl rfl ?_
 refine x_end ?_
 refine nk_cut (e' := [(0, _), (1, _), (2, _)]) [0, 1, 2] rfl ?_
 refine nk_seq ?_
 refine ew_seq ?_
 refine rg (.q 0 (.h 1 (.q 2 XT.done))) (by kernel_rfl) (by kernel_rfl) ?_
 refine q_bld (cs := _) bf_234 rfl rfl rfl rfl ?_
 refine h_boxS rfl rfl rfl ?_
 intro g2
 refine ⟨kp0, ?_⟩
 refine q_as rfl rfl rfl ?_
 refine x_end ?_
 refine nk_cut (e' := [(0, _), (1, _), (2, _), (3, _)]) [0, 1, 2, 3] rfl ?_
 refine nk_S (S' := [.box _ 234 (ecells (List.replicate 16 ⟨0, 0⟩) ++ R16), _]) (congrArg (fun l => [Chunk.box _ 234 l, _]) z48) ?_
 refine nk_seq ?_
 refine ew_seq ?_
 refine rd (by kernel_rfl) [0, 1, 2, 3, 4] [0, 1, 2, 3, 4] (.q 0 (.q 1 (.q 2 (.q 3 (.q 4 (.h 5 XT.done)))))) (by kernel_rfl) (by kernel_rfl) (keepL _ [1]) (keepL_sub _ _) ?_
 refine q_mv rfl rfl rfl ?_
 refine q_ldS 0 Try.isAgg187 Try.sizeOf187 rfl rfl rfl rfl rfl ?_
 refine q_nil rfl rfl rfl ?_
 refine q_fa fa_234_0 rfl rfl rfl ?_
 refine q_ixa Try.underlying231 Try.sizeOf187 rfl rfl rfl rfl rfl (by omega) (by omega) ?_
 refine h_stS (cs' := (ecells (L1 e 0) ++ R16)) (S' := [_, _]) 0 Try.sizeOf187 rfl rfl rfl rfl rfl (allOne rfl) rfl (by rw [List.length_append, ecells_len, R16_len]; show 18 ≤ 48; decide) (ecells_put _ (j := 8) (x := e) rfl (by decide)) rfl (fun h => absurd h (by decide)) ?_
 refine x_end ?_
 refine nk_cut (e' := [(0, _), (1, _), (2, _), (3, _)]) [0, 1, 2, 3] rfl ?_
 refine nk_seq ?_
 refine ew_seq ?_
 refine ew_seq ?_
 refine rg (.q 0 XT.done) (by kernel_rfl) (by kernel_rfl) ?_
 refine q_as (sv := .i 4) rfl rfl rfl ?_
 refine x_end ?_
 refine nk_cut (e' := [(0, _), (1, _), (2, _), (3, _), (4, _)]) [0, 1, 2, 3, 4] rfl ?_
 refine nk_seq ?_
 refine ew_block ?_
 let Ev1 : Nat → Env := fun m => [(4, .i (p4 m : Nat))]
 let Sv1 : Nat → Res := fun m => [.box g2 234 (ecells (L1 e m) ++ R16), .box g1 187 [.u64 e.hi, .u64 e.lo]]
 let Gv1 : Nat → Hp → Prop := fun m H' => H = H' ∧ (m ≤ 3)
 let Mv1 : Nat → Nat := fun m => 3 - m
 refine ew_loop (mkE [(0, _), (1, _), (2, _), (3, _)] Ev1) (Sv1) Gv1 Mv1 (0 : Nat) ⟨rfl, rfl, rfl, rfl, rfl, trivial⟩ rfl ⟨rfl, (by omega)⟩ ?_
 rintro m H' ⟨rfl, hG⟩
 have hcs := p4_cases hG
 have hLl := L1_len e m
 refine ew_S (S' := [_, _]) rfl ?_
 refine ew_cut (e' := [(4, _), (0, _), (1, _), (2, _), (3, _)]) [4, 0, 1, 2, 3] rfl ?_
 refine ew_seq ?_
 refine ew_seq ?_
 refine rg (.q 0 (.q 1 XT.done)) (by kernel_rfl) (by kernel_rfl) ?_
 refine q_mv rfl rfl rfl ?_
 refine q_gt rfl rfl rfl rfl ?_
 refine x_end ?_
 refine nk_cut (e' := [(0, _), (1, _), (2, _), (3, _), (4, _), (17, _)]) [0, 1, 2, 3, 4, 17] rfl ?_
 refine nk_seq ?_
 refine ew_cond rfl ?_ ?_
 ·intro hc17
  try simp only [decide_eq_true_eq] at hc17
  refine ew_skip ?_
  refine nk_seq ?_
  refine ew_seq ?_
  refine ew_block ?_
  refine rd (by kernel_rfl) [0, 1, 2, 3, 4, 5, 6, 7, 8, 10, 11, 12] [0, 1, 2, 3, 4, 5, 6, 7, 8, 9, 10, 11, 12] (.q 0 (.q 1 (.q 2 (.q 3 (.q 4 (.q 5 (.q 6 (.q 7 (.q 8 (.q 10 (.q 11 (.h 9 (.q 12 (.h 13 XT.done)))))))))))))) (by kernel_rfl) (by kernel_rfl) (keepL _ [0]) (keepL_sub _ _) ?_
  iterate 4 refine q_mv rfl rfl rfl ?_
  refine q_mul rfl rfl rfl rfl (by omega) (by omega) ?_
  refine q_nil rfl rfl rfl ?_
  refine q_fa fa_234_0 rfl rfl rfl ?_
  refine q_ixa Try.underlying231 Try.sizeOf187 rfl rfl rfl rfl rfl (by omega) (by omega) ?_
  refine q_ldSp (cs' := ((L1 e m).getD (2 * p4 m) default).cells) 0 Try.isAgg187 Try.sizeOf187 rfl rfl rfl rfl (ecells_part _ (j := (2 * p4 m)) (by omega) (by omega)) (by rw [List.length_append, ecells_len, R16_len]; omega) ?_
  refine q_nil rfl rfl rfl ?_
  refine q_fa fa_234_0 rfl rfl rfl ?_
  refine h_call0 Try.call142 rfl rfl rfl (ElNext_hc (e := (L1 e m).getD (2 * p4 m) default)) ?_
  rintro r_ S_ H hl1 ⟨rfl, rfl, rfl⟩
  refine ⟨(fun _ => ⟨by first | exact kpL [0] rfl | simp [keepL, nth], HLe.refl _⟩), ?_⟩
  refine x_S (S' := [_, _]) rfl ?_
  refine q_ixa Try.underlying231 Try.sizeOf187 rfl rfl rfl rfl rfl (by omega) (by omega) ?_
  refine h_stS (cs' := (ecells (L1 e (m + 1)) ++ R16)) (S' := [_, _]) 0 Try.sizeOf187 rfl rfl rfl rfl rfl (allOne rfl) rfl (by rw [List.length_append, ecells_len, R16_len]; show _ + 2 ≤ _; omega) (ecells_put _ (j := (p4 m)) (by omega) (by omega)) rfl (fun h => absurd h (by decide)) ?_
  refine x_end ?_
  refine nk_cut (e' := [(0, _), (1, _), (2, _), (3, _), (4, _), (17, _)]) [0, 1, 2, 3, 4, 17] rfl ?_
  refine nk_blk ?_
  refine nk_seq ?_
  refine rg (.q 0 (.q 1 (.q 2 XT.done))) (by kernel_rfl) (by kernel_rfl) ?_
  refine q_mv rfl rfl rfl ?_
  refine q_quo rfl rfl rfl rfl (by omega) (by omega) (by omega) ?_
  refine q_as rfl rfl rfl ?_
  refine x_end ?_
  refine nk_cut (e' := [(0, _), (1, _), (2, _), (3, _), (4, _), (17, _)]) [0, 1, 2, 3, 4, 17] rfl ?_
  refine nk_round (μ := Mv1) (i := m) (S := Sv1) (G := Gv1) (m + 1 : Nat) ?_ ?_ ?_ ?_
  ·exact ⟨congrArg (fun z => some (SV.i z)) (by omega), rfl, rfl, rfl, rfl, trivial⟩
  ·exact rfl
  ·exact ⟨rfl, by omega⟩
  ·dsimp only [Mv1]; omega
 ·intro hc17
  try simp only [decide_eq_false_iff_not] at hc17
  have hm3 : m = 3 := by omega
  subst hm3
  refine ew_exit _ rfl ?_
  refine nk_seq ?_
  refine ew_seq ?_
  refine ew_seq ?_
  refine rg (.q 0 XT.done) (by kernel_rfl) (by kernel_rfl) ?_
  refine q_as (sv := .i 2) rfl rfl rfl ?_
  refine x_end ?_
  refine nk_cut (e' := [(0, _), (1, _), (2, _), (3, _), (4, _), (5, _), (17, _)]) [0, 1, 2, 3, 4, 5, 17] rfl ?_
  refine nk_seq ?_
  refine ew_block ?_
  let Ev2 : Nat → Env := fun m => [(5, .i (p2 m : Nat))]
  let Sv2 : Nat → Res := fun m => [.box g2 234 (ecells (L2 e m) ++ R16), .box g1 187 [.u64 e.hi, .u64 e.lo]]
  let Gv2 : Nat → Hp → Prop := fun m H' => H = H' ∧ (m ≤ 3)
  let Mv2 : Nat → Nat := fun m => 3 - m
  refine ew_loop (mkE [(0, _), (1, _), (2, _), (3, _), (17, _)] Ev2) (Sv2) Gv2 Mv2 (0 : Nat) ⟨rfl, rfl, rfl, rfl, rfl, rfl, trivial⟩ rfl ⟨rfl, (by omega)⟩ ?_
  rintro m H' ⟨rfl, hG⟩
  have hcs := p2_cases hG
  have hLl := L2_len e m
  refine ew_S (S' := [_, _]) rfl ?_
  refine ew_cut (e' := [(5, _), (0, _), (1, _), (2, _), (3, _), (17, _)]) [5, 0, 1, 2, 3, 17] rfl ?_
  refine ew_seq ?_
  refine ew_seq ?_
  refine rg (.q 0 (.q 1 XT.done)) (by kernel_rfl) (by kernel_rfl) ?_
  refine q_mv rfl rfl rfl ?_
  refine q_lt rfl rfl rfl rfl ?_
  refine x_end ?_
  refine nk_cut (e' := [(0, _), (1, _), (2, _), (3, _), (5, _), (17, _), (34, _)]) [0, 1, 2, 3, 5, 17, 34] rfl ?_
  refine nk_seq ?_
  refine ew_cond rfl ?_ ?_
  ·intro hc34
   try simp only [decide_eq_true_eq] at hc34
   refine ew_skip ?_
   refine nk_seq ?_
   refine ew_seq ?_
   refine ew_block ?_
   refine ew_seq ?_
   refine rg (.q 0 XT.done) (by kernel_rfl) (by kernel_rfl) ?_
   refine q_as (sv := .i 1) rfl rfl rfl ?_
   refine x_end ?_
   refine nk_cut (e' := [(0, _), (1, _), (2, _), (3, _), (5, _), (6, _), (17, _), (34, _)]) [0, 1, 2, 3, 5, 6, 17, 34] rfl ?_
   refine nk_seq ?_
   refine ew_block ?_
   let Ev3 : Nat → Env := fun q => [(6, .i ((q : Int) + 1))]
   let Sv3 : Nat → Res := fun q => [.box g2 234 (ecells (inn (L2 e m) (p2 m) q) ++ R16), .box g1 187 [.u64 e.hi, .u64 e.lo]]
   let Gv3 : Nat → Hp → Prop := fun q H' => H = H' ∧ (q + 1 ≤ p2 m)
   let Mv3 : Nat → Nat := fun q => p2 m - q
   refine ew_loop (mkE [(0, _), (1, _), (2, _), (3, _), (5, _), (17, _), (34, _)] Ev3) (Sv3) Gv3 Mv3 (0 : Nat) ⟨congrArg (fun z => some (SV.i z)) (by omega), rfl, rfl, rfl, rfl, rfl, rfl, rfl, trivial⟩ rfl ⟨rfl, (by omega)⟩ ?_
   rintro q H' ⟨rfl, hG⟩
   have hIl := inn_len (L2 e m) (p2 m) q hLl
   refine ew_S (S' := [_, _]) rfl ?_
   refine ew_cut (e' := [(6, _), (0, _), (1, _), (2, _), (3, _), (5, _), (17, _), (34, _)]) [6, 0, 1, 2, 3, 5, 17, 34] rfl ?_
   refine ew_seq ?_
   refine ew_seq ?_
   refine rg (.q 0 (.q 1 (.q 2 XT.done))) (by kernel_rfl) (by kernel_rfl) ?_
   refine q_mv rfl rfl rfl ?_
   refine q_mv rfl rfl rfl ?_
   refine q_lt rfl rfl rfl rfl ?_
   refine x_end ?_
   refine nk_cut (e' := [(0, _), (1, _), (2, _), (3, _), (5, _), (6, _), (17, _), (34, _), (39, _)]) [0, 1, 2, 3, 5, 6, 17, 34, 39] rfl ?_
   refine nk_seq ?_
   refine ew_cond rfl ?_ ?_
   ·intro hc39
    try simp only [decide_eq_true_eq] at hc39
    refine ew_skip ?_
    refine nk_seq ?_
    refine ew_seq ?_
    refine ew_block ?_
    refine rd (by kernel_rfl) [0, 1, 2, 3, 4, 5, 6, 7, 8, 9, 10, 11, 12, 13, 14, 15, 17, 18, 19] [0, 1, 2, 3, 4, 5, 6, 7, 8, 9, 10, 11, 12, 13, 14, 15, 16, 17, 18, 19] (.q 0 (.q 1 (.q 2 (.q 3 (.q 4 (.q 5 (.q 6 (.q 7 (.q 8 (.q 9 (.q 10 (.q 11 (.q 12 (.q 13 (.q 14 (.q 15 (.q 17 (.q 18 (.h 16 (.q 19 (.h 20 XT.done))))))))))))))))))))) (by kernel_rfl) (by kernel_rfl) (keepL _ [0]) (keepL_sub _ _) ?_
    iterate 3 refine q_mv rfl rfl rfl ?_
    refine q_add rfl rfl rfl rfl (by omega) (by omega) ?_
    refine q_mv rfl rfl rfl ?_
    refine q_mv rfl rfl rfl ?_
    refine q_nil rfl rfl rfl ?_
    refine q_fa fa_234_0 rfl rfl rfl ?_
    refine q_ixa Try.underlying231 Try.sizeOf187 rfl rfl rfl rfl rfl (by omega) (by omega) ?_
    refine q_ldSp (cs' := ((inn (L2 e m) (p2 m) q).getD (p2 m) default).cells) 0 Try.isAgg187 Try.sizeOf187 rfl rfl rfl rfl (ecells_part _ (j := (p2 m)) (by omega) (by omega)) (by rw [List.length_append, ecells_len, R16_len]; omega) ?_
    refine q_mv rfl rfl rfl ?_
    refine q_mv rfl rfl rfl ?_
    refine q_nil rfl rfl rfl ?_
    refine q_fa fa_234_0 rfl rfl rfl ?_
    refine q_ixa Try.underlying231 Try.sizeOf187 rfl rfl rfl rfl rfl (by omega) (by omega) ?_
    refine q_ldSp (cs' := ((inn (L2 e m) (p2 m) q).getD (q + 1) default).cells) 0 Try.isAgg187 Try.sizeOf187 rfl rfl rfl rfl (ecells_part _ (j := (q + 1)) (by omega) (by omega)) (by rw [List.length_append, ecells_len, R16_len]; omega) ?_
    refine q_nil rfl rfl rfl ?_
    refine q_fa fa_234_0 rfl rfl rfl ?_
    refine h_call0 Try.call143 rfl rfl rfl (ElAdd_hc (a := (inn (L2 e m) (p2 m) q).getD (p2 m) default) (b := (inn (L2 e m) (p2 m) q).getD (q + 1) default)) ?_
    rintro r_ S_ H hl2 ⟨rfl, rfl, rfl⟩
    refine ⟨(fun _ => ⟨by first | exact kpL [0] rfl | simp [keepL, nth], HLe.refl _⟩), ?_⟩
    refine x_S (S' := [_, _]) rfl ?_
    refine q_ixa Try.underlying231 Try.sizeOf187 rfl rfl rfl rfl rfl (by omega) (by omega) ?_
    refine h_stS (cs' := (ecells (inn (L2 e m) (p2 m) (q + 1)) ++ R16)) (S' := [_, _]) 0 Try.sizeOf187 rfl rfl rfl rfl rfl (allOne rfl) rfl (by rw [List.length_append, ecells_len, R16_len]; show _ + 2 ≤ _; omega) (ecells_put _ (j := (p2 m + (q + 1))) (by omega) (by omega)) rfl (fun h => absurd h (by decide)) ?_
    refine x_end ?_
    refine nk_cut (e' := [(0, _), (1, _), (2, _), (3, _), (5, _), (6, _), (17, _), (34, _), (39, _)]) [0, 1, 2, 3, 5, 6, 17, 34, 39] rfl ?_
    refine nk_blk ?_
    refine nk_seq ?_
    refine rg (.q 0 (.q 1 (.q 2 XT.done))) (by kernel_rfl) (by kernel_rfl) ?_
    refine q_mv rfl rfl rfl ?_
    refine q_add rfl rfl rfl rfl (by omega) (by omega) ?_
    refine q_as rfl rfl rfl ?_
    refine x_end ?_
    refine nk_cut (e' := [(0, _), (1, _), (2, _), (3, _), (5, _), (6, _), (17, _), (34, _), (39, _)]) [0, 1, 2, 3, 5, 6, 17, 34, 39] rfl ?_
    refine nk_round (μ := Mv3) (i := q) (S := Sv3) (G := Gv3) (q + 1 : Nat) ?_ ?_ ?_ ?_
    ·exact ⟨rfl, rfl, rfl, rfl, rfl, rfl, rfl, rfl, trivial⟩
    ·exact rfl
    ·exact ⟨rfl, by omega⟩
    ·dsimp only [Mv3]; omega
   ·intro hc39
    try simp only [decide_eq_false_iff_not] at hc39
    refine ew_exit _ rfl ?_
    refine nk_blk ?_
    refine nk_seq ?_
    refine rg (.q 0 (.q 1 (.q 2 XT.done))) (by kernel_rfl) (by kernel_rfl) ?_
    refine q_mv rfl rfl rfl ?_
    refine q_mul rfl rfl rfl rfl (by omega) (by omega) ?_
    refine q_as rfl rfl rfl ?_
    refine x_end ?_
    refine nk_cut (e' := [(0, _), (1, _), (2, _), (3, _), (5, _), (6, _), (17, _), (34, _), (39, _)]) [0, 1, 2, 3, 5, 6, 17, 34, 39] rfl ?_
    refine nk_round (μ := Mv2) (i := m) (S := Sv2) (G := Gv2) (m + 1 : Nat) ?_ ?_ ?_ ?_
    ·exact ⟨congrArg (fun z => some (SV.i z)) (by omega), rfl, rfl, rfl, rfl, rfl, trivial⟩
    ·exact (by dsimp only [Sv2, L2]; rw [show q = p2 m - 1 by omega])
    ·exact ⟨rfl, by omega⟩
    ·dsimp only [Mv2]; omega
  ·intro hc34
   try simp only [decide_eq_false_iff_not] at hc34
   have hm3 : m = 3 := by omega
   subst hm3
   refine ew_exit _ rfl ?_
   refine nk_seq ?_
   refine ew_seq ?_
   refine ew_seq ?_
   refine rg (.q 0 XT.done) (by kernel_rfl) (by kernel_rfl) ?_
   refine q_mv (sv := .i 0) rfl rfl rfl ?_
   refine x_end ?_
   refine nk_cut (e' := [(0, _), (1, _), (2, _), (3, _), (5, _), (17, _), (34, _), (62, _)]) [0, 1, 2, 3, 5, 17, 34, 62] rfl ?_
   refine nk_seq ?_
   refine ew_block ?_
   refine ew_drop (S := [_]) (S' := [_]) ?_
   let Ev4 : Nat → Env := fun i => [(62, .i (i : Int))]
   let Sv4 : Nat → Res := fun i => [.box g2 234 (ecells (tby e) ++ (pl fov z64 16 i).map SV.u64)]
   let Gv4 : Nat → Hp → Prop := fun i H' => H = H' ∧ (i ≤ 16)
   let Mv4 : Nat → Nat := fun i => 16 - i
   refine ew_loop (mkE [(0, _), (1, _), (2, _), (3, _), (17, _), (34, _)] Ev4) (Sv4) Gv4 Mv4 (0 : Nat) ⟨rfl, rfl, rfl, rfl, rfl, rfl, rfl, trivial⟩ (by dsimp only [Sv4]; rw [← R16_pl]; rfl) ⟨rfl, (by omega)⟩ ?_
   rintro i H' ⟨rfl, hG⟩
   have hpl := pl_len fov z64 16 i
   have htl : (tby e).length = 16 := L2_len e 3
   refine ew_S (S' := [_]) rfl ?_
   refine ew_cut (e' := [(62, _), (0, _), (1, _), (2, _), (3, _), (17, _), (34, _)]) [62, 0, 1, 2, 3, 17, 34] rfl ?_
   refine ew_seq ?_
   refine rg (.q 0 XT.done) (by kernel_rfl) (by kernel_rfl) ?_
   refine q_lt rfl rfl rfl rfl ?_
   refine x_end ?_
   refine nk_cut (e' := [(0, _), (1, _), (2, _), (3, _), (17, _), (34, _), (62, _), (63, _)]) [0, 1, 2, 3, 17, 34, 62, 63] rfl ?_
   refine nk_seq ?_
   refine ew_seq ?_
   refine ew_cond rfl ?_ ?_
   ·intro hc63
    try simp only [decide_eq_true_eq] at hc63
    refine ew_skip ?_
    refine nk_seq ?_
    refine ew_seq ?_
    refine ew_block ?_
    refine ew_seq ?_
    refine rg (.q 0 (.q 1 XT.done)) (by kernel_rfl) (by kernel_rfl) ?_
    refine q_mv rfl rfl rfl ?_
    refine q_as rfl rfl rfl ?_
    refine x_end ?_
    refine nk_cut (e' := [(0, _), (1, _), (2, _), (3, _), (7, _), (17, _), (34, _), (62, _), (63, _)]) [0, 1, 2, 3, 7, 17, 34, 62, 63] rfl ?_
    refine nk_seq ?_
    refine ew_seq ?_
    refine rg (.q 0 (.q 1 (.q 2 (.h 3 (.h 4 XT.done))))) (by kernel_rfl) (by kernel_rfl) ?_
    refine q_mv rfl rfl rfl ?_
    refine q_cv_i_u64 Try.underlying156 (by kernel_rfl) rfl rfl rfl (by omega) ?_
    refine q_bld (cs := [_, _]) bf_187 rfl rfl rfl rfl ?_
    refine h_alloc (cs := [_, _]) Try.zeroValue187 rfl rfl (zc_187 Try.zeroValue187) ?_
    intro g3
    refine ⟨kp0, ?_⟩
    refine h_stS (cs' := [_, _]) (S' := [_, _]) 0 Try.sizeOf187 rfl rfl rfl rfl rfl (allOne rfl) rfl (leb rfl) rfl rfl kp0 ?_
    refine x_end ?_
    refine nk_cut (e' := [(0, _), (1, _), (2, _), (3, _), (7, _), (8, _), (17, _), (34, _), (62, _), (63, _)]) [0, 1, 2, 3, 7, 8, 17, 34, 62, 63] rfl ?_
    refine nk_seq ?_
    refine ew_seq ?_
    refine ew_seq ?_
    refine rg (.q 0 XT.done) (by kernel_rfl) (by kernel_rfl) ?_
    refine q_mv (sv := .i 0) rfl rfl rfl ?_
    refine x_end ?_
    refine nk_cut (e' := [(0, _), (1, _), (2, _), (3, _), (7, _), (8, _), (17, _), (34, _), (62, _), (63, _), (68, _)]) [0, 1, 2, 3, 7, 8, 17, 34, 62, 63, 68] rfl ?_
    refine nk_seq ?_
    refine ew_block ?_
    let Ev5 : Nat → Env := fun k => [(68, .i (k : Int))]
    let Sv5 : Nat → Res := fun k => [.box g3 187 (nextK ⟨0, UInt64.ofNat i⟩ k).cells, .box g2 234 (ecells (tby e) ++ (pl fov z64 16 i).map SV.u64)]
    let Gv5 : Nat → Hp → Prop := fun k H' => H = H' ∧ (k ≤ 4)
    let Mv5 : Nat → Nat := fun k => 4 - k
    refine ew_loop (mkE [(0, _), (1, _), (2, _), (3, _), (7, _), (8, _), (17, _), (34, _), (62, _), (63, _)] Ev5) (Sv5) Gv5 Mv5 (0 : Nat) ⟨rfl, rfl, rfl, rfl, rfl, rfl, rfl, rfl, rfl, rfl, rfl, trivial⟩ rfl ⟨rfl, (by omega)⟩ ?_
    rintro k H' ⟨rfl, hG⟩
    refine ew_S (S' := [.box _ _ [_, _], _]) rfl ?_
    refine ew_S (S' := [_, _]) rfl ?_
    refine ew_cut (e' := [(68, _), (0, _), (1, _), (2, _), (3, _), (7, _), (8, _), (17, _), (34, _), (62, _), (63, _)]) [68, 0, 1, 2, 3, 7, 8, 17, 34, 62, 63] rfl ?_
    refine ew_seq ?_
    refine rg (.q 0 XT.done) (by kernel_rfl) (by kernel_rfl) ?_
    refine q_lt rfl rfl rfl rfl ?_
    refine x_end ?_
    refine nk_cut (e' := [(0, _), (1, _), (2, _), (3, _), (7, _), (8, _), (17, _), (34, _), (62, _), (63, _), (68, _), (69, _)]) [0, 1, 2, 3, 7, 8, 17, 34, 62, 63, 68, 69] rfl ?_
    refine nk_seq ?_
    refine ew_seq ?_
    refine ew_cond rfl ?_ ?_
    ·intro hc69
     try simp only [decide_eq_true_eq] at hc69
     refine ew_skip ?_
     refine nk_seq ?_
     refine ew_seq ?_
     refine ew_block ?_
     refine rg (.q 0 (.h 1 (.h 2 XT.done))) (by kernel_rfl) (by kernel_rfl) ?_
     refine q_ldS 0 Try.isAgg187 Try.sizeOf187 rfl rfl rfl rfl rfl ?_
     refine h_call0 Try.call142 rfl rfl rfl (ElNext_hc (e := nextK ⟨0, UInt64.ofNat i⟩ k)) ?_
     rintro r_ S_ H hl3 ⟨rfl, rfl, rfl⟩
     refine ⟨kp0, ?_⟩
     refine x_S (S' := [_, _]) rfl ?_
     refine h_stS (cs' := [_, _]) (S' := [_, _]) 0 Try.sizeOf187 rfl rfl rfl rfl rfl (allOne rfl) rfl (leb rfl) rfl rfl kp0 ?_
     refine x_end ?_
     refine nk_cut (e' := [(0, _), (1, _), (2, _), (3, _), (7, _), (8, _), (17, _), (34, _), (62, _), (63, _), (68, _), (69, _)]) [0, 1, 2, 3, 7, 8, 17, 34, 62, 63, 68, 69] rfl ?_
     refine nk_blk ?_
     refine nk_seq ?_
     refine rg (.q 0 (.q 1 XT.done)) (by kernel_rfl) (by kernel_rfl) ?_
     refine q_add rfl rfl rfl rfl (by omega) (by omega) ?_
     refine q_mv rfl rfl rfl ?_
     refine x_end ?_
     refine nk_cut (e' := [(0, _), (1, _), (2, _), (3, _), (7, _), (8, _), (17, _), (34, _), (62, _), (63, _), (68, _), (69, _)]) [0, 1, 2, 3, 7, 8, 17, 34, 62, 63, 68, 69] rfl ?_
     refine nk_round (μ := Mv5) (i := k) (S := Sv5) (G := Gv5) (k + 1 : Nat) ?_ ?_ ?_ ?_
     ·exact ⟨rfl, rfl, rfl, rfl, rfl, rfl, rfl, rfl, rfl, rfl, rfl, trivial⟩
     ·exact rfl
     ·exact ⟨rfl, by omega⟩
     ·dsimp only [Mv5]; omega
    ·intro hc69
     try simp only [decide_eq_false_iff_not] at hc69
     have hk4 : k = 4 := by omega
     subst hk4
     refine ew_exit _ rfl ?_
     refine nk_seq ?_
     refine rd (by kernel_rfl) [0, 1, 2, 3, 4, 5, 6] [0, 1, 2, 3, 4, 5, 6] (.q 0 (.q 1 (.q 2 (.q 3 (.q 4 (.q 5 (.q 6 (.h 7 XT.done)))))))) (by kernel_rfl) (by kernel_rfl) (keepL _ [0]) (keepL_sub _ _) ?_
     refine q_mv rfl rfl rfl ?_
     refine q_mv rfl rfl rfl ?_
     refine q_fa fa_187_0 rfl rfl rfl ?_
     refine q_ld 0 Try.isAgg156 rfl rfl rfl rfl rfl ?_
     refine q_nil rfl rfl rfl ?_
     refine q_fa fa_234_1 rfl rfl rfl ?_
     refine q_ixa1 Try.underlying232 Try.sizeOf156 rfl rfl rfl rfl rfl (by omega) (by omega) ?_
     refine h_st (cs' := (ecells (tby e) ++ (pl fov z64 16 (i + 1)).map SV.u64)) (S' := [_, _]) 1 Try.sizeOf156 rfl rfl rfl rfl rfl rfl (by rw [List.length_append, ecells_len, List.length_map, hpl, htl]; omega) (putMR SV.u64 (i := i) (by rw [ecells_len, htl]; omega) (by rw [hpl]; omega) (pl_set _ _ rfl)) rfl (fun h => absurd h (by decide)) ?_
     refine x_end ?_
     refine nk_cut (e' := [(0, _), (1, _), (2, _), (3, _), (7, _), (8, _), (17, _), (34, _), (62, _), (63, _), (68, _), (69, _)]) [0, 1, 2, 3, 7, 8, 17, 34, 62, 63, 68, 69] rfl ?_
     refine nk_blk ?_
     refine nk_seq ?_
     refine rg (.q 0 (.q 1 XT.done)) (by kernel_rfl) (by kernel_rfl) ?_
     refine q_add rfl rfl rfl rfl (by omega) (by omega) ?_
     refine q_mv rfl rfl rfl ?_
     refine x_end ?_
     refine nk_cut (e' := [(0, _), (1, _), (2, _), (3, _), (7, _), (8, _), (17, _), (34, _), (62, _), (63, _), (68, _), (69, _)]) [0, 1, 2, 3, 7, 8, 17, 34, 62, 63, 68, 69] rfl ?_
     refine nk_perm (S' := [_, _]) (permL [1, 0] rfl) ?_
     refine nk_drop (S := [_]) (S' := [_]) ?_
     refine nk_round (μ := Mv4) (i := i) (S := Sv4) (G := Gv4) (i + 1 : Nat) ?_ ?_ ?_ ?_
     ·exact ⟨rfl, rfl, rfl, rfl, rfl, rfl, rfl, trivial⟩
     ·exact rfl
     ·exact ⟨rfl, by omega⟩
     ·dsimp only [Mv4]; omega
   ·intro hc63
    try simp only [decide_eq_false_iff_not] at hc63
    have hi16 : i = 16 := by omega
    subst hi16
    refine ew_exit _ rfl ?_
    refine nk_seq ?_
    refine ew_seq ?_
    refine rg (.q 0 (.q 1 XT.done)) (by kernel_rfl) (by kernel_rfl) ?_
    refine q_mv rfl rfl rfl ?_
    refine q_as rfl rfl rfl ?_
    refine x_end ?_
    refine nk_cut (e' := [(0, _), (1, _), (2, _), (3, _), (17, _), (34, _), (62, _), (63, _)]) [0, 1, 2, 3, 17, 34, 62, 63] rfl ?_
    refine nk_seq ?_
    refine pubBE (S' := []) 0 rfl rfl ?_
    intro Hq1 hq1 hpb1
    refine ew_retS rfl rfl (.cons (.tmp rfl) .nil) ?_
    rw [pl_all _ _ (Nat.le_refl _)] at hpb1
    exact ⟨_, rfl, rfl, hpb1, hq1⟩

end Go.GW
