/- Contracts of functions of the loaded program, printed by our own program gen.py. -/
import Derived.Test.YtcchamnagcpaiaaRefH
namespace Go.GW
open Go Go.Proofs
set_option linter.unusedSimpArgs false
set_option linter.unusedVariables false


theorem RStream_hc {H : Hp} {Ab : Option Addr} {cb : Nat} {Aw : Option Addr} {cw : Nat} {ps : List Sli} {Ah : Option Addr} {ch : Nat} {ws : List (List UInt8)} {h : List Bool} (hk : RKey H Ab cb Aw cw ps Ah ch ws h) {An : Option Addr} {nn cn : Nat} {nonce : List UInt8} (hno : BS H An nn cn nonce) (hn12 : nonce.length = 12) {A0 : Option Addr} {n c0 : Nat} {xs : List UInt8} (hx : BS H A0 n c0 xs) (hn : n ≤ 1099511627776) :
  HC Try.prog 110 [.agg [.sl Ab 256 cb, .sl Aw 60 cw, .sl Ah 128 ch], .sl An nn cn, .sl A0 n c0] [] H (fun r S' H' => ∃ A c, r = .sl A xs.length c ∧ S' = [.own A 5 ((streamR ws nonce xs).map SV.u8) (c * 1)] ∧ xs.length ≤ c ∧ HLe H H') := by
 have hlx := hx.len
 refine hc_intro (n := 51) Try.func110 rfl Try.ntmps110 rfl (fun B hB => ?_)
 refine ew_cut (e' := [(0, _), (1, _), (2, _)]) [0, 1, 2] rfl ?_
 refine ew_seq ?_
 refine rg (.h 0 (.q 1 XT.done)) (by kernel_rfl) (by kernel_rfl) ?_
 refine h_boxS rfl rfl rfl ?_
 intro g1
 refine ⟨kp0, ?_⟩
 refine q_as (sv := .sl none 0 0) rfl rfl rfl ?_
 refine x_end ?_
 refine nk_cut (e' := [(0, _), (1, _), (2, _), (3, _), (6, _)]) [0, 1, 2, 3, 6] rfl ?_
 refine nk_seq ?_
 refine ew_seq ?_
 refine rg (.q 0 XT.done) (by kernel_rfl) (by kernel_rfl) ?_
 refine q_as (sv := .sl none 0 0) rfl rfl rfl ?_
 refine x_nil 5 ?_
 refine x_end ?_
 refine nk_cut (e' := [(0, _), (1, _), (2, _), (3, _), (6, _), (7, _)]) [0, 1, 2, 3, 6, 7] rfl ?_
 refine nk_seq ?_
 refine ew_seq ?_
 refine ew_seq ?_
 refine rg (.q 0 XT.done) (by kernel_rfl) (by kernel_rfl) ?_
 refine q_as (sv := .i 0) rfl rfl rfl ?_
 refine x_end ?_
 refine nk_cut (e' := [(0, _), (1, _), (2, _), (3, _), (6, _), (7, _), (8, _)]) [0, 1, 2, 3, 6, 7, 8] rfl ?_
 refine nk_seq ?_
 refine ew_block ?_
 let Ev1 : Nat × Option Addr × Nat → Env := fun ⟨k, A, c⟩ => [(8, .i (16 * (k : Int))), (7, .sl A (min (16 * k) n) c)]
 let Sv1 : Nat × Option Addr × Nat → Res := fun ⟨k, A, c⟩ => [.own A 5 ((rgf (stR ws nonce xs) (min (16 * k) n)).map SV.u8) (c * 1), .box g1 113 [.sl Ab 256 cb, .sl Aw 60 cw, .sl Ah 128 ch]]
 let Gv1 : Nat × Option Addr × Nat → Hp → Prop := fun ⟨k, A, c⟩ H' => HLe H H' ∧ (16 * k ≤ n + 15 ∧ min (16 * k) n ≤ c)
 let Mv1 : Nat × Option Addr × Nat → Nat := fun ⟨k, A, c⟩ => n + 15 - 16 * k
 refine ew_loop (mkE [(0, _), (1, _), (2, _), (3, _), (6, _)] Ev1) (Sv1) Gv1 Mv1 (⟨0, none, 0⟩ : Nat × Option Addr × Nat) ⟨rfl, congrArg (fun z => some (SV.sl _ z _)) (by omega), rfl, rfl, rfl, rfl, rfl, trivial⟩ (by dsimp only [Sv1]; rw [show min (16 * 0) n = 0 by omega] <;> rfl) ⟨HLe.refl _, ⟨by omega, by omega⟩⟩ ?_
 rintro ⟨k, A, c⟩ Hl1 ⟨hl1, hG⟩
 replace hk := hk.mono hl1
 replace hno := hno.mono hl1
 replace hx := hx.mono hl1
 obtain ⟨hkn, hkc⟩ := hG
 refine ew_S (S' := [_, _]) rfl ?_
 refine ew_cut (e' := [(8, _), (7, _), (0, _), (1, _), (2, _), (3, _), (6, _)]) [8, 7, 0, 1, 2, 3, 6] rfl ?_
 refine ew_seq ?_
 refine ew_seq ?_
 refine rg (.q 0 (.q 1 (.q 2 (.q 3 XT.done)))) (by kernel_rfl) (by kernel_rfl) ?_
 refine q_mv rfl rfl rfl ?_
 refine q_mv rfl rfl rfl ?_
 refine q_len Try.underlying26 rfl rfl rfl ?_
 refine q_lt rfl rfl rfl rfl ?_
 refine x_end ?_
 refine nk_cut (e' := [(0, _), (1, _), (2, _), (3, _), (6, _), (7, _), (8, _), (14, _)]) [0, 1, 2, 3, 6, 7, 8, 14] rfl ?_
 refine nk_seq ?_
 refine ew_cond rfl ?_ ?_
 ·intro hc14
  try simp only [decide_eq_true_eq] at hc14
  refine ew_skip ?_
  refine nk_seq ?_
  refine ew_seq ?_
  refine ew_block ?_
  refine ew_seq ?_
  refine rg (.q 0 (.q 1 (.q 2 (.q 3 (.q 4 (.h 5 (.q 6 XT.done))))))) (by kernel_rfl) (by kernel_rfl) ?_
  refine q_ldS 1 Try.isAgg113 Try.sizeOf113 rfl rfl rfl rfl rfl ?_
  refine q_mv rfl rfl rfl ?_
  refine q_mv rfl rfl rfl ?_
  refine q_quo rfl rfl rfl rfl (by omega) (by omega) (by omega) ?_
  refine q_add rfl rfl rfl rfl (by omega) (by omega) ?_
  refine h_call0 Try.call149 rfl rfl rfl (RCtr_hc hk hno hn12 (v := 2 + 16 * (k : Int) / 16) (by omega)) ?_
  rintro r_ S_ Hn1 hl2 ⟨A1, c1, rfl, rfl, hcap1, hle1⟩
  replace hk := hk.mono hl2
  replace hno := hno.mono hl2
  replace hx := hx.mono hl2
  refine ⟨kp0, ?_⟩
  refine x_S (S' := [_, _, _]) rfl ?_
  refine q_as rfl rfl rfl ?_
  refine x_end ?_
  refine nk_cut (e' := [(0, _), (1, _), (2, _), (3, _), (6, _), (7, _), (8, _), (9, _), (14, _)]) [0, 1, 2, 3, 6, 7, 8, 9, 14] rfl ?_
  refine nk_seq ?_
  refine ew_seq ?_
  refine rg (.q 0 (.q 1 XT.done)) (by kernel_rfl) (by kernel_rfl) ?_
  refine q_mv rfl rfl rfl ?_
  refine q_as rfl rfl rfl ?_
  refine x_end ?_
  refine nk_cut (e' := [(0, _), (1, _), (2, _), (3, _), (6, _), (7, _), (8, _), (9, _), (10, _), (14, _)]) [0, 1, 2, 3, 6, 7, 8, 9, 10, 14] rfl ?_
  refine nk_seq ?_
  refine ew_block ?_
  let Ev2 : Nat × Option Addr × Nat → Env := fun ⟨q, Aq, cq⟩ => [(10, .i (q : Int)), (7, .sl Aq q cq)]
  let Sv2 : Nat × Option Addr × Nat → Res := fun ⟨q, Aq, cq⟩ => [.own A1 5 ((ctrR ws nonce (2 + 16 * (k : Int) / 16).toNat).map SV.u8) (c1 * 1), .own Aq 5 ((rgf (stR ws nonce xs) q).map SV.u8) (cq * 1), .box g1 113 [.sl Ab 256 cb, .sl Aw 60 cw, .sl Ah 128 ch]]
  let Gv2 : Nat × Option Addr × Nat → Hp → Prop := fun ⟨q, Aq, cq⟩ H' => Hn1 = H' ∧ (16 * k ≤ q ∧ q ≤ 16 * k + 16 ∧ q ≤ n ∧ q ≤ cq)
  let Mv2 : Nat × Option Addr × Nat → Nat := fun ⟨q, Aq, cq⟩ => 16 * k + 16 - q
  refine ew_loop (mkE [(0, _), (1, _), (2, _), (3, _), (6, _), (8, _), (9, _), (14, _)] Ev2) (Sv2) Gv2 Mv2 (⟨16 * k, A, c⟩ : Nat × Option Addr × Nat) ⟨congrArg (fun z => some (SV.i z)) (by omega), congrArg (fun z => some (SV.sl _ z _)) (by omega), rfl, rfl, rfl, rfl, rfl, rfl, rfl, rfl, trivial⟩ (by dsimp only [Sv2]; rw [show min (16 * k) n = 16 * k by omega]) ⟨rfl, ⟨by omega, by omega, by omega, by omega⟩⟩ ?_
  rintro ⟨q, Aq, cq⟩ H' ⟨rfl, hG⟩
  obtain ⟨hq1, hq2, hq3, hqc⟩ := hG
  have hrl := rgf_len (stR ws nonce xs) q
  have hctl := ctrR_len ws nonce (2 + 16 * (k : Int) / 16).toNat
  refine ew_S (S' := [_, _, _]) rfl ?_
  refine ew_cut (e' := [(10, _), (7, _), (0, _), (1, _), (2, _), (3, _), (6, _), (8, _), (9, _), (14, _)]) [10, 7, 0, 1, 2, 3, 6, 8, 9, 14] rfl ?_
  refine ew_seq ?_
  refine ew_seq ?_
  refine rg (.q 0 (.q 1 (.q 2 (.q 3 (.q 4 (.q 5 (.q 6 (.q 7 (.q 8 (.q 9 XT.done)))))))))) (by kernel_rfl) (by kernel_rfl) ?_
  refine q_mv rfl rfl rfl ?_
  refine q_mv rfl rfl rfl ?_
  refine q_add rfl rfl rfl rfl (by omega) (by omega) ?_
  refine q_lt rfl rfl rfl rfl ?_
  refine q_mv rfl rfl rfl ?_
  refine x_spl (d := 28) rfl ?_ ?_
  ·intro hb28
   try simp only [Bool.not_eq_true', Bool.not_eq_false', decide_eq_true_eq, decide_eq_false_iff_not, ne_eq, Decidable.not_not] at hb28
   refine q_mv rfl rfl rfl ?_
   refine q_mv rfl rfl rfl ?_
   refine q_len Try.underlying26 rfl rfl rfl ?_
   refine q_lt rfl rfl rfl rfl ?_
   refine q_pkT rfl rfl rfl rfl ?_
   refine x_end ?_
   refine nk_cut (e' := [(0, _), (1, _), (2, _), (3, _), (6, _), (7, _), (8, _), (9, _), (10, _), (14, _), (33, _)]) [0, 1, 2, 3, 6, 7, 8, 9, 10, 14, 33] rfl ?_
   refine nk_seq ?_
   refine ew_cond rfl ?_ ?_
   ·intro hc33
    try simp only [decide_eq_true_eq] at hc33
    refine ew_skip ?_
    refine nk_seq ?_
    refine ew_seq ?_
    refine ew_block ?_
    refine rd (by kernel_rfl) [0, 1, 2, 3, 4, 5, 6, 7, 8, 9, 10, 11, 14] [0, 1, 2, 3, 4, 5, 6, 7, 8, 9, 10, 11, 12, 13, 14] (.q 0 (.q 1 (.q 2 (.q 3 (.q 4 (.q 5 (.q 6 (.q 7 (.q 8 (.q 9 (.q 10 (.q 11 (.h 12 (.h 13 (.q 14 XT.done))))))))))))))) (by kernel_rfl) (by kernel_rfl) (keepL _ [0]) (keepL_sub _ _) ?_
    iterate 3 refine q_mv rfl rfl rfl ?_
    refine q_ixs1 Try.underlying26 Try.sizeOf5 rfl rfl rfl rfl rfl (hx.ne (by omega)) (by omega) (by omega) ?_
    refine q_ldp Try.isAgg5 rfl rfl rfl (hx.cell (j := q) (by omega)) ?_
    iterate 3 refine q_mv rfl rfl rfl ?_
    refine q_sub rfl rfl rfl rfl (by omega) (by omega) ?_
    refine x_own 0 rfl (by rw [List.length_map, hctl]; decide) ?_
    intro hAb
    refine q_ixs1 Try.underlying26 Try.sizeOf5 rfl rfl rfl rfl rfl hAb (by omega) (by omega) ?_
    refine q_ldo 0 Try.isAgg5 rfl rfl rfl rfl (getM SV.u8 0 (i := q - 16 * k) (by omega) (by rw [hctl]; omega)) ?_
    refine q_xor_u8 rfl rfl rfl rfl ?_
    refine h_bs (cs := [_]) Try.underlying26 info_5 rfl rfl rfl rfl rfl rfl rfl rfl rfl (by decide) ?_
    intro g4
    refine ⟨(fun _ => ⟨by first | exact kpL [1] rfl | simp [keepL, nth], HLe.refl _⟩), ?_⟩
    refine h_appO (sz := 1) (S1 := [_, _, _]) 0 1 Try.underlying26 info_5 rfl rfl rfl (by decide) rfl rfl rfl rfl rfl rfl rfl rfl (by rw [List.length_map, hrl, Nat.mul_one]) hqc rfl (allOne rfl) (by simp only [by_5]; omega) (by omega) ?_
    intro A2 c2 hcap2
    refine ⟨(fun _ => ⟨by first | exact kpL [0] rfl | simp [keepL, nth], HLe.refl _⟩), ?_⟩
    refine x_S (S' := [_, _, _]) rfl ?_
    refine q_as rfl rfl rfl ?_
    refine x_end ?_
    refine nk_cut (e' := [(0, _), (1, _), (2, _), (3, _), (6, _), (7, _), (8, _), (9, _), (10, _), (14, _), (33, _)]) [0, 1, 2, 3, 6, 7, 8, 9, 10, 14, 33] rfl ?_
    refine nk_blk ?_
    refine nk_seq ?_
    refine rg (.q 0 (.q 1 (.q 2 XT.done))) (by kernel_rfl) (by kernel_rfl) ?_
    refine q_mv rfl rfl rfl ?_
    refine q_add rfl rfl rfl rfl (by omega) (by omega) ?_
    refine q_as rfl rfl rfl ?_
    refine x_end ?_
    refine nk_cut (e' := [(0, _), (1, _), (2, _), (3, _), (6, _), (7, _), (8, _), (9, _), (10, _), (14, _), (33, _)]) [0, 1, 2, 3, 6, 7, 8, 9, 10, 14, 33] rfl ?_
    have hq : xs.getD q 0 ^^^ (ctrR ws nonce (2 + 16 * (k : Int) / 16).toNat).getD (q - 16 * k) 0 = stR ws nonce xs q := by
     unfold stR
     rw [show (2 + 16 * (k : Int) / 16).toNat = 2 + q / 16 by omega, show q - 16 * k = q % 16 by omega]
    refine nk_round (μ := Mv2) (i := (q, Aq, cq)) (S := Sv2) (G := Gv2) (⟨q + 1, A2, c2⟩ : Nat × Option Addr × Nat) ?_ ?_ ?_ ?_
    ·exact ⟨rfl, rfl, rfl, rfl, rfl, rfl, rfl, rfl, rfl, rfl, trivial⟩
    ·exact (by dsimp only [Sv2]; rw [← rgf_map (stR ws nonce xs) SV.u8 hq] <;> rfl)
    ·exact ⟨rfl, ⟨by omega, by omega, by omega, by omega⟩⟩
    ·dsimp only [Mv2]; omega
   ·intro hc33
    try simp only [decide_eq_false_iff_not] at hc33
    refine ew_exit _ rfl ?_
    refine nk_blk ?_
    refine nk_seq ?_
    refine rg (.q 0 (.q 1 (.q 2 XT.done))) (by kernel_rfl) (by kernel_rfl) ?_
    refine q_mv rfl rfl rfl ?_
    refine q_add rfl rfl rfl rfl (by omega) (by omega) ?_
    refine q_as rfl rfl rfl ?_
    refine x_end ?_
    refine nk_cut (e' := [(0, _), (1, _), (2, _), (3, _), (6, _), (7, _), (8, _), (9, _), (10, _), (14, _), (33, _)]) [0, 1, 2, 3, 6, 7, 8, 9, 10, 14, 33] rfl ?_
    have hqm : min (16 * (k + 1)) n = q := by omega
    refine nk_perm (S' := [_, _, _]) (permL [1, 2, 0] rfl) ?_
    refine nk_drop (S := [_, _]) (S' := [_]) ?_
    refine nk_round (μ := Mv1) (i := (k, A, c)) (S := Sv1) (G := Gv1) (⟨k + 1, Aq, cq⟩ : Nat × Option Addr × Nat) ?_ ?_ ?_ ?_
    ·exact ⟨congrArg (fun z => some (SV.i z)) (by omega), congrArg (fun z => some (SV.sl _ z _)) hqm.symm, rfl, rfl, rfl, rfl, rfl, trivial⟩
    ·exact (by dsimp only [Sv1]; rw [hqm])
    ·exact ⟨(hl1.trans hl2), ⟨by omega, by omega⟩⟩
    ·dsimp only [Mv1]; omega
  ·intro hb28
   try simp only [Bool.not_eq_true', Bool.not_eq_false', decide_eq_true_eq, decide_eq_false_iff_not, ne_eq, Decidable.not_not] at hb28
   iterate 4 refine q_skip rfl rfl ?_
   refine q_pkF rfl rfl rfl rfl ?_
   refine x_end ?_
   refine nk_cut (e' := [(0, _), (1, _), (2, _), (3, _), (6, _), (7, _), (8, _), (9, _), (10, _), (14, _), (33, _)]) [0, 1, 2, 3, 6, 7, 8, 9, 10, 14, 33] rfl ?_
   refine nk_seq ?_
   refine ew_false rfl ?_
   refine ew_exit _ rfl ?_
   refine nk_blk ?_
   refine nk_seq ?_
   refine rg (.q 0 (.q 1 (.q 2 XT.done))) (by kernel_rfl) (by kernel_rfl) ?_
   refine q_mv rfl rfl rfl ?_
   refine q_add rfl rfl rfl rfl (by omega) (by omega) ?_
   refine q_as rfl rfl rfl ?_
   refine x_end ?_
   refine nk_cut (e' := [(0, _), (1, _), (2, _), (3, _), (6, _), (7, _), (8, _), (9, _), (10, _), (14, _), (33, _)]) [0, 1, 2, 3, 6, 7, 8, 9, 10, 14, 33] rfl ?_
   have hqm : min (16 * (k + 1)) n = q := by omega
   refine nk_perm (S' := [_, _, _]) (permL [1, 2, 0] rfl) ?_
   refine nk_drop (S := [_, _]) (S' := [_]) ?_
   refine nk_round (μ := Mv1) (i := (k, A, c)) (S := Sv1) (G := Gv1) (⟨k + 1, Aq, cq⟩ : Nat × Option Addr × Nat) ?_ ?_ ?_ ?_
   ·exact ⟨congrArg (fun z => some (SV.i z)) (by omega), congrArg (fun z => some (SV.sl _ z _)) hqm.symm, rfl, rfl, rfl, rfl, rfl, trivial⟩
   ·exact (by dsimp only [Sv1]; rw [hqm])
   ·exact ⟨(hl1.trans hl2), ⟨by omega, by omega⟩⟩
   ·dsimp only [Mv1]; omega
 ·intro hc14
  try simp only [decide_eq_false_iff_not] at hc14
  have hkk : min (16 * k) n = n := by omega
  refine ew_exit _ rfl ?_
  refine nk_seq ?_
  refine ew_seq ?_
  refine rg (.q 0 (.q 1 XT.done)) (by kernel_rfl) (by kernel_rfl) ?_
  refine q_mv rfl rfl rfl ?_
  refine q_as rfl rfl rfl ?_
  refine x_end ?_
  refine nk_cut (e' := [(0, _), (1, _), (2, _), (3, _), (6, _), (7, _), (8, _), (14, _)]) [0, 1, 2, 3, 6, 7, 8, 14] rfl ?_
  refine nk_seq ?_
  refine ew_retk 0 rfl rfl (.cons (.tmp rfl) .nil) rfl rfl ?_
  exact ⟨A, c, congrArg (fun z => SV.sl _ z _) (by omega), by rw [hkk, streamR, hlx], by omega, hl1⟩

end Go.GW
