/- Contracts of functions of the loaded program, printed by our own program gen.py. -/
import Derived.Test.YtcchamnagcpaiaaRefC
namespace Go.GW
open Go Go.Proofs
set_option linter.unusedSimpArgs false
set_option linter.unusedVariables false


def rndR (bx : List UInt8) (ws : List (List UInt8)) (b : List UInt8) : Nat → List UInt8
  | 0 => bothR b (rkR ws 0 4)
  | k + 1 => bothR (mixedR (shiftedR bx (rndR bx ws b k))) (rkR ws (k + 1) 4)
def blockR (bx : List UInt8) (ws : List (List UInt8)) (b : List UInt8) : List UInt8 := bothR (shiftedR bx (rndR bx ws b 13)) (rkR ws 14 4)
theorem rndR_len {bx : List UInt8} {ws : List (List UInt8)} {b : List UInt8} (h : b.length = 16) : ∀ k, (rndR bx ws b k).length = 16
  | 0 => by rw [rndR, bothR_len, h]
  | k + 1 => by rw [rndR, bothR_len, mixedR_len]
theorem blockR_len (bx : List UInt8) (ws : List (List UInt8)) (b : List UInt8) : (blockR bx ws b).length = 16 := by rw [blockR, bothR_len, shiftedR_len]

theorem RBlock_hc {H : Hp} {A1 A0 A2 : Option Addr} {c1 c0 c2 : Nat} {bx b : List UInt8} {ws : List (List UInt8)} {ps : List Sli} (hbx : BS H A1 256 c1 bx) (hw : WS H A0 60 c0 ws ps) (hb : BS H A2 16 c2 b) :
  HC Try.prog 115 [.sl A1 256 c1, .sl A0 60 c0, .sl A2 16 c2] [] H (fun z S' H' => ∃ A c, z = .sl A 16 c ∧ S' = [.own A 5 ((blockR bx ws b).map SV.u8) (c * 1)] ∧ 16 ≤ c ∧ HLe H H') := by
 have hbn := hb.len
 refine hc_intro (n := 31) Try.func115 rfl Try.ntmps115 rfl (fun B hB => ?_)
 refine ew_cut (e' := [(0, _), (1, _), (2, _)]) [0, 1, 2] rfl ?_
 refine ew_seq ?_
 refine rg (.q 0 XT.done) (by kernel_rfl) (by kernel_rfl) ?_
 refine q_as (sv := .sl none 0 0) rfl rfl rfl ?_
 refine x_end ?_
 refine nk_cut (e' := [(0, _), (1, _), (2, _), (6, _)]) [0, 1, 2, 6] rfl ?_
 refine nk_seq ?_
 refine ew_seq ?_
 refine rg (.q 0 (.q 1 (.h 2 (.h 3 (.q 4 XT.done))))) (by kernel_rfl) (by kernel_rfl) ?_
 refine q_mv rfl rfl rfl ?_
 refine q_mv rfl rfl rfl ?_
 refine h_call0 Try.call156 rfl rfl rfl (RRk_hc hw (r := 0) (by omega) (by omega)) ?_
 rintro r_ S_ H hl1 ⟨A1, c1, rfl, rfl, hcap1, hrkl1, rfl⟩
 refine ⟨kp0, ?_⟩
 refine x_S (S' := [_]) rfl ?_
 refine pubX (S' := []) 0 rfl rfl ?_
 intro Hp1 hp1 hr1
 replace hbx := hbx.mono hp1
 replace hw := hw.mono hp1
 replace hb := hb.mono hp1
 refine h_call0 Try.call155 rfl rfl rfl (RBoth_hc hb (BS.of hr1 hrkl1 hcap1) (by omega) (by omega)) ?_
 rintro r_ S_ Hp1 hl2 ⟨A2, c2, rfl, rfl, hcap2, rfl⟩
 refine ⟨kp0, ?_⟩
 refine x_S (S' := [_]) rfl ?_
 refine q_as rfl rfl rfl ?_
 refine x_end ?_
 refine nk_cut (e' := [(0, _), (1, _), (2, _), (6, _), (7, _)]) [0, 1, 2, 6, 7] rfl ?_
 refine nk_seq ?_
 refine ew_seq ?_
 refine ew_seq ?_
 refine rg (.q 0 XT.done) (by kernel_rfl) (by kernel_rfl) ?_
 refine q_as (sv := .i 1) rfl rfl rfl ?_
 refine x_end ?_
 refine nk_cut (e' := [(0, _), (1, _), (2, _), (6, _), (7, _), (8, _)]) [0, 1, 2, 6, 7, 8] rfl ?_
 refine nk_seq ?_
 refine ew_block ?_
 let Ev1 : Nat × Option Addr × Nat → Env := fun ⟨k, A, c⟩ => [(8, .i (1 + (k : Int))), (7, .sl A 16 c)]
 let Sv1 : Nat × Option Addr × Nat → Res := fun ⟨k, A, c⟩ => [.own A 5 ((rndR bx ws b k).map SV.u8) (c * 1)]
 let Gv1 : Nat × Option Addr × Nat → Hp → Prop := fun ⟨k, A, c⟩ H' => HLe Hp1 H' ∧ (k ≤ 13 ∧ 16 ≤ c)
 let Mv1 : Nat × Option Addr × Nat → Nat := fun ⟨k, A, c⟩ => 13 - k
 refine ew_loop (mkE [(0, _), (1, _), (2, _), (6, _)] Ev1) (Sv1) Gv1 Mv1 (⟨0, A2, c2⟩ : Nat × Option Addr × Nat) ⟨congrArg (fun z => some (SV.i z)) (by omega), congrArg (fun z => some (SV.sl _ z _)) hbn, rfl, rfl, rfl, rfl, trivial⟩ rfl ⟨HLe.refl _, ⟨by omega, by omega⟩⟩ ?_
 rintro ⟨k, A, c⟩ Hl1 ⟨hl3, hG⟩
 replace hbx := hbx.mono hl3
 replace hw := hw.mono hl3
 replace hb := hb.mono hl3
 replace hr1 := hr1.mono hl3
 obtain ⟨hk, hkc⟩ := hG
 have hrl := rndR_len (bx := bx) (ws := ws) hbn k
 refine ew_S (S' := [_]) rfl ?_
 refine ew_cut (e' := [(8, _), (7, _), (0, _), (1, _), (2, _), (6, _)]) [8, 7, 0, 1, 2, 6] rfl ?_
 refine ew_seq ?_
 refine ew_seq ?_
 refine rg (.q 0 (.q 1 XT.done)) (by kernel_rfl) (by kernel_rfl) ?_
 refine q_mv rfl rfl rfl ?_
 refine q_lt rfl rfl rfl rfl ?_
 refine x_end ?_
 refine nk_cut (e' := [(0, _), (1, _), (2, _), (6, _), (7, _), (8, _), (14, _)]) [0, 1, 2, 6, 7, 8, 14] rfl ?_
 refine nk_seq ?_
 refine ew_cond rfl ?_ ?_
 ·intro hc14
  try simp only [decide_eq_true_eq] at hc14
  refine ew_skip ?_
  refine nk_seq ?_
  refine ew_seq ?_
  refine ew_block ?_
  refine rg (.q 0 (.q 1 (.h 2 (.h 3 (.q 4 (.q 5 (.h 6 (.h 7 (.q 8 XT.done))))))))) (by kernel_rfl) (by kernel_rfl) ?_
  refine q_mv rfl rfl rfl ?_
  refine q_mv rfl rfl rfl ?_
  refine pubX (S' := []) 0 rfl rfl ?_
  intro Hp2 hp2 hr2
  replace hbx := hbx.mono hp2
  replace hw := hw.mono hp2
  replace hb := hb.mono hp2
  replace hr1 := hr1.mono hp2
  refine h_call0 Try.call158 rfl rfl rfl (RShift_hc hbx (BS.of (xs := rndR bx ws b k) hr2 hrl hkc)) ?_
  rintro r_ S_ Hp2 hl4 ⟨A3, c3, rfl, rfl, hcap3, rfl⟩
  refine ⟨kp0, ?_⟩
  refine x_S (S' := [_]) rfl ?_
  refine pubX (S' := []) 0 rfl rfl ?_
  intro Hp3 hp3 hr3
  replace hbx := hbx.mono hp3
  replace hw := hw.mono hp3
  replace hb := hb.mono hp3
  replace hr1 := hr1.mono hp3
  replace hr2 := hr2.mono hp3
  refine h_call0 Try.call157 rfl rfl rfl (RMix_hc (BS.of (xs := shiftedR bx (rndR bx ws b k)) hr3 (shiftedR_len _ _) hcap3)) ?_
  rintro r_ S_ Hp3 hl5 ⟨A4, c4, rfl, rfl, hcap4, rfl⟩
  refine ⟨kp0, ?_⟩
  refine x_S (S' := [_]) rfl ?_
  refine q_mv rfl rfl rfl ?_
  refine q_mv rfl rfl rfl ?_
  refine h_call0 Try.call156 rfl rfl rfl (RRk_hc hw (r := 1 + (k : Int)) (by omega) (by omega)) ?_
  rintro r_ S_ Hp3 hl6 ⟨A5, c5, rfl, rfl, hcap5, hrkl2, rfl⟩
  refine ⟨kp0, ?_⟩
  refine x_S (S' := [_, _]) rfl ?_
  refine pubX (S' := [_]) 1 rfl rfl ?_
  intro Hp4 hp4 hr4
  replace hbx := hbx.mono hp4
  replace hw := hw.mono hp4
  replace hb := hb.mono hp4
  replace hr1 := hr1.mono hp4
  replace hr2 := hr2.mono hp4
  replace hr3 := hr3.mono hp4
  refine pubX (S' := []) 0 rfl rfl ?_
  intro Hp5 hp5 hr5
  replace hbx := hbx.mono hp5
  replace hw := hw.mono hp5
  replace hb := hb.mono hp5
  replace hr1 := hr1.mono hp5
  replace hr2 := hr2.mono hp5
  replace hr3 := hr3.mono hp5
  replace hr4 := hr4.mono hp5
  refine h_call0 Try.call155 rfl rfl rfl (RBoth_hc (BS.of (xs := mixedR (shiftedR bx (rndR bx ws b k))) hr4 (mixedR_len _) hcap4) (BS.of hr5 hrkl2 hcap5) (by omega) (by omega)) ?_
  rintro r_ S_ Hp5 hl7 ⟨A6, c6, rfl, rfl, hcap6, rfl⟩
  refine ⟨kp0, ?_⟩
  refine x_S (S' := [_]) rfl ?_
  refine q_as rfl rfl rfl ?_
  refine x_end ?_
  refine nk_cut (e' := [(0, _), (1, _), (2, _), (6, _), (7, _), (8, _), (14, _)]) [0, 1, 2, 6, 7, 8, 14] rfl ?_
  refine nk_blk ?_
  refine nk_seq ?_
  refine rg (.q 0 (.q 1 (.q 2 XT.done))) (by kernel_rfl) (by kernel_rfl) ?_
  refine q_mv rfl rfl rfl ?_
  refine q_add rfl rfl rfl rfl (by omega) (by omega) ?_
  refine q_as rfl rfl rfl ?_
  refine x_end ?_
  refine nk_cut (e' := [(0, _), (1, _), (2, _), (6, _), (7, _), (8, _), (14, _)]) [0, 1, 2, 6, 7, 8, 14] rfl ?_
  refine nk_round (μ := Mv1) (i := (k, A, c)) (S := Sv1) (G := Gv1) (⟨k + 1, A6, c6⟩ : Nat × Option Addr × Nat) ?_ ?_ ?_ ?_
  ·exact ⟨congrArg (fun z => some (SV.i z)) (by omega), congrArg (fun z => some (SV.sl _ z _)) (mixedR_len _), rfl, rfl, rfl, rfl, trivial⟩
  ·exact (by dsimp only [Sv1]; rw [rndR, show (1 + (k : Int)).toNat = k + 1 by omega])
  ·exact ⟨((((hl3.trans hp2).trans hp3).trans hp4).trans hp5), ⟨by omega, by have := mixedR_len (shiftedR bx (rndR bx ws b k)); omega⟩⟩
  ·dsimp only [Mv1]; omega
 ·intro hc14
  try simp only [decide_eq_false_iff_not] at hc14
  have hk13 : k = 13 := by omega
  subst hk13
  refine ew_exit _ rfl ?_
  refine nk_seq ?_
  refine ew_seq ?_
  refine rg (.q 0 (.q 1 (.h 2 (.q 3 (.h 4 (.h 5 (.q 6 XT.done))))))) (by kernel_rfl) (by kernel_rfl) ?_
  refine q_mv rfl rfl rfl ?_
  refine q_mv rfl rfl rfl ?_
  refine pubX (S' := []) 0 rfl rfl ?_
  intro Hp6 hp6 hr6
  replace hbx := hbx.mono hp6
  replace hw := hw.mono hp6
  replace hb := hb.mono hp6
  replace hr1 := hr1.mono hp6
  refine h_call0 Try.call158 rfl rfl rfl (RShift_hc hbx (BS.of (xs := rndR bx ws b 13) hr6 hrl hkc)) ?_
  rintro r_ S_ Hp6 hl8 ⟨A7, c7, rfl, rfl, hcap7, rfl⟩
  refine ⟨kp0, ?_⟩
  refine x_S (S' := [_]) rfl ?_
  refine q_mv rfl rfl rfl ?_
  refine h_call0 Try.call156 rfl rfl rfl (RRk_hc hw (r := 14) (by omega) (by omega)) ?_
  rintro r_ S_ Hp6 hl9 ⟨A8, c8, rfl, rfl, hcap8, hrkl3, rfl⟩
  refine ⟨kp0, ?_⟩
  refine x_S (S' := [_, _]) rfl ?_
  refine pubX (S' := [_]) 1 rfl rfl ?_
  intro Hp7 hp7 hr7
  replace hbx := hbx.mono hp7
  replace hw := hw.mono hp7
  replace hb := hb.mono hp7
  replace hr1 := hr1.mono hp7
  replace hr6 := hr6.mono hp7
  refine pubX (S' := []) 0 rfl rfl ?_
  intro Hp8 hp8 hr8
  replace hbx := hbx.mono hp8
  replace hw := hw.mono hp8
  replace hb := hb.mono hp8
  replace hr1 := hr1.mono hp8
  replace hr6 := hr6.mono hp8
  replace hr7 := hr7.mono hp8
  refine h_call0 Try.call155 rfl rfl rfl (RBoth_hc (BS.of (xs := shiftedR bx (rndR bx ws b 13)) hr7 (shiftedR_len _ _) hcap7) (BS.of hr8 hrkl3 hcap8) (by omega) (by omega)) ?_
  rintro r_ S_ Hp8 hl10 ⟨A9, c9, rfl, rfl, hcap9, rfl⟩
  refine ⟨kp0, ?_⟩
  refine x_S (S' := [_]) rfl ?_
  refine q_as rfl rfl rfl ?_
  refine x_end ?_
  refine nk_cut (e' := [(0, _), (1, _), (2, _), (6, _), (7, _), (8, _), (14, _)]) [0, 1, 2, 6, 7, 8, 14] rfl ?_
  refine nk_seq ?_
  refine ew_retk 0 rfl rfl (.cons (.tmp rfl) .nil) rfl rfl ?_
  exact ⟨A9, c9, congrArg (fun z => SV.sl _ z _) (shiftedR_len _ _), rfl, by have := shiftedR_len bx (rndR bx ws b 13); omega, ((((hp1.trans hl3).trans hp6).trans hp7).trans hp8)⟩

end Go.GW
