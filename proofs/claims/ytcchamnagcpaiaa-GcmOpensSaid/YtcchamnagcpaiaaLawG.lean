/- deedboxlaw06.GcmBack and GcmTag return true, whatever they are given. -/
import Derived.Test.YtcchamnagcpaiaaGcmP
namespace Go.GW
open Go Go.Proofs
set_option linter.unusedSimpArgs false
set_option linter.unusedVariables false


theorem GWorks_hc {H : Hp} :
  HC Try.prog 57 [] [] H (fun r S' H' => r = .b true ∧ S' = [] ∧ HLe H H') := by
 refine hc_intro (n := 74) Try.func57 rfl Try.ntmps57 rfl (fun B hB => ?_)
 refine ew_cut (e' := []) [] rfl ?_
 refine ew_seq ?_
 refine rg (.q 0 XT.done) (by kernel_rfl) (by kernel_rfl) ?_
 refine q_as (sv := .b false) rfl rfl rfl ?_
 refine x_end ?_
 refine nk_cut (e' := [(0, _)]) [0] rfl ?_
 refine nk_seq ?_
 refine ew_seq ?_
 refine rd (by kernel_rfl) [3, 4, 5, 6, 7] [0, 1, 2, 3, 4, 5, 6, 7] (.br 0 (.h 1 (.h 2 (.q 3 (.q 4 (.q 5 (.q 6 (.q 7 XT.done))))))) 1 (.h 0 (.h 2 (.q 3 (.q 4 (.q 5 (.q 6 (.q 7 XT.done)))))))) (by kernel_rfl) (by kernel_rfl) (keepL _ []) (keepL_sub _ _) ?_
 refine x_br ?_ ?_
 ·skip
  refine h_call0 Try.call59 rfl rfl rfl (AesBuild_hc) ?_
  rintro r_ S_ Hn1 hl1 ⟨gt1, rfl, rfl, htab1, hle1⟩
  refine ⟨(fun _ => ⟨by first | exact kpL [] rfl | simp [keepL, nth], hl1⟩), ?_⟩
  refine x_S (S' := []) rfl ?_
  refine h_mk (z := .u8 0) Try.underlying26 info_5 rfl rfl rfl rfl rfl rfl rfl (by omega) (by omega) (by simp only [by_5]; omega) (by omega) ?_
  intro g1
  refine ⟨(fun _ => ⟨by first | exact kpL [] rfl | simp [keepL, nth], hl1⟩), ?_⟩
  refine pubX (S' := []) 0 rfl rfl ?_
  intro Hp1 hp1 hr1
  replace htab1 := htab1.mono hp1
  refine h_call0 Try.call58 rfl rfl rfl (GcmNew_hc htab1 (key := zer 32) (bs_zero hr1 (by decide)) (by decide)) ?_
  rintro r_ S_ Hn2 hl2 ⟨gg1, gc1, gh1, rfl, hgcm1, rfl, hle2⟩
  replace htab1 := htab1.mono hl2
  replace hr1 := hr1.mono hl2
  refine ⟨(fun _ => ⟨by first | exact kpL [] rfl | simp [keepL, nth], ((hl1.trans hp1).trans hl2)⟩), ?_⟩
  refine x_S (S' := []) rfl ?_
  refine q_mv rfl rfl rfl ?_
  refine q_ext rfl rfl rfl rfl ?_
  refine q_ext rfl rfl rfl rfl ?_
  refine q_as rfl rfl rfl ?_
  refine q_as rfl rfl rfl ?_
  refine x_end ?_
  refine nk_cut (e' := [(0, _), (1, _), (2, _)]) [0, 1, 2] rfl ?_
  refine nk_seq ?_
  refine ew_seq ?_
  refine rg (.h 0 (.h 1 (.q 2 (.q 3 (.q 4 (.q 5 (.q 6 XT.done))))))) (by kernel_rfl) (by kernel_rfl) ?_
  refine h_call0 Try.call59 rfl rfl rfl (AesBuild_hc) ?_
  rintro r_ S_ Hn3 hl3 ⟨gt2, rfl, rfl, htab2, hle3⟩
  replace htab1 := htab1.mono hl3
  replace hr1 := hr1.mono hl3
  replace hgcm1 := hgcm1.mono hl3
  refine ⟨kp0, ?_⟩
  refine x_S (S' := []) rfl ?_
  refine h_call0 Try.call58 rfl rfl rfl (GcmNewNo_hc htab2 (BS.nil (A := none) (c := 0)) (by decide)) ?_
  rintro r_ S_ Hn4 hl4 ⟨rfl, rfl, hle4⟩
  replace htab1 := htab1.mono hl4
  replace hr1 := hr1.mono hl4
  replace hgcm1 := hgcm1.mono hl4
  replace htab2 := htab2.mono hl4
  refine ⟨kp0, ?_⟩
  refine x_S (S' := []) rfl ?_
  refine q_mv rfl rfl rfl ?_
  refine q_ext rfl rfl rfl rfl ?_
  refine q_ext rfl rfl rfl rfl ?_
  refine q_as rfl rfl rfl ?_
  refine q_as rfl rfl rfl ?_
  refine x_end ?_
  refine nk_cut (e' := [(0, _), (1, _), (2, _), (4, _)]) [0, 1, 2, 4] rfl ?_
  refine nk_seq ?_
  refine ew_seq ?_
  refine ew_seq ?_
  refine rg (.q 0 (.q 1 XT.done)) (by kernel_rfl) (by kernel_rfl) ?_
  refine q_mv rfl rfl rfl ?_
  refine q_eq_pn Try.underlying104 rfl rfl rfl rfl ?_
  refine x_end ?_
  refine nk_cut (e' := [(0, _), (1, _), (2, _), (4, _), (23, _)]) [0, 1, 2, 4, 23] rfl ?_
  refine nk_seq ?_
  refine ew_false rfl ?_
  refine ew_skip ?_
  refine nk_seq ?_
  refine ew_seq ?_
  refine rd (by kernel_rfl) [0, 4, 5, 6, 7, 8] [0, 1, 2, 3, 4, 5, 6, 7, 8] (.q 0 (.br 1 (.h 2 (.h 3 (.q 4 (.q 5 (.q 6 (.q 7 (.q 8 XT.done))))))) 2 (.h 1 (.h 3 (.q 4 (.q 5 (.q 6 (.q 7 (.q 8 XT.done))))))))) (by kernel_rfl) (by kernel_rfl) (keepL _ []) (keepL_sub _ _) ?_
  refine q_mv rfl rfl rfl ?_
  refine x_br ?_ ?_
  ·skip
   refine h_mk (z := .u8 0) Try.underlying26 info_5 rfl rfl rfl rfl rfl rfl rfl (by omega) (by omega) (by simp only [by_5]; omega) (by omega) ?_
   intro g2
   refine ⟨(fun _ => ⟨by first | exact kpL [] rfl | simp [keepL, nth], HLe.refl _⟩), ?_⟩
   refine h_mk (z := .u8 0) Try.underlying26 info_5 rfl rfl rfl rfl rfl rfl rfl (by omega) (by omega) (by simp only [by_5]; omega) (by omega) ?_
   intro g3
   refine ⟨(fun _ => ⟨by first | exact kpL [] rfl | simp [keepL, nth], HLe.refl _⟩), ?_⟩
   refine pubX (S' := [_]) 1 rfl rfl ?_
   intro Hp2 hp2 hr2
   replace htab1 := htab1.mono hp2
   replace hr1 := hr1.mono hp2
   replace hgcm1 := hgcm1.mono hp2
   replace htab2 := htab2.mono hp2
   refine pubX (S' := []) 0 rfl rfl ?_
   intro Hp3 hp3 hr3
   replace htab1 := htab1.mono hp3
   replace hr1 := hr1.mono hp3
   replace hgcm1 := hgcm1.mono hp3
   replace htab2 := htab2.mono hp3
   replace hr2 := hr2.mono hp3
   have hcs := GcmSeal_hc hgcm1 (nonce := zer 12) (bs_zero (c := 12) hr2 (by decide)) (BS.nil (A := none) (c := 0)) (sd := zer 16) (bs_zero (c := 16) hr3 (by decide)) (by decide)
   rw [wk_sealG] at hcs
   refine h_call0 Try.call61 rfl rfl rfl (hcs) ?_
   rintro r_ S_ Hn5 hl5 ⟨A1, c1, rfl, rfl, hcap1, hle5⟩
   replace htab1 := htab1.mono hl5
   replace hr1 := hr1.mono hl5
   replace hgcm1 := hgcm1.mono hl5
   replace htab2 := htab2.mono hl5
   replace hr2 := hr2.mono hl5
   replace hr3 := hr3.mono hl5
   refine ⟨(fun _ => ⟨by first | exact kpL [] rfl | simp [keepL, nth], ((hp2.trans hp3).trans hl5)⟩), ?_⟩
   refine x_S (S' := [_]) rfl ?_
   refine q_mv rfl rfl rfl ?_
   refine q_ext rfl rfl rfl rfl ?_
   refine q_ext rfl rfl rfl rfl ?_
   refine q_as rfl rfl rfl ?_
   refine q_as rfl rfl rfl ?_
   refine x_end ?_
   refine nk_cut (e' := [(0, _), (1, _), (2, _), (4, _), (5, _), (6, _), (23, _)]) [0, 1, 2, 4, 5, 6, 23] rfl ?_
   refine nk_seq ?_
   refine ew_seq ?_
   refine rg (.q 0 (.h 1 (.q 2 (.h 3 (.q 4 (.q 5 (.q 6 (.q 7 (.q 8 XT.done))))))))) (by kernel_rfl) (by kernel_rfl) ?_
   refine q_mv rfl rfl rfl ?_
   refine h_mk (z := .u8 0) Try.underlying26 info_5 rfl rfl rfl rfl rfl rfl rfl (by omega) (by omega) (by simp only [by_5]; omega) (by omega) ?_
   intro g5
   refine ⟨kp0, ?_⟩
   refine q_mv rfl rfl rfl ?_
   refine pubX (S' := [_]) 0 rfl rfl ?_
   intro Hp4 hp4 hr4
   replace htab1 := htab1.mono hp4
   replace hr1 := hr1.mono hp4
   replace hgcm1 := hgcm1.mono hp4
   replace htab2 := htab2.mono hp4
   replace hr2 := hr2.mono hp4
   replace hr3 := hr3.mono hp4
   refine pubX (S' := []) 0 rfl rfl ?_
   intro Hp5 hp5 hr5
   replace htab1 := htab1.mono hp5
   replace hr1 := hr1.mono hp5
   replace hgcm1 := hgcm1.mono hp5
   replace htab2 := htab2.mono hp5
   replace hr2 := hr2.mono hp5
   replace hr3 := hr3.mono hp5
   replace hr4 := hr4.mono hp5
   have hco := GcmOpen_hc hgcm1 (nonce := zer 12) (bs_zero (c := 12) hr4 (by decide)) (BS.nil (A := none) (c := 0)) (⟨hr5, rfl, hcap1⟩ : BS _ _ _ _ wSealed) (by decide)
   rw [wk_back] at hco
   refine h_call0 Try.call64 rfl rfl rfl (hco) ?_
   rintro r_ S_ Hn6 hl6 ⟨A2, c2, rfl, rfl, hcap2, hle6⟩
   replace htab1 := htab1.mono hl6
   replace hr1 := hr1.mono hl6
   replace hgcm1 := hgcm1.mono hl6
   replace htab2 := htab2.mono hl6
   replace hr2 := hr2.mono hl6
   replace hr3 := hr3.mono hl6
   replace hr4 := hr4.mono hl6
   replace hr5 := hr5.mono hl6
   refine ⟨kp0, ?_⟩
   refine x_S (S' := [_]) rfl ?_
   refine q_mv rfl rfl rfl ?_
   refine q_ext rfl rfl rfl rfl ?_
   refine q_ext rfl rfl rfl rfl ?_
   refine q_as rfl rfl rfl ?_
   refine q_as rfl rfl rfl ?_
   refine x_end ?_
   refine nk_cut (e' := [(0, _), (1, _), (2, _), (4, _), (5, _), (6, _), (7, _), (8, _), (23, _)]) [0, 1, 2, 4, 5, 6, 7, 8, 23] rfl ?_
   refine nk_seq ?_
   refine ew_seq ?_
   refine rg (.q 0 (.h 1 (.h 2 (.q 3 (.h 4 (.q 5 (.q 6 (.q 7 (.q 8 (.q 9 XT.done)))))))))) (by kernel_rfl) (by kernel_rfl) ?_
   refine q_mv rfl rfl rfl ?_
   refine h_mk (z := .u8 0) Try.underlying26 info_5 rfl rfl rfl rfl rfl rfl rfl (by omega) (by omega) (by simp only [by_5]; omega) (by omega) ?_
   intro g7
   refine ⟨kp0, ?_⟩
   refine h_bs (cs := [_]) Try.underlying26 info_5 rfl rfl rfl rfl rfl rfl rfl rfl rfl (by decide) ?_
   intro g8
   refine ⟨kp0, ?_⟩
   refine q_mv rfl rfl rfl ?_
   refine pubX (S' := [_, _]) 1 rfl rfl ?_
   intro Hp6 hp6 hr6
   replace htab1 := htab1.mono hp6
   replace hr1 := hr1.mono hp6
   replace hgcm1 := hgcm1.mono hp6
   replace htab2 := htab2.mono hp6
   replace hr2 := hr2.mono hp6
   replace hr3 := hr3.mono hp6
   replace hr4 := hr4.mono hp6
   replace hr5 := hr5.mono hp6
   refine pubX (S' := [_]) 0 rfl rfl ?_
   intro Hp7 hp7 hr7
   replace htab1 := htab1.mono hp7
   replace hr1 := hr1.mono hp7
   replace hgcm1 := hgcm1.mono hp7
   replace htab2 := htab2.mono hp7
   replace hr2 := hr2.mono hp7
   replace hr3 := hr3.mono hp7
   replace hr4 := hr4.mono hp7
   replace hr5 := hr5.mono hp7
   replace hr6 := hr6.mono hp7
   have hco := GcmOpen_hc hgcm1 (nonce := zer 12) (bs_zero (c := 12) hr6 (by decide)) (⟨hr7, rfl, Nat.le_refl _⟩ : BS _ _ 1 1 [1]) (⟨hr5, rfl, hcap1⟩ : BS _ _ _ _ wSealed) (by decide)
   rw [wk_open] at hco
   refine h_call0 Try.call64 rfl rfl rfl (hco) ?_
   rintro r_ S_ Hn7 hl7 ⟨A3, c3, rfl, rfl, hcap3, hle7⟩
   replace htab1 := htab1.mono hl7
   replace hr1 := hr1.mono hl7
   replace hgcm1 := hgcm1.mono hl7
   replace htab2 := htab2.mono hl7
   replace hr2 := hr2.mono hl7
   replace hr3 := hr3.mono hl7
   replace hr4 := hr4.mono hl7
   replace hr5 := hr5.mono hl7
   replace hr6 := hr6.mono hl7
   replace hr7 := hr7.mono hl7
   refine ⟨kp0, ?_⟩
   refine x_S (S' := [_, _]) rfl ?_
   refine q_mv rfl rfl rfl ?_
   refine q_ext rfl rfl rfl rfl ?_
   refine q_ext rfl rfl rfl rfl ?_
   refine q_as rfl rfl rfl ?_
   refine q_as rfl rfl rfl ?_
   refine x_end ?_
   refine nk_cut (e' := [(0, _), (1, _), (2, _), (4, _), (5, _), (6, _), (7, _), (8, _), (10, _), (23, _)]) [0, 1, 2, 4, 5, 6, 7, 8, 10, 23] rfl ?_
   refine nk_seq ?_
   refine ew_seq ?_
   refine rg (.q 0 (.q 1 (.q 2 (.q 3 (.q 4 (.q 5 (.q 6 (.q 7 (.q 8 (.q 9 (.q 10 (.q 11 (.h 12 (.q 13 (.q 14 (.q 15 (.q 16 (.q 17 (.q 18 (.q 19 (.q 20 (.q 21 (.q 22 (.q 23 (.q 24 (.q 25 (.q 26 (.q 27 (.q 28 XT.done))))))))))))))))))))))))))))) (by kernel_rfl) (by kernel_rfl) ?_
   refine q_mv rfl rfl rfl ?_
   refine q_eq rfl rfl rfl rfl ?_
   refine x_T (by simp) ?_
   refine q_mv rfl rfl rfl ?_
   refine q_mv rfl rfl rfl ?_
   refine q_eq rfl rfl rfl rfl ?_
   refine x_T (by simp) ?_
   refine q_pkT rfl rfl rfl rfl ?_
   refine q_mv rfl rfl rfl ?_
   refine q_mv rfl rfl rfl ?_
   refine q_eq rfl rfl rfl rfl ?_
   refine x_T (by simp) ?_
   refine q_pkT rfl rfl rfl rfl ?_
   refine q_mv rfl rfl rfl ?_
   refine q_mv rfl rfl rfl ?_
   refine h_call0 Try.call102 rfl rfl rfl (Hex_hc (⟨hr5, rfl, hcap1⟩ : BS _ _ _ _ wSealed) (by decide)) ?_
   rintro r_ S_ Hn8 hl8 ⟨rfl, rfl, hle8⟩
   replace htab1 := htab1.mono hl8
   replace hr1 := hr1.mono hl8
   replace hgcm1 := hgcm1.mono hl8
   replace htab2 := htab2.mono hl8
   replace hr2 := hr2.mono hl8
   replace hr3 := hr3.mono hl8
   replace hr4 := hr4.mono hl8
   replace hr5 := hr5.mono hl8
   replace hr6 := hr6.mono hl8
   replace hr7 := hr7.mono hl8
   refine ⟨kp0, ?_⟩
   refine x_S (S' := [_, _]) rfl ?_
   refine q_eq_s rfl rfl rfl rfl ?_
   refine x_T (by decide +kernel) ?_
   refine q_pkT rfl rfl rfl rfl ?_
   refine q_mv rfl rfl rfl ?_
   refine q_mv rfl rfl rfl ?_
   refine q_eq rfl rfl rfl rfl ?_
   refine x_T (by simp) ?_
   refine q_pkT rfl rfl rfl rfl ?_
   refine q_mv rfl rfl rfl ?_
   refine q_mv rfl rfl rfl ?_
   refine q_len Try.underlying26 rfl rfl rfl ?_
   refine q_eq rfl rfl rfl rfl ?_
   refine x_T (by decide) ?_
   refine q_pkT rfl rfl rfl rfl ?_
   refine q_mv rfl rfl rfl ?_
   refine q_mv rfl rfl rfl ?_
   refine q_eq rfl rfl rfl rfl ?_
   refine x_T (by simp) ?_
   refine q_pkT rfl rfl rfl rfl ?_
   refine q_as rfl rfl rfl ?_
   refine x_end ?_
   refine nk_cut (e' := [(0, _), (1, _), (2, _), (4, _), (5, _), (6, _), (7, _), (8, _), (10, _), (23, _)]) [0, 1, 2, 4, 5, 6, 7, 8, 10, 23] rfl ?_
   refine nk_seq ?_
   refine ew_retS rfl rfl (.cons (.tmp rfl) .nil) ?_
   exact ⟨rfl, rfl, ((((((((((((((hl1.trans hp1).trans hl2).trans hl3).trans hl4).trans hp2).trans hp3).trans hl5).trans hp4).trans hp5).trans hl6).trans hp6).trans hp7).trans hl7).trans hl8)⟩
  ·skip
   refine h_mk (z := .u8 0) Try.underlying26 info_5 rfl rfl rfl rfl rfl rfl rfl (by omega) (by omega) (by simp only [by_5]; omega) (by omega) ?_
   intro g10
   refine ⟨(fun _ => ⟨by first | exact kpL [] rfl | simp [keepL, nth], HLe.refl _⟩), ?_⟩
   refine h_mk (z := .u8 0) Try.underlying26 info_5 rfl rfl rfl rfl rfl rfl rfl (by omega) (by omega) (by simp only [by_5]; omega) (by omega) ?_
   intro g11
   refine ⟨(fun _ => ⟨by first | exact kpL [] rfl | simp [keepL, nth], HLe.refl _⟩), ?_⟩
   refine pubX (S' := [_]) 0 rfl rfl ?_
   intro Hp8 hp8 hr8
   replace htab1 := htab1.mono hp8
   replace hr1 := hr1.mono hp8
   replace hgcm1 := hgcm1.mono hp8
   replace htab2 := htab2.mono hp8
   refine pubX (S' := []) 0 rfl rfl ?_
   intro Hp9 hp9 hr9
   replace htab1 := htab1.mono hp9
   replace hr1 := hr1.mono hp9
   replace hgcm1 := hgcm1.mono hp9
   replace htab2 := htab2.mono hp9
   replace hr8 := hr8.mono hp9
   have hcs := GcmSeal_hc hgcm1 (nonce := zer 12) (bs_zero (c := 12) hr8 (by decide)) (BS.nil (A := none) (c := 0)) (sd := zer 16) (bs_zero (c := 16) hr9 (by decide)) (by decide)
   rw [wk_sealG] at hcs
   refine h_call0 Try.call61 rfl rfl rfl (hcs) ?_
   rintro r_ S_ Hn9 hl9 ⟨A4, c4, rfl, rfl, hcap4, hle9⟩
   replace htab1 := htab1.mono hl9
   replace hr1 := hr1.mono hl9
   replace hgcm1 := hgcm1.mono hl9
   replace htab2 := htab2.mono hl9
   replace hr8 := hr8.mono hl9
   replace hr9 := hr9.mono hl9
   refine ⟨(fun _ => ⟨by first | exact kpL [] rfl | simp [keepL, nth], ((hp8.trans hp9).trans hl9)⟩), ?_⟩
   refine x_S (S' := [_]) rfl ?_
   refine q_mv rfl rfl rfl ?_
   refine q_ext rfl rfl rfl rfl ?_
   refine q_ext rfl rfl rfl rfl ?_
   refine q_as rfl rfl rfl ?_
   refine q_as rfl rfl rfl ?_
   refine x_end ?_
   refine nk_cut (e' := [(0, _), (1, _), (2, _), (4, _), (5, _), (6, _), (23, _)]) [0, 1, 2, 4, 5, 6, 23] rfl ?_
   refine nk_seq ?_
   refine ew_seq ?_
   refine rg (.q 0 (.h 1 (.q 2 (.h 3 (.q 4 (.q 5 (.q 6 (.q 7 (.q 8 XT.done))))))))) (by kernel_rfl) (by kernel_rfl) ?_
   refine q_mv rfl rfl rfl ?_
   refine h_mk (z := .u8 0) Try.underlying26 info_5 rfl rfl rfl rfl rfl rfl rfl (by omega) (by omega) (by simp only [by_5]; omega) (by omega) ?_
   intro g13
   refine ⟨kp0, ?_⟩
   refine q_mv rfl rfl rfl ?_
   refine pubX (S' := [_]) 0 rfl rfl ?_
   intro Hp10 hp10 hr10
   replace htab1 := htab1.mono hp10
   replace hr1 := hr1.mono hp10
   replace hgcm1 := hgcm1.mono hp10
   replace htab2 := htab2.mono hp10
   replace hr8 := hr8.mono hp10
   replace hr9 := hr9.mono hp10
   refine pubX (S' := []) 0 rfl rfl ?_
   intro Hp11 hp11 hr11
   replace htab1 := htab1.mono hp11
   replace hr1 := hr1.mono hp11
   replace hgcm1 := hgcm1.mono hp11
   replace htab2 := htab2.mono hp11
   replace hr8 := hr8.mono hp11
   replace hr9 := hr9.mono hp11
   replace hr10 := hr10.mono hp11
   have hco := GcmOpen_hc hgcm1 (nonce := zer 12) (bs_zero (c := 12) hr10 (by decide)) (BS.nil (A := none) (c := 0)) (⟨hr11, rfl, hcap4⟩ : BS _ _ _ _ wSealed) (by decide)
   rw [wk_back] at hco
   refine h_call0 Try.call64 rfl rfl rfl (hco) ?_
   rintro r_ S_ Hn10 hl10 ⟨A5, c5, rfl, rfl, hcap5, hle10⟩
   replace htab1 := htab1.mono hl10
   replace hr1 := hr1.mono hl10
   replace hgcm1 := hgcm1.mono hl10
   replace htab2 := htab2.mono hl10
   replace hr8 := hr8.mono hl10
   replace hr9 := hr9.mono hl10
   replace hr10 := hr10.mono hl10
   replace hr11 := hr11.mono hl10
   refine ⟨kp0, ?_⟩
   refine x_S (S' := [_]) rfl ?_
   refine q_mv rfl rfl rfl ?_
   refine q_ext rfl rfl rfl rfl ?_
   refine q_ext rfl rfl rfl rfl ?_
   refine q_as rfl rfl rfl ?_
   refine q_as rfl rfl rfl ?_
   refine x_end ?_
   refine nk_cut (e' := [(0, _), (1, _), (2, _), (4, _), (5, _), (6, _), (7, _), (8, _), (23, _)]) [0, 1, 2, 4, 5, 6, 7, 8, 23] rfl ?_
   refine nk_seq ?_
   refine ew_seq ?_
   refine rg (.q 0 (.h 1 (.h 2 (.q 3 (.h 4 (.q 5 (.q 6 (.q 7 (.q 8 (.q 9 XT.done)))))))))) (by kernel_rfl) (by kernel_rfl) ?_
   refine q_mv rfl rfl rfl ?_
   refine h_mk (z := .u8 0) Try.underlying26 info_5 rfl rfl rfl rfl rfl rfl rfl (by omega) (by omega) (by simp only [by_5]; omega) (by omega) ?_
   intro g15
   refine ⟨kp0, ?_⟩
   refine h_bs (cs := [_]) Try.underlying26 info_5 rfl rfl rfl rfl rfl rfl rfl rfl rfl (by decide) ?_
   intro g16
   refine ⟨kp0, ?_⟩
   refine q_mv rfl rfl rfl ?_
   refine pubX (S' := [_, _]) 1 rfl rfl ?_
   intro Hp12 hp12 hr12
   replace htab1 := htab1.mono hp12
   replace hr1 := hr1.mono hp12
   replace hgcm1 := hgcm1.mono hp12
   replace htab2 := htab2.mono hp12
   replace hr8 := hr8.mono hp12
   replace hr9 := hr9.mono hp12
   replace hr10 := hr10.mono hp12
   replace hr11 := hr11.mono hp12
   refine pubX (S' := [_]) 0 rfl rfl ?_
   intro Hp13 hp13 hr13
   replace htab1 := htab1.mono hp13
   replace hr1 := hr1.mono hp13
   replace hgcm1 := hgcm1.mono hp13
   replace htab2 := htab2.mono hp13
   replace hr8 := hr8.mono hp13
   replace hr9 := hr9.mono hp13
   replace hr10 := hr10.mono hp13
   replace hr11 := hr11.mono hp13
   replace hr12 := hr12.mono hp13
   have hco := GcmOpen_hc hgcm1 (nonce := zer 12) (bs_zero (c := 12) hr12 (by decide)) (⟨hr13, rfl, Nat.le_refl _⟩ : BS _ _ 1 1 [1]) (⟨hr11, rfl, hcap4⟩ : BS _ _ _ _ wSealed) (by decide)
   rw [wk_open] at hco
   refine h_call0 Try.call64 rfl rfl rfl (hco) ?_
   rintro r_ S_ Hn11 hl11 ⟨A6, c6, rfl, rfl, hcap6, hle11⟩
   replace htab1 := htab1.mono hl11
   replace hr1 := hr1.mono hl11
   replace hgcm1 := hgcm1.mono hl11
   replace htab2 := htab2.mono hl11
   replace hr8 := hr8.mono hl11
   replace hr9 := hr9.mono hl11
   replace hr10 := hr10.mono hl11
   replace hr11 := hr11.mono hl11
   replace hr12 := hr12.mono hl11
   replace hr13 := hr13.mono hl11
   refine ⟨kp0, ?_⟩
   refine x_S (S' := [_, _]) rfl ?_
   refine q_mv rfl rfl rfl ?_
   refine q_ext rfl rfl rfl rfl ?_
   refine q_ext rfl rfl rfl rfl ?_
   refine q_as rfl rfl rfl ?_
   refine q_as rfl rfl rfl ?_
   refine x_end ?_
   refine nk_cut (e' := [(0, _), (1, _), (2, _), (4, _), (5, _), (6, _), (7, _), (8, _), (10, _), (23, _)]) [0, 1, 2, 4, 5, 6, 7, 8, 10, 23] rfl ?_
   refine nk_seq ?_
   refine ew_seq ?_
   refine rg (.q 0 (.q 1 (.q 2 (.q 3 (.q 4 (.q 5 (.q 6 (.q 7 (.q 8 (.q 9 (.q 10 (.q 11 (.h 12 (.q 13 (.q 14 (.q 15 (.q 16 (.q 17 (.q 18 (.q 19 (.q 20 (.q 21 (.q 22 (.q 23 (.q 24 (.q 25 (.q 26 (.q 27 (.q 28 XT.done))))))))))))))))))))))))))))) (by kernel_rfl) (by kernel_rfl) ?_
   refine q_mv rfl rfl rfl ?_
   refine q_eq rfl rfl rfl rfl ?_
   refine x_T (by simp) ?_
   refine q_mv rfl rfl rfl ?_
   refine q_mv rfl rfl rfl ?_
   refine q_eq rfl rfl rfl rfl ?_
   refine x_T (by simp) ?_
   refine q_pkT rfl rfl rfl rfl ?_
   refine q_mv rfl rfl rfl ?_
   refine q_mv rfl rfl rfl ?_
   refine q_eq rfl rfl rfl rfl ?_
   refine x_T (by simp) ?_
   refine q_pkT rfl rfl rfl rfl ?_
   refine q_mv rfl rfl rfl ?_
   refine q_mv rfl rfl rfl ?_
   refine h_call0 Try.call102 rfl rfl rfl (Hex_hc (⟨hr11, rfl, hcap4⟩ : BS _ _ _ _ wSealed) (by decide)) ?_
   rintro r_ S_ Hn12 hl12 ⟨rfl, rfl, hle12⟩
   replace htab1 := htab1.mono hl12
   replace hr1 := hr1.mono hl12
   replace hgcm1 := hgcm1.mono hl12
   replace htab2 := htab2.mono hl12
   replace hr8 := hr8.mono hl12
   replace hr9 := hr9.mono hl12
   replace hr10 := hr10.mono hl12
   replace hr11 := hr11.mono hl12
   replace hr12 := hr12.mono hl12
   replace hr13 := hr13.mono hl12
   refine ⟨kp0, ?_⟩
   refine x_S (S' := [_, _]) rfl ?_
   refine q_eq_s rfl rfl rfl rfl ?_
   refine x_T (by decide +kernel) ?_
   refine q_pkT rfl rfl rfl rfl ?_
   refine q_mv rfl rfl rfl ?_
   refine q_mv rfl rfl rfl ?_
   refine q_eq rfl rfl rfl rfl ?_
   refine x_T (by simp) ?_
   refine q_pkT rfl rfl rfl rfl ?_
   refine q_mv rfl rfl rfl ?_
   refine q_mv rfl rfl rfl ?_
   refine q_len Try.underlying26 rfl rfl rfl ?_
   refine q_eq rfl rfl rfl rfl ?_
   refine x_T (by decide) ?_
   refine q_pkT rfl rfl rfl rfl ?_
   refine q_mv rfl rfl rfl ?_
   refine q_mv rfl rfl rfl ?_
   refine q_eq rfl rfl rfl rfl ?_
   refine x_T (by simp) ?_
   refine q_pkT rfl rfl rfl rfl ?_
   refine q_as rfl rfl rfl ?_
   refine x_end ?_
   refine nk_cut (e' := [(0, _), (1, _), (2, _), (4, _), (5, _), (6, _), (7, _), (8, _), (10, _), (23, _)]) [0, 1, 2, 4, 5, 6, 7, 8, 10, 23] rfl ?_
   refine nk_seq ?_
   refine ew_retS rfl rfl (.cons (.tmp rfl) .nil) ?_
   exact ⟨rfl, rfl, ((((((((((((((hl1.trans hp1).trans hl2).trans hl3).trans hl4).trans hp8).trans hp9).trans hl9).trans hp10).trans hp11).trans hl10).trans hp12).trans hp13).trans hl11).trans hl12)⟩
 ·skip
  refine h_mk (z := .u8 0) Try.underlying26 info_5 rfl rfl rfl rfl rfl rfl rfl (by omega) (by omega) (by simp only [by_5]; omega) (by omega) ?_
  intro g18
  refine ⟨(fun _ => ⟨by first | exact kpL [] rfl | simp [keepL, nth], HLe.refl _⟩), ?_⟩
  refine h_call0 Try.call59 rfl rfl rfl (AesBuild_hc) ?_
  rintro r_ S_ Hn13 hl13 ⟨gt3, rfl, rfl, htab3, hle13⟩
  refine ⟨(fun _ => ⟨by first | exact kpL [] rfl | simp [keepL, nth], hl13⟩), ?_⟩
  refine x_S (S' := [_]) rfl ?_
  refine pubX (S' := []) 0 rfl rfl ?_
  intro Hp14 hp14 hr14
  replace htab3 := htab3.mono hp14
  refine h_call0 Try.call58 rfl rfl rfl (GcmNew_hc htab3 (key := zer 32) (bs_zero hr14 (by decide)) (by decide)) ?_
  rintro r_ S_ Hn14 hl14 ⟨gg2, gc2, gh2, rfl, hgcm2, rfl, hle14⟩
  replace htab3 := htab3.mono hl14
  replace hr14 := hr14.mono hl14
  refine ⟨(fun _ => ⟨by first | exact kpL [] rfl | simp [keepL, nth], ((hl13.trans hp14).trans hl14)⟩), ?_⟩
  refine x_S (S' := []) rfl ?_
  refine q_mv rfl rfl rfl ?_
  refine q_ext rfl rfl rfl rfl ?_
  refine q_ext rfl rfl rfl rfl ?_
  refine q_as rfl rfl rfl ?_
  refine q_as rfl rfl rfl ?_
  refine x_end ?_
  refine nk_cut (e' := [(0, _), (1, _), (2, _)]) [0, 1, 2] rfl ?_
  refine nk_seq ?_
  refine ew_seq ?_
  refine rg (.h 0 (.h 1 (.q 2 (.q 3 (.q 4 (.q 5 (.q 6 XT.done))))))) (by kernel_rfl) (by kernel_rfl) ?_
  refine h_call0 Try.call59 rfl rfl rfl (AesBuild_hc) ?_
  rintro r_ S_ Hn15 hl15 ⟨gt4, rfl, rfl, htab4, hle15⟩
  replace htab3 := htab3.mono hl15
  replace hr14 := hr14.mono hl15
  replace hgcm2 := hgcm2.mono hl15
  refine ⟨kp0, ?_⟩
  refine x_S (S' := []) rfl ?_
  refine h_call0 Try.call58 rfl rfl rfl (GcmNewNo_hc htab4 (BS.nil (A := none) (c := 0)) (by decide)) ?_
  rintro r_ S_ Hn16 hl16 ⟨rfl, rfl, hle16⟩
  replace htab3 := htab3.mono hl16
  replace hr14 := hr14.mono hl16
  replace hgcm2 := hgcm2.mono hl16
  replace htab4 := htab4.mono hl16
  refine ⟨kp0, ?_⟩
  refine x_S (S' := []) rfl ?_
  refine q_mv rfl rfl rfl ?_
  refine q_ext rfl rfl rfl rfl ?_
  refine q_ext rfl rfl rfl rfl ?_
  refine q_as rfl rfl rfl ?_
  refine q_as rfl rfl rfl ?_
  refine x_end ?_
  refine nk_cut (e' := [(0, _), (1, _), (2, _), (4, _)]) [0, 1, 2, 4] rfl ?_
  refine nk_seq ?_
  refine ew_seq ?_
  refine ew_seq ?_
  refine rg (.q 0 (.q 1 XT.done)) (by kernel_rfl) (by kernel_rfl) ?_
  refine q_mv rfl rfl rfl ?_
  refine q_eq_pn Try.underlying104 rfl rfl rfl rfl ?_
  refine x_end ?_
  refine nk_cut (e' := [(0, _), (1, _), (2, _), (4, _), (23, _)]) [0, 1, 2, 4, 23] rfl ?_
  refine nk_seq ?_
  refine ew_false rfl ?_
  refine ew_skip ?_
  refine nk_seq ?_
  refine ew_seq ?_
  refine rd (by kernel_rfl) [0, 4, 5, 6, 7, 8] [0, 1, 2, 3, 4, 5, 6, 7, 8] (.q 0 (.br 1 (.h 2 (.h 3 (.q 4 (.q 5 (.q 6 (.q 7 (.q 8 XT.done))))))) 2 (.h 1 (.h 3 (.q 4 (.q 5 (.q 6 (.q 7 (.q 8 XT.done))))))))) (by kernel_rfl) (by kernel_rfl) (keepL _ []) (keepL_sub _ _) ?_
  refine q_mv rfl rfl rfl ?_
  refine x_br ?_ ?_
  ·skip
   refine h_mk (z := .u8 0) Try.underlying26 info_5 rfl rfl rfl rfl rfl rfl rfl (by omega) (by omega) (by simp only [by_5]; omega) (by omega) ?_
   intro g19
   refine ⟨(fun _ => ⟨by first | exact kpL [] rfl | simp [keepL, nth], HLe.refl _⟩), ?_⟩
   refine h_mk (z := .u8 0) Try.underlying26 info_5 rfl rfl rfl rfl rfl rfl rfl (by omega) (by omega) (by simp only [by_5]; omega) (by omega) ?_
   intro g20
   refine ⟨(fun _ => ⟨by first | exact kpL [] rfl | simp [keepL, nth], HLe.refl _⟩), ?_⟩
   refine pubX (S' := [_]) 1 rfl rfl ?_
   intro Hp15 hp15 hr15
   replace htab3 := htab3.mono hp15
   replace hr14 := hr14.mono hp15
   replace hgcm2 := hgcm2.mono hp15
   replace htab4 := htab4.mono hp15
   refine pubX (S' := []) 0 rfl rfl ?_
   intro Hp16 hp16 hr16
   replace htab3 := htab3.mono hp16
   replace hr14 := hr14.mono hp16
   replace hgcm2 := hgcm2.mono hp16
   replace htab4 := htab4.mono hp16
   replace hr15 := hr15.mono hp16
   have hcs := GcmSeal_hc hgcm2 (nonce := zer 12) (bs_zero (c := 12) hr15 (by decide)) (BS.nil (A := none) (c := 0)) (sd := zer 16) (bs_zero (c := 16) hr16 (by decide)) (by decide)
   rw [wk_sealG] at hcs
   refine h_call0 Try.call61 rfl rfl rfl (hcs) ?_
   rintro r_ S_ Hn17 hl17 ⟨A7, c7, rfl, rfl, hcap7, hle17⟩
   replace htab3 := htab3.mono hl17
   replace hr14 := hr14.mono hl17
   replace hgcm2 := hgcm2.mono hl17
   replace htab4 := htab4.mono hl17
   replace hr15 := hr15.mono hl17
   replace hr16 := hr16.mono hl17
   refine ⟨(fun _ => ⟨by first | exact kpL [] rfl | simp [keepL, nth], ((hp15.trans hp16).trans hl17)⟩), ?_⟩
   refine x_S (S' := [_]) rfl ?_
   refine q_mv rfl rfl rfl ?_
   refine q_ext rfl rfl rfl rfl ?_
   refine q_ext rfl rfl rfl rfl ?_
   refine q_as rfl rfl rfl ?_
   refine q_as rfl rfl rfl ?_
   refine x_end ?_
   refine nk_cut (e' := [(0, _), (1, _), (2, _), (4, _), (5, _), (6, _), (23, _)]) [0, 1, 2, 4, 5, 6, 23] rfl ?_
   refine nk_seq ?_
   refine ew_seq ?_
   refine rg (.q 0 (.h 1 (.q 2 (.h 3 (.q 4 (.q 5 (.q 6 (.q 7 (.q 8 XT.done))))))))) (by kernel_rfl) (by kernel_rfl) ?_
   refine q_mv rfl rfl rfl ?_
   refine h_mk (z := .u8 0) Try.underlying26 info_5 rfl rfl rfl rfl rfl rfl rfl (by omega) (by omega) (by simp only [by_5]; omega) (by omega) ?_
   intro g22
   refine ⟨kp0, ?_⟩
   refine q_mv rfl rfl rfl ?_
   refine pubX (S' := [_]) 0 rfl rfl ?_
   intro Hp17 hp17 hr17
   replace htab3 := htab3.mono hp17
   replace hr14 := hr14.mono hp17
   replace hgcm2 := hgcm2.mono hp17
   replace htab4 := htab4.mono hp17
   replace hr15 := hr15.mono hp17
   replace hr16 := hr16.mono hp17
   refine pubX (S' := []) 0 rfl rfl ?_
   intro Hp18 hp18 hr18
   replace htab3 := htab3.mono hp18
   replace hr14 := hr14.mono hp18
   replace hgcm2 := hgcm2.mono hp18
   replace htab4 := htab4.mono hp18
   replace hr15 := hr15.mono hp18
   replace hr16 := hr16.mono hp18
   replace hr17 := hr17.mono hp18
   have hco := GcmOpen_hc hgcm2 (nonce := zer 12) (bs_zero (c := 12) hr17 (by decide)) (BS.nil (A := none) (c := 0)) (⟨hr18, rfl, hcap7⟩ : BS _ _ _ _ wSealed) (by decide)
   rw [wk_back] at hco
   refine h_call0 Try.call64 rfl rfl rfl (hco) ?_
   rintro r_ S_ Hn18 hl18 ⟨A8, c8, rfl, rfl, hcap8, hle18⟩
   replace htab3 := htab3.mono hl18
   replace hr14 := hr14.mono hl18
   replace hgcm2 := hgcm2.mono hl18
   replace htab4 := htab4.mono hl18
   replace hr15 := hr15.mono hl18
   replace hr16 := hr16.mono hl18
   replace hr17 := hr17.mono hl18
   replace hr18 := hr18.mono hl18
   refine ⟨kp0, ?_⟩
   refine x_S (S' := [_]) rfl ?_
   refine q_mv rfl rfl rfl ?_
   refine q_ext rfl rfl rfl rfl ?_
   refine q_ext rfl rfl rfl rfl ?_
   refine q_as rfl rfl rfl ?_
   refine q_as rfl rfl rfl ?_
   refine x_end ?_
   refine nk_cut (e' := [(0, _), (1, _), (2, _), (4, _), (5, _), (6, _), (7, _), (8, _), (23, _)]) [0, 1, 2, 4, 5, 6, 7, 8, 23] rfl ?_
   refine nk_seq ?_
   refine ew_seq ?_
   refine rg (.q 0 (.h 1 (.h 2 (.q 3 (.h 4 (.q 5 (.q 6 (.q 7 (.q 8 (.q 9 XT.done)))))))))) (by kernel_rfl) (by kernel_rfl) ?_
   refine q_mv rfl rfl rfl ?_
   refine h_mk (z := .u8 0) Try.underlying26 info_5 rfl rfl rfl rfl rfl rfl rfl (by omega) (by omega) (by simp only [by_5]; omega) (by omega) ?_
   intro g24
   refine ⟨kp0, ?_⟩
   refine h_bs (cs := [_]) Try.underlying26 info_5 rfl rfl rfl rfl rfl rfl rfl rfl rfl (by decide) ?_
   intro g25
   refine ⟨kp0, ?_⟩
   refine q_mv rfl rfl rfl ?_
   refine pubX (S' := [_, _]) 1 rfl rfl ?_
   intro Hp19 hp19 hr19
   replace htab3 := htab3.mono hp19
   replace hr14 := hr14.mono hp19
   replace hgcm2 := hgcm2.mono hp19
   replace htab4 := htab4.mono hp19
   replace hr15 := hr15.mono hp19
   replace hr16 := hr16.mono hp19
   replace hr17 := hr17.mono hp19
   replace hr18 := hr18.mono hp19
   refine pubX (S' := [_]) 0 rfl rfl ?_
   intro Hp20 hp20 hr20
   replace htab3 := htab3.mono hp20
   replace hr14 := hr14.mono hp20
   replace hgcm2 := hgcm2.mono hp20
   replace htab4 := htab4.mono hp20
   replace hr15 := hr15.mono hp20
   replace hr16 := hr16.mono hp20
   replace hr17 := hr17.mono hp20
   replace hr18 := hr18.mono hp20
   replace hr19 := hr19.mono hp20
   have hco := GcmOpen_hc hgcm2 (nonce := zer 12) (bs_zero (c := 12) hr19 (by decide)) (⟨hr20, rfl, Nat.le_refl _⟩ : BS _ _ 1 1 [1]) (⟨hr18, rfl, hcap7⟩ : BS _ _ _ _ wSealed) (by decide)
   rw [wk_open] at hco
   refine h_call0 Try.call64 rfl rfl rfl (hco) ?_
   rintro r_ S_ Hn19 hl19 ⟨A9, c9, rfl, rfl, hcap9, hle19⟩
   replace htab3 := htab3.mono hl19
   replace hr14 := hr14.mono hl19
   replace hgcm2 := hgcm2.mono hl19
   replace htab4 := htab4.mono hl19
   replace hr15 := hr15.mono hl19
   replace hr16 := hr16.mono hl19
   replace hr17 := hr17.mono hl19
   replace hr18 := hr18.mono hl19
   replace hr19 := hr19.mono hl19
   replace hr20 := hr20.mono hl19
   refine ⟨kp0, ?_⟩
   refine x_S (S' := [_, _]) rfl ?_
   refine q_mv rfl rfl rfl ?_
   refine q_ext rfl rfl rfl rfl ?_
   refine q_ext rfl rfl rfl rfl ?_
   refine q_as rfl rfl rfl ?_
   refine q_as rfl rfl rfl ?_
   refine x_end ?_
   refine nk_cut (e' := [(0, _), (1, _), (2, _), (4, _), (5, _), (6, _), (7, _), (8, _), (10, _), (23, _)]) [0, 1, 2, 4, 5, 6, 7, 8, 10, 23] rfl ?_
   refine nk_seq ?_
   refine ew_seq ?_
   refine rg (.q 0 (.q 1 (.q 2 (.q 3 (.q 4 (.q 5 (.q 6 (.q 7 (.q 8 (.q 9 (.q 10 (.q 11 (.h 12 (.q 13 (.q 14 (.q 15 (.q 16 (.q 17 (.q 18 (.q 19 (.q 20 (.q 21 (.q 22 (.q 23 (.q 24 (.q 25 (.q 26 (.q 27 (.q 28 XT.done))))))))))))))))))))))))))))) (by kernel_rfl) (by kernel_rfl) ?_
   refine q_mv rfl rfl rfl ?_
   refine q_eq rfl rfl rfl rfl ?_
   refine x_T (by simp) ?_
   refine q_mv rfl rfl rfl ?_
   refine q_mv rfl rfl rfl ?_
   refine q_eq rfl rfl rfl rfl ?_
   refine x_T (by simp) ?_
   refine q_pkT rfl rfl rfl rfl ?_
   refine q_mv rfl rfl rfl ?_
   refine q_mv rfl rfl rfl ?_
   refine q_eq rfl rfl rfl rfl ?_
   refine x_T (by simp) ?_
   refine q_pkT rfl rfl rfl rfl ?_
   refine q_mv rfl rfl rfl ?_
   refine q_mv rfl rfl rfl ?_
   refine h_call0 Try.call102 rfl rfl rfl (Hex_hc (⟨hr18, rfl, hcap7⟩ : BS _ _ _ _ wSealed) (by decide)) ?_
   rintro r_ S_ Hn20 hl20 ⟨rfl, rfl, hle20⟩
   replace htab3 := htab3.mono hl20
   replace hr14 := hr14.mono hl20
   replace hgcm2 := hgcm2.mono hl20
   replace htab4 := htab4.mono hl20
   replace hr15 := hr15.mono hl20
   replace hr16 := hr16.mono hl20
   replace hr17 := hr17.mono hl20
   replace hr18 := hr18.mono hl20
   replace hr19 := hr19.mono hl20
   replace hr20 := hr20.mono hl20
   refine ⟨kp0, ?_⟩
   refine x_S (S' := [_, _]) rfl ?_
   refine q_eq_s rfl rfl rfl rfl ?_
   refine x_T (by decide +kernel) ?_
   refine q_pkT rfl rfl rfl rfl ?_
   refine q_mv rfl rfl rfl ?_
   refine q_mv rfl rfl rfl ?_
   refine q_eq rfl rfl rfl rfl ?_
   refine x_T (by simp) ?_
   refine q_pkT rfl rfl rfl rfl ?_
   refine q_mv rfl rfl rfl ?_
   refine q_mv rfl rfl rfl ?_
   refine q_len Try.underlying26 rfl rfl rfl ?_
   refine q_eq rfl rfl rfl rfl ?_
   refine x_T (by decide) ?_
   refine q_pkT rfl rfl rfl rfl ?_
   refine q_mv rfl rfl rfl ?_
   refine q_mv rfl rfl rfl ?_
   refine q_eq rfl rfl rfl rfl ?_
   refine x_T (by simp) ?_
   refine q_pkT rfl rfl rfl rfl ?_
   refine q_as rfl rfl rfl ?_
   refine x_end ?_
   refine nk_cut (e' := [(0, _), (1, _), (2, _), (4, _), (5, _), (6, _), (7, _), (8, _), (10, _), (23, _)]) [0, 1, 2, 4, 5, 6, 7, 8, 10, 23] rfl ?_
   refine nk_seq ?_
   refine ew_retS rfl rfl (.cons (.tmp rfl) .nil) ?_
   exact ⟨rfl, rfl, ((((((((((((((hl13.trans hp14).trans hl14).trans hl15).trans hl16).trans hp15).trans hp16).trans hl17).trans hp17).trans hp18).trans hl18).trans hp19).trans hp20).trans hl19).trans hl20)⟩
  ·skip
   refine h_mk (z := .u8 0) Try.underlying26 info_5 rfl rfl rfl rfl rfl rfl rfl (by omega) (by omega) (by simp only [by_5]; omega) (by omega) ?_
   intro g27
   refine ⟨(fun _ => ⟨by first | exact kpL [] rfl | simp [keepL, nth], HLe.refl _⟩), ?_⟩
   refine h_mk (z := .u8 0) Try.underlying26 info_5 rfl rfl rfl rfl rfl rfl rfl (by omega) (by omega) (by simp only [by_5]; omega) (by omega) ?_
   intro g28
   refine ⟨(fun _ => ⟨by first | exact kpL [] rfl | simp [keepL, nth], HLe.refl _⟩), ?_⟩
   refine pubX (S' := [_]) 0 rfl rfl ?_
   intro Hp21 hp21 hr21
   replace htab3 := htab3.mono hp21
   replace hr14 := hr14.mono hp21
   replace hgcm2 := hgcm2.mono hp21
   replace htab4 := htab4.mono hp21
   refine pubX (S' := []) 0 rfl rfl ?_
   intro Hp22 hp22 hr22
   replace htab3 := htab3.mono hp22
   replace hr14 := hr14.mono hp22
   replace hgcm2 := hgcm2.mono hp22
   replace htab4 := htab4.mono hp22
   replace hr21 := hr21.mono hp22
   have hcs := GcmSeal_hc hgcm2 (nonce := zer 12) (bs_zero (c := 12) hr21 (by decide)) (BS.nil (A := none) (c := 0)) (sd := zer 16) (bs_zero (c := 16) hr22 (by decide)) (by decide)
   rw [wk_sealG] at hcs
   refine h_call0 Try.call61 rfl rfl rfl (hcs) ?_
   rintro r_ S_ Hn21 hl21 ⟨A10, c10, rfl, rfl, hcap10, hle21⟩
   replace htab3 := htab3.mono hl21
   replace hr14 := hr14.mono hl21
   replace hgcm2 := hgcm2.mono hl21
   replace htab4 := htab4.mono hl21
   replace hr21 := hr21.mono hl21
   replace hr22 := hr22.mono hl21
   refine ⟨(fun _ => ⟨by first | exact kpL [] rfl | simp [keepL, nth], ((hp21.trans hp22).trans hl21)⟩), ?_⟩
   refine x_S (S' := [_]) rfl ?_
   refine q_mv rfl rfl rfl ?_
   refine q_ext rfl rfl rfl rfl ?_
   refine q_ext rfl rfl rfl rfl ?_
   refine q_as rfl rfl rfl ?_
   refine q_as rfl rfl rfl ?_
   refine x_end ?_
   refine nk_cut (e' := [(0, _), (1, _), (2, _), (4, _), (5, _), (6, _), (23, _)]) [0, 1, 2, 4, 5, 6, 23] rfl ?_
   refine nk_seq ?_
   refine ew_seq ?_
   refine rg (.q 0 (.h 1 (.q 2 (.h 3 (.q 4 (.q 5 (.q 6 (.q 7 (.q 8 XT.done))))))))) (by kernel_rfl) (by kernel_rfl) ?_
   refine q_mv rfl rfl rfl ?_
   refine h_mk (z := .u8 0) Try.underlying26 info_5 rfl rfl rfl rfl rfl rfl rfl (by omega) (by omega) (by simp only [by_5]; omega) (by omega) ?_
   intro g30
   refine ⟨kp0, ?_⟩
   refine q_mv rfl rfl rfl ?_
   refine pubX (S' := [_]) 0 rfl rfl ?_
   intro Hp23 hp23 hr23
   replace htab3 := htab3.mono hp23
   replace hr14 := hr14.mono hp23
   replace hgcm2 := hgcm2.mono hp23
   replace htab4 := htab4.mono hp23
   replace hr21 := hr21.mono hp23
   replace hr22 := hr22.mono hp23
   refine pubX (S' := []) 0 rfl rfl ?_
   intro Hp24 hp24 hr24
   replace htab3 := htab3.mono hp24
   replace hr14 := hr14.mono hp24
   replace hgcm2 := hgcm2.mono hp24
   replace htab4 := htab4.mono hp24
   replace hr21 := hr21.mono hp24
   replace hr22 := hr22.mono hp24
   replace hr23 := hr23.mono hp24
   have hco := GcmOpen_hc hgcm2 (nonce := zer 12) (bs_zero (c := 12) hr23 (by decide)) (BS.nil (A := none) (c := 0)) (⟨hr24, rfl, hcap10⟩ : BS _ _ _ _ wSealed) (by decide)
   rw [wk_back] at hco
   refine h_call0 Try.call64 rfl rfl rfl (hco) ?_
   rintro r_ S_ Hn22 hl22 ⟨A11, c11, rfl, rfl, hcap11, hle22⟩
   replace htab3 := htab3.mono hl22
   replace hr14 := hr14.mono hl22
   replace hgcm2 := hgcm2.mono hl22
   replace htab4 := htab4.mono hl22
   replace hr21 := hr21.mono hl22
   replace hr22 := hr22.mono hl22
   replace hr23 := hr23.mono hl22
   replace hr24 := hr24.mono hl22
   refine ⟨kp0, ?_⟩
   refine x_S (S' := [_]) rfl ?_
   refine q_mv rfl rfl rfl ?_
   refine q_ext rfl rfl rfl rfl ?_
   refine q_ext rfl rfl rfl rfl ?_
   refine q_as rfl rfl rfl ?_
   refine q_as rfl rfl rfl ?_
   refine x_end ?_
   refine nk_cut (e' := [(0, _), (1, _), (2, _), (4, _), (5, _), (6, _), (7, _), (8, _), (23, _)]) [0, 1, 2, 4, 5, 6, 7, 8, 23] rfl ?_
   refine nk_seq ?_
   refine ew_seq ?_
   refine rg (.q 0 (.h 1 (.h 2 (.q 3 (.h 4 (.q 5 (.q 6 (.q 7 (.q 8 (.q 9 XT.done)))))))))) (by kernel_rfl) (by kernel_rfl) ?_
   refine q_mv rfl rfl rfl ?_
   refine h_mk (z := .u8 0) Try.underlying26 info_5 rfl rfl rfl rfl rfl rfl rfl (by omega) (by omega) (by simp only [by_5]; omega) (by omega) ?_
   intro g32
   refine ⟨kp0, ?_⟩
   refine h_bs (cs := [_]) Try.underlying26 info_5 rfl rfl rfl rfl rfl rfl rfl rfl rfl (by decide) ?_
   intro g33
   refine ⟨kp0, ?_⟩
   refine q_mv rfl rfl rfl ?_
   refine pubX (S' := [_, _]) 1 rfl rfl ?_
   intro Hp25 hp25 hr25
   replace htab3 := htab3.mono hp25
   replace hr14 := hr14.mono hp25
   replace hgcm2 := hgcm2.mono hp25
   replace htab4 := htab4.mono hp25
   replace hr21 := hr21.mono hp25
   replace hr22 := hr22.mono hp25
   replace hr23 := hr23.mono hp25
   replace hr24 := hr24.mono hp25
   refine pubX (S' := [_]) 0 rfl rfl ?_
   intro Hp26 hp26 hr26
   replace htab3 := htab3.mono hp26
   replace hr14 := hr14.mono hp26
   replace hgcm2 := hgcm2.mono hp26
   replace htab4 := htab4.mono hp26
   replace hr21 := hr21.mono hp26
   replace hr22 := hr22.mono hp26
   replace hr23 := hr23.mono hp26
   replace hr24 := hr24.mono hp26
   replace hr25 := hr25.mono hp26
   have hco := GcmOpen_hc hgcm2 (nonce := zer 12) (bs_zero (c := 12) hr25 (by decide)) (⟨hr26, rfl, Nat.le_refl _⟩ : BS _ _ 1 1 [1]) (⟨hr24, rfl, hcap10⟩ : BS _ _ _ _ wSealed) (by decide)
   rw [wk_open] at hco
   refine h_call0 Try.call64 rfl rfl rfl (hco) ?_
   rintro r_ S_ Hn23 hl23 ⟨A12, c12, rfl, rfl, hcap12, hle23⟩
   replace htab3 := htab3.mono hl23
   replace hr14 := hr14.mono hl23
   replace hgcm2 := hgcm2.mono hl23
   replace htab4 := htab4.mono hl23
   replace hr21 := hr21.mono hl23
   replace hr22 := hr22.mono hl23
   replace hr23 := hr23.mono hl23
   replace hr24 := hr24.mono hl23
   replace hr25 := hr25.mono hl23
   replace hr26 := hr26.mono hl23
   refine ⟨kp0, ?_⟩
   refine x_S (S' := [_, _]) rfl ?_
   refine q_mv rfl rfl rfl ?_
   refine q_ext rfl rfl rfl rfl ?_
   refine q_ext rfl rfl rfl rfl ?_
   refine q_as rfl rfl rfl ?_
   refine q_as rfl rfl rfl ?_
   refine x_end ?_
   refine nk_cut (e' := [(0, _), (1, _), (2, _), (4, _), (5, _), (6, _), (7, _), (8, _), (10, _), (23, _)]) [0, 1, 2, 4, 5, 6, 7, 8, 10, 23] rfl ?_
   refine nk_seq ?_
   refine ew_seq ?_
   refine rg (.q 0 (.q 1 (.q 2 (.q 3 (.q 4 (.q 5 (.q 6 (.q 7 (.q 8 (.q 9 (.q 10 (.q 11 (.h 12 (.q 13 (.q 14 (.q 15 (.q 16 (.q 17 (.q 18 (.q 19 (.q 20 (.q 21 (.q 22 (.q 23 (.q 24 (.q 25 (.q 26 (.q 27 (.q 28 XT.done))))))))))))))))))))))))))))) (by kernel_rfl) (by kernel_rfl) ?_
   refine q_mv rfl rfl rfl ?_
   refine q_eq rfl rfl rfl rfl ?_
   refine x_T (by simp) ?_
   refine q_mv rfl rfl rfl ?_
   refine q_mv rfl rfl rfl ?_
   refine q_eq rfl rfl rfl rfl ?_
   refine x_T (by simp) ?_
   refine q_pkT rfl rfl rfl rfl ?_
   refine q_mv rfl rfl rfl ?_
   refine q_mv rfl rfl rfl ?_
   refine q_eq rfl rfl rfl rfl ?_
   refine x_T (by simp) ?_
   refine q_pkT rfl rfl rfl rfl ?_
   refine q_mv rfl rfl rfl ?_
   refine q_mv rfl rfl rfl ?_
   refine h_call0 Try.call102 rfl rfl rfl (Hex_hc (⟨hr24, rfl, hcap10⟩ : BS _ _ _ _ wSealed) (by decide)) ?_
   rintro r_ S_ Hn24 hl24 ⟨rfl, rfl, hle24⟩
   replace htab3 := htab3.mono hl24
   replace hr14 := hr14.mono hl24
   replace hgcm2 := hgcm2.mono hl24
   replace htab4 := htab4.mono hl24
   replace hr21 := hr21.mono hl24
   replace hr22 := hr22.mono hl24
   replace hr23 := hr23.mono hl24
   replace hr24 := hr24.mono hl24
   replace hr25 := hr25.mono hl24
   replace hr26 := hr26.mono hl24
   refine ⟨kp0, ?_⟩
   refine x_S (S' := [_, _]) rfl ?_
   refine q_eq_s rfl rfl rfl rfl ?_
   refine x_T (by decide +kernel) ?_
   refine q_pkT rfl rfl rfl rfl ?_
   refine q_mv rfl rfl rfl ?_
   refine q_mv rfl rfl rfl ?_
   refine q_eq rfl rfl rfl rfl ?_
   refine x_T (by simp) ?_
   refine q_pkT rfl rfl rfl rfl ?_
   refine q_mv rfl rfl rfl ?_
   refine q_mv rfl rfl rfl ?_
   refine q_len Try.underlying26 rfl rfl rfl ?_
   refine q_eq rfl rfl rfl rfl ?_
   refine x_T (by decide) ?_
   refine q_pkT rfl rfl rfl rfl ?_
   refine q_mv rfl rfl rfl ?_
   refine q_mv rfl rfl rfl ?_
   refine q_eq rfl rfl rfl rfl ?_
   refine x_T (by simp) ?_
   refine q_pkT rfl rfl rfl rfl ?_
   refine q_as rfl rfl rfl ?_
   refine x_end ?_
   refine nk_cut (e' := [(0, _), (1, _), (2, _), (4, _), (5, _), (6, _), (7, _), (8, _), (10, _), (23, _)]) [0, 1, 2, 4, 5, 6, 7, 8, 10, 23] rfl ?_
   refine nk_seq ?_
   refine ew_retS rfl rfl (.cons (.tmp rfl) .nil) ?_
   exact ⟨rfl, rfl, ((((((((((((((hl13.trans hp14).trans hl14).trans hl15).trans hl16).trans hp21).trans hp22).trans hl21).trans hp23).trans hp24).trans hl22).trans hp25).trans hp26).trans hl23).trans hl24)⟩


theorem open_len (ks nonce bs s : List UInt8) : (openF ks nonce bs s).1.length ≤ s.length := by
  by_cases h1 : nonce.length = 12
  · by_cases h2 : s.length < 16
    · rw [openF_2 h1 h2]; simp
    · by_cases h3 : tagF ks nonce bs (s.take (s.length - 16)) = s.drop (s.length - 16)
      · rw [openF_4 h1 h2 h3, streamF_len, List.length_take]; omega
      · rw [openF_3 h1 h2 h3]; simp
  · rw [openF_1 h1]; simp
theorem sealG_ok {ks nonce bs t : List UInt8} (h : nonce.length = 12) : sealG ks nonce bs t = (sealF ks nonce bs t, 0) := if_neg (fun h2 => h2 h)
theorem sealG_back {ks nonce bs s : List UInt8} (h : nonce.length = 12) (h2 : (openF ks nonce bs s).2 = 0) : sealG ks nonce bs (openF ks nonce bs s).1 = (s, 0) := by rw [sealG_ok h, seal_open h2]
theorem shl1_ne {e : Nat} (h : e < 8) : shl_u8 1 e ≠ 0 := by
  rcases (by omega : e = 0 ∨ e = 1 ∨ e = 2 ∨ e = 3 ∨ e = 4 ∨ e = 5 ∨ e = 6 ∨ e = 7) with rfl | rfl | rfl | rfl | rfl | rfl | rfl | rfl <;> decide

theorem Back_hc {H : Hp} {A0 A1 A2 : Option Addr} {n0 c0 n1 c1 n2 c2 : Nat} {b no bs t : List UInt8} (hb : BS H A0 n0 c0 b) (hno : no.length = 12) (hbs : BS H A1 n1 c1 bs) (ht : BS H A2 n2 c2 t) {A3 : Option Addr} {n3 c3 : Nat} {s : List UInt8} (hs : BS H A3 n3 c3 s) :
  HC Try.prog 10 [.sl A0 n0 c0, .agg (no.map SV.u8), .sl A1 n1 c1, .sl A2 n2 c2, .sl A3 n3 c3] [] H (fun r S' H' => r = .b true ∧ S' = [] ∧ HLe H H') := by
 have htl := ht.len
 have hsl := hs.len
 refine hc_intro (n := 123) Try.func10 rfl Try.ntmps10 rfl (fun B hB => ?_)
 refine ew_cut (e' := [(0, _), (1, _), (2, _), (3, _), (4, _)]) [0, 1, 2, 3, 4] rfl ?_
 refine ew_seq ?_
 refine rg (.h 0 (.q 1 XT.done)) (by kernel_rfl) (by kernel_rfl) ?_
 refine h_boxS rfl rfl rfl ?_
 intro g1
 refine ⟨kp0, ?_⟩
 refine q_as (sv := .b false) rfl rfl rfl ?_
 refine x_end ?_
 refine nk_cut (e' := [(0, _), (1, _), (2, _), (3, _), (4, _), (6, _), (10, _)]) [0, 1, 2, 3, 4, 6, 10] rfl ?_
 refine nk_seq ?_
 refine ew_seq ?_
 refine ew_seq ?_
 refine rg (.q 0 (.q 1 (.q 2 (.q 3 (.q 4 (.q 5 (.q 6 (.q 7 (.q 8 (.q 9 (.q 10 (.q 11 (.q 12 (.q 13 (.q 14 (.q 15 (.q 16 (.q 17 XT.done)))))))))))))))))) (by kernel_rfl) (by kernel_rfl) ?_
 refine q_mv rfl rfl rfl ?_
 refine q_len Try.underlying26 rfl rfl rfl ?_
 refine q_gt rfl rfl rfl rfl ?_
 refine q_mv rfl rfl rfl ?_
 refine x_spl (d := 24) rfl ?_ ?_
 ·intro hb24
  try simp only [Bool.not_eq_true', Bool.not_eq_false', decide_eq_true_eq, decide_eq_false_iff_not, ne_eq, Decidable.not_not] at hb24
  iterate 3 refine q_skip rfl rfl ?_
  refine q_pkT rfl rfl rfl rfl ?_
  refine q_mv rfl rfl rfl ?_
  iterate 3 refine q_skip rfl rfl ?_
  refine q_pkT rfl rfl rfl rfl ?_
  refine q_mv rfl rfl rfl ?_
  iterate 3 refine q_skip rfl rfl ?_
  refine q_pkT rfl rfl rfl rfl ?_
  refine x_end ?_
  refine nk_cut (e' := [(0, _), (1, _), (2, _), (3, _), (4, _), (6, _), (10, _), (38, _)]) [0, 1, 2, 3, 4, 6, 10, 38] rfl ?_
  refine nk_seq ?_
  refine ew_true rfl ?_
  refine ew_seq ?_
  refine rg (.h 0 (.q 1 XT.done)) (by kernel_rfl) (by kernel_rfl) ?_
  refine h_call0 Try.call57 rfl rfl rfl (GWorks_hc) ?_
  rintro r_ S_ Hn1 hl1 ⟨rfl, rfl, hle1⟩
  replace hb := hb.mono hl1
  replace hbs := hbs.mono hl1
  replace ht := ht.mono hl1
  replace hs := hs.mono hl1
  refine ⟨kp0, ?_⟩
  refine x_S (S' := [_]) rfl ?_
  refine q_as rfl rfl rfl ?_
  refine x_end ?_
  refine nk_cut (e' := [(0, _), (1, _), (2, _), (3, _), (4, _), (6, _), (10, _), (38, _)]) [0, 1, 2, 3, 4, 6, 10, 38] rfl ?_
  refine nk_seq ?_
  refine ew_retS rfl rfl (.cons (.tmp rfl) .nil) ?_
  exact ⟨rfl, rfl, hl1⟩
 ·intro hb24
  try simp only [Bool.not_eq_true', Bool.not_eq_false', decide_eq_true_eq, decide_eq_false_iff_not, ne_eq, Decidable.not_not] at hb24
  refine q_mv rfl rfl rfl ?_
  refine q_len Try.underlying26 rfl rfl rfl ?_
  refine q_gt rfl rfl rfl rfl ?_
  refine q_pkF rfl rfl rfl rfl ?_
  refine q_mv rfl rfl rfl ?_
  refine x_spl (d := 29) rfl ?_ ?_
  ·intro hb29
   try simp only [Bool.not_eq_true', Bool.not_eq_false', decide_eq_true_eq, decide_eq_false_iff_not, ne_eq, Decidable.not_not] at hb29
   iterate 3 refine q_skip rfl rfl ?_
   refine q_pkT rfl rfl rfl rfl ?_
   refine q_mv rfl rfl rfl ?_
   iterate 3 refine q_skip rfl rfl ?_
   refine q_pkT rfl rfl rfl rfl ?_
   refine x_end ?_
   refine nk_cut (e' := [(0, _), (1, _), (2, _), (3, _), (4, _), (6, _), (10, _), (38, _)]) [0, 1, 2, 3, 4, 6, 10, 38] rfl ?_
   refine nk_seq ?_
   refine ew_true rfl ?_
   refine ew_seq ?_
   refine rg (.h 0 (.q 1 XT.done)) (by kernel_rfl) (by kernel_rfl) ?_
   refine h_call0 Try.call57 rfl rfl rfl (GWorks_hc) ?_
   rintro r_ S_ Hn2 hl2 ⟨rfl, rfl, hle2⟩
   replace hb := hb.mono hl2
   replace hbs := hbs.mono hl2
   replace ht := ht.mono hl2
   replace hs := hs.mono hl2
   refine ⟨kp0, ?_⟩
   refine x_S (S' := [_]) rfl ?_
   refine q_as rfl rfl rfl ?_
   refine x_end ?_
   refine nk_cut (e' := [(0, _), (1, _), (2, _), (3, _), (4, _), (6, _), (10, _), (38, _)]) [0, 1, 2, 3, 4, 6, 10, 38] rfl ?_
   refine nk_seq ?_
   refine ew_retS rfl rfl (.cons (.tmp rfl) .nil) ?_
   exact ⟨rfl, rfl, hl2⟩
  ·intro hb29
   try simp only [Bool.not_eq_true', Bool.not_eq_false', decide_eq_true_eq, decide_eq_false_iff_not, ne_eq, Decidable.not_not] at hb29
   refine q_mv rfl rfl rfl ?_
   refine q_len Try.underlying26 rfl rfl rfl ?_
   refine q_gt rfl rfl rfl rfl ?_
   refine q_pkF rfl rfl rfl rfl ?_
   refine q_mv rfl rfl rfl ?_
   refine x_spl (d := 34) rfl ?_ ?_
   ·intro hb34
    try simp only [Bool.not_eq_true', Bool.not_eq_false', decide_eq_true_eq, decide_eq_false_iff_not, ne_eq, Decidable.not_not] at hb34
    iterate 3 refine q_skip rfl rfl ?_
    refine q_pkT rfl rfl rfl rfl ?_
    refine x_end ?_
    refine nk_cut (e' := [(0, _), (1, _), (2, _), (3, _), (4, _), (6, _), (10, _), (38, _)]) [0, 1, 2, 3, 4, 6, 10, 38] rfl ?_
    refine nk_seq ?_
    refine ew_true rfl ?_
    refine ew_seq ?_
    refine rg (.h 0 (.q 1 XT.done)) (by kernel_rfl) (by kernel_rfl) ?_
    refine h_call0 Try.call57 rfl rfl rfl (GWorks_hc) ?_
    rintro r_ S_ Hn3 hl3 ⟨rfl, rfl, hle3⟩
    replace hb := hb.mono hl3
    replace hbs := hbs.mono hl3
    replace ht := ht.mono hl3
    replace hs := hs.mono hl3
    refine ⟨kp0, ?_⟩
    refine x_S (S' := [_]) rfl ?_
    refine q_as rfl rfl rfl ?_
    refine x_end ?_
    refine nk_cut (e' := [(0, _), (1, _), (2, _), (3, _), (4, _), (6, _), (10, _), (38, _)]) [0, 1, 2, 3, 4, 6, 10, 38] rfl ?_
    refine nk_seq ?_
    refine ew_retS rfl rfl (.cons (.tmp rfl) .nil) ?_
    exact ⟨rfl, rfl, hl3⟩
   ·intro hb34
    try simp only [Bool.not_eq_true', Bool.not_eq_false', decide_eq_true_eq, decide_eq_false_iff_not, ne_eq, Decidable.not_not] at hb34
    refine q_mv rfl rfl rfl ?_
    refine q_len Try.underlying26 rfl rfl rfl ?_
    refine q_gt rfl rfl rfl rfl ?_
    refine q_pkF rfl rfl rfl rfl ?_
    refine x_end ?_
    refine nk_cut (e' := [(0, _), (1, _), (2, _), (3, _), (4, _), (6, _), (10, _), (38, _)]) [0, 1, 2, 3, 4, 6, 10, 38] rfl ?_
    refine nk_seq ?_
    refine ew_cond rfl ?_ ?_
    ·intro hc38
     try simp only [decide_eq_true_eq] at hc38
     refine ew_seq ?_
     refine rg (.h 0 (.q 1 XT.done)) (by kernel_rfl) (by kernel_rfl) ?_
     refine h_call0 Try.call57 rfl rfl rfl (GWorks_hc) ?_
     rintro r_ S_ Hn4 hl4 ⟨rfl, rfl, hle4⟩
     replace hb := hb.mono hl4
     replace hbs := hbs.mono hl4
     replace ht := ht.mono hl4
     replace hs := hs.mono hl4
     refine ⟨kp0, ?_⟩
     refine x_S (S' := [_]) rfl ?_
     refine q_as rfl rfl rfl ?_
     refine x_end ?_
     refine nk_cut (e' := [(0, _), (1, _), (2, _), (3, _), (4, _), (6, _), (10, _), (38, _)]) [0, 1, 2, 3, 4, 6, 10, 38] rfl ?_
     refine nk_seq ?_
     refine ew_retS rfl rfl (.cons (.tmp rfl) .nil) ?_
     exact ⟨rfl, rfl, hl4⟩
    ·intro hc38
     try simp only [decide_eq_false_iff_not] at hc38
     refine ew_skip ?_
     refine nk_seq ?_
     refine ew_seq ?_
     refine rg (.h 0 (.q 1 (.h 2 (.h 3 (.q 4 (.q 5 (.q 6 (.q 7 (.q 8 XT.done))))))))) (by kernel_rfl) (by kernel_rfl) ?_
     refine h_call0 Try.call59 rfl rfl rfl (AesBuild_hc) ?_
     rintro r_ S_ Hn5 hl5 ⟨gt1, rfl, rfl, htab1, hle5⟩
     replace hb := hb.mono hl5
     replace hbs := hbs.mono hl5
     replace ht := ht.mono hl5
     replace hs := hs.mono hl5
     refine ⟨kp0, ?_⟩
     refine x_S (S' := [_]) rfl ?_
     refine q_mv rfl rfl rfl ?_
     refine h_call0 Try.call60 rfl rfl rfl (Key32_hc hb) ?_
     rintro r_ S_ Hn5 hl6 ⟨A1, c1, rfl, rfl, hcap1, rfl⟩
     refine ⟨kp0, ?_⟩
     refine x_S (S' := [_, _]) rfl ?_
     refine pubX (S' := [_]) 0 rfl rfl ?_
     intro Hp1 hp1 hr1
     replace hb := hb.mono hp1
     replace hbs := hbs.mono hp1
     replace ht := ht.mono hp1
     replace hs := hs.mono hp1
     replace htab1 := htab1.mono hp1
     refine h_call0 Try.call58 rfl rfl rfl (GcmNew_hc htab1 (key := key32F b) ⟨hr1, k32_len b 32, hcap1⟩ rfl) ?_
     rintro r_ S_ Hn6 hl7 ⟨gg1, gc1, gh1, rfl, hgcm1, rfl, hle6⟩
     replace hb := hb.mono hl7
     replace hbs := hbs.mono hl7
     replace ht := ht.mono hl7
     replace hs := hs.mono hl7
     replace htab1 := htab1.mono hl7
     replace hr1 := hr1.mono hl7
     refine ⟨kp0, ?_⟩
     refine x_S (S' := [_]) rfl ?_
     refine q_mv rfl rfl rfl ?_
     refine q_ext rfl rfl rfl rfl ?_
     refine q_ext rfl rfl rfl rfl ?_
     refine q_as rfl rfl rfl ?_
     refine q_as rfl rfl rfl ?_
     refine x_end ?_
     refine nk_cut (e' := [(0, _), (1, _), (2, _), (3, _), (4, _), (6, _), (10, _), (11, _), (12, _), (38, _)]) [0, 1, 2, 3, 4, 6, 10, 11, 12, 38] rfl ?_
     refine nk_seq ?_
     refine ew_seq ?_
     refine ew_seq ?_
     refine rg (.q 0 (.q 1 (.q 2 (.q 3 (.q 4 (.q 5 XT.done)))))) (by kernel_rfl) (by kernel_rfl) ?_
     refine q_mv rfl rfl rfl ?_
     refine q_ne rfl rfl rfl rfl ?_
     refine x_F (by simp) ?_
     refine q_mv rfl rfl rfl ?_
     refine q_mv rfl rfl rfl ?_
     refine q_eq_pn Try.underlying104 rfl rfl rfl rfl ?_
     refine q_pkF rfl rfl rfl rfl ?_
     refine x_end ?_
     refine nk_cut (e' := [(0, _), (1, _), (2, _), (3, _), (4, _), (6, _), (10, _), (11, _), (12, _), (38, _), (52, _)]) [0, 1, 2, 3, 4, 6, 10, 11, 12, 38, 52] rfl ?_
     refine nk_seq ?_
     refine ew_false rfl ?_
     refine ew_skip ?_
     refine nk_seq ?_
     refine ew_seq ?_
     refine pubBE (S' := []) 0 rfl rfl ?_
     intro Hq1 hq1 hpb1
     replace hb := hb.mono hq1
     replace hbs := hbs.mono hq1
     replace ht := ht.mono hq1
     replace hs := hs.mono hq1
     replace htab1 := htab1.mono hq1
     replace hr1 := hr1.mono hq1
     replace hgcm1 := hgcm1.mono hq1
     refine rg (.q 0 (.q 1 (.q 2 (.q 3 (.h 4 (.q 5 (.q 6 (.q 7 (.q 8 (.q 9 XT.done)))))))))) (by kernel_rfl) (by kernel_rfl) ?_
     refine q_mv rfl rfl rfl ?_
     refine q_ar_a Try.underlying116 Try.sizeOf5 rfl rfl rfl  ?_
     refine q_mv rfl rfl rfl ?_
     refine q_mv rfl rfl rfl ?_
     have hcs := GcmSeal_hc hgcm1 (BS.of (xs := no) hpb1 hno (Nat.le_refl 12)) hbs ht (by omega)
     rw [sealG_ok hno] at hcs
     dsimp only at hcs
     refine h_call0 Try.call61 rfl rfl rfl (hcs) ?_
     rintro r_ S_ Hn7 hl8 ⟨A2, c2, rfl, rfl, hcap2, hle7⟩
     replace hb := hb.mono hl8
     replace hbs := hbs.mono hl8
     replace ht := ht.mono hl8
     replace hs := hs.mono hl8
     replace htab1 := htab1.mono hl8
     replace hr1 := hr1.mono hl8
     replace hgcm1 := hgcm1.mono hl8
     replace hpb1 := hpb1.mono hl8
     refine ⟨kp0, ?_⟩
     refine x_S (S' := [_]) rfl ?_
     refine q_mv rfl rfl rfl ?_
     refine q_ext rfl rfl rfl rfl ?_
     refine q_ext rfl rfl rfl rfl ?_
     refine q_as rfl rfl rfl ?_
     refine q_as rfl rfl rfl ?_
     refine x_end ?_
     refine nk_cut (e' := [(0, _), (1, _), (2, _), (3, _), (4, _), (6, _), (10, _), (11, _), (12, _), (13, _), (14, _), (38, _), (52, _)]) [0, 1, 2, 3, 4, 6, 10, 11, 12, 13, 14, 38, 52] rfl ?_
     refine nk_seq ?_
     refine ew_seq ?_
     refine rg (.q 0 (.q 1 (.q 2 (.q 3 (.h 4 (.q 5 (.q 6 (.q 7 (.q 8 (.q 9 XT.done)))))))))) (by kernel_rfl) (by kernel_rfl) ?_
     refine q_mv rfl rfl rfl ?_
     refine q_ar_a Try.underlying116 Try.sizeOf5 rfl rfl rfl  ?_
     refine q_mv rfl rfl rfl ?_
     refine q_mv rfl rfl rfl ?_
     refine pubX (S' := []) 0 rfl rfl ?_
     intro Hp2 hp2 hr2
     replace hb := hb.mono hp2
     replace hbs := hbs.mono hp2
     replace ht := ht.mono hp2
     replace hs := hs.mono hp2
     replace htab1 := htab1.mono hp2
     replace hr1 := hr1.mono hp2
     replace hgcm1 := hgcm1.mono hp2
     replace hpb1 := hpb1.mono hp2
     have hco := GcmOpen_hc hgcm1 (BS.of (xs := no) hpb1 hno (Nat.le_refl 12)) hbs (⟨hr2, rfl, hcap2⟩ : BS _ _ _ _ (sealF (aesKeys (key32F b)) no bs t)) (by rw [sealF_len]; omega)
     rw [open_seal hno] at hco
     refine h_call0 Try.call64 rfl rfl rfl (hco) ?_
     rintro r_ S_ Hn8 hl9 ⟨A3, c3, rfl, rfl, hcap3, hle8⟩
     replace hb := hb.mono hl9
     replace hbs := hbs.mono hl9
     replace ht := ht.mono hl9
     replace hs := hs.mono hl9
     replace htab1 := htab1.mono hl9
     replace hr1 := hr1.mono hl9
     replace hgcm1 := hgcm1.mono hl9
     replace hpb1 := hpb1.mono hl9
     replace hr2 := hr2.mono hl9
     refine ⟨kp0, ?_⟩
     refine x_S (S' := [_]) rfl ?_
     refine q_mv rfl rfl rfl ?_
     refine q_ext rfl rfl rfl rfl ?_
     refine q_ext rfl rfl rfl rfl ?_
     refine q_as rfl rfl rfl ?_
     refine q_as rfl rfl rfl ?_
     refine x_end ?_
     refine nk_cut (e' := [(0, _), (1, _), (2, _), (3, _), (4, _), (6, _), (10, _), (11, _), (12, _), (13, _), (14, _), (15, _), (16, _), (38, _), (52, _)]) [0, 1, 2, 3, 4, 6, 10, 11, 12, 13, 14, 15, 16, 38, 52] rfl ?_
     refine nk_seq ?_
     refine ew_seq ?_
     refine ew_seq ?_
     refine rg (.q 0 (.q 1 (.q 2 (.q 3 (.q 4 (.q 5 (.q 6 (.q 7 (.q 8 (.q 9 (.q 10 (.q 11 (.q 12 (.q 13 (.q 14 (.q 15 (.q 16 (.h 17 (.q 18 (.q 19 XT.done)))))))))))))))))))) (by kernel_rfl) (by kernel_rfl) ?_
     refine q_mv rfl rfl rfl ?_
     refine q_ne rfl rfl rfl rfl ?_
     refine x_F (by simp) ?_
     refine q_mv rfl rfl rfl ?_
     refine q_mv rfl rfl rfl ?_
     refine q_ne rfl rfl rfl rfl ?_
     refine x_F (by simp) ?_
     refine q_pkF rfl rfl rfl rfl ?_
     refine q_mv rfl rfl rfl ?_
     refine q_mv rfl rfl rfl ?_
     refine q_len Try.underlying26 rfl rfl rfl ?_
     refine q_mv rfl rfl rfl ?_
     refine q_len Try.underlying26 rfl rfl rfl ?_
     refine q_add rfl rfl rfl rfl (by omega) (by omega) ?_
     refine q_ne rfl rfl rfl rfl ?_
     refine x_F (decide_eq_false (by rw [sealF_len]; omega)) ?_
     refine q_pkF rfl rfl rfl rfl ?_
     iterate 3 refine q_mv rfl rfl rfl ?_
     refine pubX (S' := []) 0 rfl rfl ?_
     intro Hp3 hp3 hr3
     replace hb := hb.mono hp3
     replace hbs := hbs.mono hp3
     replace ht := ht.mono hp3
     replace hs := hs.mono hp3
     replace htab1 := htab1.mono hp3
     replace hr1 := hr1.mono hp3
     replace hgcm1 := hgcm1.mono hp3
     replace hpb1 := hpb1.mono hp3
     replace hr2 := hr2.mono hp3
     refine h_call0 Try.call24 rfl rfl rfl (RSame_hc (⟨hr3, rfl, hcap3⟩ : BS _ _ _ _ t) ht (show t.length ≤ 1099511627776 by omega)) ?_
     rintro r_ S_ Hp3 hl10 ⟨rfl, rfl, rfl⟩
     refine ⟨kp0, ?_⟩
     refine x_S (S' := []) rfl ?_
     refine x_T (by simp) ?_
     refine q_not rfl rfl rfl ?_
     refine x_F rfl ?_
     refine q_pkF rfl rfl rfl rfl ?_
     refine x_end ?_
     refine nk_cut (e' := [(0, _), (1, _), (2, _), (3, _), (4, _), (6, _), (10, _), (11, _), (12, _), (13, _), (14, _), (15, _), (16, _), (38, _), (52, _), (88, _)]) [0, 1, 2, 3, 4, 6, 10, 11, 12, 13, 14, 15, 16, 38, 52, 88] rfl ?_
     refine nk_seq ?_
     refine ew_false rfl ?_
     refine ew_skip ?_
     refine nk_seq ?_
     refine ew_seq ?_
     refine rg (.q 0 (.q 1 (.q 2 (.q 3 (.h 4 (.q 5 (.q 6 (.q 7 (.q 8 (.q 9 XT.done)))))))))) (by kernel_rfl) (by kernel_rfl) ?_
     refine q_mv rfl rfl rfl ?_
     refine q_ar_a Try.underlying116 Try.sizeOf5 rfl rfl rfl  ?_
     refine q_mv rfl rfl rfl ?_
     refine q_mv rfl rfl rfl ?_
     refine h_call0 Try.call64 rfl rfl rfl (GcmOpen_hc hgcm1 (BS.of (xs := no) hpb1 hno (Nat.le_refl 12)) hbs hs (by omega)) ?_
     rintro r_ S_ Hn9 hl11 ⟨A4, c4, rfl, rfl, hcap4, hle9⟩
     replace hb := hb.mono hl11
     replace hbs := hbs.mono hl11
     replace ht := ht.mono hl11
     replace hs := hs.mono hl11
     replace htab1 := htab1.mono hl11
     replace hr1 := hr1.mono hl11
     replace hgcm1 := hgcm1.mono hl11
     replace hpb1 := hpb1.mono hl11
     replace hr2 := hr2.mono hl11
     replace hr3 := hr3.mono hl11
     refine ⟨kp0, ?_⟩
     refine x_S (S' := [_]) rfl ?_
     refine q_mv rfl rfl rfl ?_
     refine q_ext rfl rfl rfl rfl ?_
     refine q_ext rfl rfl rfl rfl ?_
     refine q_as rfl rfl rfl ?_
     refine q_as rfl rfl rfl ?_
     refine x_end ?_
     refine nk_cut (e' := [(0, _), (1, _), (2, _), (3, _), (4, _), (6, _), (10, _), (11, _), (12, _), (13, _), (14, _), (15, _), (16, _), (17, _), (18, _), (38, _), (52, _), (88, _)]) [0, 1, 2, 3, 4, 6, 10, 11, 12, 13, 14, 15, 16, 17, 18, 38, 52, 88] rfl ?_
     refine nk_seq ?_
     refine ew_seq ?_
     refine ew_seq ?_
     refine rg (.q 0 (.q 1 XT.done)) (by kernel_rfl) (by kernel_rfl) ?_
     refine q_mv rfl rfl rfl ?_
     refine q_ne rfl rfl rfl rfl ?_
     refine x_end ?_
     refine nk_cut (e' := [(0, _), (1, _), (2, _), (3, _), (4, _), (6, _), (10, _), (11, _), (12, _), (13, _), (14, _), (15, _), (16, _), (17, _), (18, _), (38, _), (52, _), (88, _), (98, _)]) [0, 1, 2, 3, 4, 6, 10, 11, 12, 13, 14, 15, 16, 17, 18, 38, 52, 88, 98] rfl ?_
     refine nk_seq ?_
     refine ew_cond rfl ?_ ?_
     ·intro hc98
      try simp only [Bool.not_eq_true', Bool.not_eq_false', decide_eq_true_eq, decide_eq_false_iff_not, ne_eq, Decidable.not_not] at hc98
      refine ew_seq ?_
      refine rg (.q 0 (.q 1 (.q 2 (.q 3 (.h 4 (.q 5 (.q 6 XT.done))))))) (by kernel_rfl) (by kernel_rfl) ?_
      refine q_mv rfl rfl rfl ?_
      refine q_len Try.underlying26 rfl rfl rfl ?_
      refine q_eq rfl rfl rfl rfl ?_
      refine x_T (decide_eq_true (by rw [open_code hc98]; rfl)) ?_
      refine q_mv rfl rfl rfl ?_
      refine h_call0 Try.call57 rfl rfl rfl (GWorks_hc) ?_
      rintro r_ S_ Hn10 hl12 ⟨rfl, rfl, hle10⟩
      replace hb := hb.mono hl12
      replace hbs := hbs.mono hl12
      replace ht := ht.mono hl12
      replace hs := hs.mono hl12
      replace htab1 := htab1.mono hl12
      replace hr1 := hr1.mono hl12
      replace hgcm1 := hgcm1.mono hl12
      replace hpb1 := hpb1.mono hl12
      replace hr2 := hr2.mono hl12
      replace hr3 := hr3.mono hl12
      refine ⟨kp0, ?_⟩
      refine x_S (S' := [_]) rfl ?_
      refine q_pkT rfl rfl rfl rfl ?_
      refine q_as rfl rfl rfl ?_
      refine x_end ?_
      refine nk_cut (e' := [(0, _), (1, _), (2, _), (3, _), (4, _), (6, _), (10, _), (11, _), (12, _), (13, _), (14, _), (15, _), (16, _), (17, _), (18, _), (38, _), (52, _), (88, _), (98, _)]) [0, 1, 2, 3, 4, 6, 10, 11, 12, 13, 14, 15, 16, 17, 18, 38, 52, 88, 98] rfl ?_
      refine nk_seq ?_
      refine ew_retS rfl rfl (.cons (.tmp rfl) .nil) ?_
      exact ⟨rfl, rfl, (((((((((hl5.trans hp1).trans hl7).trans hq1).trans hl8).trans hp2).trans hl9).trans hp3).trans hl11).trans hl12)⟩
     ·intro hc98
      try simp only [Bool.not_eq_true', Bool.not_eq_false', decide_eq_true_eq, decide_eq_false_iff_not, ne_eq, Decidable.not_not] at hc98
      refine ew_skip ?_
      refine nk_seq ?_
      refine ew_seq ?_
      refine rg (.q 0 (.q 1 (.q 2 (.q 3 (.h 4 (.q 5 (.q 6 (.q 7 (.q 8 (.q 9 XT.done)))))))))) (by kernel_rfl) (by kernel_rfl) ?_
      refine q_mv rfl rfl rfl ?_
      refine q_ar_a Try.underlying116 Try.sizeOf5 rfl rfl rfl  ?_
      refine q_mv rfl rfl rfl ?_
      refine q_mv rfl rfl rfl ?_
      refine pubX (S' := []) 0 rfl rfl ?_
      intro Hp4 hp4 hr4
      replace hb := hb.mono hp4
      replace hbs := hbs.mono hp4
      replace ht := ht.mono hp4
      replace hs := hs.mono hp4
      replace htab1 := htab1.mono hp4
      replace hr1 := hr1.mono hp4
      replace hgcm1 := hgcm1.mono hp4
      replace hpb1 := hpb1.mono hp4
      replace hr2 := hr2.mono hp4
      replace hr3 := hr3.mono hp4
      have hcs2 := GcmSeal_hc hgcm1 (BS.of (xs := no) hpb1 hno (Nat.le_refl 12)) hbs (⟨hr4, rfl, hcap4⟩ : BS _ _ _ _ (openF (aesKeys (key32F b)) no bs s).1) (by have := open_len (aesKeys (key32F b)) no bs s; omega)
      rw [sealG_back hno hc98] at hcs2
      refine h_call0 Try.call61 rfl rfl rfl (hcs2) ?_
      rintro r_ S_ Hn11 hl13 ⟨A5, c5, rfl, rfl, hcap5, hle11⟩
      replace hb := hb.mono hl13
      replace hbs := hbs.mono hl13
      replace ht := ht.mono hl13
      replace hs := hs.mono hl13
      replace htab1 := htab1.mono hl13
      replace hr1 := hr1.mono hl13
      replace hgcm1 := hgcm1.mono hl13
      replace hpb1 := hpb1.mono hl13
      replace hr2 := hr2.mono hl13
      replace hr3 := hr3.mono hl13
      replace hr4 := hr4.mono hl13
      refine ⟨kp0, ?_⟩
      refine x_S (S' := [_]) rfl ?_
      refine q_mv rfl rfl rfl ?_
      refine q_ext rfl rfl rfl rfl ?_
      refine q_ext rfl rfl rfl rfl ?_
      refine q_as rfl rfl rfl ?_
      refine q_as rfl rfl rfl ?_
      refine x_end ?_
      refine nk_cut (e' := [(0, _), (1, _), (2, _), (3, _), (4, _), (6, _), (10, _), (11, _), (12, _), (13, _), (14, _), (15, _), (16, _), (17, _), (18, _), (19, _), (20, _), (38, _), (52, _), (88, _), (98, _)]) [0, 1, 2, 3, 4, 6, 10, 11, 12, 13, 14, 15, 16, 17, 18, 19, 20, 38, 52, 88, 98] rfl ?_
      refine nk_seq ?_
      refine ew_seq ?_
      refine rg (.q 0 (.q 1 (.q 2 (.q 3 (.q 4 (.h 5 (.q 6 (.q 7 (.h 8 (.q 9 (.q 10 XT.done))))))))))) (by kernel_rfl) (by kernel_rfl) ?_
      refine q_mv rfl rfl rfl ?_
      refine q_eq rfl rfl rfl rfl ?_
      refine x_T (by simp) ?_
      iterate 3 refine q_mv rfl rfl rfl ?_
      refine pubX (S' := []) 0 rfl rfl ?_
      intro Hp5 hp5 hr5
      replace hb := hb.mono hp5
      replace hbs := hbs.mono hp5
      replace ht := ht.mono hp5
      replace hs := hs.mono hp5
      replace htab1 := htab1.mono hp5
      replace hr1 := hr1.mono hp5
      replace hgcm1 := hgcm1.mono hp5
      replace hpb1 := hpb1.mono hp5
      replace hr2 := hr2.mono hp5
      replace hr3 := hr3.mono hp5
      replace hr4 := hr4.mono hp5
      refine h_call0 Try.call24 rfl rfl rfl (RSame_hc (⟨hr5, rfl, hcap5⟩ : BS _ _ _ _ s) hs (show s.length ≤ 1099511627776 by omega)) ?_
      rintro r_ S_ Hp5 hl14 ⟨rfl, rfl, rfl⟩
      refine ⟨kp0, ?_⟩
      refine x_S (S' := []) rfl ?_
      refine x_T (by simp) ?_
      refine q_pkT rfl rfl rfl rfl ?_
      refine q_mv rfl rfl rfl ?_
      refine h_call0 Try.call57 rfl rfl rfl (GWorks_hc) ?_
      rintro r_ S_ Hn12 hl15 ⟨rfl, rfl, hle12⟩
      replace hb := hb.mono hl15
      replace hbs := hbs.mono hl15
      replace ht := ht.mono hl15
      replace hs := hs.mono hl15
      replace htab1 := htab1.mono hl15
      replace hr1 := hr1.mono hl15
      replace hgcm1 := hgcm1.mono hl15
      replace hpb1 := hpb1.mono hl15
      replace hr2 := hr2.mono hl15
      replace hr3 := hr3.mono hl15
      replace hr4 := hr4.mono hl15
      replace hr5 := hr5.mono hl15
      refine ⟨kp0, ?_⟩
      refine x_S (S' := []) rfl ?_
      refine q_pkT rfl rfl rfl rfl ?_
      refine q_as rfl rfl rfl ?_
      refine x_end ?_
      refine nk_cut (e' := [(0, _), (1, _), (2, _), (3, _), (4, _), (6, _), (10, _), (11, _), (12, _), (13, _), (14, _), (15, _), (16, _), (17, _), (18, _), (19, _), (20, _), (38, _), (52, _), (88, _), (98, _)]) [0, 1, 2, 3, 4, 6, 10, 11, 12, 13, 14, 15, 16, 17, 18, 19, 20, 38, 52, 88, 98] rfl ?_
      refine nk_seq ?_
      refine ew_retS rfl rfl (.cons (.tmp rfl) .nil) ?_
      exact ⟨rfl, rfl, ((((((((((((hl5.trans hp1).trans hl7).trans hq1).trans hl8).trans hp2).trans hl9).trans hp3).trans hl11).trans hp4).trans hl13).trans hp5).trans hl15)⟩


theorem Tag_hc {H : Hp} {A0 A1 A2 : Option Addr} {n0 c0 n1 c1 n2 c2 : Nat} {b no bs t : List UInt8} (hb : BS H A0 n0 c0 b) (hno : no.length = 12) (hbs : BS H A1 n1 c1 bs) (ht : BS H A2 n2 c2 t) {bit : UInt8} :
  HC Try.prog 11 [.sl A0 n0 c0, .agg (no.map SV.u8), .sl A1 n1 c1, .sl A2 n2 c2, .u8 bit] [] H (fun r S' H' => r = .b true ∧ S' = [] ∧ HLe H H') := by
 have htl := ht.len
 have hbit := u8_lt bit
 have hWl := sealF_len (aesKeys (key32F b)) no bs t
 refine hc_intro (n := 112) Try.func11 rfl Try.ntmps11 rfl (fun B hB => ?_)
 refine ew_cut (e' := [(0, _), (1, _), (2, _), (3, _), (4, _)]) [0, 1, 2, 3, 4] rfl ?_
 refine ew_seq ?_
 refine rg (.h 0 (.q 1 XT.done)) (by kernel_rfl) (by kernel_rfl) ?_
 refine h_boxS rfl rfl rfl ?_
 intro g1
 refine ⟨kp0, ?_⟩
 refine q_as (sv := .b false) rfl rfl rfl ?_
 refine x_end ?_
 refine nk_cut (e' := [(0, _), (1, _), (2, _), (3, _), (4, _), (6, _), (10, _)]) [0, 1, 2, 3, 4, 6, 10] rfl ?_
 refine nk_seq ?_
 refine ew_seq ?_
 refine ew_seq ?_
 refine rg (.q 0 (.q 1 (.q 2 (.q 3 (.q 4 (.q 5 (.q 6 (.q 7 (.q 8 (.q 9 (.q 10 (.q 11 (.q 12 XT.done))))))))))))) (by kernel_rfl) (by kernel_rfl) ?_
 refine q_mv rfl rfl rfl ?_
 refine q_len Try.underlying26 rfl rfl rfl ?_
 refine q_gt rfl rfl rfl rfl ?_
 refine q_mv rfl rfl rfl ?_
 refine x_spl (d := 24) rfl ?_ ?_
 ·intro hb24
  try simp only [Bool.not_eq_true', Bool.not_eq_false', decide_eq_true_eq, decide_eq_false_iff_not, ne_eq, Decidable.not_not] at hb24
  iterate 3 refine q_skip rfl rfl ?_
  refine q_pkT rfl rfl rfl rfl ?_
  refine q_mv rfl rfl rfl ?_
  iterate 3 refine q_skip rfl rfl ?_
  refine q_pkT rfl rfl rfl rfl ?_
  refine x_end ?_
  refine nk_cut (e' := [(0, _), (1, _), (2, _), (3, _), (4, _), (6, _), (10, _), (33, _)]) [0, 1, 2, 3, 4, 6, 10, 33] rfl ?_
  refine nk_seq ?_
  refine ew_true rfl ?_
  refine ew_seq ?_
  refine rg (.h 0 (.q 1 XT.done)) (by kernel_rfl) (by kernel_rfl) ?_
  refine h_call0 Try.call57 rfl rfl rfl (GWorks_hc) ?_
  rintro r_ S_ Hn1 hl1 ⟨rfl, rfl, hle1⟩
  replace hb := hb.mono hl1
  replace hbs := hbs.mono hl1
  replace ht := ht.mono hl1
  refine ⟨kp0, ?_⟩
  refine x_S (S' := [_]) rfl ?_
  refine q_as rfl rfl rfl ?_
  refine x_end ?_
  refine nk_cut (e' := [(0, _), (1, _), (2, _), (3, _), (4, _), (6, _), (10, _), (33, _)]) [0, 1, 2, 3, 4, 6, 10, 33] rfl ?_
  refine nk_seq ?_
  refine ew_retS rfl rfl (.cons (.tmp rfl) .nil) ?_
  exact ⟨rfl, rfl, hl1⟩
 ·intro hb24
  try simp only [Bool.not_eq_true', Bool.not_eq_false', decide_eq_true_eq, decide_eq_false_iff_not, ne_eq, Decidable.not_not] at hb24
  refine q_mv rfl rfl rfl ?_
  refine q_len Try.underlying26 rfl rfl rfl ?_
  refine q_gt rfl rfl rfl rfl ?_
  refine q_pkF rfl rfl rfl rfl ?_
  refine q_mv rfl rfl rfl ?_
  refine x_spl (d := 29) rfl ?_ ?_
  ·intro hb29
   try simp only [Bool.not_eq_true', Bool.not_eq_false', decide_eq_true_eq, decide_eq_false_iff_not, ne_eq, Decidable.not_not] at hb29
   iterate 3 refine q_skip rfl rfl ?_
   refine q_pkT rfl rfl rfl rfl ?_
   refine x_end ?_
   refine nk_cut (e' := [(0, _), (1, _), (2, _), (3, _), (4, _), (6, _), (10, _), (33, _)]) [0, 1, 2, 3, 4, 6, 10, 33] rfl ?_
   refine nk_seq ?_
   refine ew_true rfl ?_
   refine ew_seq ?_
   refine rg (.h 0 (.q 1 XT.done)) (by kernel_rfl) (by kernel_rfl) ?_
   refine h_call0 Try.call57 rfl rfl rfl (GWorks_hc) ?_
   rintro r_ S_ Hn2 hl2 ⟨rfl, rfl, hle2⟩
   replace hb := hb.mono hl2
   replace hbs := hbs.mono hl2
   replace ht := ht.mono hl2
   refine ⟨kp0, ?_⟩
   refine x_S (S' := [_]) rfl ?_
   refine q_as rfl rfl rfl ?_
   refine x_end ?_
   refine nk_cut (e' := [(0, _), (1, _), (2, _), (3, _), (4, _), (6, _), (10, _), (33, _)]) [0, 1, 2, 3, 4, 6, 10, 33] rfl ?_
   refine nk_seq ?_
   refine ew_retS rfl rfl (.cons (.tmp rfl) .nil) ?_
   exact ⟨rfl, rfl, hl2⟩
  ·intro hb29
   try simp only [Bool.not_eq_true', Bool.not_eq_false', decide_eq_true_eq, decide_eq_false_iff_not, ne_eq, Decidable.not_not] at hb29
   refine q_mv rfl rfl rfl ?_
   refine q_len Try.underlying26 rfl rfl rfl ?_
   refine q_gt rfl rfl rfl rfl ?_
   refine q_pkF rfl rfl rfl rfl ?_
   refine x_end ?_
   refine nk_cut (e' := [(0, _), (1, _), (2, _), (3, _), (4, _), (6, _), (10, _), (33, _)]) [0, 1, 2, 3, 4, 6, 10, 33] rfl ?_
   refine nk_seq ?_
   refine ew_cond rfl ?_ ?_
   ·intro hc33
    try simp only [decide_eq_true_eq] at hc33
    refine ew_seq ?_
    refine rg (.h 0 (.q 1 XT.done)) (by kernel_rfl) (by kernel_rfl) ?_
    refine h_call0 Try.call57 rfl rfl rfl (GWorks_hc) ?_
    rintro r_ S_ Hn3 hl3 ⟨rfl, rfl, hle3⟩
    replace hb := hb.mono hl3
    replace hbs := hbs.mono hl3
    replace ht := ht.mono hl3
    refine ⟨kp0, ?_⟩
    refine x_S (S' := [_]) rfl ?_
    refine q_as rfl rfl rfl ?_
    refine x_end ?_
    refine nk_cut (e' := [(0, _), (1, _), (2, _), (3, _), (4, _), (6, _), (10, _), (33, _)]) [0, 1, 2, 3, 4, 6, 10, 33] rfl ?_
    refine nk_seq ?_
    refine ew_retS rfl rfl (.cons (.tmp rfl) .nil) ?_
    exact ⟨rfl, rfl, hl3⟩
   ·intro hc33
    try simp only [decide_eq_false_iff_not] at hc33
    refine ew_skip ?_
    refine nk_seq ?_
    refine ew_seq ?_
    refine rg (.h 0 (.q 1 (.h 2 (.h 3 (.q 4 (.q 5 (.q 6 (.q 7 (.q 8 XT.done))))))))) (by kernel_rfl) (by kernel_rfl) ?_
    refine h_call0 Try.call59 rfl rfl rfl (AesBuild_hc) ?_
    rintro r_ S_ Hn4 hl4 ⟨gt1, rfl, rfl, htab1, hle4⟩
    replace hb := hb.mono hl4
    replace hbs := hbs.mono hl4
    replace ht := ht.mono hl4
    refine ⟨kp0, ?_⟩
    refine x_S (S' := [_]) rfl ?_
    refine q_mv rfl rfl rfl ?_
    refine h_call0 Try.call60 rfl rfl rfl (Key32_hc hb) ?_
    rintro r_ S_ Hn4 hl5 ⟨A1, c1, rfl, rfl, hcap1, rfl⟩
    refine ⟨kp0, ?_⟩
    refine x_S (S' := [_, _]) rfl ?_
    refine pubX (S' := [_]) 0 rfl rfl ?_
    intro Hp1 hp1 hr1
    replace hb := hb.mono hp1
    replace hbs := hbs.mono hp1
    replace ht := ht.mono hp1
    replace htab1 := htab1.mono hp1
    refine h_call0 Try.call58 rfl rfl rfl (GcmNew_hc htab1 (key := key32F b) ⟨hr1, k32_len b 32, hcap1⟩ rfl) ?_
    rintro r_ S_ Hn5 hl6 ⟨gg1, gc1, gh1, rfl, hgcm1, rfl, hle5⟩
    replace hb := hb.mono hl6
    replace hbs := hbs.mono hl6
    replace ht := ht.mono hl6
    replace htab1 := htab1.mono hl6
    replace hr1 := hr1.mono hl6
    refine ⟨kp0, ?_⟩
    refine x_S (S' := [_]) rfl ?_
    refine q_mv rfl rfl rfl ?_
    refine q_ext rfl rfl rfl rfl ?_
    refine q_ext rfl rfl rfl rfl ?_
    refine q_as rfl rfl rfl ?_
    refine q_as rfl rfl rfl ?_
    refine x_end ?_
    refine nk_cut (e' := [(0, _), (1, _), (2, _), (3, _), (4, _), (6, _), (10, _), (11, _), (12, _), (33, _)]) [0, 1, 2, 3, 4, 6, 10, 11, 12, 33] rfl ?_
    refine nk_seq ?_
    refine ew_seq ?_
    refine ew_seq ?_
    refine rg (.q 0 (.q 1 (.q 2 (.q 3 (.q 4 (.q 5 XT.done)))))) (by kernel_rfl) (by kernel_rfl) ?_
    refine q_mv rfl rfl rfl ?_
    refine q_ne rfl rfl rfl rfl ?_
    refine x_F (by simp) ?_
    refine q_mv rfl rfl rfl ?_
    refine q_mv rfl rfl rfl ?_
    refine q_eq_pn Try.underlying104 rfl rfl rfl rfl ?_
    refine q_pkF rfl rfl rfl rfl ?_
    refine x_end ?_
    refine nk_cut (e' := [(0, _), (1, _), (2, _), (3, _), (4, _), (6, _), (10, _), (11, _), (12, _), (33, _), (47, _)]) [0, 1, 2, 3, 4, 6, 10, 11, 12, 33, 47] rfl ?_
    refine nk_seq ?_
    refine ew_false rfl ?_
    refine ew_skip ?_
    refine nk_seq ?_
    refine ew_seq ?_
    refine pubBE (S' := []) 0 rfl rfl ?_
    intro Hq1 hq1 hpb1
    replace hb := hb.mono hq1
    replace hbs := hbs.mono hq1
    replace ht := ht.mono hq1
    replace htab1 := htab1.mono hq1
    replace hr1 := hr1.mono hq1
    replace hgcm1 := hgcm1.mono hq1
    refine rg (.q 0 (.q 1 (.q 2 (.q 3 (.h 4 (.q 5 (.q 6 (.q 7 (.q 8 (.q 9 XT.done)))))))))) (by kernel_rfl) (by kernel_rfl) ?_
    refine q_mv rfl rfl rfl ?_
    refine q_ar_a Try.underlying116 Try.sizeOf5 rfl rfl rfl  ?_
    refine q_mv rfl rfl rfl ?_
    refine q_mv rfl rfl rfl ?_
    have hcs := GcmSeal_hc hgcm1 (BS.of (xs := no) hpb1 hno (Nat.le_refl 12)) hbs ht (by omega)
    rw [sealG_ok hno] at hcs
    dsimp only at hcs
    refine h_call0 Try.call61 rfl rfl rfl (hcs) ?_
    rintro r_ S_ Hn6 hl7 ⟨A2, c2, rfl, rfl, hcap2, hle6⟩
    replace hb := hb.mono hl7
    replace hbs := hbs.mono hl7
    replace ht := ht.mono hl7
    replace htab1 := htab1.mono hl7
    replace hr1 := hr1.mono hl7
    replace hgcm1 := hgcm1.mono hl7
    replace hpb1 := hpb1.mono hl7
    refine ⟨kp0, ?_⟩
    refine x_S (S' := [_]) rfl ?_
    refine q_mv rfl rfl rfl ?_
    refine q_ext rfl rfl rfl rfl ?_
    refine q_ext rfl rfl rfl rfl ?_
    refine q_as rfl rfl rfl ?_
    refine q_as rfl rfl rfl ?_
    refine x_end ?_
    refine nk_cut (e' := [(0, _), (1, _), (2, _), (3, _), (4, _), (6, _), (10, _), (11, _), (12, _), (13, _), (14, _), (33, _), (47, _)]) [0, 1, 2, 3, 4, 6, 10, 11, 12, 13, 14, 33, 47] rfl ?_
    refine nk_seq ?_
    refine ew_seq ?_
    refine ew_seq ?_
    refine rg (.q 0 (.q 1 (.q 2 (.q 3 (.q 4 (.q 5 (.q 6 XT.done))))))) (by kernel_rfl) (by kernel_rfl) ?_
    refine q_mv rfl rfl rfl ?_
    refine q_ne rfl rfl rfl rfl ?_
    refine x_F (by simp) ?_
    refine q_mv rfl rfl rfl ?_
    refine q_mv rfl rfl rfl ?_
    refine q_len Try.underlying26 rfl rfl rfl ?_
    refine q_lt rfl rfl rfl rfl ?_
    refine x_F (decide_eq_false (by omega)) ?_
    refine q_pkF rfl rfl rfl rfl ?_
    refine x_end ?_
    refine nk_cut (e' := [(0, _), (1, _), (2, _), (3, _), (4, _), (6, _), (10, _), (11, _), (12, _), (13, _), (14, _), (33, _), (47, _), (62, _)]) [0, 1, 2, 3, 4, 6, 10, 11, 12, 13, 14, 33, 47, 62] rfl ?_
    refine nk_seq ?_
    refine ew_false rfl ?_
    refine ew_skip ?_
    refine nk_seq ?_
    refine ew_seq ?_
    refine rg (.q 0 (.q 1 (.q 2 (.q 3 XT.done)))) (by kernel_rfl) (by kernel_rfl) ?_
    refine q_mv rfl rfl rfl ?_
    refine q_cv_u8_i Try.underlying3 (by kernel_rfl) rfl rfl rfl ?_
    refine q_rem rfl rfl rfl rfl (by omega) (by omega) (by omega) ?_
    refine q_as rfl rfl rfl ?_
    refine x_end ?_
    refine nk_cut (e' := [(0, _), (1, _), (2, _), (3, _), (4, _), (6, _), (10, _), (11, _), (12, _), (13, _), (14, _), (15, _), (33, _), (47, _), (62, _)]) [0, 1, 2, 3, 4, 6, 10, 11, 12, 13, 14, 15, 33, 47, 62] rfl ?_
    refine nk_seq ?_
    refine ew_seq ?_
    refine rg (.q 0 (.q 1 (.q 2 (.q 3 (.q 4 (.q 5 (.q 6 XT.done))))))) (by kernel_rfl) (by kernel_rfl) ?_
    refine q_mv rfl rfl rfl ?_
    refine q_len Try.underlying26 rfl rfl rfl ?_
    refine q_sub rfl rfl rfl rfl (by omega) (by omega) ?_
    refine q_mv rfl rfl rfl ?_
    refine q_quo rfl rfl rfl rfl (by omega) (by omega) (by omega) ?_
    refine q_add rfl rfl rfl rfl (by omega) (by omega) ?_
    refine q_as rfl rfl rfl ?_
    refine x_end ?_
    refine nk_cut (e' := [(0, _), (1, _), (2, _), (3, _), (4, _), (6, _), (10, _), (11, _), (12, _), (13, _), (14, _), (15, _), (16, _), (33, _), (47, _), (62, _)]) [0, 1, 2, 3, 4, 6, 10, 11, 12, 13, 14, 15, 16, 33, 47, 62] rfl ?_
    refine nk_seq ?_
    refine ew_seq ?_
    refine rd (by kernel_rfl) [0, 1, 2, 3, 4, 5, 6, 7, 8, 9, 10] [0, 1, 2, 3, 4, 5, 6, 7, 8, 9, 10] (.q 0 (.q 1 (.q 2 (.q 3 (.q 4 (.q 5 (.q 6 (.q 7 (.q 8 (.q 9 (.q 10 (.h 11 XT.done)))))))))))) (by kernel_rfl) (by kernel_rfl) (keepL _ [0]) (keepL_sub _ _) ?_
    iterate 4 refine q_mv rfl rfl rfl ?_
    refine x_own 0 rfl (by rw [List.length_map, hWl]; omega) ?_
    intro hAs
    refine q_ixs1 Try.underlying26 Try.sizeOf5 rfl rfl rfl rfl rfl hAs (by omega) (by omega) ?_
    refine q_ldo 0 Try.isAgg5 rfl rfl rfl rfl (nth_get (nthM SV.u8 0 (i := (t.length + bit.toNat % 128 / 8)) (by omega) (by omega))) ?_
    refine q_mv rfl rfl rfl ?_
    refine q_rem rfl rfl rfl rfl (by omega) (by omega) (by omega) ?_
    refine q_shl_u8 rfl rfl rfl rfl (by omega) ?_
    refine q_xor_u8 rfl rfl rfl rfl ?_
    refine q_ixs1 Try.underlying26 Try.sizeOf5 rfl rfl rfl rfl rfl hAs (by omega) (by omega) ?_
    refine h_sto (cs' := (((sealF (aesKeys (key32F b)) no bs t).set (t.length + bit.toNat % 128 / 8) ((sealF (aesKeys (key32F b)) no bs t).getD (t.length + bit.toNat % 128 / 8) 0 ^^^ shl_u8 1 ((bit.toNat : Int) % 128 % 8).toNat)).map SV.u8)) (S' := [_]) 0 Try.sizeOf5 rfl rfl rfl rfl rfl rfl (by rw [List.length_map]; omega) (by rw [show (((((sealF (aesKeys (key32F b)) no bs t).length : Nat) : Int) - 16 + (bit.toNat : Int) % 128 / 8).toNat) = (t.length + bit.toNat % 128 / 8) by omega]; exact setM SV.u8 rfl) rfl (fun h => absurd h (by decide)) ?_
    refine x_end ?_
    refine nk_cut (e' := [(0, _), (1, _), (2, _), (3, _), (4, _), (6, _), (10, _), (11, _), (12, _), (13, _), (14, _), (15, _), (16, _), (33, _), (47, _), (62, _)]) [0, 1, 2, 3, 4, 6, 10, 11, 12, 13, 14, 15, 16, 33, 47, 62] rfl ?_
    refine nk_seq ?_
    refine ew_seq ?_
    refine rg (.q 0 (.q 1 (.q 2 (.q 3 (.h 4 (.q 5 (.q 6 (.q 7 (.q 8 (.q 9 XT.done)))))))))) (by kernel_rfl) (by kernel_rfl) ?_
    refine q_mv rfl rfl rfl ?_
    refine q_ar_a Try.underlying116 Try.sizeOf5 rfl rfl rfl  ?_
    refine q_mv rfl rfl rfl ?_
    refine q_mv rfl rfl rfl ?_
    refine pubX (S' := []) 0 rfl rfl ?_
    intro Hp2 hp2 hr2
    replace hb := hb.mono hp2
    replace hbs := hbs.mono hp2
    replace ht := ht.mono hp2
    replace htab1 := htab1.mono hp2
    replace hr1 := hr1.mono hp2
    replace hgcm1 := hgcm1.mono hp2
    replace hpb1 := hpb1.mono hp2
    have hW2 : BS Hp2 _ _ _ ((sealF (aesKeys (key32F b)) no bs t).set (t.length + bit.toNat % 128 / 8) ((sealF (aesKeys (key32F b)) no bs t).getD (t.length + bit.toNat % 128 / 8) 0 ^^^ shl_u8 1 ((bit.toNat : Int) % 128 % 8).toNat)) := ⟨hr2, List.length_set .., hcap2⟩
    have hturn := open_turned (ks := (aesKeys (key32F b))) (bs := bs) (t := t) hno (q := bit.toNat % 128 / 8) (by omega) (shl1_ne (e := ((bit.toNat : Int) % 128 % 8).toNat) (by omega))
    refine h_call0 Try.call64 rfl rfl rfl (GcmOpen_hc hgcm1 (BS.of (xs := no) hpb1 hno (Nat.le_refl 12)) hbs hW2 (by omega)) ?_
    rintro r_ S_ Hn7 hl8 ⟨A3, c3, rfl, rfl, hcap3, hle7⟩
    replace hb := hb.mono hl8
    replace hbs := hbs.mono hl8
    replace ht := ht.mono hl8
    replace htab1 := htab1.mono hl8
    replace hr1 := hr1.mono hl8
    replace hgcm1 := hgcm1.mono hl8
    replace hpb1 := hpb1.mono hl8
    replace hr2 := hr2.mono hl8
    replace hW2 := hW2.mono hl8
    refine ⟨kp0, ?_⟩
    refine x_S (S' := [_]) rfl ?_
    refine q_mv rfl rfl rfl ?_
    refine q_ext rfl rfl rfl rfl ?_
    refine q_ext rfl rfl rfl rfl ?_
    refine q_as rfl rfl rfl ?_
    refine q_as rfl rfl rfl ?_
    refine x_end ?_
    refine nk_cut (e' := [(0, _), (1, _), (2, _), (3, _), (4, _), (6, _), (10, _), (11, _), (12, _), (13, _), (14, _), (15, _), (16, _), (18, _), (33, _), (47, _), (62, _)]) [0, 1, 2, 3, 4, 6, 10, 11, 12, 13, 14, 15, 16, 18, 33, 47, 62] rfl ?_
    refine nk_seq ?_
    refine ew_seq ?_
    refine rd (by kernel_rfl) [0, 1, 2, 3, 4, 5, 6, 7, 9, 10, 11, 12, 13] [0, 1, 2, 3, 4, 5, 6, 7, 8, 9, 10, 11, 12, 13] (.q 0 (.q 1 (.q 2 (.q 3 (.q 4 (.q 5 (.q 6 (.q 7 (.h 8 (.q 9 (.q 10 (.q 11 (.q 12 (.q 13 XT.done)))))))))))))) (by kernel_rfl) (by kernel_rfl) (keepL _ []) (keepL_sub _ _) ?_
    refine q_mv rfl rfl rfl ?_
    refine q_ar_a Try.underlying116 Try.sizeOf5 rfl rfl rfl  ?_
    iterate 3 refine q_mv rfl rfl rfl ?_
    refine q_len Try.underlying26 rfl rfl rfl ?_
    refine q_sub rfl rfl rfl rfl (by omega) (by omega) ?_
    refine q_sl_l Try.underlying26 Try.sizeOf5 rfl rfl rfl rfl (by omega) (by omega) ?_
    refine h_call0 Try.call64 rfl rfl rfl (GcmOpen_hc hgcm1 (BS.of (xs := no) hpb1 hno (Nat.le_refl 12)) hbs (hW2.drop (L := ((((sealF (aesKeys (key32F b)) no bs t).length : Nat) : Int) - 15).toNat) (by omega)) (by omega)) ?_
    rintro r_ S_ Hn8 hl9 ⟨A4, c4, rfl, rfl, hcap4, hle8⟩
    replace hb := hb.mono hl9
    replace hbs := hbs.mono hl9
    replace ht := ht.mono hl9
    replace htab1 := htab1.mono hl9
    replace hr1 := hr1.mono hl9
    replace hgcm1 := hgcm1.mono hl9
    replace hpb1 := hpb1.mono hl9
    replace hr2 := hr2.mono hl9
    replace hW2 := hW2.mono hl9
    refine ⟨(fun _ => ⟨by first | exact kpL [] rfl | simp [keepL, nth], hl9⟩), ?_⟩
    refine x_S (S' := [_, _]) rfl ?_
    refine q_mv rfl rfl rfl ?_
    refine q_ext rfl rfl rfl rfl ?_
    refine q_ext rfl rfl rfl rfl ?_
    refine q_as rfl rfl rfl ?_
    refine q_as rfl rfl rfl ?_
    refine x_end ?_
    refine nk_cut (e' := [(0, _), (1, _), (2, _), (3, _), (4, _), (6, _), (10, _), (11, _), (12, _), (13, _), (14, _), (15, _), (16, _), (18, _), (20, _), (33, _), (47, _), (62, _)]) [0, 1, 2, 3, 4, 6, 10, 11, 12, 13, 14, 15, 16, 18, 20, 33, 47, 62] rfl ?_
    refine nk_seq ?_
    refine ew_seq ?_
    refine rg (.q 0 (.q 1 (.q 2 (.q 3 (.q 4 (.q 5 (.q 6 (.h 7 (.q 8 (.q 9 XT.done)))))))))) (by kernel_rfl) (by kernel_rfl) ?_
    refine q_mv rfl rfl rfl ?_
    refine q_eq rfl rfl rfl rfl ?_
    refine x_T (decide_eq_true hturn) ?_
    refine q_mv rfl rfl rfl ?_
    refine q_mv rfl rfl rfl ?_
    refine q_eq rfl rfl rfl rfl ?_
    refine x_T (decide_eq_true (open_short hno (by rw [List.length_drop, List.length_set]; omega))) ?_
    refine q_pkT rfl rfl rfl rfl ?_
    refine q_mv rfl rfl rfl ?_
    refine h_call0 Try.call57 rfl rfl rfl (GWorks_hc) ?_
    rintro r_ S_ Hn9 hl10 ⟨rfl, rfl, hle9⟩
    replace hb := hb.mono hl10
    replace hbs := hbs.mono hl10
    replace ht := ht.mono hl10
    replace htab1 := htab1.mono hl10
    replace hr1 := hr1.mono hl10
    replace hgcm1 := hgcm1.mono hl10
    replace hpb1 := hpb1.mono hl10
    replace hr2 := hr2.mono hl10
    replace hW2 := hW2.mono hl10
    refine ⟨kp0, ?_⟩
    refine x_S (S' := [_, _]) rfl ?_
    refine q_pkT rfl rfl rfl rfl ?_
    refine q_as rfl rfl rfl ?_
    refine x_end ?_
    refine nk_cut (e' := [(0, _), (1, _), (2, _), (3, _), (4, _), (6, _), (10, _), (11, _), (12, _), (13, _), (14, _), (15, _), (16, _), (18, _), (20, _), (33, _), (47, _), (62, _)]) [0, 1, 2, 3, 4, 6, 10, 11, 12, 13, 14, 15, 16, 18, 20, 33, 47, 62] rfl ?_
    refine nk_seq ?_
    refine ew_retS rfl rfl (.cons (.tmp rfl) .nil) ?_
    exact ⟨rfl, rfl, ((((((((hl4.trans hp1).trans hl6).trans hq1).trans hl7).trans hp2).trans hl8).trans hl9).trans hl10)⟩

end Go.GW
