/- deedboxlaw06.GcmSeals and GcmOpens return true, whatever they are given. -/
import Derived.Test.YtcchamnagcpaiaaLawG
import Derived.Test.YtcchamnagcpaiaaEqF
namespace Go.GW
open Go Go.Proofs
set_option linter.unusedSimpArgs false
set_option linter.unusedVariables false


theorem Seals_hc {H : Hp} {A0 A1 A2 A3 : Option Addr} {n0 c0 n1 c1 n2 c2 n3 c3 : Nat} {b no bs t : List UInt8} (hb : BS H A0 n0 c0 b) (hno : BS H A1 n1 c1 no) (hbs : BS H A2 n2 c2 bs) (ht : BS H A3 n3 c3 t) :
  HC Try.prog 8 [.sl A0 n0 c0, .sl A1 n1 c1, .sl A2 n2 c2, .sl A3 n3 c3] [] H (fun r S' H' => r = .b true ∧ S' = [] ∧ HLe H H') := by
 have htl := ht.len
 have hbsl := hbs.len
 refine hc_intro (n := 76) Try.func8 rfl Try.ntmps8 rfl (fun B hB => ?_)
 refine ew_cut (e' := [(0, _), (1, _), (2, _), (3, _)]) [0, 1, 2, 3] rfl ?_
 refine ew_seq ?_
 refine rg (.q 0 XT.done) (by kernel_rfl) (by kernel_rfl) ?_
 refine q_as (sv := .b false) rfl rfl rfl ?_
 refine x_end ?_
 refine nk_cut (e' := [(0, _), (1, _), (2, _), (3, _), (8, _)]) [0, 1, 2, 3, 8] rfl ?_
 refine nk_seq ?_
 refine ew_seq ?_
 refine ew_seq ?_
 refine rg (.q 0 (.q 1 (.q 2 (.q 3 (.q 4 (.q 5 (.q 6 (.q 7 (.q 8 (.q 9 (.q 10 (.q 11 (.q 12 (.q 13 (.q 14 (.q 15 (.q 16 (.q 17 XT.done)))))))))))))))))) (by kernel_rfl) (by kernel_rfl) ?_
 refine q_mv rfl rfl rfl ?_
 refine q_len Try.underlying26 rfl rfl rfl ?_
 refine q_gt rfl rfl rfl rfl ?_
 refine q_mv rfl rfl rfl ?_
 refine x_spl (d := 18) rfl ?_ ?_
 ·intro hb18
  try simp only [Bool.not_eq_true', Bool.not_eq_false', decide_eq_true_eq, decide_eq_false_iff_not, ne_eq, Decidable.not_not] at hb18
  iterate 3 refine q_skip rfl rfl ?_
  refine q_pkT rfl rfl rfl rfl ?_
  refine q_mv rfl rfl rfl ?_
  iterate 3 refine q_skip rfl rfl ?_
  refine q_pkT rfl rfl rfl rfl ?_
  refine q_mv rfl rfl rfl ?_
  iterate 3 refine q_skip rfl rfl ?_
  refine q_pkT rfl rfl rfl rfl ?_
  refine x_end ?_
  refine nk_cut (e' := [(0, _), (1, _), (2, _), (3, _), (8, _), (32, _)]) [0, 1, 2, 3, 8, 32] rfl ?_
  refine nk_seq ?_
  refine ew_true rfl ?_
  refine ew_seq ?_
  refine rg (.h 0 (.q 1 XT.done)) (by kernel_rfl) (by kernel_rfl) ?_
  refine h_call0 Try.call57 rfl rfl rfl (GWorks_hc) ?_
  rintro r_ S_ Hn1 hl1 ⟨rfl, rfl, hle1⟩
  replace hb := hb.mono hl1
  replace hno := hno.mono hl1
  replace hbs := hbs.mono hl1
  replace ht := ht.mono hl1
  refine ⟨kp0, ?_⟩
  refine x_S (S' := []) rfl ?_
  refine q_as rfl rfl rfl ?_
  refine x_end ?_
  refine nk_cut (e' := [(0, _), (1, _), (2, _), (3, _), (8, _), (32, _)]) [0, 1, 2, 3, 8, 32] rfl ?_
  refine nk_seq ?_
  refine ew_retS rfl rfl (.cons (.tmp rfl) .nil) ?_
  exact ⟨rfl, rfl, hl1⟩
 ·intro hb18
  try simp only [Bool.not_eq_true', Bool.not_eq_false', decide_eq_true_eq, decide_eq_false_iff_not, ne_eq, Decidable.not_not] at hb18
  refine q_mv rfl rfl rfl ?_
  refine q_len Try.underlying26 rfl rfl rfl ?_
  refine q_gt rfl rfl rfl rfl ?_
  refine q_pkF rfl rfl rfl rfl ?_
  refine q_mv rfl rfl rfl ?_
  refine x_spl (d := 23) rfl ?_ ?_
  ·intro hb23
   try simp only [Bool.not_eq_true', Bool.not_eq_false', decide_eq_true_eq, decide_eq_false_iff_not, ne_eq, Decidable.not_not] at hb23
   iterate 3 refine q_skip rfl rfl ?_
   refine q_pkT rfl rfl rfl rfl ?_
   refine q_mv rfl rfl rfl ?_
   iterate 3 refine q_skip rfl rfl ?_
   refine q_pkT rfl rfl rfl rfl ?_
   refine x_end ?_
   refine nk_cut (e' := [(0, _), (1, _), (2, _), (3, _), (8, _), (32, _)]) [0, 1, 2, 3, 8, 32] rfl ?_
   refine nk_seq ?_
   refine ew_true rfl ?_
   refine ew_seq ?_
   refine rg (.h 0 (.q 1 XT.done)) (by kernel_rfl) (by kernel_rfl) ?_
   refine h_call0 Try.call57 rfl rfl rfl (GWorks_hc) ?_
   rintro r_ S_ Hn2 hl2 ⟨rfl, rfl, hle2⟩
   replace hb := hb.mono hl2
   replace hno := hno.mono hl2
   replace hbs := hbs.mono hl2
   replace ht := ht.mono hl2
   refine ⟨kp0, ?_⟩
   refine x_S (S' := []) rfl ?_
   refine q_as rfl rfl rfl ?_
   refine x_end ?_
   refine nk_cut (e' := [(0, _), (1, _), (2, _), (3, _), (8, _), (32, _)]) [0, 1, 2, 3, 8, 32] rfl ?_
   refine nk_seq ?_
   refine ew_retS rfl rfl (.cons (.tmp rfl) .nil) ?_
   exact ⟨rfl, rfl, hl2⟩
  ·intro hb23
   try simp only [Bool.not_eq_true', Bool.not_eq_false', decide_eq_true_eq, decide_eq_false_iff_not, ne_eq, Decidable.not_not] at hb23
   refine q_mv rfl rfl rfl ?_
   refine q_len Try.underlying26 rfl rfl rfl ?_
   refine q_gt rfl rfl rfl rfl ?_
   refine q_pkF rfl rfl rfl rfl ?_
   refine q_mv rfl rfl rfl ?_
   refine x_spl (d := 28) rfl ?_ ?_
   ·intro hb28
    try simp only [Bool.not_eq_true', Bool.not_eq_false', decide_eq_true_eq, decide_eq_false_iff_not, ne_eq, Decidable.not_not] at hb28
    iterate 3 refine q_skip rfl rfl ?_
    refine q_pkT rfl rfl rfl rfl ?_
    refine x_end ?_
    refine nk_cut (e' := [(0, _), (1, _), (2, _), (3, _), (8, _), (32, _)]) [0, 1, 2, 3, 8, 32] rfl ?_
    refine nk_seq ?_
    refine ew_true rfl ?_
    refine ew_seq ?_
    refine rg (.h 0 (.q 1 XT.done)) (by kernel_rfl) (by kernel_rfl) ?_
    refine h_call0 Try.call57 rfl rfl rfl (GWorks_hc) ?_
    rintro r_ S_ Hn3 hl3 ⟨rfl, rfl, hle3⟩
    replace hb := hb.mono hl3
    replace hno := hno.mono hl3
    replace hbs := hbs.mono hl3
    replace ht := ht.mono hl3
    refine ⟨kp0, ?_⟩
    refine x_S (S' := []) rfl ?_
    refine q_as rfl rfl rfl ?_
    refine x_end ?_
    refine nk_cut (e' := [(0, _), (1, _), (2, _), (3, _), (8, _), (32, _)]) [0, 1, 2, 3, 8, 32] rfl ?_
    refine nk_seq ?_
    refine ew_retS rfl rfl (.cons (.tmp rfl) .nil) ?_
    exact ⟨rfl, rfl, hl3⟩
   ·intro hb28
    try simp only [Bool.not_eq_true', Bool.not_eq_false', decide_eq_true_eq, decide_eq_false_iff_not, ne_eq, Decidable.not_not] at hb28
    refine q_mv rfl rfl rfl ?_
    refine q_len Try.underlying26 rfl rfl rfl ?_
    refine q_gt rfl rfl rfl rfl ?_
    refine q_pkF rfl rfl rfl rfl ?_
    refine x_end ?_
    refine nk_cut (e' := [(0, _), (1, _), (2, _), (3, _), (8, _), (32, _)]) [0, 1, 2, 3, 8, 32] rfl ?_
    refine nk_seq ?_
    refine ew_cond rfl ?_ ?_
    ·intro hc32
     try simp only [decide_eq_true_eq] at hc32
     refine ew_seq ?_
     refine rg (.h 0 (.q 1 XT.done)) (by kernel_rfl) (by kernel_rfl) ?_
     refine h_call0 Try.call57 rfl rfl rfl (GWorks_hc) ?_
     rintro r_ S_ Hn4 hl4 ⟨rfl, rfl, hle4⟩
     replace hb := hb.mono hl4
     replace hno := hno.mono hl4
     replace hbs := hbs.mono hl4
     replace ht := ht.mono hl4
     refine ⟨kp0, ?_⟩
     refine x_S (S' := []) rfl ?_
     refine q_as rfl rfl rfl ?_
     refine x_end ?_
     refine nk_cut (e' := [(0, _), (1, _), (2, _), (3, _), (8, _), (32, _)]) [0, 1, 2, 3, 8, 32] rfl ?_
     refine nk_seq ?_
     refine ew_retS rfl rfl (.cons (.tmp rfl) .nil) ?_
     exact ⟨rfl, rfl, hl4⟩
    ·intro hc32
     try simp only [decide_eq_false_iff_not] at hc32
     have hlen : (sealG (aesKeys (key32F b)) no bs t).1.length ≤ n3 + 16 := by
      by_cases h : no.length = 12
      ·rw [sealG_ok h, sealF_len]; omega
      ·rw [show sealG (aesKeys (key32F b)) no bs t = ([], 17) from if_pos h]; simp
     refine ew_skip ?_
     refine nk_seq ?_
     refine ew_seq ?_
     refine rg (.h 0 (.q 1 (.h 2 (.h 3 (.q 4 (.q 5 (.q 6 (.q 7 (.q 8 XT.done))))))))) (by kernel_rfl) (by kernel_rfl) ?_
     refine h_call0 Try.call59 rfl rfl rfl (AesBuild_hc) ?_
     rintro r_ S_ Hn5 hl5 ⟨gt1, rfl, rfl, htab1, hle5⟩
     replace hb := hb.mono hl5
     replace hno := hno.mono hl5
     replace hbs := hbs.mono hl5
     replace ht := ht.mono hl5
     refine ⟨kp0, ?_⟩
     refine x_S (S' := []) rfl ?_
     refine q_mv rfl rfl rfl ?_
     refine h_call0 Try.call60 rfl rfl rfl (Key32_hc hb) ?_
     rintro r_ S_ Hn5 hl6 ⟨A1, c1, rfl, rfl, hcap1, rfl⟩
     refine ⟨kp0, ?_⟩
     refine x_S (S' := [_]) rfl ?_
     refine pubX (S' := []) 0 rfl rfl ?_
     intro Hp1 hp1 hr1
     replace hb := hb.mono hp1
     replace hno := hno.mono hp1
     replace hbs := hbs.mono hp1
     replace ht := ht.mono hp1
     replace htab1 := htab1.mono hp1
     refine h_call0 Try.call58 rfl rfl rfl (GcmNew_hc htab1 (key := key32F b) ⟨hr1, k32_len b 32, hcap1⟩ rfl) ?_
     rintro r_ S_ Hn6 hl7 ⟨gg1, gc1, gh1, rfl, hgcm1, rfl, hle6⟩
     replace hb := hb.mono hl7
     replace hno := hno.mono hl7
     replace hbs := hbs.mono hl7
     replace ht := ht.mono hl7
     replace htab1 := htab1.mono hl7
     replace hr1 := hr1.mono hl7
     refine ⟨kp0, ?_⟩
     refine x_S (S' := []) rfl ?_
     refine q_mv rfl rfl rfl ?_
     refine q_ext rfl rfl rfl rfl ?_
     refine q_ext rfl rfl rfl rfl ?_
     refine q_as rfl rfl rfl ?_
     refine q_as rfl rfl rfl ?_
     refine x_end ?_
     refine nk_cut (e' := [(0, _), (1, _), (2, _), (3, _), (8, _), (9, _), (10, _), (32, _)]) [0, 1, 2, 3, 8, 9, 10, 32] rfl ?_
     refine nk_seq ?_
     refine ew_seq ?_
     refine ew_seq ?_
     refine rg (.q 0 (.q 1 (.q 2 (.q 3 (.q 4 (.q 5 XT.done)))))) (by kernel_rfl) (by kernel_rfl) ?_
     refine q_mv rfl rfl rfl ?_
     refine q_ne rfl rfl rfl rfl ?_
     refine x_F (by simp) ?_
     refine q_mv rfl rfl rfl ?_
     refine q_mv rfl rfl rfl ?_
     refine q_eq_pn Try.underlying104 rfl rfl rfl rfl ?_
     refine q_pkF rfl rfl rfl rfl ?_
     refine x_end ?_
     refine nk_cut (e' := [(0, _), (1, _), (2, _), (3, _), (8, _), (9, _), (10, _), (32, _), (46, _)]) [0, 1, 2, 3, 8, 9, 10, 32, 46] rfl ?_
     refine nk_seq ?_
     refine ew_false rfl ?_
     refine ew_skip ?_
     refine nk_seq ?_
     refine ew_seq ?_
     refine rg (.q 0 (.q 1 (.q 2 (.q 3 (.h 4 (.q 5 (.q 6 (.q 7 (.q 8 (.q 9 XT.done)))))))))) (by kernel_rfl) (by kernel_rfl) ?_
     iterate 4 refine q_mv rfl rfl rfl ?_
     refine h_call0 Try.call61 rfl rfl rfl (GcmSeal_hc hgcm1 hno hbs ht (by omega)) ?_
     rintro r_ S_ Hn7 hl8 ⟨A2, c2, rfl, rfl, hcap2, hle7⟩
     replace hb := hb.mono hl8
     replace hno := hno.mono hl8
     replace hbs := hbs.mono hl8
     replace ht := ht.mono hl8
     replace htab1 := htab1.mono hl8
     replace hr1 := hr1.mono hl8
     replace hgcm1 := hgcm1.mono hl8
     refine ⟨kp0, ?_⟩
     refine x_S (S' := [_]) rfl ?_
     refine q_mv rfl rfl rfl ?_
     refine q_ext rfl rfl rfl rfl ?_
     refine q_ext rfl rfl rfl rfl ?_
     refine q_as rfl rfl rfl ?_
     refine q_as rfl rfl rfl ?_
     refine x_end ?_
     refine nk_cut (e' := [(0, _), (1, _), (2, _), (3, _), (8, _), (9, _), (10, _), (11, _), (12, _), (32, _), (46, _)]) [0, 1, 2, 3, 8, 9, 10, 11, 12, 32, 46] rfl ?_
     refine nk_seq ?_
     refine ew_seq ?_
     refine rg (.q 0 (.h 1 (.h 2 (.q 3 (.q 4 (.q 5 (.h 6 (.q 7 (.q 8 (.q 9 (.q 10 (.q 11 XT.done)))))))))))) (by kernel_rfl) (by kernel_rfl) ?_
     refine q_mv rfl rfl rfl ?_
     refine h_call0 Try.call60 rfl rfl rfl (Key32_hc hb) ?_
     rintro r_ S_ Hn7 hl9 ⟨A3, c3, rfl, rfl, hcap3, rfl⟩
     refine ⟨kp0, ?_⟩
     refine x_S (S' := [_, _]) rfl ?_
     refine pubX (S' := [_]) 0 rfl rfl ?_
     intro Hp2 hp2 hr2
     replace hb := hb.mono hp2
     replace hno := hno.mono hp2
     replace hbs := hbs.mono hp2
     replace ht := ht.mono hp2
     replace htab1 := htab1.mono hp2
     replace hr1 := hr1.mono hp2
     replace hgcm1 := hgcm1.mono hp2
     refine h_call0 Try.call63 rfl rfl rfl (RNew_hc (⟨hr2, k32_len b 32, hcap3⟩ : BS _ _ _ _ (key32F b))) ?_
     rintro r_ S_ Hn8 hl10 ⟨Ab1, cb1, Aw1, cw1, ps1, Ah1, ch1, rfl, rfl, hrk1, hle8⟩
     replace hb := hb.mono hl10
     replace hno := hno.mono hl10
     replace hbs := hbs.mono hl10
     replace ht := ht.mono hl10
     replace htab1 := htab1.mono hl10
     replace hr1 := hr1.mono hl10
     replace hgcm1 := hgcm1.mono hl10
     replace hr2 := hr2.mono hl10
     refine ⟨kp0, ?_⟩
     refine x_S (S' := [_]) rfl ?_
     iterate 3 refine q_mv rfl rfl rfl ?_
     have hcr := RSeal_hc hrk1 hno hbs ht (by omega) (by omega)
     rw [seal_eq (key := key32F b) (k32_len b 32)] at hcr
     refine h_call0 Try.call62 rfl rfl rfl (hcr) ?_
     rintro r_ S_ Hn9 hl11 ⟨A4, c4, rfl, rfl, hcap4, hle9⟩
     replace hb := hb.mono hl11
     replace hno := hno.mono hl11
     replace hbs := hbs.mono hl11
     replace ht := ht.mono hl11
     replace htab1 := htab1.mono hl11
     replace hr1 := hr1.mono hl11
     replace hgcm1 := hgcm1.mono hl11
     replace hr2 := hr2.mono hl11
     replace hrk1 := hrk1.mono hl11
     refine ⟨kp0, ?_⟩
     refine x_S (S' := [_, _]) rfl ?_
     refine q_mv rfl rfl rfl ?_
     refine q_ext rfl rfl rfl rfl ?_
     refine q_ext rfl rfl rfl rfl ?_
     refine q_as rfl rfl rfl ?_
     refine q_as rfl rfl rfl ?_
     refine x_end ?_
     refine nk_cut (e' := [(0, _), (1, _), (2, _), (3, _), (8, _), (9, _), (10, _), (11, _), (12, _), (13, _), (14, _), (32, _), (46, _)]) [0, 1, 2, 3, 8, 9, 10, 11, 12, 13, 14, 32, 46] rfl ?_
     refine nk_seq ?_
     refine ew_seq ?_
     refine rg (.q 0 (.q 1 (.h 2 (.q 3 (.q 4 (.q 5 (.q 6 (.q 7 (.q 8 (.h 9 (.q 10 (.q 11 XT.done)))))))))))) (by kernel_rfl) (by kernel_rfl) ?_
     refine q_mv rfl rfl rfl ?_
     refine q_mv rfl rfl rfl ?_
     refine pubX (S' := [_]) 1 rfl rfl ?_
     intro Hp3 hp3 hr3
     replace hb := hb.mono hp3
     replace hno := hno.mono hp3
     replace hbs := hbs.mono hp3
     replace ht := ht.mono hp3
     replace htab1 := htab1.mono hp3
     replace hr1 := hr1.mono hp3
     replace hgcm1 := hgcm1.mono hp3
     replace hr2 := hr2.mono hp3
     replace hrk1 := hrk1.mono hp3
     refine pubX (S' := []) 0 rfl rfl ?_
     intro Hp4 hp4 hr4
     replace hb := hb.mono hp4
     replace hno := hno.mono hp4
     replace hbs := hbs.mono hp4
     replace ht := ht.mono hp4
     replace htab1 := htab1.mono hp4
     replace hr1 := hr1.mono hp4
     replace hgcm1 := hgcm1.mono hp4
     replace hr2 := hr2.mono hp4
     replace hrk1 := hrk1.mono hp4
     replace hr3 := hr3.mono hp4
     refine h_call0 Try.call24 rfl rfl rfl (RSame_hc (⟨hr3, rfl, hcap2⟩ : BS _ _ _ _ _) (⟨hr4, rfl, hcap4⟩ : BS _ _ _ _ _) (by have := hlen; omega)) ?_
     rintro r_ S_ Hp4 hl12 ⟨rfl, rfl, rfl⟩
     refine ⟨kp0, ?_⟩
     refine x_S (S' := []) rfl ?_
     refine x_T (by simp) ?_
     iterate 3 refine q_mv rfl rfl rfl ?_
     refine q_eq rfl rfl rfl rfl ?_
     refine x_T (by simp) ?_
     refine q_pkT rfl rfl rfl rfl ?_
     refine q_mv rfl rfl rfl ?_
     refine h_call0 Try.call57 rfl rfl rfl (GWorks_hc) ?_
     rintro r_ S_ Hn10 hl13 ⟨rfl, rfl, hle10⟩
     replace hb := hb.mono hl13
     replace hno := hno.mono hl13
     replace hbs := hbs.mono hl13
     replace ht := ht.mono hl13
     replace htab1 := htab1.mono hl13
     replace hr1 := hr1.mono hl13
     replace hgcm1 := hgcm1.mono hl13
     replace hr2 := hr2.mono hl13
     replace hrk1 := hrk1.mono hl13
     replace hr3 := hr3.mono hl13
     replace hr4 := hr4.mono hl13
     refine ⟨kp0, ?_⟩
     refine x_S (S' := []) rfl ?_
     refine q_pkT rfl rfl rfl rfl ?_
     refine q_as rfl rfl rfl ?_
     refine x_end ?_
     refine nk_cut (e' := [(0, _), (1, _), (2, _), (3, _), (8, _), (9, _), (10, _), (11, _), (12, _), (13, _), (14, _), (32, _), (46, _)]) [0, 1, 2, 3, 8, 9, 10, 11, 12, 13, 14, 32, 46] rfl ?_
     refine nk_seq ?_
     refine ew_retS rfl rfl (.cons (.tmp rfl) .nil) ?_
     exact ⟨rfl, rfl, (((((((((hl5.trans hp1).trans hl7).trans hl8).trans hp2).trans hl10).trans hl11).trans hp3).trans hp4).trans hl13)⟩


theorem Opens_hc {H : Hp} {A0 A1 A2 A3 : Option Addr} {n0 c0 n1 c1 n2 c2 n3 c3 : Nat} {b no bs t : List UInt8} (hb : BS H A0 n0 c0 b) (hno : BS H A1 n1 c1 no) (hbs : BS H A2 n2 c2 bs) (ht : BS H A3 n3 c3 t) :
  HC Try.prog 9 [.sl A0 n0 c0, .sl A1 n1 c1, .sl A2 n2 c2, .sl A3 n3 c3] [] H (fun r S' H' => r = .b true ∧ S' = [] ∧ HLe H H') := by
 have htl := ht.len
 have hbsl := hbs.len
 refine hc_intro (n := 76) Try.func9 rfl Try.ntmps9 rfl (fun B hB => ?_)
 refine ew_cut (e' := [(0, _), (1, _), (2, _), (3, _)]) [0, 1, 2, 3] rfl ?_
 refine ew_seq ?_
 refine rg (.q 0 XT.done) (by kernel_rfl) (by kernel_rfl) ?_
 refine q_as (sv := .b false) rfl rfl rfl ?_
 refine x_end ?_
 refine nk_cut (e' := [(0, _), (1, _), (2, _), (3, _), (8, _)]) [0, 1, 2, 3, 8] rfl ?_
 refine nk_seq ?_
 refine ew_seq ?_
 refine ew_seq ?_
 refine rg (.q 0 (.q 1 (.q 2 (.q 3 (.q 4 (.q 5 (.q 6 (.q 7 (.q 8 (.q 9 (.q 10 (.q 11 (.q 12 (.q 13 (.q 14 (.q 15 (.q 16 (.q 17 XT.done)))))))))))))))))) (by kernel_rfl) (by kernel_rfl) ?_
 refine q_mv rfl rfl rfl ?_
 refine q_len Try.underlying26 rfl rfl rfl ?_
 refine q_gt rfl rfl rfl rfl ?_
 refine q_mv rfl rfl rfl ?_
 refine x_spl (d := 18) rfl ?_ ?_
 ·intro hb18
  try simp only [Bool.not_eq_true', Bool.not_eq_false', decide_eq_true_eq, decide_eq_false_iff_not, ne_eq, Decidable.not_not] at hb18
  iterate 3 refine q_skip rfl rfl ?_
  refine q_pkT rfl rfl rfl rfl ?_
  refine q_mv rfl rfl rfl ?_
  iterate 3 refine q_skip rfl rfl ?_
  refine q_pkT rfl rfl rfl rfl ?_
  refine q_mv rfl rfl rfl ?_
  iterate 3 refine q_skip rfl rfl ?_
  refine q_pkT rfl rfl rfl rfl ?_
  refine x_end ?_
  refine nk_cut (e' := [(0, _), (1, _), (2, _), (3, _), (8, _), (32, _)]) [0, 1, 2, 3, 8, 32] rfl ?_
  refine nk_seq ?_
  refine ew_true rfl ?_
  refine ew_seq ?_
  refine rg (.h 0 (.q 1 XT.done)) (by kernel_rfl) (by kernel_rfl) ?_
  refine h_call0 Try.call57 rfl rfl rfl (GWorks_hc) ?_
  rintro r_ S_ Hn1 hl1 ⟨rfl, rfl, hle1⟩
  replace hb := hb.mono hl1
  replace hno := hno.mono hl1
  replace hbs := hbs.mono hl1
  replace ht := ht.mono hl1
  refine ⟨kp0, ?_⟩
  refine x_S (S' := []) rfl ?_
  refine q_as rfl rfl rfl ?_
  refine x_end ?_
  refine nk_cut (e' := [(0, _), (1, _), (2, _), (3, _), (8, _), (32, _)]) [0, 1, 2, 3, 8, 32] rfl ?_
  refine nk_seq ?_
  refine ew_retS rfl rfl (.cons (.tmp rfl) .nil) ?_
  exact ⟨rfl, rfl, hl1⟩
 ·intro hb18
  try simp only [Bool.not_eq_true', Bool.not_eq_false', decide_eq_true_eq, decide_eq_false_iff_not, ne_eq, Decidable.not_not] at hb18
  refine q_mv rfl rfl rfl ?_
  refine q_len Try.underlying26 rfl rfl rfl ?_
  refine q_gt rfl rfl rfl rfl ?_
  refine q_pkF rfl rfl rfl rfl ?_
  refine q_mv rfl rfl rfl ?_
  refine x_spl (d := 23) rfl ?_ ?_
  ·intro hb23
   try simp only [Bool.not_eq_true', Bool.not_eq_false', decide_eq_true_eq, decide_eq_false_iff_not, ne_eq, Decidable.not_not] at hb23
   iterate 3 refine q_skip rfl rfl ?_
   refine q_pkT rfl rfl rfl rfl ?_
   refine q_mv rfl rfl rfl ?_
   iterate 3 refine q_skip rfl rfl ?_
   refine q_pkT rfl rfl rfl rfl ?_
   refine x_end ?_
   refine nk_cut (e' := [(0, _), (1, _), (2, _), (3, _), (8, _), (32, _)]) [0, 1, 2, 3, 8, 32] rfl ?_
   refine nk_seq ?_
   refine ew_true rfl ?_
   refine ew_seq ?_
   refine rg (.h 0 (.q 1 XT.done)) (by kernel_rfl) (by kernel_rfl) ?_
   refine h_call0 Try.call57 rfl rfl rfl (GWorks_hc) ?_
   rintro r_ S_ Hn2 hl2 ⟨rfl, rfl, hle2⟩
   replace hb := hb.mono hl2
   replace hno := hno.mono hl2
   replace hbs := hbs.mono hl2
   replace ht := ht.mono hl2
   refine ⟨kp0, ?_⟩
   refine x_S (S' := []) rfl ?_
   refine q_as rfl rfl rfl ?_
   refine x_end ?_
   refine nk_cut (e' := [(0, _), (1, _), (2, _), (3, _), (8, _), (32, _)]) [0, 1, 2, 3, 8, 32] rfl ?_
   refine nk_seq ?_
   refine ew_retS rfl rfl (.cons (.tmp rfl) .nil) ?_
   exact ⟨rfl, rfl, hl2⟩
  ·intro hb23
   try simp only [Bool.not_eq_true', Bool.not_eq_false', decide_eq_true_eq, decide_eq_false_iff_not, ne_eq, Decidable.not_not] at hb23
   refine q_mv rfl rfl rfl ?_
   refine q_len Try.underlying26 rfl rfl rfl ?_
   refine q_gt rfl rfl rfl rfl ?_
   refine q_pkF rfl rfl rfl rfl ?_
   refine q_mv rfl rfl rfl ?_
   refine x_spl (d := 28) rfl ?_ ?_
   ·intro hb28
    try simp only [Bool.not_eq_true', Bool.not_eq_false', decide_eq_true_eq, decide_eq_false_iff_not, ne_eq, Decidable.not_not] at hb28
    iterate 3 refine q_skip rfl rfl ?_
    refine q_pkT rfl rfl rfl rfl ?_
    refine x_end ?_
    refine nk_cut (e' := [(0, _), (1, _), (2, _), (3, _), (8, _), (32, _)]) [0, 1, 2, 3, 8, 32] rfl ?_
    refine nk_seq ?_
    refine ew_true rfl ?_
    refine ew_seq ?_
    refine rg (.h 0 (.q 1 XT.done)) (by kernel_rfl) (by kernel_rfl) ?_
    refine h_call0 Try.call57 rfl rfl rfl (GWorks_hc) ?_
    rintro r_ S_ Hn3 hl3 ⟨rfl, rfl, hle3⟩
    replace hb := hb.mono hl3
    replace hno := hno.mono hl3
    replace hbs := hbs.mono hl3
    replace ht := ht.mono hl3
    refine ⟨kp0, ?_⟩
    refine x_S (S' := []) rfl ?_
    refine q_as rfl rfl rfl ?_
    refine x_end ?_
    refine nk_cut (e' := [(0, _), (1, _), (2, _), (3, _), (8, _), (32, _)]) [0, 1, 2, 3, 8, 32] rfl ?_
    refine nk_seq ?_
    refine ew_retS rfl rfl (.cons (.tmp rfl) .nil) ?_
    exact ⟨rfl, rfl, hl3⟩
   ·intro hb28
    try simp only [Bool.not_eq_true', Bool.not_eq_false', decide_eq_true_eq, decide_eq_false_iff_not, ne_eq, Decidable.not_not] at hb28
    refine q_mv rfl rfl rfl ?_
    refine q_len Try.underlying26 rfl rfl rfl ?_
    refine q_gt rfl rfl rfl rfl ?_
    refine q_pkF rfl rfl rfl rfl ?_
    refine x_end ?_
    refine nk_cut (e' := [(0, _), (1, _), (2, _), (3, _), (8, _), (32, _)]) [0, 1, 2, 3, 8, 32] rfl ?_
    refine nk_seq ?_
    refine ew_cond rfl ?_ ?_
    ·intro hc32
     try simp only [decide_eq_true_eq] at hc32
     refine ew_seq ?_
     refine rg (.h 0 (.q 1 XT.done)) (by kernel_rfl) (by kernel_rfl) ?_
     refine h_call0 Try.call57 rfl rfl rfl (GWorks_hc) ?_
     rintro r_ S_ Hn4 hl4 ⟨rfl, rfl, hle4⟩
     replace hb := hb.mono hl4
     replace hno := hno.mono hl4
     replace hbs := hbs.mono hl4
     replace ht := ht.mono hl4
     refine ⟨kp0, ?_⟩
     refine x_S (S' := []) rfl ?_
     refine q_as rfl rfl rfl ?_
     refine x_end ?_
     refine nk_cut (e' := [(0, _), (1, _), (2, _), (3, _), (8, _), (32, _)]) [0, 1, 2, 3, 8, 32] rfl ?_
     refine nk_seq ?_
     refine ew_retS rfl rfl (.cons (.tmp rfl) .nil) ?_
     exact ⟨rfl, rfl, hl4⟩
    ·intro hc32
     try simp only [decide_eq_false_iff_not] at hc32
     have hlen := open_len (aesKeys (key32F b)) no bs t
     refine ew_skip ?_
     refine nk_seq ?_
     refine ew_seq ?_
     refine rg (.h 0 (.q 1 (.h 2 (.h 3 (.q 4 (.q 5 (.q 6 (.q 7 (.q 8 XT.done))))))))) (by kernel_rfl) (by kernel_rfl) ?_
     refine h_call0 Try.call59 rfl rfl rfl (AesBuild_hc) ?_
     rintro r_ S_ Hn5 hl5 ⟨gt1, rfl, rfl, htab1, hle5⟩
     replace hb := hb.mono hl5
     replace hno := hno.mono hl5
     replace hbs := hbs.mono hl5
     replace ht := ht.mono hl5
     refine ⟨kp0, ?_⟩
     refine x_S (S' := []) rfl ?_
     refine q_mv rfl rfl rfl ?_
     refine h_call0 Try.call60 rfl rfl rfl (Key32_hc hb) ?_
     rintro r_ S_ Hn5 hl6 ⟨A1, c1, rfl, rfl, hcap1, rfl⟩
     refine ⟨kp0, ?_⟩
     refine x_S (S' := [_]) rfl ?_
     refine pubX (S' := []) 0 rfl rfl ?_
     intro Hp1 hp1 hr1
     replace hb := hb.mono hp1
     replace hno := hno.mono hp1
     replace hbs := hbs.mono hp1
     replace ht := ht.mono hp1
     replace htab1 := htab1.mono hp1
     refine h_call0 Try.call58 rfl rfl rfl (GcmNew_hc htab1 (key := key32F b) ⟨hr1, k32_len b 32, hcap1⟩ rfl) ?_
     rintro r_ S_ Hn6 hl7 ⟨gg1, gc1, gh1, rfl, hgcm1, rfl, hle6⟩
     replace hb := hb.mono hl7
     replace hno := hno.mono hl7
     replace hbs := hbs.mono hl7
     replace ht := ht.mono hl7
     replace htab1 := htab1.mono hl7
     replace hr1 := hr1.mono hl7
     refine ⟨kp0, ?_⟩
     refine x_S (S' := []) rfl ?_
     refine q_mv rfl rfl rfl ?_
     refine q_ext rfl rfl rfl rfl ?_
     refine q_ext rfl rfl rfl rfl ?_
     refine q_as rfl rfl rfl ?_
     refine q_as rfl rfl rfl ?_
     refine x_end ?_
     refine nk_cut (e' := [(0, _), (1, _), (2, _), (3, _), (8, _), (9, _), (10, _), (32, _)]) [0, 1, 2, 3, 8, 9, 10, 32] rfl ?_
     refine nk_seq ?_
     refine ew_seq ?_
     refine ew_seq ?_
     refine rg (.q 0 (.q 1 (.q 2 (.q 3 (.q 4 (.q 5 XT.done)))))) (by kernel_rfl) (by kernel_rfl) ?_
     refine q_mv rfl rfl rfl ?_
     refine q_ne rfl rfl rfl rfl ?_
     refine x_F (by simp) ?_
     refine q_mv rfl rfl rfl ?_
     refine q_mv rfl rfl rfl ?_
     refine q_eq_pn Try.underlying104 rfl rfl rfl rfl ?_
     refine q_pkF rfl rfl rfl rfl ?_
     refine x_end ?_
     refine nk_cut (e' := [(0, _), (1, _), (2, _), (3, _), (8, _), (9, _), (10, _), (32, _), (46, _)]) [0, 1, 2, 3, 8, 9, 10, 32, 46] rfl ?_
     refine nk_seq ?_
     refine ew_false rfl ?_
     refine ew_skip ?_
     refine nk_seq ?_
     refine ew_seq ?_
     refine rg (.q 0 (.q 1 (.q 2 (.q 3 (.h 4 (.q 5 (.q 6 (.q 7 (.q 8 (.q 9 XT.done)))))))))) (by kernel_rfl) (by kernel_rfl) ?_
     iterate 4 refine q_mv rfl rfl rfl ?_
     refine h_call0 Try.call64 rfl rfl rfl (GcmOpen_hc hgcm1 hno hbs ht (by omega)) ?_
     rintro r_ S_ Hn7 hl8 ⟨A2, c2, rfl, rfl, hcap2, hle7⟩
     replace hb := hb.mono hl8
     replace hno := hno.mono hl8
     replace hbs := hbs.mono hl8
     replace ht := ht.mono hl8
     replace htab1 := htab1.mono hl8
     replace hr1 := hr1.mono hl8
     replace hgcm1 := hgcm1.mono hl8
     refine ⟨kp0, ?_⟩
     refine x_S (S' := [_]) rfl ?_
     refine q_mv rfl rfl rfl ?_
     refine q_ext rfl rfl rfl rfl ?_
     refine q_ext rfl rfl rfl rfl ?_
     refine q_as rfl rfl rfl ?_
     refine q_as rfl rfl rfl ?_
     refine x_end ?_
     refine nk_cut (e' := [(0, _), (1, _), (2, _), (3, _), (8, _), (9, _), (10, _), (11, _), (12, _), (32, _), (46, _)]) [0, 1, 2, 3, 8, 9, 10, 11, 12, 32, 46] rfl ?_
     refine nk_seq ?_
     refine ew_seq ?_
     refine rg (.q 0 (.h 1 (.h 2 (.q 3 (.q 4 (.q 5 (.h 6 (.q 7 (.q 8 (.q 9 (.q 10 (.q 11 XT.done)))))))))))) (by kernel_rfl) (by kernel_rfl) ?_
     refine q_mv rfl rfl rfl ?_
     refine h_call0 Try.call60 rfl rfl rfl (Key32_hc hb) ?_
     rintro r_ S_ Hn7 hl9 ⟨A3, c3, rfl, rfl, hcap3, rfl⟩
     refine ⟨kp0, ?_⟩
     refine x_S (S' := [_, _]) rfl ?_
     refine pubX (S' := [_]) 0 rfl rfl ?_
     intro Hp2 hp2 hr2
     replace hb := hb.mono hp2
     replace hno := hno.mono hp2
     replace hbs := hbs.mono hp2
     replace ht := ht.mono hp2
     replace htab1 := htab1.mono hp2
     replace hr1 := hr1.mono hp2
     replace hgcm1 := hgcm1.mono hp2
     refine h_call0 Try.call63 rfl rfl rfl (RNew_hc (⟨hr2, k32_len b 32, hcap3⟩ : BS _ _ _ _ (key32F b))) ?_
     rintro r_ S_ Hn8 hl10 ⟨Ab1, cb1, Aw1, cw1, ps1, Ah1, ch1, rfl, rfl, hrk1, hle8⟩
     replace hb := hb.mono hl10
     replace hno := hno.mono hl10
     replace hbs := hbs.mono hl10
     replace ht := ht.mono hl10
     replace htab1 := htab1.mono hl10
     replace hr1 := hr1.mono hl10
     replace hgcm1 := hgcm1.mono hl10
     replace hr2 := hr2.mono hl10
     refine ⟨kp0, ?_⟩
     refine x_S (S' := [_]) rfl ?_
     iterate 3 refine q_mv rfl rfl rfl ?_
     have hcr := ROpen_hc hrk1 hno hbs ht (by omega) (by omega)
     rw [open_eq (key := key32F b) (k32_len b 32)] at hcr
     refine h_call0 Try.call65 rfl rfl rfl (hcr) ?_
     rintro r_ S_ Hn9 hl11 ⟨A4, c4, rfl, rfl, hcap4, hle9⟩
     replace hb := hb.mono hl11
     replace hno := hno.mono hl11
     replace hbs := hbs.mono hl11
     replace ht := ht.mono hl11
     replace htab1 := htab1.mono hl11
     replace hr1 := hr1.mono hl11
     replace hgcm1 := hgcm1.mono hl11
     replace hr2 := hr2.mono hl11
     replace hrk1 := hrk1.mono hl11
     refine ⟨kp0, ?_⟩
     refine x_S (S' := [_, _]) rfl ?_
     refine q_mv rfl rfl rfl ?_
     refine q_ext rfl rfl rfl rfl ?_
     refine q_ext rfl rfl rfl rfl ?_
     refine q_as rfl rfl rfl ?_
     refine q_as rfl rfl rfl ?_
     refine x_end ?_
     refine nk_cut (e' := [(0, _), (1, _), (2, _), (3, _), (8, _), (9, _), (10, _), (11, _), (12, _), (13, _), (14, _), (32, _), (46, _)]) [0, 1, 2, 3, 8, 9, 10, 11, 12, 13, 14, 32, 46] rfl ?_
     refine nk_seq ?_
     refine ew_seq ?_
     refine rg (.q 0 (.q 1 (.h 2 (.q 3 (.q 4 (.q 5 (.q 6 (.q 7 (.q 8 (.h 9 (.q 10 (.q 11 XT.done)))))))))))) (by kernel_rfl) (by kernel_rfl) ?_
     refine q_mv rfl rfl rfl ?_
     refine q_mv rfl rfl rfl ?_
     refine pubX (S' := [_]) 1 rfl rfl ?_
     intro Hp3 hp3 hr3
     replace hb := hb.mono hp3
     replace hno := hno.mono hp3
     replace hbs := hbs.mono hp3
     replace ht := ht.mono hp3
     replace htab1 := htab1.mono hp3
     replace hr1 := hr1.mono hp3
     replace hgcm1 := hgcm1.mono hp3
     replace hr2 := hr2.mono hp3
     replace hrk1 := hrk1.mono hp3
     refine pubX (S' := []) 0 rfl rfl ?_
     intro Hp4 hp4 hr4
     replace hb := hb.mono hp4
     replace hno := hno.mono hp4
     replace hbs := hbs.mono hp4
     replace ht := ht.mono hp4
     replace htab1 := htab1.mono hp4
     replace hr1 := hr1.mono hp4
     replace hgcm1 := hgcm1.mono hp4
     replace hr2 := hr2.mono hp4
     replace hrk1 := hrk1.mono hp4
     replace hr3 := hr3.mono hp4
     refine h_call0 Try.call24 rfl rfl rfl (RSame_hc (⟨hr3, rfl, hcap2⟩ : BS _ _ _ _ _) (⟨hr4, rfl, hcap4⟩ : BS _ _ _ _ _) (by have := hlen; omega)) ?_
     rintro r_ S_ Hp4 hl12 ⟨rfl, rfl, rfl⟩
     refine ⟨kp0, ?_⟩
     refine x_S (S' := []) rfl ?_
     refine x_T (by simp) ?_
     iterate 3 refine q_mv rfl rfl rfl ?_
     refine q_eq rfl rfl rfl rfl ?_
     refine x_T (by simp) ?_
     refine q_pkT rfl rfl rfl rfl ?_
     refine q_mv rfl rfl rfl ?_
     refine h_call0 Try.call57 rfl rfl rfl (GWorks_hc) ?_
     rintro r_ S_ Hn10 hl13 ⟨rfl, rfl, hle10⟩
     replace hb := hb.mono hl13
     replace hno := hno.mono hl13
     replace hbs := hbs.mono hl13
     replace ht := ht.mono hl13
     replace htab1 := htab1.mono hl13
     replace hr1 := hr1.mono hl13
     replace hgcm1 := hgcm1.mono hl13
     replace hr2 := hr2.mono hl13
     replace hrk1 := hrk1.mono hl13
     replace hr3 := hr3.mono hl13
     replace hr4 := hr4.mono hl13
     refine ⟨kp0, ?_⟩
     refine x_S (S' := []) rfl ?_
     refine q_pkT rfl rfl rfl rfl ?_
     refine q_as rfl rfl rfl ?_
     refine x_end ?_
     refine nk_cut (e' := [(0, _), (1, _), (2, _), (3, _), (8, _), (9, _), (10, _), (11, _), (12, _), (13, _), (14, _), (32, _), (46, _)]) [0, 1, 2, 3, 8, 9, 10, 11, 12, 13, 14, 32, 46] rfl ?_
     refine nk_seq ?_
     refine ew_retS rfl rfl (.cons (.tmp rfl) .nil) ?_
     exact ⟨rfl, rfl, (((((((((hl5.trans hp1).trans hl7).trans hl8).trans hp2).trans hl10).trans hl11).trans hp3).trans hp4).trans hl13)⟩

end Go.GW
