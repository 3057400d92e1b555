/- Contracts of functions of the loaded program, printed by our own program gen.py. -/
import Derived.Test.YtcchamnagcpaiaaLawB
namespace Go.GW
open Go Go.Proofs


theorem Puts_hc {H : Hp} {a o : An} {A : Option Addr} {n c : Nat} {xs : List UInt8} (hra : An.raw H a) (hro : An.raw H o) (hx : BS H A n c xs) :
  HC Try.prog 4 [.agg a.cells, .agg o.cells, .sl A n c] [] H (fun r S' H' => r = .b true ∧ S' = [] ∧ HLe H H') := by
 have hxl := hx.len
 refine hc_intro (n := 121) Try.func4 rfl Try.ntmps4 rfl (fun B hB => ?_)
 refine ew_cut (e' := [(0, _), (1, _), (2, _)]) [0, 1, 2] rfl ?_
 refine ew_sub (e' := [(0, .agg [_, _, _, _, _, _, _, _]), (1, .agg [_, _, _, _, _, _, _, _]), (2, _)]) ⟨rfl, rfl, rfl, trivial⟩ ?_
 refine ew_seq ?_
 refine rg (.h 0 (.h 1 (.q 2 XT.done))) (by kernel_rfl) (by kernel_rfl) ?_
 refine h_boxS rfl rfl rfl ?_
 intro g1
 refine ⟨kp0, ?_⟩
 refine h_boxS rfl rfl rfl ?_
 intro g2
 refine ⟨kp0, ?_⟩
 refine q_as (sv := .b false) rfl rfl rfl ?_
 refine x_end ?_
 refine nk_cut (e' := [(0, _), (1, _), (2, _), (3, _), (4, _), (6, _)]) [0, 1, 2, 3, 4, 6] rfl ?_
 refine nk_seq ?_
 refine ew_seq ?_
 refine ew_seq ?_
 by_cases l1 : lightA a
 ·skip
  by_cases l2 : lightA o
  ·skip
   refine rg (.q 0 (.h 1 (.q 2 (.q 3 (.q 4 (.h 5 (.q 6 (.q 7 (.q 8 (.q 9 (.q 10 (.q 11 (.q 12 XT.done))))))))))))) (by kernel_rfl) (by kernel_rfl) ?_
   refine q_ldS 1 Try.isAgg60 Try.sizeOf60 rfl rfl rfl rfl rfl ?_
   refine h_call0 Try.call29 rfl rfl rfl (Light_hc hra) ?_
   rintro r_ S_ H hl1 ⟨rfl, rfl, rfl⟩
   refine ⟨kp0, ?_⟩
   refine x_S (S' := [_, _]) rfl ?_
   refine q_not rfl rfl rfl ?_
   refine x_F (by simp [l1]) ?_
   refine q_mv rfl rfl rfl ?_
   refine q_ldS 0 Try.isAgg60 Try.sizeOf60 rfl rfl rfl rfl rfl ?_
   refine h_call0 Try.call29 rfl rfl rfl (Light_hc hro) ?_
   rintro r_ S_ H hl2 ⟨rfl, rfl, rfl⟩
   refine ⟨kp0, ?_⟩
   refine x_S (S' := [_, _]) rfl ?_
   refine q_not rfl rfl rfl ?_
   refine x_F (by simp [l2]) ?_
   refine q_pkF rfl rfl rfl rfl ?_
   refine q_mv rfl rfl rfl ?_
   refine q_mv rfl rfl rfl ?_
   refine q_len Try.underlying26 rfl rfl rfl ?_
   refine q_gt rfl rfl rfl rfl ?_
   refine q_pkF rfl rfl rfl rfl ?_
   refine x_end ?_
   refine nk_cut (e' := [(0, _), (1, _), (2, _), (3, _), (4, _), (6, _), (29, _)]) [0, 1, 2, 3, 4, 6, 29] rfl ?_
   refine nk_seq ?_
   refine ew_cond rfl ?_ ?_
   ·intro hc29
    try simp only [decide_eq_true_eq] at hc29
    refine ew_seq ?_
    refine rg (.h 0 (.q 1 XT.done)) (by kernel_rfl) (by kernel_rfl) ?_
    refine h_call0 Try.call30 rfl rfl rfl (Works_hc) ?_
    rintro r_ S_ Hn1 hl3 ⟨rfl, rfl, hle1⟩
    replace hra := hra.mono hl3
    replace hro := hro.mono hl3
    replace hx := hx.mono hl3
    refine ⟨kp0, ?_⟩
    refine x_S (S' := [_, _]) rfl ?_
    refine q_as rfl rfl rfl ?_
    refine x_end ?_
    refine nk_cut (e' := [(0, _), (1, _), (2, _), (3, _), (4, _), (6, _), (29, _)]) [0, 1, 2, 3, 4, 6, 29] rfl ?_
    refine nk_seq ?_
    refine ew_retS rfl rfl (.cons (.tmp rfl) .nil) ?_
    exact ⟨rfl, rfl, hl3⟩
   ·intro hc29
    try simp only [decide_eq_false_iff_not] at hc29
    have ha : An.ok H a := hra.lt l1
    have ho : An.ok H o := hro.lt l2
    refine ew_skip ?_
    refine nk_seq ?_
    refine ew_seq ?_
    refine rg (.q 0 (.h 1 (.q 2 (.q 3 (.q 4 (.q 5 (.q 6 XT.done))))))) (by kernel_rfl) (by kernel_rfl) ?_
    refine q_ldS 1 Try.isAgg60 Try.sizeOf60 rfl rfl rfl rfl rfl ?_
    refine h_call0 Try.call31 rfl rfl rfl (APut_hc ha) ?_
    rintro r_ S_ H hl4 ⟨A1, c1, rfl, hcap1, rfl, rfl⟩
    refine ⟨kp0, ?_⟩
    refine x_S (S' := [_, _, _]) rfl ?_
    refine q_mv rfl rfl rfl ?_
    refine q_ext rfl rfl rfl rfl ?_
    refine q_ext rfl rfl rfl rfl ?_
    refine q_as rfl rfl rfl ?_
    refine q_as rfl rfl rfl ?_
    refine x_end ?_
    refine nk_cut (e' := [(0, _), (1, _), (2, _), (3, _), (4, _), (6, _), (7, _), (8, _), (29, _)]) [0, 1, 2, 3, 4, 6, 7, 8, 29] rfl ?_
    refine nk_seq ?_
    refine ew_seq ?_
    refine rg (.q 0 (.h 1 (.q 2 (.q 3 (.q 4 (.q 5 (.q 6 XT.done))))))) (by kernel_rfl) (by kernel_rfl) ?_
    refine q_ldS 2 Try.isAgg60 Try.sizeOf60 rfl rfl rfl rfl rfl ?_
    refine h_call0 Try.call32 rfl rfl rfl (RAPut_hc ha) ?_
    rintro r_ S_ H hl5 ⟨A2, c2, rfl, hcap2, rfl, rfl⟩
    refine ⟨kp0, ?_⟩
    refine x_S (S' := [_, _, _, _]) rfl ?_
    refine q_mv rfl rfl rfl ?_
    refine q_ext rfl rfl rfl rfl ?_
    refine q_ext rfl rfl rfl rfl ?_
    refine q_as rfl rfl rfl ?_
    refine q_as rfl rfl rfl ?_
    refine x_end ?_
    refine nk_cut (e' := [(0, _), (1, _), (2, _), (3, _), (4, _), (6, _), (7, _), (8, _), (9, _), (10, _), (29, _)]) [0, 1, 2, 3, 4, 6, 7, 8, 9, 10, 29] rfl ?_
    refine nk_seq ?_
    refine ew_seq ?_
    refine rg (.q 0 (.h 1 (.q 2 (.q 3 (.q 4 (.h 5 (.h 6 (.q 7 XT.done)))))))) (by kernel_rfl) (by kernel_rfl) ?_
    refine q_mv rfl rfl rfl ?_
    refine h_call0 Try.call33 rfl rfl rfl (AGet_hc hx (by omega)) ?_
    rintro r_ S_ Hn2 hl6 ⟨an1, rfl, ha1, hav1, rfl, hle2⟩
    replace hra := hra.mono hl6
    replace hro := hro.mono hl6
    replace hx := hx.mono hl6
    replace ha := ha.mono hl6
    replace ho := ho.mono hl6
    refine ⟨kp0, ?_⟩
    refine x_S (S' := [_, _, _, _]) rfl ?_
    refine q_mv rfl rfl rfl ?_
    refine q_ext rfl rfl rfl rfl ?_
    refine q_ext rfl rfl rfl rfl ?_
    refine h_alloc (cs := [_, _, _, _, _, _, _, _]) Try.zeroValue60 rfl rfl (zc_60 Try.zeroValue60) ?_
    intro g5
    refine ⟨kp0, ?_⟩
    refine h_stS (cs' := [_, _, _, _, _, _, _, _]) (S' := [_, _, _, _, _]) 0 Try.sizeOf60 rfl rfl rfl rfl rfl (allOne rfl) rfl (leb rfl) rfl rfl kp0 ?_
    refine q_as rfl rfl rfl ?_
    refine x_end ?_
    refine nk_cut (e' := [(0, _), (1, _), (2, _), (3, _), (4, _), (6, _), (7, _), (8, _), (9, _), (10, _), (11, _), (12, _), (29, _)]) [0, 1, 2, 3, 4, 6, 7, 8, 9, 10, 11, 12, 29] rfl ?_
    refine nk_seq ?_
    refine ew_seq ?_
    refine rg (.q 0 (.h 1 (.q 2 (.q 3 (.q 4 (.h 5 (.h 6 (.q 7 XT.done)))))))) (by kernel_rfl) (by kernel_rfl) ?_
    refine q_mv rfl rfl rfl ?_
    refine h_call0 Try.call34 rfl rfl rfl (RAGet_hc hx (by omega)) ?_
    rintro r_ S_ Hn3 hl7 ⟨an2, rfl, ha2, hav2, rfl, hle3⟩
    replace hra := hra.mono hl7
    replace hro := hro.mono hl7
    replace hx := hx.mono hl7
    replace ha := ha.mono hl7
    replace ho := ho.mono hl7
    replace ha1 := ha1.mono hl7
    refine ⟨kp0, ?_⟩
    refine x_S (S' := [_, _, _, _, _]) rfl ?_
    refine q_mv rfl rfl rfl ?_
    refine q_ext rfl rfl rfl rfl ?_
    refine q_ext rfl rfl rfl rfl ?_
    refine h_alloc (cs := [_, _, _, _, _, _, _, _]) Try.zeroValue60 rfl rfl (zc_60 Try.zeroValue60) ?_
    intro g6
    refine ⟨kp0, ?_⟩
    refine h_stS (cs' := [_, _, _, _, _, _, _, _]) (S' := [_, _, _, _, _, _]) 0 Try.sizeOf60 rfl rfl rfl rfl rfl (allOne rfl) rfl (leb rfl) rfl rfl kp0 ?_
    refine q_as rfl rfl rfl ?_
    refine x_end ?_
    refine nk_cut (e' := [(0, _), (1, _), (2, _), (3, _), (4, _), (6, _), (7, _), (8, _), (9, _), (10, _), (11, _), (12, _), (13, _), (14, _), (29, _)]) [0, 1, 2, 3, 4, 6, 7, 8, 9, 10, 11, 12, 13, 14, 29] rfl ?_
    refine nk_seq ?_
    refine ew_seq ?_
    refine ew_seq ?_
    refine rd (by kernel_rfl) [0, 1, 3, 4, 5, 6, 7, 8, 9, 10, 12, 14, 15, 16, 17, 18, 20, 21, 22, 23, 24, 25, 26, 27, 28, 29, 31, 32, 34, 35, 36, 37, 39, 41, 42] [0, 1, 2, 3, 4, 5, 6, 7, 8, 9, 10, 11, 12, 13, 14, 15, 16, 17, 18, 19, 20, 21, 22, 23, 24, 25, 26, 27, 28, 29, 30, 31, 32, 33, 34, 35, 36, 37, 38, 39, 40, 41, 42] (.q 0 (.q 1 (.h 2 (.q 3 (.q 4 (.q 5 (.q 6 (.q 7 (.q 8 (.q 9 (.q 10 (.q 12 (.h 11 (.h 13 (.q 14 (.q 15 (.q 16 (.q 17 (.q 18 (.h 19 (.q 20 (.q 21 (.q 22 (.q 23 (.q 24 (.q 25 (.q 26 (.q 27 (.q 28 (.q 29 (.q 31 (.q 32 (.h 30 (.h 33 (.q 34 (.q 35 (.q 36 (.q 37 (.q 39 (.h 38 (.h 40 (.q 41 (.q 42 XT.done))))))))))))))))))))))))))))))))))))))))))) (by kernel_rfl) (by kernel_rfl) (keepL _ [0, 1, 4, 5]) (keepL_sub _ _) ?_
    refine q_mv rfl rfl rfl ?_
    refine q_mv rfl rfl rfl ?_
    refine pubX (S' := [_, _, _, _, _]) 3 rfl rfl ?_
    intro Hp1 hp1 hr1
    replace hra := hra.mono hp1
    replace hro := hro.mono hp1
    replace hx := hx.mono hp1
    replace ha := ha.mono hp1
    replace ho := ho.mono hp1
    replace ha1 := ha1.mono hp1
    replace ha2 := ha2.mono hp1
    refine pubX (S' := [_, _, _, _]) 2 rfl rfl ?_
    intro Hp2 hp2 hr2
    replace hra := hra.mono hp2
    replace hro := hro.mono hp2
    replace hx := hx.mono hp2
    replace ha := ha.mono hp2
    replace ho := ho.mono hp2
    replace ha1 := ha1.mono hp2
    replace ha2 := ha2.mono hp2
    replace hr1 := hr1.mono hp2
    refine h_call0 Try.call24 rfl rfl rfl (RSame_hc (⟨hr1, rfl, hcap1⟩ : BS _ _ _ _ a.v.put) (⟨hr2, rfl, hcap2⟩ : BS _ _ _ _ a.v.put) (Nat.le_trans (Anc.put_len _) (by decide))) ?_
    rintro r_ S_ Hp2 hl8 ⟨rfl, rfl, rfl⟩
    refine ⟨(fun _ => ⟨by first | exact kpL [0, 1, 2, 3] rfl | simp [keepL, nth], (hp1.trans hp2)⟩), ?_⟩
    refine x_S (S' := [_, _, _, _]) rfl ?_
    have hpx : BS Hp2 _ a.v.put.length _ a.v.put := ⟨hr1, rfl, hcap1⟩
    refine q_not rfl rfl rfl ?_
    refine x_F (by simp) ?_
    iterate 3 refine q_mv rfl rfl rfl ?_
    refine q_ne rfl rfl rfl rfl ?_
    refine x_F (by simp) ?_
    refine q_pkF rfl rfl rfl rfl ?_
    refine q_mv rfl rfl rfl ?_
    refine q_ldS 3 Try.isAgg60 Try.sizeOf60 rfl rfl rfl rfl rfl ?_
    refine q_ldS 3 Try.isAgg60 Try.sizeOf60 rfl rfl rfl rfl rfl ?_
    refine h_call0 Try.call35 rfl rfl rfl (AChk_hc ha) ?_
    rintro r_ S_ Hp2 hl9 ⟨rfl, rfl, rfl⟩
    refine ⟨(fun _ => ⟨by first | exact kpL [0, 1, 2, 3] rfl | simp [keepL, nth], (hp1.trans hp2)⟩), ?_⟩
    refine x_S (S' := [_, _, _, _]) rfl ?_
    refine h_call0 Try.call36 rfl rfl rfl (RAChk_hc ha) ?_
    rintro r_ S_ Hp2 hl10 ⟨rfl, rfl, rfl⟩
    refine ⟨(fun _ => ⟨by first | exact kpL [0, 1, 2, 3] rfl | simp [keepL, nth], (hp1.trans hp2)⟩), ?_⟩
    refine x_S (S' := [_, _, _, _]) rfl ?_
    refine q_ne rfl rfl rfl rfl ?_
    refine x_F (by simp) ?_
    refine q_pkF rfl rfl rfl rfl ?_
    refine q_mv rfl rfl rfl ?_
    refine q_ldS 1 Try.isAgg60 Try.sizeOf60 rfl rfl rfl rfl rfl ?_
    refine q_ldS 0 Try.isAgg60 Try.sizeOf60 rfl rfl rfl rfl rfl ?_
    refine h_call0 Try.call37 rfl rfl rfl (RASame_hc ha1 ha2) ?_
    rintro r_ S_ Hp2 hl11 ⟨rfl, rfl, rfl⟩
    refine ⟨(fun _ => ⟨by first | exact kpL [0, 1, 2, 3] rfl | simp [keepL, nth], (hp1.trans hp2)⟩), ?_⟩
    refine x_S (S' := [_, _, _, _]) rfl ?_
    refine q_not rfl rfl rfl ?_
    refine x_F (by rw [hav1, hav2]; simp) ?_
    refine q_pkF rfl rfl rfl rfl ?_
    iterate 3 refine q_mv rfl rfl rfl ?_
    refine q_ne rfl rfl rfl rfl ?_
    refine x_F (by simp) ?_
    refine q_pkF rfl rfl rfl rfl ?_
    refine q_mv rfl rfl rfl ?_
    refine q_ldS 3 Try.isAgg60 Try.sizeOf60 rfl rfl rfl rfl rfl ?_
    refine q_ldS 2 Try.isAgg60 Try.sizeOf60 rfl rfl rfl rfl rfl ?_
    refine q_ldS 3 Try.isAgg60 Try.sizeOf60 rfl rfl rfl rfl rfl ?_
    refine q_ldS 2 Try.isAgg60 Try.sizeOf60 rfl rfl rfl rfl rfl ?_
    refine h_call0 Try.call38 rfl rfl rfl (ASame_hc ha ho) ?_
    rintro r_ S_ Hp2 hl12 ⟨rfl, rfl, rfl⟩
    refine ⟨(fun _ => ⟨by first | exact kpL [0, 1, 2, 3] rfl | simp [keepL, nth], (hp1.trans hp2)⟩), ?_⟩
    refine x_S (S' := [_, _, _, _]) rfl ?_
    refine h_call0 Try.call37 rfl rfl rfl (RASame_hc ha ho) ?_
    rintro r_ S_ Hp2 hl13 ⟨rfl, rfl, rfl⟩
    refine ⟨(fun _ => ⟨by first | exact kpL [0, 1, 2, 3] rfl | simp [keepL, nth], (hp1.trans hp2)⟩), ?_⟩
    refine x_S (S' := [_, _, _, _]) rfl ?_
    refine q_ne_b Try.underlying4 rfl rfl rfl rfl ?_
    refine x_F (by simp) ?_
    refine q_pkF rfl rfl rfl rfl ?_
    refine q_mv rfl rfl rfl ?_
    refine q_ldS 3 Try.isAgg60 Try.sizeOf60 rfl rfl rfl rfl rfl ?_
    refine q_ldS 3 Try.isAgg60 Try.sizeOf60 rfl rfl rfl rfl rfl ?_
    refine h_call0 Try.call39 rfl rfl rfl (ACopy_hc ha) ?_
    rintro r_ S_ Hn4 hl14 ⟨an3, rfl, ha3, hav3, rfl, hle4⟩
    replace hra := hra.mono hl14
    replace hro := hro.mono hl14
    replace hx := hx.mono hl14
    replace ha := ha.mono hl14
    replace ho := ho.mono hl14
    replace ha1 := ha1.mono hl14
    replace ha2 := ha2.mono hl14
    replace hr1 := hr1.mono hl14
    replace hr2 := hr2.mono hl14
    replace hpx := hpx.mono hl14
    refine ⟨(fun _ => ⟨by first | exact kpL [0, 1, 2, 3] rfl | simp [keepL, nth], ((hp1.trans hp2).trans hl14)⟩), ?_⟩
    refine x_S (S' := [_, _, _, _]) rfl ?_
    refine h_call0 Try.call37 rfl rfl rfl (RASame_hc ha3 ha) ?_
    rintro r_ S_ Hn4 hl15 ⟨rfl, rfl, rfl⟩
    refine ⟨(fun _ => ⟨by first | exact kpL [0, 1, 2, 3] rfl | simp [keepL, nth], ((hp1.trans hp2).trans hl14)⟩), ?_⟩
    refine x_S (S' := [_, _, _, _]) rfl ?_
    refine q_not rfl rfl rfl ?_
    refine x_F (by rw [hav3]; simp) ?_
    refine q_pkF rfl rfl rfl rfl ?_
    refine x_end ?_
    refine nk_cut (e' := [(0, _), (1, _), (2, _), (3, _), (4, _), (6, _), (7, _), (8, _), (9, _), (10, _), (11, _), (12, _), (13, _), (14, _), (29, _), (93, _)]) [0, 1, 2, 3, 4, 6, 7, 8, 9, 10, 11, 12, 13, 14, 29, 93] rfl ?_
    refine nk_seq ?_
    refine ew_false rfl ?_
    refine ew_skip ?_
    refine nk_seq ?_
    refine ew_seq ?_
    refine ew_seq ?_
    refine rg (.q 0 (.q 1 XT.done)) (by kernel_rfl) (by kernel_rfl) ?_
    refine q_mv rfl rfl rfl ?_
    refine q_ne rfl rfl rfl rfl ?_
    refine x_end ?_
    refine nk_cut (e' := [(0, _), (1, _), (2, _), (3, _), (4, _), (6, _), (7, _), (8, _), (9, _), (10, _), (11, _), (12, _), (13, _), (14, _), (29, _), (93, _), (95, _)]) [0, 1, 2, 3, 4, 6, 7, 8, 9, 10, 11, 12, 13, 14, 29, 93, 95] rfl ?_
    refine nk_seq ?_
    refine ew_cond rfl ?_ ?_
    ·intro hc95
     simp only [ne_eq, decide_eq_true_eq, decide_eq_false_iff_not, Decidable.not_not] at hc95
     refine ew_seq ?_
     refine rg (.h 0 (.q 1 XT.done)) (by kernel_rfl) (by kernel_rfl) ?_
     refine h_call0 Try.call30 rfl rfl rfl (Works_hc) ?_
     rintro r_ S_ Hn5 hl16 ⟨rfl, rfl, hle5⟩
     replace hra := hra.mono hl16
     replace hro := hro.mono hl16
     replace hx := hx.mono hl16
     replace ha := ha.mono hl16
     replace ho := ho.mono hl16
     replace ha1 := ha1.mono hl16
     replace ha2 := ha2.mono hl16
     replace hr1 := hr1.mono hl16
     replace hr2 := hr2.mono hl16
     replace hpx := hpx.mono hl16
     replace ha3 := ha3.mono hl16
     refine ⟨kp0, ?_⟩
     refine x_S (S' := [_, _, _, _]) rfl ?_
     refine q_as rfl rfl rfl ?_
     refine x_end ?_
     refine nk_cut (e' := [(0, _), (1, _), (2, _), (3, _), (4, _), (6, _), (7, _), (8, _), (9, _), (10, _), (11, _), (12, _), (13, _), (14, _), (29, _), (93, _), (95, _)]) [0, 1, 2, 3, 4, 6, 7, 8, 9, 10, 11, 12, 13, 14, 29, 93, 95] rfl ?_
     refine nk_seq ?_
     refine ew_retS rfl rfl (.cons (.tmp rfl) .nil) ?_
     exact ⟨rfl, rfl, (((((hl6.trans hl7).trans hp1).trans hp2).trans hl14).trans hl16)⟩
    ·intro hc95
     simp only [ne_eq, decide_eq_true_eq, decide_eq_false_iff_not, Decidable.not_not] at hc95
     refine ew_skip ?_
     refine nk_seq ?_
     refine ew_seq ?_
     refine rg (.h 0 (.q 1 (.h 2 (.q 3 (.h 4 (.h 5 (.q 6 (.q 7 (.q 8 (.h 9 (.h 10 (.q 11 XT.done)))))))))))) (by kernel_rfl) (by kernel_rfl) ?_
     refine h_bs (cs := []) Try.underlying26 info_5 rfl rfl rfl rfl rfl rfl rfl rfl rfl (by decide) ?_
     intro g7
     refine ⟨kp0, ?_⟩
     refine q_mv rfl rfl rfl ?_
     refine h_app (sz := 1) 0 Try.underlying26 info_5 rfl rfl rfl (by decide) rfl rfl rfl rfl rfl rfl rfl (by omega) hpx.rr (by rw [List.length_map, Nat.mul_one]) (oneU8 _) (by simp only [by_5]; have := Anc.put_len a.v; omega) (by have := Anc.put_len a.v; omega) ?_
     intro A3 c3 hcap3
     refine ⟨kp0, ?_⟩
     refine x_S (S' := [_, _, _, _, _]) rfl ?_
     refine q_mv rfl rfl rfl ?_
     refine h_app (sz := 1) 0 Try.underlying26 info_5 rfl rfl rfl (by decide) rfl rfl rfl rfl rfl rfl (by simp) (by omega) hx.rr (by rw [List.length_map, hxl, Nat.mul_one]) (oneU8 _) (by simp only [by_5]; have := Anc.put_len a.v; omega) (by have := Anc.put_len a.v; omega) ?_
     intro A4 c4 hcap4
     refine ⟨kp0, ?_⟩
     refine x_S (S' := [_, _, _, _, _]) rfl ?_
     refine pubX (S' := [_, _, _, _]) 0 rfl rfl ?_
     intro Hp3 hp3 hr3
     replace hra := hra.mono hp3
     replace hro := hro.mono hp3
     replace hx := hx.mono hp3
     replace ha := ha.mono hp3
     replace ho := ho.mono hp3
     replace ha1 := ha1.mono hp3
     replace ha2 := ha2.mono hp3
     replace hr1 := hr1.mono hp3
     replace hr2 := hr2.mono hp3
     replace hpx := hpx.mono hp3
     replace ha3 := ha3.mono hp3
     refine h_call0 Try.call33 rfl rfl rfl (AGet_hc (⟨by have h := hr3; rwa [List.nil_append, ← List.map_append] at h, by rw [List.length_append, hxl]; omega, by omega⟩ : BS _ _ _ _ (a.v.put ++ xs)) (by have := Anc.put_len a.v; omega)) ?_
     rintro r_ S_ Hn6 hl17 ⟨an4, rfl, ha4, hav4, rfl, hle6⟩
     replace hra := hra.mono hl17
     replace hro := hro.mono hl17
     replace hx := hx.mono hl17
     replace ha := ha.mono hl17
     replace ho := ho.mono hl17
     replace ha1 := ha1.mono hl17
     replace ha2 := ha2.mono hl17
     replace hr1 := hr1.mono hl17
     replace hr2 := hr2.mono hl17
     replace hpx := hpx.mono hl17
     replace ha3 := ha3.mono hl17
     replace hr3 := hr3.mono hl17
     refine ⟨kp0, ?_⟩
     refine x_S (S' := [_, _, _, _]) rfl ?_
     refine q_mv rfl rfl rfl ?_
     refine q_ext rfl rfl rfl rfl ?_
     refine q_ext rfl rfl rfl rfl ?_
     refine h_alloc (cs := [_, _, _, _, _, _, _, _]) Try.zeroValue60 rfl rfl (zc_60 Try.zeroValue60) ?_
     intro g8
     refine ⟨kp0, ?_⟩
     refine h_stS (cs' := [_, _, _, _, _, _, _, _]) (S' := [_, _, _, _, _]) 0 Try.sizeOf60 rfl rfl rfl rfl rfl (allOne rfl) rfl (leb rfl) rfl rfl kp0 ?_
     refine q_as rfl rfl rfl ?_
     refine x_end ?_
     refine nk_cut (e' := [(0, _), (1, _), (2, _), (3, _), (4, _), (6, _), (7, _), (8, _), (9, _), (10, _), (11, _), (12, _), (13, _), (14, _), (15, _), (16, _), (29, _), (93, _), (95, _)]) [0, 1, 2, 3, 4, 6, 7, 8, 9, 10, 11, 12, 13, 14, 15, 16, 29, 93, 95] rfl ?_
     refine nk_seq ?_
     refine ew_seq ?_
     have hback : Anc.dec (a.v.put ++ xs) = (a.v, 0) := by rw [Anc.put_ok hc95]; exact Anc.back hc95 xs
     refine rg (.q 0 (.q 1 (.q 2 (.q 3 (.q 4 (.h 5 (.q 6 (.q 7 (.q 8 (.q 9 (.q 10 (.q 11 (.q 12 (.h 13 (.q 14 (.q 15 XT.done)))))))))))))))) (by kernel_rfl) (by kernel_rfl) ?_
     refine q_mv rfl rfl rfl ?_
     refine q_eq rfl rfl rfl rfl ?_
     refine x_T (decide_eq_true (by rw [hback])) ?_
     refine q_mv rfl rfl rfl ?_
     refine q_ldS 0 Try.isAgg60 Try.sizeOf60 rfl rfl rfl rfl rfl ?_
     refine q_ldS 4 Try.isAgg60 Try.sizeOf60 rfl rfl rfl rfl rfl ?_
     refine h_call0 Try.call37 rfl rfl rfl (RASame_hc ha4 ha) ?_
     rintro r_ S_ Hn6 hl18 ⟨rfl, rfl, rfl⟩
     refine ⟨kp0, ?_⟩
     refine x_S (S' := [_, _, _, _, _]) rfl ?_
     refine x_T (decide_eq_true (by rw [hav4, hback])) ?_
     refine q_pkT rfl rfl rfl rfl ?_
     refine q_mv rfl rfl rfl ?_
     refine q_mv rfl rfl rfl ?_
     refine q_len Try.underlying26 rfl rfl rfl ?_
     refine q_le rfl rfl rfl rfl ?_
     refine x_T (decide_eq_true (by have := Anc.put_len a.v; omega)) ?_
     refine q_pkT rfl rfl rfl rfl ?_
     refine q_mv rfl rfl rfl ?_
     refine h_call0 Try.call30 rfl rfl rfl (Works_hc) ?_
     rintro r_ S_ Hn7 hl19 ⟨rfl, rfl, hle7⟩
     replace hra := hra.mono hl19
     replace hro := hro.mono hl19
     replace hx := hx.mono hl19
     replace ha := ha.mono hl19
     replace ho := ho.mono hl19
     replace ha1 := ha1.mono hl19
     replace ha2 := ha2.mono hl19
     replace hr1 := hr1.mono hl19
     replace hr2 := hr2.mono hl19
     replace hpx := hpx.mono hl19
     replace ha3 := ha3.mono hl19
     replace hr3 := hr3.mono hl19
     replace ha4 := ha4.mono hl19
     refine ⟨kp0, ?_⟩
     refine x_S (S' := [_, _, _, _, _]) rfl ?_
     refine q_pkT rfl rfl rfl rfl ?_
     refine q_as rfl rfl rfl ?_
     refine x_end ?_
     refine nk_cut (e' := [(0, _), (1, _), (2, _), (3, _), (4, _), (6, _), (7, _), (8, _), (9, _), (10, _), (11, _), (12, _), (13, _), (14, _), (15, _), (16, _), (29, _), (93, _), (95, _)]) [0, 1, 2, 3, 4, 6, 7, 8, 9, 10, 11, 12, 13, 14, 15, 16, 29, 93, 95] rfl ?_
     refine nk_seq ?_
     refine ew_retS rfl rfl (.cons (.tmp rfl) .nil) ?_
     exact ⟨rfl, rfl, (((((((hl6.trans hl7).trans hp1).trans hp2).trans hl14).trans hp3).trans hl17).trans hl19)⟩
  ·skip
   refine rg (.q 0 (.h 1 (.q 2 (.q 3 (.q 4 (.h 5 (.q 6 (.q 7 (.q 8 (.q 9 (.q 10 (.q 11 (.q 12 XT.done))))))))))))) (by kernel_rfl) (by kernel_rfl) ?_
   refine q_ldS 1 Try.isAgg60 Try.sizeOf60 rfl rfl rfl rfl rfl ?_
   refine h_call0 Try.call29 rfl rfl rfl (Light_hc hra) ?_
   rintro r_ S_ H hl20 ⟨rfl, rfl, rfl⟩
   refine ⟨kp0, ?_⟩
   refine x_S (S' := [_, _]) rfl ?_
   refine q_not rfl rfl rfl ?_
   refine x_F (by simp [l1]) ?_
   refine q_mv rfl rfl rfl ?_
   refine q_ldS 0 Try.isAgg60 Try.sizeOf60 rfl rfl rfl rfl rfl ?_
   refine h_call0 Try.call29 rfl rfl rfl (Light_hc hro) ?_
   rintro r_ S_ H hl21 ⟨rfl, rfl, rfl⟩
   refine ⟨kp0, ?_⟩
   refine x_S (S' := [_, _]) rfl ?_
   refine q_not rfl rfl rfl ?_
   refine x_T (by simp [l2]) ?_
   refine q_pkF rfl rfl rfl rfl ?_
   refine q_mv rfl rfl rfl ?_
   iterate 3 refine q_skip rfl rfl ?_
   refine q_pkT rfl rfl rfl rfl ?_
   refine x_end ?_
   refine nk_cut (e' := [(0, _), (1, _), (2, _), (3, _), (4, _), (6, _), (29, _)]) [0, 1, 2, 3, 4, 6, 29] rfl ?_
   refine nk_seq ?_
   refine ew_true rfl ?_
   refine ew_seq ?_
   refine rg (.h 0 (.q 1 XT.done)) (by kernel_rfl) (by kernel_rfl) ?_
   refine h_call0 Try.call30 rfl rfl rfl (Works_hc) ?_
   rintro r_ S_ Hn8 hl22 ⟨rfl, rfl, hle8⟩
   replace hra := hra.mono hl22
   replace hro := hro.mono hl22
   replace hx := hx.mono hl22
   refine ⟨kp0, ?_⟩
   refine x_S (S' := [_, _]) rfl ?_
   refine q_as rfl rfl rfl ?_
   refine x_end ?_
   refine nk_cut (e' := [(0, _), (1, _), (2, _), (3, _), (4, _), (6, _), (29, _)]) [0, 1, 2, 3, 4, 6, 29] rfl ?_
   refine nk_seq ?_
   refine ew_retS rfl rfl (.cons (.tmp rfl) .nil) ?_
   exact ⟨rfl, rfl, hl22⟩
 ·skip
  refine rg (.q 0 (.h 1 (.q 2 (.q 3 (.q 4 (.h 5 (.q 6 (.q 7 (.q 8 (.q 9 (.q 10 (.q 11 (.q 12 XT.done))))))))))))) (by kernel_rfl) (by kernel_rfl) ?_
  refine q_ldS 1 Try.isAgg60 Try.sizeOf60 rfl rfl rfl rfl rfl ?_
  refine h_call0 Try.call29 rfl rfl rfl (Light_hc hra) ?_
  rintro r_ S_ H hl23 ⟨rfl, rfl, rfl⟩
  refine ⟨kp0, ?_⟩
  refine x_S (S' := [_, _]) rfl ?_
  refine q_not rfl rfl rfl ?_
  refine x_T (by simp [l1]) ?_
  refine q_mv rfl rfl rfl ?_
  refine q_skip rfl rfl ?_
  refine h_skip rfl rfl ?_
  refine q_skip rfl rfl ?_
  refine q_pkT rfl rfl rfl rfl ?_
  refine q_mv rfl rfl rfl ?_
  iterate 3 refine q_skip rfl rfl ?_
  refine q_pkT rfl rfl rfl rfl ?_
  refine x_end ?_
  refine nk_cut (e' := [(0, _), (1, _), (2, _), (3, _), (4, _), (6, _), (29, _)]) [0, 1, 2, 3, 4, 6, 29] rfl ?_
  refine nk_seq ?_
  refine ew_true rfl ?_
  refine ew_seq ?_
  refine rg (.h 0 (.q 1 XT.done)) (by kernel_rfl) (by kernel_rfl) ?_
  refine h_call0 Try.call30 rfl rfl rfl (Works_hc) ?_
  rintro r_ S_ Hn9 hl24 ⟨rfl, rfl, hle9⟩
  replace hra := hra.mono hl24
  replace hro := hro.mono hl24
  replace hx := hx.mono hl24
  refine ⟨kp0, ?_⟩
  refine x_S (S' := [_, _]) rfl ?_
  refine q_as rfl rfl rfl ?_
  refine x_end ?_
  refine nk_cut (e' := [(0, _), (1, _), (2, _), (3, _), (4, _), (6, _), (29, _)]) [0, 1, 2, 3, 4, 6, 29] rfl ?_
  refine nk_seq ?_
  refine ew_retS rfl rfl (.cons (.tmp rfl) .nil) ?_
  exact ⟨rfl, rfl, hl24⟩

end Go.GW
