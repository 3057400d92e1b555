/- Contracts of functions of the loaded program, printed by our own program gen.py. -/
import Derived.Test.YtcchamnagcpaiaaLawA
namespace Go.GW
open Go Go.Proofs


def wA0 : Anc := ⟨0, 0, 0, -1, 0, 0, zeros 32, []⟩
def wK0 : Kp := kpNew cel0 pow0
def wK1 : Kp := (wK0.save wA0).1
def wK2 : Kp := wK1.give.1
def wK3 : Kp := (wK2.commit 1 3 2).1
def wK4 : Kp := (wK3.commit 1 3 2).1
def wK5 : Kp := wK4.clean.1
theorem w0has : wK0.has = false := by decide +kernel
theorem w1 : (wK0.save wA0).2 = 0 := by decide +kernel
theorem w2 : wK1.give.2 = (1, 0) := by decide +kernel
theorem w3 : (wK2.commit 1 3 2).2 = 0 := by decide +kernel
theorem w4 : (wK3.commit 1 3 2).2 = 15 := by decide +kernel
theorem w5 : wK4.clean.2 = 0 := by decide +kernel
theorem w5has : wK5.has = true := by decide +kernel
theorem w5last : wK5.last = ⟨4, 1, 1, 3, 1, 0, zeros 32, []⟩ := by decide +kernel
theorem w5chk : wK5.last.check = 0 := by decide +kernel
theorem cel0_ok {H : Hp} : CelS H ⟨none, 0, 0, []⟩ ⟨none, 0, 0, []⟩ ⟨none, 0, 0, []⟩ ⟨none, 0, 0, []⟩ cel0 := ⟨Sec.nil, Sec.nil, Sec.nil, Sec.nil, by decide, by decide⟩
theorem w0eq : (Kp.opn cel0 pow0).1 = wK0 := by
  have h0 : ¬ (Anc.dec (pad cel0.s0)).2 = 0 := by decide +kernel
  have h1 : ¬ (Anc.dec (pad cel0.s1)).2 = 0 := by decide +kernel
  have e : Kp.opn cel0 pow0 = (((kpNew cel0 pow0).see (pad cel0.s0)).see (pad cel0.s1), 0) := if_neg (by decide)
  rw [e, see_no1 h0, see_no1 h1]
  rfl
theorem wK0_ok : wK0.ok 0 := ⟨.inl ⟨rfl, rfl⟩, by decide, by decide, by decide, by decide, by decide, by decide⟩
theorem wK1_ok : wK1.ok 1 := Kp.save_ok wK0_ok _
theorem wK2_ok : wK2.ok 2 := Kp.give_ok wK1_ok
theorem wK3_ok : wK3.ok 3 := Kp.commit_ok wK2_ok _ _ _
theorem wK4_ok : wK4.ok 4 := Kp.commit_ok wK3_ok _ _ _
theorem wK5_ok : wK5.ok 5 := Kp.clean_ok wK4_ok

theorem Works_hc {H : Hp} :
  HC Try.prog 30 [] [] H (fun r S' H' => r = .b true ∧ S' = [] ∧ HLe H H') := by
 refine hc_intro (n := 156) Try.func30 rfl Try.ntmps30 rfl (fun B hB => ?_)
 refine ew_cut (e' := []) [] rfl ?_
 refine ew_seq ?_
 refine rg (.q 0 XT.done) (by kernel_rfl) (by kernel_rfl) ?_
 refine q_as (sv := .b false) rfl rfl rfl ?_
 refine x_end ?_
 refine nk_cut (e' := [(0, _)]) [0] rfl ?_
 refine nk_seq ?_
 refine ew_seq ?_
 refine rg (.h 0 (.q 1 XT.done)) (by kernel_rfl) (by kernel_rfl) ?_
 refine h_call0 Try.call14 rfl rfl rfl (PowNew_hc) ?_
 rintro r_ S_ H hl1 ⟨gp1, rfl, rfl, rfl⟩
 refine ⟨kp0, ?_⟩
 refine x_S (S' := [_]) rfl ?_
 refine q_as rfl rfl rfl ?_
 refine x_end ?_
 refine nk_cut (e' := [(0, _), (1, _)]) [0, 1] rfl ?_
 refine nk_seq ?_
 refine ew_seq ?_
 refine rg (.q 0 (.h 1 (.q 2 (.q 3 (.q 4 (.q 5 (.q 6 XT.done))))))) (by kernel_rfl) (by kernel_rfl) ?_
 refine q_mv rfl rfl rfl ?_
 refine h_call0 Try.call40 rfl rfl rfl (CelNew_hc) ?_
 rintro r_ S_ H hl2 ⟨gc1, rfl, rfl, rfl⟩
 refine ⟨kp0, ?_⟩
 refine x_S (S' := [_, _]) rfl ?_
 have hcs0 : CelS H ⟨none, 0, 0, []⟩ ⟨none, 0, 0, []⟩ ⟨none, 0, 0, []⟩ ⟨none, 0, 0, []⟩ cel0 := cel0_ok
 refine q_mv rfl rfl rfl ?_
 refine q_ext rfl rfl rfl rfl ?_
 refine q_ext rfl rfl rfl rfl ?_
 refine q_as rfl rfl rfl ?_
 refine q_as rfl rfl rfl ?_
 refine x_end ?_
 refine nk_cut (e' := [(0, _), (1, _), (2, _)]) [0, 1, 2] rfl ?_
 refine nk_seq ?_
 refine ew_seq ?_
 refine rg (.q 0 (.h 1 (.q 2 (.q 3 (.q 4 (.q 5 (.q 6 XT.done))))))) (by kernel_rfl) (by kernel_rfl) ?_
 refine q_mv rfl rfl rfl ?_
 have hca := KOpen_hc (gc := gc1) (gp := gp1) hcs0 (p := pow0) rfl
 rw [w0eq] at hca
 refine h_call Try.call41 (S2 := []) rfl rfl rfl (List.Perm.refl _) (hca) ?_
 rintro r_ S_ Hn1 hl3 ⟨gk1, an1, rfl, rfl, hks1, hle1⟩
 replace hcs0 := hcs0.mono hl3
 refine ⟨kp0, ?_⟩
 refine x_S (S' := [_, _, _]) rfl ?_
 refine q_mv rfl rfl rfl ?_
 refine q_ext rfl rfl rfl rfl ?_
 refine q_ext rfl rfl rfl rfl ?_
 refine q_as rfl rfl rfl ?_
 refine q_as rfl rfl rfl ?_
 refine x_end ?_
 refine nk_cut (e' := [(0, _), (1, _), (2, _), (4, _), (5, _)]) [0, 1, 2, 4, 5] rfl ?_
 refine nk_seq ?_
 refine ew_seq ?_
 refine rg (.h 0 (.q 1 (.q 2 (.q 3 (.q 4 (.q 5 XT.done)))))) (by kernel_rfl) (by kernel_rfl) ?_
 refine h_call0 Try.call41 rfl rfl rfl (KOpenNil_hc) ?_
 rintro r_ S_ Hn1 hl4 ⟨rfl, rfl, rfl⟩
 refine ⟨kp0, ?_⟩
 refine x_S (S' := [_, _, _]) rfl ?_
 refine q_mv rfl rfl rfl ?_
 refine q_ext rfl rfl rfl rfl ?_
 refine q_ext rfl rfl rfl rfl ?_
 refine q_as rfl rfl rfl ?_
 refine q_as rfl rfl rfl ?_
 refine x_end ?_
 refine nk_cut (e' := [(0, _), (1, _), (2, _), (4, _), (5, _), (7, _)]) [0, 1, 2, 4, 5, 7] rfl ?_
 refine nk_seq ?_
 refine ew_seq ?_
 refine ew_seq ?_
 refine rg (.q 0 (.q 1 (.q 2 (.q 3 (.q 4 (.q 5 XT.done)))))) (by kernel_rfl) (by kernel_rfl) ?_
 refine q_mv rfl rfl rfl ?_
 refine q_eq_pn Try.underlying74 rfl rfl rfl rfl ?_
 refine q_mv rfl rfl rfl ?_
 refine q_mv rfl rfl rfl ?_
 refine q_eq_pn Try.underlying71 rfl rfl rfl rfl ?_
 refine q_pkF rfl rfl rfl rfl ?_
 refine x_end ?_
 refine nk_cut (e' := [(0, _), (1, _), (2, _), (4, _), (5, _), (7, _), (42, _)]) [0, 1, 2, 4, 5, 7, 42] rfl ?_
 refine nk_seq ?_
 refine ew_false rfl ?_
 refine ew_skip ?_
 refine nk_seq ?_
 refine ew_seq ?_
 refine rg (.q 0 (.h 1 (.q 2 (.q 3 (.q 4 (.h 5 (.h 6 (.q 7 XT.done)))))))) (by kernel_rfl) (by kernel_rfl) ?_
 refine q_mv rfl rfl rfl ?_
 have hca := KLast_hc (gk := gk1) (gc := gc1) (gp := gp1) wK0_ok (by decide) hks1
 rw [w0has] at hca
 refine h_call Try.call56 (S2 := []) rfl rfl rfl (List.Perm.refl _) (hca) ?_
 rintro r_ S_ Hn2 hl5 ⟨an2, rfl, ha1, hav1, rfl, hle2⟩
 replace hcs0 := hcs0.mono hl5
 replace hks1 := hks1.mono hl5
 refine ⟨kp0, ?_⟩
 refine x_S (S' := [_, _, _]) rfl ?_
 refine q_mv rfl rfl rfl ?_
 refine q_ext rfl rfl rfl rfl ?_
 refine q_ext rfl rfl rfl rfl ?_
 refine h_alloc (cs := [_, _, _, _, _, _, _, _]) Try.zeroValue60 rfl rfl (zc_60 Try.zeroValue60) ?_
 intro g1
 refine ⟨kp0, ?_⟩
 refine h_stS (cs' := [_, _, _, _, _, _, _, _]) (S' := [_, _, _, _]) 0 Try.sizeOf60 rfl rfl rfl rfl rfl (allOne rfl) rfl (leb rfl) rfl rfl kp0 ?_
 refine q_as rfl rfl rfl ?_
 refine x_end ?_
 refine nk_cut (e' := [(0, _), (1, _), (2, _), (4, _), (5, _), (7, _), (9, _), (42, _)]) [0, 1, 2, 4, 5, 7, 9, 42] rfl ?_
 refine nk_seq ?_
 refine ew_seq ?_
 refine rg (.q 0 (.h 1 (.q 2 (.h 3 (.q 4 XT.done))))) (by kernel_rfl) (by kernel_rfl) ?_
 refine q_mv rfl rfl rfl ?_
 refine h_mk (z := .u8 0) Try.underlying26 info_5 rfl rfl rfl rfl rfl rfl rfl (by omega) (by omega) (by simp only [by_5]; omega) (by omega) ?_
 intro g2
 refine ⟨kp0, ?_⟩
 refine q_bld (cs := [_, _, _, _, _, _, _, _]) bf_60 rfl rfl rfl rfl ?_
 refine pubX (S' := [_, _, _, _]) 0 rfl rfl ?_
 intro Hp1 hp1 hr1
 replace hcs0 := hcs0.mono hp1
 replace hks1 := hks1.mono hp1
 replace ha1 := ha1.mono hp1
 have hwa : An.ok Hp1 ⟨0, 0, 0, -1, 0, 0, ⟨some ⟨g2, 0, none⟩, 32, 32, zeros 32⟩, none, 0, 0, []⟩ := ⟨⟨by rw [← zeros_map]; exact hr1, List.length_replicate, Nat.le_refl _⟩, KS.nil, (show 32 ≤ 1099511627776 by decide), ⟨(show 0 ≤ 1099511627776 by decide), by intro x hx; cases hx⟩⟩
 have hcells : An.cells ⟨0, 0, 0, -1, 0, 0, ⟨some ⟨g2, 0, none⟩, 32, 32, zeros 32⟩, none, 0, 0, []⟩ = [.i 0, .i 0, .i 0, .i (-1), .i 0, .i 0, .sl (some ⟨g2, 0, none⟩) 32 32, .sl none 0 0] := rfl
 have hxv : An.v ⟨0, 0, 0, -1, 0, 0, ⟨some ⟨g2, 0, none⟩, 32, 32, zeros 32⟩, none, 0, 0, []⟩ = wA0 := rfl
 have hca := KSave_hc (gk := gk1) (gc := gc1) (gp := gp1) wK0_ok (by decide) hks1 hwa
 rw [hcells, hxv, show (wK0.save wA0).1 = wK1 from rfl, w1] at hca
 refine h_call Try.call45 (S2 := [_]) rfl rfl rfl (permL [1, 2, 3, 0] rfl) (hca) ?_
 rintro r_ S_ Hn3 hl6 ⟨an3, b1, b2, b3, b4, rfl, rfl, hks2, hle3⟩
 replace hcs0 := hcs0.mono hl6
 replace hks1 := hks1.mono hl6
 replace ha1 := ha1.mono hl6
 replace hr1 := hr1.mono hl6
 replace hwa := hwa.mono hl6
 refine ⟨kp0, ?_⟩
 refine x_S (S' := [_, _, _, _]) rfl ?_
 refine q_as rfl rfl rfl ?_
 refine x_end ?_
 refine nk_cut (e' := [(0, _), (1, _), (2, _), (4, _), (5, _), (7, _), (9, _), (10, _), (42, _)]) [0, 1, 2, 4, 5, 7, 9, 10, 42] rfl ?_
 refine nk_seq ?_
 refine ew_seq ?_
 refine rg (.q 0 (.h 1 (.q 2 (.q 3 (.q 4 (.q 5 (.q 6 XT.done))))))) (by kernel_rfl) (by kernel_rfl) ?_
 refine q_mv rfl rfl rfl ?_
 have hca := KGive_hc (gk := gk1) (gc := gc1) (gp := gp1) wK1_ok (by decide) hks2
 rw [show wK1.give.1 = wK2 from rfl, w2] at hca
 dsimp only at hca
 refine h_call Try.call47 (S2 := [_]) rfl rfl rfl (permL [0, 1, 2, 3] rfl) (hca) ?_
 rintro r_ S_ Hn4 hl7 ⟨an4, b5, b6, b7, b8, rfl, rfl, hks3, hle4⟩
 replace hcs0 := hcs0.mono hl7
 replace hks1 := hks1.mono hl7
 replace ha1 := ha1.mono hl7
 replace hr1 := hr1.mono hl7
 replace hwa := hwa.mono hl7
 replace hks2 := hks2.mono hl7
 refine ⟨kp0, ?_⟩
 refine x_S (S' := [_, _, _, _]) rfl ?_
 refine q_mv rfl rfl rfl ?_
 refine q_ext rfl rfl rfl rfl ?_
 refine q_ext rfl rfl rfl rfl ?_
 refine q_as rfl rfl rfl ?_
 refine q_as rfl rfl rfl ?_
 refine x_end ?_
 refine nk_cut (e' := [(0, _), (1, _), (2, _), (4, _), (5, _), (7, _), (9, _), (10, _), (11, _), (12, _), (42, _)]) [0, 1, 2, 4, 5, 7, 9, 10, 11, 12, 42] rfl ?_
 refine nk_seq ?_
 refine ew_seq ?_
 refine rg (.q 0 (.q 1 (.h 2 (.q 3 XT.done)))) (by kernel_rfl) (by kernel_rfl) ?_
 refine q_mv rfl rfl rfl ?_
 refine q_mv rfl rfl rfl ?_
 have hca := KCommit_hc (gk := gk1) (gc := gc1) (gp := gp1) (e := 1) (rt := 3) (pe := 2) wK2_ok (by decide) hks3
 rw [show (wK2.commit 1 3 2).1 = wK3 from rfl, w3] at hca
 refine h_call Try.call49 (S2 := [_]) rfl rfl rfl (permL [0, 1, 2, 3] rfl) (hca) ?_
 rintro r_ S_ Hn5 hl8 ⟨an5, b9, b10, b11, b12, rfl, rfl, hks4, hle5⟩
 replace hcs0 := hcs0.mono hl8
 replace hks1 := hks1.mono hl8
 replace ha1 := ha1.mono hl8
 replace hr1 := hr1.mono hl8
 replace hwa := hwa.mono hl8
 replace hks2 := hks2.mono hl8
 replace hks3 := hks3.mono hl8
 refine ⟨kp0, ?_⟩
 refine x_S (S' := [_, _, _, _]) rfl ?_
 refine q_as rfl rfl rfl ?_
 refine x_end ?_
 refine nk_cut (e' := [(0, _), (1, _), (2, _), (4, _), (5, _), (7, _), (9, _), (10, _), (11, _), (12, _), (13, _), (42, _)]) [0, 1, 2, 4, 5, 7, 9, 10, 11, 12, 13, 42] rfl ?_
 refine nk_seq ?_
 refine ew_seq ?_
 refine rg (.q 0 (.q 1 (.h 2 (.q 3 XT.done)))) (by kernel_rfl) (by kernel_rfl) ?_
 refine q_mv rfl rfl rfl ?_
 refine q_mv rfl rfl rfl ?_
 have hca := KCommit_hc (gk := gk1) (gc := gc1) (gp := gp1) (e := 1) (rt := 3) (pe := 2) wK3_ok (by decide) hks4
 rw [show (wK3.commit 1 3 2).1 = wK4 from rfl, w4] at hca
 refine h_call Try.call49 (S2 := [_]) rfl rfl rfl (permL [0, 1, 2, 3] rfl) (hca) ?_
 rintro r_ S_ Hn6 hl9 ⟨an6, b13, b14, b15, b16, rfl, rfl, hks5, hle6⟩
 replace hcs0 := hcs0.mono hl9
 replace hks1 := hks1.mono hl9
 replace ha1 := ha1.mono hl9
 replace hr1 := hr1.mono hl9
 replace hwa := hwa.mono hl9
 replace hks2 := hks2.mono hl9
 replace hks3 := hks3.mono hl9
 replace hks4 := hks4.mono hl9
 refine ⟨kp0, ?_⟩
 refine x_S (S' := [_, _, _, _]) rfl ?_
 refine q_as rfl rfl rfl ?_
 refine x_end ?_
 refine nk_cut (e' := [(0, _), (1, _), (2, _), (4, _), (5, _), (7, _), (9, _), (10, _), (11, _), (12, _), (13, _), (14, _), (42, _)]) [0, 1, 2, 4, 5, 7, 9, 10, 11, 12, 13, 14, 42] rfl ?_
 refine nk_seq ?_
 refine ew_seq ?_
 refine rg (.q 0 (.h 1 (.q 2 XT.done))) (by kernel_rfl) (by kernel_rfl) ?_
 refine q_mv rfl rfl rfl ?_
 have hca := KClean_hc (gk := gk1) (gc := gc1) (gp := gp1) wK4_ok (by decide) hks5
 rw [show wK4.clean.1 = wK5 from rfl, w5] at hca
 refine h_call Try.call51 (S2 := [_]) rfl rfl rfl (permL [0, 1, 2, 3] rfl) (hca) ?_
 rintro r_ S_ Hn7 hl10 ⟨an7, b17, b18, b19, b20, rfl, rfl, hks6, hle7⟩
 replace hcs0 := hcs0.mono hl10
 replace hks1 := hks1.mono hl10
 replace ha1 := ha1.mono hl10
 replace hr1 := hr1.mono hl10
 replace hwa := hwa.mono hl10
 replace hks2 := hks2.mono hl10
 replace hks3 := hks3.mono hl10
 replace hks4 := hks4.mono hl10
 replace hks5 := hks5.mono hl10
 refine ⟨kp0, ?_⟩
 refine x_S (S' := [_, _, _, _]) rfl ?_
 refine q_as rfl rfl rfl ?_
 refine x_end ?_
 refine nk_cut (e' := [(0, _), (1, _), (2, _), (4, _), (5, _), (7, _), (9, _), (10, _), (11, _), (12, _), (13, _), (14, _), (15, _), (42, _)]) [0, 1, 2, 4, 5, 7, 9, 10, 11, 12, 13, 14, 15, 42] rfl ?_
 refine nk_seq ?_
 refine ew_seq ?_
 refine rg (.q 0 (.h 1 (.q 2 (.q 3 (.q 4 (.h 5 (.h 6 (.q 7 XT.done)))))))) (by kernel_rfl) (by kernel_rfl) ?_
 refine q_mv rfl rfl rfl ?_
 have hca := KLast_hc (gk := gk1) (gc := gc1) (gp := gp1) wK5_ok (by decide) hks6
 rw [w5has] at hca
 refine h_call Try.call56 (S2 := [_]) rfl rfl rfl (permL [0, 1, 2, 3] rfl) (hca) ?_
 rintro r_ S_ Hn8 hl11 ⟨an8, rfl, ha2, hav2, rfl, hle8⟩
 replace hcs0 := hcs0.mono hl11
 replace hks1 := hks1.mono hl11
 replace ha1 := ha1.mono hl11
 replace hr1 := hr1.mono hl11
 replace hwa := hwa.mono hl11
 replace hks2 := hks2.mono hl11
 replace hks3 := hks3.mono hl11
 replace hks4 := hks4.mono hl11
 replace hks5 := hks5.mono hl11
 replace hks6 := hks6.mono hl11
 refine ⟨kp0, ?_⟩
 refine x_S (S' := [_, _, _, _]) rfl ?_
 refine q_mv rfl rfl rfl ?_
 refine q_ext rfl rfl rfl rfl ?_
 refine q_ext rfl rfl rfl rfl ?_
 refine h_alloc (cs := [_, _, _, _, _, _, _, _]) Try.zeroValue60 rfl rfl (zc_60 Try.zeroValue60) ?_
 intro g3
 refine ⟨kp0, ?_⟩
 refine h_stS (cs' := [_, _, _, _, _, _, _, _]) (S' := [_, _, _, _, _]) 0 Try.sizeOf60 rfl rfl rfl rfl rfl (allOne rfl) rfl (leb rfl) rfl rfl kp0 ?_
 refine q_as rfl rfl rfl ?_
 refine x_end ?_
 refine nk_cut (e' := [(0, _), (1, _), (2, _), (4, _), (5, _), (7, _), (9, _), (10, _), (11, _), (12, _), (13, _), (14, _), (15, _), (16, _), (17, _), (42, _)]) [0, 1, 2, 4, 5, 7, 9, 10, 11, 12, 13, 14, 15, 16, 17, 42] rfl ?_
 refine nk_seq ?_
 refine ew_seq ?_
 refine rg (.q 0 (.h 1 (.q 2 (.q 3 (.q 4 (.q 5 (.q 6 XT.done))))))) (by kernel_rfl) (by kernel_rfl) ?_
 refine q_ldS 0 Try.isAgg60 Try.sizeOf60 rfl rfl rfl rfl rfl ?_
 refine h_call0 Try.call31 rfl rfl rfl (APut_hc ha2) ?_
 rintro r_ S_ Hn8 hl12 ⟨A1, c1, rfl, hcap1, rfl, rfl⟩
 refine ⟨kp0, ?_⟩
 refine x_S (S' := [_, _, _, _, _, _]) rfl ?_
 refine q_mv rfl rfl rfl ?_
 refine q_ext rfl rfl rfl rfl ?_
 refine q_ext rfl rfl rfl rfl ?_
 refine q_as rfl rfl rfl ?_
 refine q_as rfl rfl rfl ?_
 refine x_end ?_
 refine nk_cut (e' := [(0, _), (1, _), (2, _), (4, _), (5, _), (7, _), (9, _), (10, _), (11, _), (12, _), (13, _), (14, _), (15, _), (16, _), (17, _), (18, _), (19, _), (42, _)]) [0, 1, 2, 4, 5, 7, 9, 10, 11, 12, 13, 14, 15, 16, 17, 18, 19, 42] rfl ?_
 refine nk_seq ?_
 refine ew_seq ?_
 refine rg (.q 0 (.h 1 (.q 2 (.q 3 (.q 4 (.h 5 (.h 6 (.q 7 XT.done)))))))) (by kernel_rfl) (by kernel_rfl) ?_
 refine q_mv rfl rfl rfl ?_
 refine pubX (S' := [_, _, _, _, _]) 0 rfl rfl ?_
 intro Hp2 hp2 hr2
 replace hcs0 := hcs0.mono hp2
 replace hks1 := hks1.mono hp2
 replace ha1 := ha1.mono hp2
 replace hr1 := hr1.mono hp2
 replace hwa := hwa.mono hp2
 replace hks2 := hks2.mono hp2
 replace hks3 := hks3.mono hp2
 replace hks4 := hks4.mono hp2
 replace hks5 := hks5.mono hp2
 replace hks6 := hks6.mono hp2
 replace ha2 := ha2.mono hp2
 refine h_call0 Try.call33 rfl rfl rfl (AGet_hc (⟨hr2, rfl, hcap1⟩ : BS _ _ _ _ an8.v.put) (Nat.le_trans (Anc.put_len _) (by decide))) ?_
 rintro r_ S_ Hn9 hl13 ⟨an9, rfl, ha3, hav3, rfl, hle9⟩
 replace hcs0 := hcs0.mono hl13
 replace hks1 := hks1.mono hl13
 replace ha1 := ha1.mono hl13
 replace hr1 := hr1.mono hl13
 replace hwa := hwa.mono hl13
 replace hks2 := hks2.mono hl13
 replace hks3 := hks3.mono hl13
 replace hks4 := hks4.mono hl13
 replace hks5 := hks5.mono hl13
 replace hks6 := hks6.mono hl13
 replace ha2 := ha2.mono hl13
 replace hr2 := hr2.mono hl13
 refine ⟨kp0, ?_⟩
 refine x_S (S' := [_, _, _, _, _]) rfl ?_
 refine q_mv rfl rfl rfl ?_
 refine q_ext rfl rfl rfl rfl ?_
 refine q_ext rfl rfl rfl rfl ?_
 refine h_alloc (cs := [_, _, _, _, _, _, _, _]) Try.zeroValue60 rfl rfl (zc_60 Try.zeroValue60) ?_
 intro g5
 refine ⟨kp0, ?_⟩
 refine h_stS (cs' := [_, _, _, _, _, _, _, _]) (S' := [_, _, _, _, _, _]) 0 Try.sizeOf60 rfl rfl rfl rfl rfl (allOne rfl) rfl (leb rfl) rfl rfl kp0 ?_
 refine q_as rfl rfl rfl ?_
 refine x_end ?_
 refine nk_cut (e' := [(0, _), (1, _), (2, _), (4, _), (5, _), (7, _), (9, _), (10, _), (11, _), (12, _), (13, _), (14, _), (15, _), (16, _), (17, _), (18, _), (19, _), (20, _), (21, _), (42, _)]) [0, 1, 2, 4, 5, 7, 9, 10, 11, 12, 13, 14, 15, 16, 17, 18, 19, 20, 21, 42] rfl ?_
 refine nk_seq ?_
 refine ew_seq ?_
 have hchk : an8.v.check = 0 := by rw [hav2]; exact w5chk
 have hdec : Anc.dec an8.v.put = (an8.v, 0) := by
  rw [Anc.put_ok hchk]
  have := Anc.back hchk []
  rwa [List.append_nil] at this
 have hla5 : an8.v = ⟨4, 1, 1, 3, 1, 0, zeros 32, []⟩ := hav2.trans w5last
 have hroot : an8.root = 3 := congrArg Anc.root hla5
 have hseq : an8.seq = 4 := congrArg Anc.seq hla5
 have hpen : an8.pending = 0 := congrArg Anc.pending hla5
 have hyx : an8.v = an9.v := by rw [hav3, hdec]
 refine rd (by kernel_rfl) [0, 1, 2, 3, 4, 5, 6, 7, 8, 9, 10, 11, 12, 13, 14, 15, 16, 17, 18, 19, 20, 21, 22, 23, 24, 25, 26, 27, 28, 29, 30, 31, 32, 33, 34, 35, 36, 37, 38, 39, 40, 41, 42, 43, 44, 45, 46, 47, 48, 49, 50, 51, 52, 53, 54, 55, 56, 57, 58, 59, 60, 61, 62, 64, 65, 66, 68, 69, 70, 71, 73, 75, 76] [0, 1, 2, 3, 4, 5, 6, 7, 8, 9, 10, 11, 12, 13, 14, 15, 16, 17, 18, 19, 20, 21, 22, 23, 24, 25, 26, 27, 28, 29, 30, 31, 32, 33, 34, 35, 36, 37, 38, 39, 40, 41, 42, 43, 44, 45, 46, 47, 48, 49, 50, 51, 52, 53, 54, 55, 56, 57, 58, 59, 60, 61, 62, 63, 64, 65, 66, 67, 68, 69, 70, 71, 72, 73, 74, 75, 76] (.q 0 (.q 1 (.q 2 (.q 3 (.q 4 (.q 5 (.q 6 (.q 7 (.q 8 (.q 9 (.q 10 (.q 11 (.q 12 (.q 13 (.q 14 (.q 15 (.q 16 (.q 17 (.q 18 (.q 19 (.q 20 (.q 21 (.q 22 (.q 23 (.q 24 (.q 25 (.q 26 (.q 27 (.q 28 (.q 29 (.q 30 (.q 31 (.q 32 (.q 33 (.q 34 (.q 35 (.q 36 (.q 37 (.q 38 (.q 39 (.q 40 (.q 41 (.q 42 (.q 43 (.q 44 (.q 45 (.q 46 (.q 47 (.q 48 (.q 49 (.q 50 (.q 51 (.q 52 (.q 53 (.q 54 (.q 55 (.q 56 (.q 57 (.q 58 (.q 59 (.q 60 (.q 61 (.q 62 (.h 63 (.q 64 (.q 65 (.q 66 (.h 67 (.q 68 (.q 69 (.q 70 (.q 71 (.q 73 (.h 72 (.h 74 (.q 75 (.q 76 XT.done))))))))))))))))))))))))))))))))))))))))))))))))))))))))))))))))))))))))))))) (by kernel_rfl) (by kernel_rfl) (keepL _ [0, 1]) (keepL_sub _ _) ?_
 refine q_mv rfl rfl rfl ?_
 refine q_eq rfl rfl rfl rfl ?_
 refine x_T (by decide) ?_
 refine q_mv rfl rfl rfl ?_
 refine q_mv rfl rfl rfl ?_
 refine q_eq rfl rfl rfl rfl ?_
 refine x_T (by decide) ?_
 refine q_pkT rfl rfl rfl rfl ?_
 refine q_mv rfl rfl rfl ?_
 refine q_mv rfl rfl rfl ?_
 refine q_not rfl rfl rfl ?_
 refine x_T (by decide) ?_
 refine q_pkT rfl rfl rfl rfl ?_
 refine q_mv rfl rfl rfl ?_
 refine q_mv rfl rfl rfl ?_
 refine q_eq rfl rfl rfl rfl ?_
 refine x_T (by decide) ?_
 refine q_pkT rfl rfl rfl rfl ?_
 refine q_mv rfl rfl rfl ?_
 refine q_mv rfl rfl rfl ?_
 refine q_eq rfl rfl rfl rfl ?_
 refine x_T (by decide) ?_
 refine q_pkT rfl rfl rfl rfl ?_
 refine q_mv rfl rfl rfl ?_
 refine q_mv rfl rfl rfl ?_
 refine q_eq rfl rfl rfl rfl ?_
 refine x_T (by decide) ?_
 refine q_pkT rfl rfl rfl rfl ?_
 refine q_mv rfl rfl rfl ?_
 refine q_mv rfl rfl rfl ?_
 refine q_eq rfl rfl rfl rfl ?_
 refine x_T (by decide) ?_
 refine q_pkT rfl rfl rfl rfl ?_
 refine q_mv rfl rfl rfl ?_
 refine q_mv rfl rfl rfl ?_
 refine q_eq rfl rfl rfl rfl ?_
 refine x_T (by decide) ?_
 refine q_pkT rfl rfl rfl rfl ?_
 refine q_mv rfl rfl rfl ?_
 refine q_mv rfl rfl rfl ?_
 refine q_eq rfl rfl rfl rfl ?_
 refine x_T (by decide) ?_
 refine q_pkT rfl rfl rfl rfl ?_
 refine q_mv rfl rfl rfl ?_
 refine q_mv rfl rfl rfl ?_
 refine x_T (rfl) ?_
 refine q_pkT rfl rfl rfl rfl ?_
 refine q_mv rfl rfl rfl ?_
 refine q_fa fa_60_3 rfl rfl rfl ?_
 refine q_ld 1 Try.isAgg3 rfl rfl rfl rfl rfl ?_
 refine q_eq rfl rfl rfl rfl ?_
 refine x_T (decide_eq_true hroot) ?_
 refine q_pkT rfl rfl rfl rfl ?_
 refine q_mv rfl rfl rfl ?_
 refine q_fa fa_60_0 rfl rfl rfl ?_
 refine q_ld 1 Try.isAgg3 rfl rfl rfl rfl rfl ?_
 refine q_eq rfl rfl rfl rfl ?_
 refine x_T (decide_eq_true hseq) ?_
 refine q_pkT rfl rfl rfl rfl ?_
 refine q_mv rfl rfl rfl ?_
 refine q_fa fa_60_5 rfl rfl rfl ?_
 refine q_ld 1 Try.isAgg3 rfl rfl rfl rfl rfl ?_
 refine q_eq rfl rfl rfl rfl ?_
 refine x_T (decide_eq_true hpen) ?_
 refine q_pkT rfl rfl rfl rfl ?_
 refine q_mv rfl rfl rfl ?_
 refine q_mv rfl rfl rfl ?_
 refine q_eq rfl rfl rfl rfl ?_
 refine x_T (decide_eq_true hchk) ?_
 refine q_pkT rfl rfl rfl rfl ?_
 refine q_mv rfl rfl rfl ?_
 refine q_mv rfl rfl rfl ?_
 refine q_eq rfl rfl rfl rfl ?_
 refine x_T (decide_eq_true (by rw [hdec])) ?_
 refine q_pkT rfl rfl rfl rfl ?_
 refine q_mv rfl rfl rfl ?_
 refine q_ldS 1 Try.isAgg60 Try.sizeOf60 rfl rfl rfl rfl rfl ?_
 refine q_ldS 0 Try.isAgg60 Try.sizeOf60 rfl rfl rfl rfl rfl ?_
 refine h_call0 Try.call38 rfl rfl rfl (ASame_hc ha2 ha3) ?_
 rintro r_ S_ Hn9 hl14 ⟨rfl, rfl, rfl⟩
 refine ⟨(fun _ => ⟨by first | exact kpL [0, 1] rfl | simp [keepL, nth], HLe.refl _⟩), ?_⟩
 refine x_S (S' := [_, _, _, _, _, _]) rfl ?_
 refine x_T (decide_eq_true hyx) ?_
 refine q_pkT rfl rfl rfl rfl ?_
 refine q_mv rfl rfl rfl ?_
 refine q_ldS 1 Try.isAgg60 Try.sizeOf60 rfl rfl rfl rfl rfl ?_
 refine h_call0 Try.call35 rfl rfl rfl (AChk_hc ha2) ?_
 rintro r_ S_ Hn9 hl15 ⟨rfl, rfl, rfl⟩
 refine ⟨(fun _ => ⟨by first | exact kpL [0, 1] rfl | simp [keepL, nth], HLe.refl _⟩), ?_⟩
 refine x_S (S' := [_, _, _, _, _, _]) rfl ?_
 refine q_eq rfl rfl rfl rfl ?_
 refine x_T (decide_eq_true hchk) ?_
 refine q_pkT rfl rfl rfl rfl ?_
 refine q_mv rfl rfl rfl ?_
 refine q_ldS 1 Try.isAgg60 Try.sizeOf60 rfl rfl rfl rfl rfl ?_
 refine q_ldS 1 Try.isAgg60 Try.sizeOf60 rfl rfl rfl rfl rfl ?_
 refine h_call0 Try.call39 rfl rfl rfl (ACopy_hc ha2) ?_
 rintro r_ S_ Hn10 hl16 ⟨an10, rfl, ha4, hav4, rfl, hle10⟩
 replace hcs0 := hcs0.mono hl16
 replace hks1 := hks1.mono hl16
 replace ha1 := ha1.mono hl16
 replace hr1 := hr1.mono hl16
 replace hwa := hwa.mono hl16
 replace hks2 := hks2.mono hl16
 replace hks3 := hks3.mono hl16
 replace hks4 := hks4.mono hl16
 replace hks5 := hks5.mono hl16
 replace hks6 := hks6.mono hl16
 replace ha2 := ha2.mono hl16
 replace hr2 := hr2.mono hl16
 replace ha3 := ha3.mono hl16
 refine ⟨(fun _ => ⟨by first | exact kpL [0, 1] rfl | simp [keepL, nth], hl16⟩), ?_⟩
 refine x_S (S' := [_, _, _, _, _, _]) rfl ?_
 refine h_call0 Try.call38 rfl rfl rfl (ASame_hc ha4 ha2) ?_
 rintro r_ S_ Hn10 hl17 ⟨rfl, rfl, rfl⟩
 refine ⟨(fun _ => ⟨by first | exact kpL [0, 1] rfl | simp [keepL, nth], hl16⟩), ?_⟩
 refine x_S (S' := [_, _, _, _, _, _]) rfl ?_
 refine x_T (decide_eq_true hav4) ?_
 refine q_pkT rfl rfl rfl rfl ?_
 refine q_as rfl rfl rfl ?_
 refine x_end ?_
 refine nk_cut (e' := [(0, _), (1, _), (2, _), (4, _), (5, _), (7, _), (9, _), (10, _), (11, _), (12, _), (13, _), (14, _), (15, _), (16, _), (17, _), (18, _), (19, _), (20, _), (21, _), (42, _)]) [0, 1, 2, 4, 5, 7, 9, 10, 11, 12, 13, 14, 15, 16, 17, 18, 19, 20, 21, 42] rfl ?_
 refine nk_seq ?_
 refine ew_retS rfl rfl (.cons (.tmp rfl) .nil) ?_
 exact ⟨rfl, rfl, (((((((((((hl3.trans hl5).trans hp1).trans hl6).trans hl7).trans hl8).trans hl9).trans hl10).trans hl11).trans hp2).trans hl13).trans hl16)⟩

end Go.GW
