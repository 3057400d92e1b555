/- deedboxlaw14.AnchorKeeps returns true, whatever it is given. -/
import Derived.Test.YtcchamnagcpaiaaLawD
namespace Go.GW
open Go Go.Proofs
set_option linter.unusedSimpArgs false
set_option linter.unusedVariables false


theorem Keeps_hc {H : Hp} {Al : Option Addr} {nl cl : Nat} {l : List An} {a : An} {dn : Bool} (has : AS H Al nl cl l) (hra : An.raw H a) :
  HC Try.prog 6 [.sl Al nl cl, .agg a.cells, .b dn] [] H (fun r S' H' => r = .b true ∧ S' = [] ∧ HLe H H') := by
 refine hc_intro (n := 133) Try.func6 rfl Try.ntmps6 rfl (fun B hB => ?_)
 refine ew_cut (e' := [(0, _), (1, _), (2, _)]) [0, 1, 2] rfl ?_
 refine ew_sub (e' := [(0, _), (1, .agg [_, _, _, _, _, _, _, _]), (2, _)]) ⟨rfl, rfl, rfl, trivial⟩ ?_
 refine ew_seq ?_
 refine rg (.h 0 (.q 1 XT.done)) (by kernel_rfl) (by kernel_rfl) ?_
 refine h_boxS rfl rfl rfl ?_
 intro g1
 refine ⟨kp0, ?_⟩
 refine q_as (sv := .b false) rfl rfl rfl ?_
 refine x_end ?_
 refine nk_cut (e' := [(0, _), (1, _), (2, _), (4, _), (6, _)]) [0, 1, 2, 4, 6] rfl ?_
 refine nk_seq ?_
 refine ew_seq ?_
 refine ew_seq ?_
 refine rg (.q 0 (.q 1 (.q 2 (.q 3 (.q 4 (.h 5 (.q 6 (.q 7 XT.done)))))))) (by kernel_rfl) (by kernel_rfl) ?_
 refine q_mv rfl rfl rfl ?_
 refine q_len Try.underlying102 rfl rfl rfl ?_
 refine q_gt rfl rfl rfl rfl ?_
 refine q_mv rfl rfl rfl ?_
 refine x_spl (d := 22) rfl ?_ ?_
 ·intro hb22
  try simp only [Bool.not_eq_true', Bool.not_eq_false', decide_eq_true_eq, decide_eq_false_iff_not, ne_eq, Decidable.not_not] at hb22
  refine q_skip rfl rfl ?_
  refine h_skip rfl rfl ?_
  refine q_skip rfl rfl ?_
  refine q_pkT rfl rfl rfl rfl ?_
  refine x_end ?_
  refine nk_cut (e' := [(0, _), (1, _), (2, _), (4, _), (6, _), (26, _)]) [0, 1, 2, 4, 6, 26] rfl ?_
  refine nk_seq ?_
  refine ew_true rfl ?_
  refine ew_seq ?_
  refine rg (.h 0 (.q 1 XT.done)) (by kernel_rfl) (by kernel_rfl) ?_
  refine h_call0 Try.call30 rfl rfl rfl (Works_hc) ?_
  rintro r_ S_ Hn1 hl1 ⟨rfl, rfl, hle1⟩
  replace has := has.mono hl1
  replace hra := hra.mono hl1
  refine ⟨kp0, ?_⟩
  refine x_S (S' := [_]) rfl ?_
  refine q_as rfl rfl rfl ?_
  refine x_end ?_
  refine nk_cut (e' := [(0, _), (1, _), (2, _), (4, _), (6, _), (26, _)]) [0, 1, 2, 4, 6, 26] rfl ?_
  refine nk_seq ?_
  refine ew_retS rfl rfl (.cons (.tmp rfl) .nil) ?_
  exact ⟨rfl, rfl, hl1⟩
 ·intro hb22
  try simp only [Bool.not_eq_true', Bool.not_eq_false', decide_eq_true_eq, decide_eq_false_iff_not, ne_eq, Decidable.not_not] at hb22
  refine q_ldS 0 Try.isAgg60 Try.sizeOf60 rfl rfl rfl rfl rfl ?_
  refine h_call0 Try.call29 rfl rfl rfl (Light_hc hra) ?_
  rintro r_ S_ H hl2 ⟨rfl, rfl, rfl⟩
  refine ⟨kp0, ?_⟩
  refine x_S (S' := [_]) rfl ?_
  refine q_not rfl rfl rfl ?_
  refine q_pkF rfl rfl rfl rfl ?_
  refine x_end ?_
  refine nk_cut (e' := [(0, _), (1, _), (2, _), (4, _), (6, _), (26, _)]) [0, 1, 2, 4, 6, 26] rfl ?_
  refine nk_seq ?_
  refine ew_cond rfl ?_ ?_
  ·intro hc26
   try simp only [Bool.not_eq_true', Bool.not_eq_false', decide_eq_true_eq, decide_eq_false_iff_not, ne_eq, Decidable.not_not] at hc26
   refine ew_seq ?_
   refine rg (.h 0 (.q 1 XT.done)) (by kernel_rfl) (by kernel_rfl) ?_
   refine h_call0 Try.call30 rfl rfl rfl (Works_hc) ?_
   rintro r_ S_ Hn2 hl3 ⟨rfl, rfl, hle2⟩
   replace has := has.mono hl3
   replace hra := hra.mono hl3
   refine ⟨kp0, ?_⟩
   refine x_S (S' := [_]) rfl ?_
   refine q_as rfl rfl rfl ?_
   refine x_end ?_
   refine nk_cut (e' := [(0, _), (1, _), (2, _), (4, _), (6, _), (26, _)]) [0, 1, 2, 4, 6, 26] rfl ?_
   refine nk_seq ?_
   refine ew_retS rfl rfl (.cons (.tmp rfl) .nil) ?_
   exact ⟨rfl, rfl, hl3⟩
  ·intro hc26
   try simp only [Bool.not_eq_true', Bool.not_eq_false', decide_eq_true_eq, decide_eq_false_iff_not, ne_eq, Decidable.not_not] at hc26
   have hao : An.ok H a := hra.lt hc26
   refine ew_skip ?_
   refine nk_seq ?_
   refine ew_seq ?_
   refine rg (.h 0 (.q 1 XT.done)) (by kernel_rfl) (by kernel_rfl) ?_
   refine h_call0 Try.call14 rfl rfl rfl (PowNew_hc) ?_
   rintro r_ S_ H hl4 ⟨gp1, rfl, rfl, rfl⟩
   refine ⟨kp0, ?_⟩
   refine x_S (S' := [_, _]) rfl ?_
   refine q_as rfl rfl rfl ?_
   refine x_end ?_
   refine nk_cut (e' := [(0, _), (1, _), (2, _), (4, _), (6, _), (7, _), (26, _)]) [0, 1, 2, 4, 6, 7, 26] rfl ?_
   refine nk_seq ?_
   refine ew_seq ?_
   refine rg (.q 0 (.h 1 (.q 2 (.q 3 (.q 4 (.q 5 (.q 6 XT.done))))))) (by kernel_rfl) (by kernel_rfl) ?_
   refine q_mv rfl rfl rfl ?_
   refine h_call0 Try.call40 rfl rfl rfl (CelNew_hc) ?_
   rintro r_ S_ H hl5 ⟨gc1, rfl, rfl, rfl⟩
   refine ⟨kp0, ?_⟩
   refine x_S (S' := [_, _, _]) rfl ?_
   have hcs0 : CelS H ⟨none, 0, 0, []⟩ ⟨none, 0, 0, []⟩ ⟨none, 0, 0, []⟩ ⟨none, 0, 0, []⟩ cel0 := cel0_ok
   refine q_mv rfl rfl rfl ?_
   refine q_ext rfl rfl rfl rfl ?_
   refine q_ext rfl rfl rfl rfl ?_
   refine q_as rfl rfl rfl ?_
   refine q_as rfl rfl rfl ?_
   refine x_end ?_
   refine nk_cut (e' := [(0, _), (1, _), (2, _), (4, _), (6, _), (7, _), (8, _), (9, _), (26, _)]) [0, 1, 2, 4, 6, 7, 8, 9, 26] rfl ?_
   refine nk_seq ?_
   refine ew_seq ?_
   refine ew_seq ?_
   refine rg (.q 0 (.q 1 (.q 2 (.q 3 (.q 4 (.q 5 (.q 6 (.q 7 (.q 8 (.q 9 XT.done)))))))))) (by kernel_rfl) (by kernel_rfl) ?_
   refine q_mv rfl rfl rfl ?_
   refine q_ne rfl rfl rfl rfl ?_
   refine x_F (by simp) ?_
   refine q_mv rfl rfl rfl ?_
   refine q_mv rfl rfl rfl ?_
   refine q_eq_pn Try.underlying71 rfl rfl rfl rfl ?_
   refine q_pkF rfl rfl rfl rfl ?_
   refine q_mv rfl rfl rfl ?_
   refine q_mv rfl rfl rfl ?_
   refine q_eq_pn Try.underlying29 rfl rfl rfl rfl ?_
   refine q_pkF rfl rfl rfl rfl ?_
   refine x_end ?_
   refine nk_cut (e' := [(0, _), (1, _), (2, _), (4, _), (6, _), (7, _), (8, _), (9, _), (26, _), (43, _)]) [0, 1, 2, 4, 6, 7, 8, 9, 26, 43] rfl ?_
   refine nk_seq ?_
   refine ew_false rfl ?_
   refine ew_skip ?_
   refine nk_seq ?_
   refine ew_seq ?_
   refine rg (.q 0 (.h 1 (.q 2 (.q 3 (.q 4 (.q 5 (.q 6 XT.done))))))) (by kernel_rfl) (by kernel_rfl) ?_
   refine q_mv rfl rfl rfl ?_
   have hca := KOpen_hc (gc := gc1) (gp := gp1) hcs0 (p := pow0) rfl
   rw [w0eq] at hca
   refine h_call Try.call41 (S2 := [_]) rfl rfl rfl (permL [0, 1, 2] rfl) (hca) ?_
   rintro r_ S_ Hn3 hl6 ⟨gk1, an1, rfl, rfl, hks1, hle3⟩
   replace has := has.mono hl6
   replace hra := hra.mono hl6
   replace hao := hao.mono hl6
   replace hcs0 := hcs0.mono hl6
   refine ⟨kp0, ?_⟩
   refine x_S (S' := [_, _, _, _]) rfl ?_
   refine q_mv rfl rfl rfl ?_
   refine q_ext rfl rfl rfl rfl ?_
   refine q_ext rfl rfl rfl rfl ?_
   refine q_as rfl rfl rfl ?_
   refine q_as rfl rfl rfl ?_
   refine x_end ?_
   refine nk_cut (e' := [(0, _), (1, _), (2, _), (4, _), (6, _), (7, _), (8, _), (9, _), (10, _), (26, _), (43, _)]) [0, 1, 2, 4, 6, 7, 8, 9, 10, 26, 43] rfl ?_
   refine nk_seq ?_
   refine ew_seq ?_
   refine ew_seq ?_
   refine rg (.q 0 (.q 1 (.q 2 (.q 3 (.q 4 (.q 5 XT.done)))))) (by kernel_rfl) (by kernel_rfl) ?_
   refine q_mv rfl rfl rfl ?_
   refine q_ne rfl rfl rfl rfl ?_
   refine x_F (by simp) ?_
   refine q_mv rfl rfl rfl ?_
   refine q_mv rfl rfl rfl ?_
   refine q_eq_pn Try.underlying74 rfl rfl rfl rfl ?_
   refine q_pkF rfl rfl rfl rfl ?_
   refine x_end ?_
   refine nk_cut (e' := [(0, _), (1, _), (2, _), (4, _), (6, _), (7, _), (8, _), (9, _), (10, _), (26, _), (43, _), (54, _)]) [0, 1, 2, 4, 6, 7, 8, 9, 10, 26, 43, 54] rfl ?_
   refine nk_seq ?_
   refine ew_false rfl ?_
   refine ew_skip ?_
   refine nk_seq ?_
   refine ew_seq ?_
   refine ew_seq ?_
   refine rg (.q 0 XT.done) (by kernel_rfl) (by kernel_rfl) ?_
   refine q_as (sv := .i 0) rfl rfl rfl ?_
   refine x_end ?_
   refine nk_cut (e' := [(0, _), (1, _), (2, _), (4, _), (6, _), (7, _), (8, _), (9, _), (10, _), (11, _), (26, _), (43, _), (54, _)]) [0, 1, 2, 4, 6, 7, 8, 9, 10, 11, 26, 43, 54] rfl ?_
   refine nk_seq ?_
   refine ew_block ?_
   let Ev1 : Nat × KH → Env := fun ⟨i, q⟩ => [(11, .i (i : Int)), (10, .p ⟨q.gk, 0, none⟩)]
   let Sv1 : Nat × KH → Res := fun ⟨i, q⟩ => [.box q.gk 175 (kpCells gc1 q.a q.k.has), .box gc1 173 (celCells gp1 q.a0 q.a1 q.a2 q.a3 q.k.c.writes), .box gp1 127 q.k.p.cells, .box g1 60 a.cells]
   let Gv1 : Nat × KH → Hp → Prop := fun ⟨i, q⟩ H' => HLe Hn3 H' ∧ (i ≤ nl ∧ KH.ok H' q i ∧ q.k.calm)
   let Mv1 : Nat × KH → Nat := fun ⟨i, q⟩ => nl - i
   refine ew_loop (mkE [(0, _), (1, _), (2, _), (4, _), (6, _), (7, _), (8, _), (26, _), (43, _), (54, _)] Ev1) (Sv1) Gv1 Mv1 (⟨0, (⟨_, wK0, an1, ⟨none, 0, 0, []⟩, ⟨none, 0, 0, []⟩, ⟨none, 0, 0, []⟩, ⟨none, 0, 0, []⟩⟩ : KH)⟩ : Nat × KH) ⟨rfl, rfl, rfl, rfl, rfl, rfl, rfl, rfl, rfl, rfl, rfl, rfl, trivial⟩ rfl ⟨HLe.refl _, ⟨by omega, ⟨wK0_ok, hks1⟩, wK0_calm⟩⟩ ?_
   rintro ⟨i, q⟩ Hl1 ⟨hl7, hG⟩
   replace has := has.mono hl7
   replace hra := hra.mono hl7
   replace hao := hao.mono hl7
   replace hcs0 := hcs0.mono hl7
   replace hks1 := hks1.mono hl7
   obtain ⟨hi, hq, hcalm⟩ := hG
   refine ew_S (S' := [.box _ _ [_, _, _, _, _, _, _, _, _, _], .box _ _ [_, _, _, _, _, _], .box _ _ [_, _, _, _], .box _ _ [_, _, _, _, _, _, _, _]]) rfl ?_
   refine ew_S (S' := [_, _, _, _]) rfl ?_
   refine ew_cut (e' := [(11, _), (10, _), (0, _), (1, _), (2, _), (4, _), (6, _), (7, _), (8, _), (26, _), (43, _), (54, _)]) [11, 10, 0, 1, 2, 4, 6, 7, 8, 26, 43, 54] rfl ?_
   refine ew_seq ?_
   refine ew_seq ?_
   refine rg (.q 0 (.q 1 (.q 2 (.q 3 XT.done)))) (by kernel_rfl) (by kernel_rfl) ?_
   refine q_mv rfl rfl rfl ?_
   refine q_mv rfl rfl rfl ?_
   refine q_len Try.underlying102 rfl rfl rfl ?_
   refine q_lt rfl rfl rfl rfl ?_
   refine x_end ?_
   refine nk_cut (e' := [(0, _), (1, _), (2, _), (4, _), (6, _), (7, _), (8, _), (10, _), (11, _), (26, _), (43, _), (54, _), (58, _)]) [0, 1, 2, 4, 6, 7, 8, 10, 11, 26, 43, 54, 58] rfl ?_
   refine nk_seq ?_
   refine ew_cond rfl ?_ ?_
   ·intro hc58
    try simp only [decide_eq_true_eq] at hc58
    have hg := has.get (j := i) (by omega)
    have hri := has.at_ (j := i) (by omega)
    generalize l.getD i default = x at hg hri
    refine ew_skip ?_
    refine nk_seq ?_
    refine ew_seq ?_
    refine ew_block ?_
    refine ew_seq ?_
    refine ew_seq ?_
    refine rg (.q 0 (.q 1 (.q 2 (.q 3 (.h 4 (.q 5 XT.done)))))) (by kernel_rfl) (by kernel_rfl) ?_
    refine q_mv rfl rfl rfl ?_
    refine q_mv rfl rfl rfl ?_
    refine q_ixs Try.underlying102 Try.sizeOf60 rfl rfl rfl rfl rfl (has.ne (by omega)) (by omega) (by omega) ?_
    refine q_ldSr Try.isAgg60 Try.sizeOf60 rfl rfl rfl (hg) rfl ?_
    refine x_v (v' := .agg [_, _, _, _, _, _, _, _]) rfl ?_
    refine h_call0 Try.call29 rfl rfl rfl (Light_hc hri) ?_
    rintro r_ S_ Hl1 hl8 ⟨rfl, rfl, rfl⟩
    refine ⟨kp0, ?_⟩
    refine x_S (S' := [_, _, _, _]) rfl ?_
    refine q_not rfl rfl rfl ?_
    refine x_end ?_
    refine nk_cut (e' := [(0, _), (1, _), (2, _), (4, _), (6, _), (7, _), (8, _), (10, _), (11, _), (26, _), (43, _), (54, _), (58, _), (66, _)]) [0, 1, 2, 4, 6, 7, 8, 10, 11, 26, 43, 54, 58, 66] rfl ?_
    refine nk_seq ?_
    refine ew_cond rfl ?_ ?_
    ·intro hc66
     try simp only [Bool.not_eq_true', Bool.not_eq_false', decide_eq_true_eq, decide_eq_false_iff_not, ne_eq, Decidable.not_not] at hc66
     refine ew_seq ?_
     refine rg (.h 0 (.q 1 XT.done)) (by kernel_rfl) (by kernel_rfl) ?_
     refine h_call0 Try.call30 rfl rfl rfl (Works_hc) ?_
     rintro r_ S_ Hn4 hl9 ⟨rfl, rfl, hle4⟩
     replace has := has.mono hl9
     replace hao := hao.mono hl9
     replace hq := hq.mono hl9
     refine ⟨kp0, ?_⟩
     refine x_S (S' := [_, _, _, _]) rfl ?_
     refine q_as rfl rfl rfl ?_
     refine x_end ?_
     refine nk_cut (e' := [(0, _), (1, _), (2, _), (4, _), (6, _), (7, _), (8, _), (10, _), (11, _), (26, _), (43, _), (54, _), (58, _), (66, _)]) [0, 1, 2, 4, 6, 7, 8, 10, 11, 26, 43, 54, 58, 66] rfl ?_
     refine nk_seq ?_
     refine ew_retS rfl rfl (.cons (.tmp rfl) .nil) ?_
     exact ⟨rfl, rfl, ((hl6.trans hl7).trans hl9)⟩
    ·intro hc66
     try simp only [Bool.not_eq_true', Bool.not_eq_false', decide_eq_true_eq, decide_eq_false_iff_not, ne_eq, Decidable.not_not] at hc66
     refine ew_skip ?_
     refine nk_seq ?_
     refine rg (.q 0 (.q 1 (.q 2 (.q 3 (.q 4 (.h 5 XT.done)))))) (by kernel_rfl) (by kernel_rfl) ?_
     iterate 3 refine q_mv rfl rfl rfl ?_
     refine q_ixs Try.underlying102 Try.sizeOf60 rfl rfl rfl rfl rfl (has.ne (by omega)) (by omega) (by omega) ?_
     refine q_ldSr Try.isAgg60 Try.sizeOf60 rfl rfl rfl (hg) rfl ?_
     refine x_v (v' := .agg [_, _, _, _, _, _, _, _]) rfl ?_
     have hss := hq.s
     have hcb := KSave_hc (gk := q.gk) (gc := gc1) (gp := gp1) hq.o (by omega) hss (hri.lt hc66)
     refine h_call Try.call45 (S2 := [_]) rfl rfl rfl (permL [0, 1, 2, 3] rfl) (hcb) ?_
     rintro r_ S_ Hn5 hl10 ⟨an2, b1, b2, b3, b4, rfl, rfl, hks2, hle5⟩
     replace has := has.mono hl10
     replace hao := hao.mono hl10
     replace hq := hq.mono hl10
     refine ⟨kp0, ?_⟩
     refine x_S (S' := [_, _, _, _]) rfl ?_
     refine x_end ?_
     refine nk_cut (e' := [(0, _), (1, _), (2, _), (4, _), (6, _), (7, _), (8, _), (10, _), (11, _), (26, _), (43, _), (54, _), (58, _), (66, _)]) [0, 1, 2, 4, 6, 7, 8, 10, 11, 26, 43, 54, 58, 66] rfl ?_
     refine nk_blk ?_
     refine nk_seq ?_
     refine rg (.q 0 (.q 1 (.q 2 XT.done))) (by kernel_rfl) (by kernel_rfl) ?_
     refine q_mv rfl rfl rfl ?_
     refine q_add rfl rfl rfl rfl (by omega) (by omega) ?_
     refine q_as rfl rfl rfl ?_
     refine x_end ?_
     refine nk_cut (e' := [(0, _), (1, _), (2, _), (4, _), (6, _), (7, _), (8, _), (10, _), (11, _), (26, _), (43, _), (54, _), (58, _), (66, _)]) [0, 1, 2, 4, 6, 7, 8, 10, 11, 26, 43, 54, 58, 66] rfl ?_
     refine nk_round (μ := Mv1) (i := (i, q)) (S := Sv1) (G := Gv1) (⟨i + 1, (⟨q.gk, (q.k.save x.v).1, an2, b1, b2, b3, b4⟩ : KH)⟩ : Nat × KH) ?_ ?_ ?_ ?_
     ·exact ⟨rfl, rfl, rfl, rfl, rfl, rfl, rfl, rfl, rfl, rfl, rfl, rfl, trivial⟩
     ·exact rfl
     ·exact ⟨(hl7.trans hl10), ⟨by omega, ⟨(Kp.save_ok hq.o _).le (by omega), hks2⟩, hcalm.save _⟩⟩
     ·dsimp only [Mv1]; omega
   ·intro hc58
    try simp only [decide_eq_false_iff_not] at hc58
    have hsq := hq.o.seq
    refine ew_exit _ rfl ?_
    refine nk_seq ?_
    refine ew_seq ?_
    refine rg (.q 0 (.h 1 (.q 2 (.q 3 (.q 4 (.h 5 (.h 6 (.q 7 XT.done)))))))) (by kernel_rfl) (by kernel_rfl) ?_
    refine q_mv rfl rfl rfl ?_
    refine h_call Try.call56 (S2 := [_]) rfl rfl rfl (permL [0, 1, 2, 3] rfl) (KLast_hc hq.o (by omega) hq.s) ?_
    rintro r_ S_ Hn6 hl11 ⟨an3, rfl, ha1, hav1, rfl, hle6⟩
    replace has := has.mono hl11
    replace hao := hao.mono hl11
    replace hq := hq.mono hl11
    refine ⟨kp0, ?_⟩
    refine x_S (S' := [_, _, _, _]) rfl ?_
    refine q_mv rfl rfl rfl ?_
    refine q_ext rfl rfl rfl rfl ?_
    refine q_ext rfl rfl rfl rfl ?_
    refine h_alloc (cs := [_, _, _, _, _, _, _, _]) Try.zeroValue60 rfl rfl (zc_60 Try.zeroValue60) ?_
    intro g2
    refine ⟨kp0, ?_⟩
    refine h_stS (cs' := [_, _, _, _, _, _, _, _]) (S' := [_, _, _, _, _]) 0 Try.sizeOf60 rfl rfl rfl rfl rfl (allOne rfl) rfl (leb rfl) rfl rfl kp0 ?_
    refine q_as rfl rfl rfl ?_
    refine x_end ?_
    refine nk_cut (e' := [(0, _), (1, _), (2, _), (4, _), (6, _), (7, _), (8, _), (10, _), (11, _), (12, _), (13, _), (26, _), (43, _), (54, _), (58, _)]) [0, 1, 2, 4, 6, 7, 8, 10, 11, 12, 13, 26, 43, 54, 58] rfl ?_
    refine nk_seq ?_
    refine ew_seq ?_
    refine rg (.q 0 (.q 1 (.h 2 XT.done))) (by kernel_rfl) (by kernel_rfl) ?_
    refine q_mv rfl rfl rfl ?_
    refine q_mv rfl rfl rfl ?_
    refine h_call Try.call52 (S2 := [_, _, _, _]) rfl rfl rfl (nth_split (k := 3) rfl) (PowFuse_hc) ?_
    rintro r_ S_ Hn6 hl12 ⟨rfl, rfl, rfl⟩
    refine ⟨kp0, ?_⟩
    refine x_S (S' := [_, _, _, _, _]) rfl ?_
    refine x_end ?_
    refine nk_cut (e' := [(0, _), (1, _), (2, _), (4, _), (6, _), (7, _), (8, _), (10, _), (11, _), (12, _), (13, _), (26, _), (43, _), (54, _), (58, _)]) [0, 1, 2, 4, 6, 7, 8, 10, 11, 12, 13, 26, 43, 54, 58] rfl ?_
    refine nk_seq ?_
    refine ew_seq ?_
    refine rg (.q 0 (.q 1 (.h 2 (.q 3 XT.done)))) (by kernel_rfl) (by kernel_rfl) ?_
    refine q_mv rfl rfl rfl ?_
    refine q_ldS 4 Try.isAgg60 Try.sizeOf60 rfl rfl rfl rfl rfl ?_
    have hks2 := hq.s.fuse (q.k.p.setFuse 0 dn)
    have hcb := KSave_hc (gk := q.gk) (gc := gc1) (gp := gp1) (k := Kp.mk q.k.c (q.k.p.setFuse 0 dn) q.k.last q.k.has) (Kp.fuse_ok hq.o (by decide) dn) (by omega) hks2 hao
    refine h_call Try.call45 (S2 := [_, _]) rfl rfl rfl (permL [2, 3, 0, 1, 4] rfl) (hcb) ?_
    rintro r_ S_ Hn7 hl13 ⟨an4, b5, b6, b7, b8, rfl, rfl, hks3, hle7⟩
    replace has := has.mono hl13
    replace hao := hao.mono hl13
    replace hq := hq.mono hl13
    replace ha1 := ha1.mono hl13
    refine ⟨kp0, ?_⟩
    refine x_S (S' := [_, _, _, _, _]) rfl ?_
    refine q_as rfl rfl rfl ?_
    refine x_end ?_
    refine nk_cut (e' := [(0, _), (1, _), (2, _), (4, _), (6, _), (7, _), (8, _), (10, _), (11, _), (12, _), (13, _), (14, _), (26, _), (43, _), (54, _), (58, _)]) [0, 1, 2, 4, 6, 7, 8, 10, 11, 12, 13, 14, 26, 43, 54, 58] rfl ?_
    refine nk_seq ?_
    refine ew_seq ?_
    refine rg (.q 0 (.h 1 XT.done)) (by kernel_rfl) (by kernel_rfl) ?_
    refine q_mv rfl rfl rfl ?_
    refine h_call Try.call54 (S2 := [_, _, _, _]) rfl rfl rfl (nth_split (k := 2) rfl) (PowBack_hc) ?_
    rintro r_ S_ Hn7 hl14 ⟨rfl, rfl, rfl⟩
    refine ⟨kp0, ?_⟩
    refine x_S (S' := [_, _, _, _, _]) rfl ?_
    refine x_end ?_
    refine nk_cut (e' := [(0, _), (1, _), (2, _), (4, _), (6, _), (7, _), (8, _), (10, _), (11, _), (12, _), (13, _), (14, _), (26, _), (43, _), (54, _), (58, _)]) [0, 1, 2, 4, 6, 7, 8, 10, 11, 12, 13, 14, 26, 43, 54, 58] rfl ?_
    refine nk_seq ?_
    refine ew_seq ?_
    refine rg (.q 0 (.h 1 (.q 2 (.q 3 (.q 4 (.q 5 (.q 6 XT.done))))))) (by kernel_rfl) (by kernel_rfl) ?_
    refine q_mv rfl rfl rfl ?_
    have hcut := hcalm.cut a.v dn rfl
    have hok1 := Kp.save_ok (Kp.fuse_ok hq.o (n := 0) (by decide) dn) a.v
    generalize (Kp.mk q.k.c (q.k.p.setFuse 0 dn) q.k.last q.k.has).save a.v = rs at *
    have hca := KOpen_hc (gc := gc1) (gp := gp1) (cl := rs.1.c) (p := rs.1.p.back) hks3.cs rfl
    have hok2 := Kp.back_ok hok1
    refine h_call Try.call41 (S2 := [_, _, _]) rfl rfl rfl (permL [2, 0, 1, 3, 4] rfl) (hca) ?_
    rintro r_ S_ Hn8 hl15 ⟨gk2, an5, rfl, rfl, hks4, hle8⟩
    replace has := has.mono hl15
    replace hao := hao.mono hl15
    replace hq := hq.mono hl15
    replace ha1 := ha1.mono hl15
    replace hks3 := hks3.mono hl15
    refine ⟨kp0, ?_⟩
    refine x_S (S' := [_, _, _, _, _, _]) rfl ?_
    refine q_mv rfl rfl rfl ?_
    refine q_ext rfl rfl rfl rfl ?_
    refine q_ext rfl rfl rfl rfl ?_
    refine q_as rfl rfl rfl ?_
    refine q_as rfl rfl rfl ?_
    refine x_end ?_
    refine nk_cut (e' := [(0, _), (1, _), (2, _), (4, _), (6, _), (7, _), (8, _), (10, _), (11, _), (12, _), (13, _), (14, _), (15, _), (16, _), (26, _), (43, _), (54, _), (58, _)]) [0, 1, 2, 4, 6, 7, 8, 10, 11, 12, 13, 14, 15, 16, 26, 43, 54, 58] rfl ?_
    refine nk_seq ?_
    refine ew_seq ?_
    refine ew_seq ?_
    refine rg (.q 0 (.q 1 (.q 2 (.q 3 (.q 4 (.q 5 XT.done)))))) (by kernel_rfl) (by kernel_rfl) ?_
    refine q_mv rfl rfl rfl ?_
    refine q_ne rfl rfl rfl rfl ?_
    refine x_F (by simp) ?_
    refine q_mv rfl rfl rfl ?_
    refine q_mv rfl rfl rfl ?_
    refine q_eq_pn Try.underlying74 rfl rfl rfl rfl ?_
    refine q_pkF rfl rfl rfl rfl ?_
    refine x_end ?_
    refine nk_cut (e' := [(0, _), (1, _), (2, _), (4, _), (6, _), (7, _), (8, _), (10, _), (11, _), (12, _), (13, _), (14, _), (15, _), (16, _), (26, _), (43, _), (54, _), (58, _), (97, _)]) [0, 1, 2, 4, 6, 7, 8, 10, 11, 12, 13, 14, 15, 16, 26, 43, 54, 58, 97] rfl ?_
    refine nk_seq ?_
    refine ew_false rfl ?_
    refine ew_skip ?_
    refine nk_seq ?_
    refine ew_seq ?_
    refine rg (.q 0 (.h 1 (.q 2 (.q 3 (.q 4 (.h 5 (.h 6 (.q 7 XT.done)))))))) (by kernel_rfl) (by kernel_rfl) ?_
    refine q_mv rfl rfl rfl ?_
    have hcl := KLast_hc (gk := gk2) (gc := gc1) (gp := gp1) hok2 (by omega) hks4
    rw [(opn_cp rs.1.c rs.1.p.back).1, (opn_cp rs.1.c rs.1.p.back).2] at hcl
    refine h_call Try.call56 (S2 := [_, _, _]) rfl rfl rfl (permL [0, 1, 2, 3, 4, 5] rfl) (hcl) ?_
    rintro r_ S_ Hn9 hl16 ⟨an6, rfl, ha2, hav2, rfl, hle9⟩
    replace has := has.mono hl16
    replace hao := hao.mono hl16
    replace hq := hq.mono hl16
    replace ha1 := ha1.mono hl16
    replace hks3 := hks3.mono hl16
    replace hks4 := hks4.mono hl16
    refine ⟨kp0, ?_⟩
    refine x_S (S' := [_, _, _, _, _, _]) rfl ?_
    refine q_mv rfl rfl rfl ?_
    refine q_ext rfl rfl rfl rfl ?_
    refine q_ext rfl rfl rfl rfl ?_
    refine h_alloc (cs := [_, _, _, _, _, _, _, _]) Try.zeroValue60 rfl rfl (zc_60 Try.zeroValue60) ?_
    intro g3
    refine ⟨kp0, ?_⟩
    refine h_stS (cs' := [_, _, _, _, _, _, _, _]) (S' := [_, _, _, _, _, _, _]) 0 Try.sizeOf60 rfl rfl rfl rfl rfl (allOne rfl) rfl (leb rfl) rfl rfl kp0 ?_
    refine q_as rfl rfl rfl ?_
    refine x_end ?_
    refine nk_cut (e' := [(0, _), (1, _), (2, _), (4, _), (6, _), (7, _), (8, _), (10, _), (11, _), (12, _), (13, _), (14, _), (15, _), (16, _), (17, _), (18, _), (26, _), (43, _), (54, _), (58, _), (97, _)]) [0, 1, 2, 4, 6, 7, 8, 10, 11, 12, 13, 14, 15, 16, 17, 18, 26, 43, 54, 58, 97] rfl ?_
    refine nk_seq ?_
    refine ew_seq ?_
    refine ew_seq ?_
    refine rg (.q 0 (.q 1 (.q 2 (.q 3 (.q 4 (.q 5 XT.done)))))) (by kernel_rfl) (by kernel_rfl) ?_
    refine q_mv rfl rfl rfl ?_
    refine q_ne rfl rfl rfl rfl ?_
    refine q_mv rfl rfl rfl ?_
    refine x_spl (d := 105) rfl ?_ ?_
    ·intro hb105
     try simp only [Bool.not_eq_true', Bool.not_eq_false', decide_eq_true_eq, decide_eq_false_iff_not, ne_eq, Decidable.not_not] at hb105
     refine q_skip rfl rfl ?_
     refine q_skip rfl rfl ?_
     refine q_pkT rfl rfl rfl rfl ?_
     refine x_end ?_
     refine nk_cut (e' := [(0, _), (1, _), (2, _), (4, _), (6, _), (7, _), (8, _), (10, _), (11, _), (12, _), (13, _), (14, _), (15, _), (16, _), (17, _), (18, _), (26, _), (43, _), (54, _), (58, _), (97, _), (108, _)]) [0, 1, 2, 4, 6, 7, 8, 10, 11, 12, 13, 14, 15, 16, 17, 18, 26, 43, 54, 58, 97, 108] rfl ?_
     refine nk_seq ?_
     refine ew_true rfl ?_
     refine ew_seq ?_
     refine rg (.q 0 (.q 1 (.q 2 (.q 3 (.q 4 (.q 5 (.h 6 (.q 7 (.q 8 (.h 9 (.q 10 (.q 11 XT.done)))))))))))) (by kernel_rfl) (by kernel_rfl) ?_
     refine q_mv rfl rfl rfl ?_
     refine q_mv rfl rfl rfl ?_
     refine q_eq_b Try.underlying4 rfl rfl rfl rfl ?_
     refine x_T (by rw [(hcut.2.1 (.inl hb105)).1]; simp) ?_
     refine q_mv rfl rfl rfl ?_
     refine q_ldS 0 Try.isAgg60 Try.sizeOf60 rfl rfl rfl rfl rfl ?_
     refine q_ldS 5 Try.isAgg60 Try.sizeOf60 rfl rfl rfl rfl rfl ?_
     refine h_call0 Try.call37 rfl rfl rfl (RASame_hc ha2 ha1) ?_
     rintro r_ S_ Hn9 hl17 ⟨rfl, rfl, rfl⟩
     refine ⟨kp0, ?_⟩
     refine x_S (S' := [_, _, _, _, _, _, _]) rfl ?_
     refine x_T (decide_eq_true (hav2.trans ((hcut.2.1 (.inl hb105)).2.trans hav1.symm))) ?_
     refine q_pkT rfl rfl rfl rfl ?_
     refine q_mv rfl rfl rfl ?_
     refine h_call0 Try.call30 rfl rfl rfl (Works_hc) ?_
     rintro r_ S_ Hn10 hl18 ⟨rfl, rfl, hle10⟩
     replace has := has.mono hl18
     replace hao := hao.mono hl18
     replace hq := hq.mono hl18
     replace ha1 := ha1.mono hl18
     replace hks3 := hks3.mono hl18
     replace hks4 := hks4.mono hl18
     replace ha2 := ha2.mono hl18
     refine ⟨kp0, ?_⟩
     refine x_S (S' := [_, _, _, _, _, _, _]) rfl ?_
     refine q_pkT rfl rfl rfl rfl ?_
     refine q_as rfl rfl rfl ?_
     refine x_end ?_
     refine nk_cut (e' := [(0, _), (1, _), (2, _), (4, _), (6, _), (7, _), (8, _), (10, _), (11, _), (12, _), (13, _), (14, _), (15, _), (16, _), (17, _), (18, _), (26, _), (43, _), (54, _), (58, _), (97, _), (108, _)]) [0, 1, 2, 4, 6, 7, 8, 10, 11, 12, 13, 14, 15, 16, 17, 18, 26, 43, 54, 58, 97, 108] rfl ?_
     refine nk_seq ?_
     refine ew_retS rfl rfl (.cons (.tmp rfl) .nil) ?_
     exact ⟨rfl, rfl, ((((((hl6.trans hl7).trans hl11).trans hl13).trans hl15).trans hl16).trans hl18)⟩
    ·intro hb105
     try simp only [Bool.not_eq_true', Bool.not_eq_false', decide_eq_true_eq, decide_eq_false_iff_not, ne_eq, Decidable.not_not] at hb105
     refine q_mv rfl rfl rfl ?_
     refine q_not rfl rfl rfl ?_
     refine q_pkF rfl rfl rfl rfl ?_
     refine x_end ?_
     refine nk_cut (e' := [(0, _), (1, _), (2, _), (4, _), (6, _), (7, _), (8, _), (10, _), (11, _), (12, _), (13, _), (14, _), (15, _), (16, _), (17, _), (18, _), (26, _), (43, _), (54, _), (58, _), (97, _), (108, _)]) [0, 1, 2, 4, 6, 7, 8, 10, 11, 12, 13, 14, 15, 16, 17, 18, 26, 43, 54, 58, 97, 108] rfl ?_
     refine nk_seq ?_
     refine ew_cond rfl ?_ ?_
     ·intro hc108
      try simp only [Bool.not_eq_true', Bool.not_eq_false', decide_eq_true_eq, decide_eq_false_iff_not, ne_eq, Decidable.not_not] at hc108
      refine ew_seq ?_
      refine rg (.q 0 (.q 1 (.q 2 (.q 3 (.q 4 (.q 5 (.h 6 (.q 7 (.q 8 (.h 9 (.q 10 (.q 11 XT.done)))))))))))) (by kernel_rfl) (by kernel_rfl) ?_
      refine q_mv rfl rfl rfl ?_
      refine q_mv rfl rfl rfl ?_
      refine q_eq_b Try.underlying4 rfl rfl rfl rfl ?_
      refine x_T (by rw [(hcut.2.1 (.inr hc108)).1]; simp) ?_
      refine q_mv rfl rfl rfl ?_
      refine q_ldS 0 Try.isAgg60 Try.sizeOf60 rfl rfl rfl rfl rfl ?_
      refine q_ldS 5 Try.isAgg60 Try.sizeOf60 rfl rfl rfl rfl rfl ?_
      refine h_call0 Try.call37 rfl rfl rfl (RASame_hc ha2 ha1) ?_
      rintro r_ S_ Hn9 hl19 ⟨rfl, rfl, rfl⟩
      refine ⟨kp0, ?_⟩
      refine x_S (S' := [_, _, _, _, _, _, _]) rfl ?_
      refine x_T (decide_eq_true (hav2.trans ((hcut.2.1 (.inr hc108)).2.trans hav1.symm))) ?_
      refine q_pkT rfl rfl rfl rfl ?_
      refine q_mv rfl rfl rfl ?_
      refine h_call0 Try.call30 rfl rfl rfl (Works_hc) ?_
      rintro r_ S_ Hn11 hl20 ⟨rfl, rfl, hle11⟩
      replace has := has.mono hl20
      replace hao := hao.mono hl20
      replace hq := hq.mono hl20
      replace ha1 := ha1.mono hl20
      replace hks3 := hks3.mono hl20
      replace hks4 := hks4.mono hl20
      replace ha2 := ha2.mono hl20
      refine ⟨kp0, ?_⟩
      refine x_S (S' := [_, _, _, _, _, _, _]) rfl ?_
      refine q_pkT rfl rfl rfl rfl ?_
      refine q_as rfl rfl rfl ?_
      refine x_end ?_
      refine nk_cut (e' := [(0, _), (1, _), (2, _), (4, _), (6, _), (7, _), (8, _), (10, _), (11, _), (12, _), (13, _), (14, _), (15, _), (16, _), (17, _), (18, _), (26, _), (43, _), (54, _), (58, _), (97, _), (108, _)]) [0, 1, 2, 4, 6, 7, 8, 10, 11, 12, 13, 14, 15, 16, 17, 18, 26, 43, 54, 58, 97, 108] rfl ?_
      refine nk_seq ?_
      refine ew_retS rfl rfl (.cons (.tmp rfl) .nil) ?_
      exact ⟨rfl, rfl, ((((((hl6.trans hl7).trans hl11).trans hl13).trans hl15).trans hl16).trans hl20)⟩
     ·intro hc108
      try simp only [Bool.not_eq_true', Bool.not_eq_false', decide_eq_true_eq, decide_eq_false_iff_not, ne_eq, Decidable.not_not] at hc108
      have hno : ¬ (rs.2 ≠ 5 ∨ dn = false) := by simp [hb105, hc108]
      refine ew_skip ?_
      refine nk_seq ?_
      refine ew_seq ?_
      refine rg (.q 0 (.q 1 (.q 2 (.q 3 (.h 4 XT.done))))) (by kernel_rfl) (by kernel_rfl) ?_
      refine q_fa fa_60_0 rfl rfl rfl ?_
      refine q_ld 5 Try.isAgg3 rfl rfl rfl rfl rfl ?_
      refine q_add rfl rfl rfl rfl (by have := seq_v hav1; omega) (by have := seq_v hav1; omega) ?_
      refine q_fa fa_60_0 rfl rfl rfl ?_
      refine h_st (cs' := [_, _, _, _, _, _, _, _]) (S' := [_, _, _, _, _, _, _]) 6 Try.sizeOf3 rfl rfl rfl rfl rfl rfl (ltb rfl) rfl rfl kp0 ?_
      refine x_end ?_
      refine nk_cut (e' := [(0, _), (1, _), (2, _), (4, _), (6, _), (7, _), (8, _), (10, _), (11, _), (12, _), (13, _), (14, _), (15, _), (16, _), (17, _), (18, _), (26, _), (43, _), (54, _), (58, _), (97, _), (108, _)]) [0, 1, 2, 4, 6, 7, 8, 10, 11, 12, 13, 14, 15, 16, 17, 18, 26, 43, 54, 58, 97, 108] rfl ?_
      refine nk_seq ?_
      refine ew_seq ?_
      refine rg (.q 0 (.q 1 (.q 2 (.q 3 (.h 4 (.q 5 (.q 6 (.h 7 (.q 8 (.q 9 XT.done)))))))))) (by kernel_rfl) (by kernel_rfl) ?_
      refine q_mv rfl rfl rfl ?_
      refine q_mv rfl rfl rfl ?_
      refine x_T ((hcut.2.2 hno).1) ?_
      refine q_ldS 0 Try.isAgg60 Try.sizeOf60 rfl rfl rfl rfl rfl ?_
      refine q_ldS 6 Try.isAgg60 Try.sizeOf60 rfl rfl rfl rfl rfl ?_
      have hxs := xSeq_ok hao (an3.seq + 1)
      have hcx : An.cells (xSeq a (an3.seq + 1)) = [.i (an3.seq + 1), .i (a.epoch), .i (a.given_), .i (a.root), .i (a.rep), .i (a.pending), .sl a.m.A a.m.n a.m.c, .sl a.A a.n a.c] := rfl
      have hcs := RASame_hc ha2 hxs
      rw [hcx] at hcs
      refine h_call0 Try.call37 rfl rfl rfl (hcs) ?_
      rintro r_ S_ Hn9 hl21 ⟨rfl, rfl, rfl⟩
      refine ⟨kp0, ?_⟩
      refine x_S (S' := [_, _, _, _, _, _, _]) rfl ?_
      refine x_T (decide_eq_true (hav2.trans ((hcut.2.2 hno).2.trans (xSeq_v (a := a) (by rw [seq_v hav1])).symm))) ?_
      refine q_pkT rfl rfl rfl rfl ?_
      refine q_mv rfl rfl rfl ?_
      refine h_call0 Try.call30 rfl rfl rfl (Works_hc) ?_
      rintro r_ S_ Hn12 hl22 ⟨rfl, rfl, hle12⟩
      replace has := has.mono hl22
      replace hao := hao.mono hl22
      replace hq := hq.mono hl22
      replace ha1 := ha1.mono hl22
      replace hks3 := hks3.mono hl22
      replace hks4 := hks4.mono hl22
      replace ha2 := ha2.mono hl22
      replace hxs := hxs.mono hl22
      refine ⟨kp0, ?_⟩
      refine x_S (S' := [_, _, _, _, _, _, _]) rfl ?_
      refine q_pkT rfl rfl rfl rfl ?_
      refine q_as rfl rfl rfl ?_
      refine x_end ?_
      refine nk_cut (e' := [(0, _), (1, _), (2, _), (4, _), (6, _), (7, _), (8, _), (10, _), (11, _), (12, _), (13, _), (14, _), (15, _), (16, _), (17, _), (18, _), (26, _), (43, _), (54, _), (58, _), (97, _), (108, _)]) [0, 1, 2, 4, 6, 7, 8, 10, 11, 12, 13, 14, 15, 16, 17, 18, 26, 43, 54, 58, 97, 108] rfl ?_
      refine nk_seq ?_
      refine ew_retS rfl rfl (.cons (.tmp rfl) .nil) ?_
      exact ⟨rfl, rfl, ((((((hl6.trans hl7).trans hl11).trans hl13).trans hl15).trans hl16).trans hl22)⟩

end Go.GW
