/- deedboxlaw14.AnchorRises returns true, whatever acts it is given. -/
import Derived.Test.YtcchamnagcpaiaaLawD
namespace Go.GW
open Go Go.Proofs
set_option linter.unusedSimpArgs false
set_option linter.unusedVariables false


theorem Rises_hc {H : Hp} {Al : Option Addr} {nl cl : Nat} {os : List Act14} (hos : OS H Al nl cl os) :
  HC Try.prog 7 [.sl Al nl cl] [] H (fun r S' H' => r = .b true ∧ S' = [] ∧ HLe H H') := by
 refine hc_intro (n := 134) Try.func7 rfl Try.ntmps7 rfl (fun B hB => ?_)
 refine ew_cut (e' := [(0, _)]) [0] rfl ?_
 refine ew_seq ?_
 refine rg (.q 0 XT.done) (by kernel_rfl) (by kernel_rfl) ?_
 refine q_as (sv := .b false) rfl rfl rfl ?_
 refine x_end ?_
 refine nk_cut (e' := [(0, _), (2, _)]) [0, 2] rfl ?_
 refine nk_seq ?_
 refine ew_seq ?_
 refine ew_seq ?_
 refine rg (.q 0 (.q 1 (.q 2 XT.done))) (by kernel_rfl) (by kernel_rfl) ?_
 refine q_mv rfl rfl rfl ?_
 refine q_len Try.underlying70 rfl rfl rfl ?_
 refine q_gt rfl rfl rfl rfl ?_
 refine x_end ?_
 refine nk_cut (e' := [(0, _), (2, _), (19, _)]) [0, 2, 19] rfl ?_
 refine nk_seq ?_
 refine ew_cond rfl ?_ ?_
 ·intro hc19
  try simp only [decide_eq_true_eq] at hc19
  refine ew_seq ?_
  refine rg (.h 0 (.q 1 XT.done)) (by kernel_rfl) (by kernel_rfl) ?_
  refine h_call0 Try.call30 rfl rfl rfl (Works_hc) ?_
  rintro r_ S_ Hn1 hl1 ⟨rfl, rfl, hle1⟩
  replace hos := hos.mono hl1
  refine ⟨kp0, ?_⟩
  refine x_S (S' := []) rfl ?_
  refine q_as rfl rfl rfl ?_
  refine x_end ?_
  refine nk_cut (e' := [(0, _), (2, _), (19, _)]) [0, 2, 19] rfl ?_
  refine nk_seq ?_
  refine ew_retS rfl rfl (.cons (.tmp rfl) .nil) ?_
  exact ⟨rfl, rfl, hl1⟩
 ·intro hc19
  try simp only [decide_eq_false_iff_not] at hc19
  refine ew_skip ?_
  refine nk_seq ?_
  refine ew_seq ?_
  refine rg (.h 0 (.q 1 XT.done)) (by kernel_rfl) (by kernel_rfl) ?_
  refine h_call0 Try.call14 rfl rfl rfl (PowNew_hc) ?_
  rintro r_ S_ H hl2 ⟨gp1, rfl, rfl, rfl⟩
  refine ⟨kp0, ?_⟩
  refine x_S (S' := [_]) rfl ?_
  refine q_as rfl rfl rfl ?_
  refine x_end ?_
  refine nk_cut (e' := [(0, _), (2, _), (3, _), (19, _)]) [0, 2, 3, 19] rfl ?_
  refine nk_seq ?_
  refine ew_seq ?_
  refine rg (.q 0 (.h 1 (.q 2 (.q 3 (.q 4 (.q 5 (.q 6 XT.done))))))) (by kernel_rfl) (by kernel_rfl) ?_
  refine q_mv rfl rfl rfl ?_
  refine h_call0 Try.call40 rfl rfl rfl (CelNew_hc) ?_
  rintro r_ S_ H hl3 ⟨gc1, rfl, rfl, rfl⟩
  refine ⟨kp0, ?_⟩
  refine x_S (S' := [_, _]) rfl ?_
  have hcs0 : CelS H ⟨none, 0, 0, []⟩ ⟨none, 0, 0, []⟩ ⟨none, 0, 0, []⟩ ⟨none, 0, 0, []⟩ cel0 := cel0_ok
  refine q_mv rfl rfl rfl ?_
  refine q_ext rfl rfl rfl rfl ?_
  refine q_ext rfl rfl rfl rfl ?_
  refine q_as rfl rfl rfl ?_
  refine q_as rfl rfl rfl ?_
  refine x_end ?_
  refine nk_cut (e' := [(0, _), (2, _), (3, _), (4, _), (5, _), (19, _)]) [0, 2, 3, 4, 5, 19] rfl ?_
  refine nk_seq ?_
  refine ew_seq ?_
  refine ew_seq ?_
  refine rg (.q 0 (.q 1 (.q 2 (.q 3 (.q 4 (.q 5 (.q 6 (.q 7 (.q 8 (.q 9 XT.done)))))))))) (by kernel_rfl) (by kernel_rfl) ?_
  refine q_mv rfl rfl rfl ?_
  refine q_ne rfl rfl rfl rfl ?_
  refine x_F (by simp) ?_
  refine q_mv rfl rfl rfl ?_
  refine q_mv rfl rfl rfl ?_
  refine q_eq_pn Try.underlying71 rfl rfl rfl rfl ?_
  refine q_pkF rfl rfl rfl rfl ?_
  refine q_mv rfl rfl rfl ?_
  refine q_mv rfl rfl rfl ?_
  refine q_eq_pn Try.underlying29 rfl rfl rfl rfl ?_
  refine q_pkF rfl rfl rfl rfl ?_
  refine x_end ?_
  refine nk_cut (e' := [(0, _), (2, _), (3, _), (4, _), (5, _), (19, _), (36, _)]) [0, 2, 3, 4, 5, 19, 36] rfl ?_
  refine nk_seq ?_
  refine ew_false rfl ?_
  refine ew_skip ?_
  refine nk_seq ?_
  refine ew_seq ?_
  refine rg (.q 0 (.h 1 (.q 2 (.q 3 (.q 4 (.q 5 (.q 6 XT.done))))))) (by kernel_rfl) (by kernel_rfl) ?_
  refine q_mv rfl rfl rfl ?_
  have hca := KOpen_hc (gc := gc1) (gp := gp1) hcs0 (p := pow0) rfl
  rw [w0eq] at hca
  refine h_call Try.call41 (S2 := []) rfl rfl rfl (List.Perm.refl _) (hca) ?_
  rintro r_ S_ Hn2 hl4 ⟨gk1, an1, rfl, rfl, hks1, hle2⟩
  replace hos := hos.mono hl4
  replace hcs0 := hcs0.mono hl4
  refine ⟨kp0, ?_⟩
  refine x_S (S' := [_, _, _]) rfl ?_
  refine q_mv rfl rfl rfl ?_
  refine q_ext rfl rfl rfl rfl ?_
  refine q_ext rfl rfl rfl rfl ?_
  refine q_as rfl rfl rfl ?_
  refine q_as rfl rfl rfl ?_
  refine x_end ?_
  refine nk_cut (e' := [(0, _), (2, _), (3, _), (4, _), (5, _), (6, _), (19, _), (36, _)]) [0, 2, 3, 4, 5, 6, 19, 36] rfl ?_
  refine nk_seq ?_
  refine ew_seq ?_
  refine ew_seq ?_
  refine rg (.q 0 (.q 1 (.q 2 (.q 3 (.q 4 (.q 5 (.q 6 (.q 7 (.h 8 (.q 9 (.h 10 (.q 11 (.q 12 XT.done))))))))))))) (by kernel_rfl) (by kernel_rfl) ?_
  refine q_mv rfl rfl rfl ?_
  refine q_ne rfl rfl rfl rfl ?_
  refine x_F (by simp) ?_
  refine q_mv rfl rfl rfl ?_
  refine q_mv rfl rfl rfl ?_
  refine q_eq_pn Try.underlying74 rfl rfl rfl rfl ?_
  refine q_pkF rfl rfl rfl rfl ?_
  refine q_mv rfl rfl rfl ?_
  refine q_mv rfl rfl rfl ?_
  refine h_mk (z := .u8 0) Try.underlying26 info_5 rfl rfl rfl rfl rfl rfl rfl (by omega) (by omega) (by simp only [by_5]; omega) (by omega) ?_
  intro g1
  refine ⟨kp0, ?_⟩
  refine q_bld (cs := [_, _, _, _, _, _, _, _]) bf_60 rfl rfl rfl rfl ?_
  refine pubX (S' := [_, _, _]) 0 rfl rfl ?_
  intro Hp1 hp1 hr1
  replace hos := hos.mono hp1
  replace hcs0 := hcs0.mono hp1
  replace hks1 := hks1.mono hp1
  have hwa : An.ok Hp1 ⟨0, 0, 0, -1, 0, 0, ⟨some ⟨g1, 0, none⟩, 32, 32, zeros 32⟩, none, 0, 0, []⟩ := ⟨⟨by rw [← zeros_map]; exact hr1, List.length_replicate, Nat.le_refl _⟩, KS.nil, (show 32 ≤ 1099511627776 by decide), ⟨(show 0 ≤ 1099511627776 by decide), by intro x hx; cases hx⟩⟩
  have hcells : An.cells ⟨0, 0, 0, -1, 0, 0, ⟨some ⟨g1, 0, none⟩, 32, 32, zeros 32⟩, none, 0, 0, []⟩ = [.i 0, .i 0, .i 0, .i (-1), .i 0, .i 0, .sl (some ⟨g1, 0, none⟩) 32 32, .sl none 0 0] := rfl
  have hxv : An.v ⟨0, 0, 0, -1, 0, 0, ⟨some ⟨g1, 0, none⟩, 32, 32, zeros 32⟩, none, 0, 0, []⟩ = wA0 := rfl
  have hcb := KSave_hc (gk := gk1) (gc := gc1) (gp := gp1) wK0_ok (by decide) hks1 hwa
  rw [hcells, hxv, show (wK0.save wA0).1 = wK1 from rfl, w1] at hcb
  refine h_call Try.call45 (S2 := []) rfl rfl rfl (List.Perm.refl _) (hcb) ?_
  rintro r_ S_ Hn3 hl5 ⟨an2, b1, b2, b3, b4, rfl, rfl, hks2, hle3⟩
  replace hos := hos.mono hl5
  replace hcs0 := hcs0.mono hl5
  replace hks1 := hks1.mono hl5
  replace hr1 := hr1.mono hl5
  replace hwa := hwa.mono hl5
  refine ⟨kp0, ?_⟩
  refine x_S (S' := [_, _, _]) rfl ?_
  refine q_ne rfl rfl rfl rfl ?_
  refine x_F (by simp) ?_
  refine q_pkF rfl rfl rfl rfl ?_
  refine x_end ?_
  refine nk_cut (e' := [(0, _), (2, _), (3, _), (4, _), (5, _), (6, _), (19, _), (36, _), (54, _)]) [0, 2, 3, 4, 5, 6, 19, 36, 54] rfl ?_
  refine nk_seq ?_
  refine ew_false rfl ?_
  refine ew_skip ?_
  refine nk_seq ?_
  refine ew_seq ?_
  refine rg (.q 0 XT.done) (by kernel_rfl) (by kernel_rfl) ?_
  refine q_as (sv := .i 0) rfl rfl rfl ?_
  refine x_end ?_
  refine nk_cut (e' := [(0, _), (2, _), (3, _), (4, _), (5, _), (6, _), (7, _), (19, _), (36, _), (54, _)]) [0, 2, 3, 4, 5, 6, 7, 19, 36, 54] rfl ?_
  refine nk_seq ?_
  refine ew_seq ?_
  refine rg (.q 0 XT.done) (by kernel_rfl) (by kernel_rfl) ?_
  refine q_as (sv := .i 0) rfl rfl rfl ?_
  refine x_end ?_
  refine nk_cut (e' := [(0, _), (2, _), (3, _), (4, _), (5, _), (6, _), (7, _), (8, _), (19, _), (36, _), (54, _)]) [0, 2, 3, 4, 5, 6, 7, 8, 19, 36, 54] rfl ?_
  refine nk_seq ?_
  refine ew_seq ?_
  refine ew_seq ?_
  refine rg (.q 0 XT.done) (by kernel_rfl) (by kernel_rfl) ?_
  refine q_as (sv := .i 0) rfl rfl rfl ?_
  refine x_end ?_
  refine nk_cut (e' := [(0, _), (2, _), (3, _), (4, _), (5, _), (6, _), (7, _), (8, _), (9, _), (19, _), (36, _), (54, _)]) [0, 2, 3, 4, 5, 6, 7, 8, 9, 19, 36, 54] rfl ?_
  refine nk_seq ?_
  refine ew_block ?_
  let Ev1 : Nat × KH × Int × Int → Env := fun ⟨i, q, ls, ct⟩ => [(9, .i (i : Int)), (6, .p ⟨q.gk, 0, none⟩), (7, .i ls), (8, .i ct)]
  let Sv1 : Nat × KH × Int × Int → Res := fun ⟨i, q, ls, ct⟩ => [.box q.gk 175 (kpCells gc1 q.a q.k.has), .box gc1 173 (celCells gp1 q.a0 q.a1 q.a2 q.a3 q.k.c.writes), .box gp1 127 q.k.p.cells]
  let Gv1 : Nat × KH × Int × Int → Hp → Prop := fun ⟨i, q, ls, ct⟩ H' => HLe Hn3 H' ∧ (i ≤ nl ∧ KH.ok H' q (i + 1) ∧ q.k.inv ∧ ls ≤ q.k.last.given_ ∧ ct ≤ q.k.last.epoch)
  let Mv1 : Nat × KH × Int × Int → Nat := fun ⟨i, q, ls, ct⟩ => nl - i
  refine ew_loop (mkE [(0, _), (2, _), (3, _), (4, _), (19, _), (36, _), (54, _)] Ev1) (Sv1) Gv1 Mv1 (⟨0, (⟨_, wK1, an2, b1, b2, b3, b4⟩ : KH), 0, 0⟩ : Nat × KH × Int × Int) ⟨rfl, rfl, rfl, rfl, rfl, rfl, rfl, rfl, rfl, rfl, rfl, trivial⟩ rfl ⟨HLe.refl _, ⟨by omega, ⟨wK1_ok, hks2⟩, wK1_inv, show (0 : Int) ≤ wK1.last.given_ by decide +kernel, show (0 : Int) ≤ wK1.last.epoch by decide +kernel⟩⟩ ?_
  rintro ⟨i, q, ls, ct⟩ Hl1 ⟨hl6, hG⟩
  replace hos := hos.mono hl6
  replace hcs0 := hcs0.mono hl6
  replace hks1 := hks1.mono hl6
  replace hr1 := hr1.mono hl6
  replace hwa := hwa.mono hl6
  replace hks2 := hks2.mono hl6
  obtain ⟨hi, hq, hinv, hls, hct⟩ := hG
  refine ew_S (S' := [.box _ _ [_, _, _, _, _, _, _, _, _, _], .box _ _ [_, _, _, _, _, _], .box _ _ [_, _, _, _]]) rfl ?_
  refine ew_S (S' := [_, _, _]) rfl ?_
  refine ew_cut (e' := [(9, _), (6, _), (7, _), (8, _), (0, _), (2, _), (3, _), (4, _), (19, _), (36, _), (54, _)]) [9, 6, 7, 8, 0, 2, 3, 4, 19, 36, 54] rfl ?_
  refine ew_seq ?_
  refine ew_seq ?_
  refine rg (.q 0 (.q 1 (.q 2 (.q 3 XT.done)))) (by kernel_rfl) (by kernel_rfl) ?_
  refine q_mv rfl rfl rfl ?_
  refine q_mv rfl rfl rfl ?_
  refine q_len Try.underlying70 rfl rfl rfl ?_
  refine q_lt rfl rfl rfl rfl ?_
  refine x_end ?_
  refine nk_cut (e' := [(0, _), (2, _), (3, _), (4, _), (6, _), (7, _), (8, _), (9, _), (19, _), (36, _), (54, _), (58, _)]) [0, 2, 3, 4, 6, 7, 8, 9, 19, 36, 54, 58] rfl ?_
  refine nk_seq ?_
  refine ew_cond rfl ?_ ?_
  ·intro hc58
   try simp only [decide_eq_true_eq] at hc58
   have hg := hos.get (j := i) (by omega)
   have hnum := hos.num_ (j := i) (by omega)
   generalize os.getD i default = o at hg hnum
   refine ew_skip ?_
   refine nk_seq ?_
   refine ew_seq ?_
   refine ew_block ?_
   refine ew_seq ?_
   refine rg (.q 0 (.q 1 (.q 2 (.q 3 (.h 4 (.h 5 XT.done)))))) (by kernel_rfl) (by kernel_rfl) ?_
   refine q_mv rfl rfl rfl ?_
   refine q_mv rfl rfl rfl ?_
   refine q_ixs Try.underlying70 Try.sizeOf86 rfl rfl rfl rfl rfl (hos.ne (by omega)) (by omega) (by omega) ?_
   refine q_ldSr Try.isAgg86 Try.sizeOf86 rfl rfl rfl (hg) rfl ?_
   refine x_v (v' := .agg [_, _, _, _, _, _, _, _, _, _, _, _, _, _]) rfl ?_
   refine h_alloc (cs := [_, _, _, _, _, _, _, _, _, _, _, _, _, _]) Try.zeroValue86 rfl rfl (zc_86 Try.zeroValue86) ?_
   intro g2
   refine ⟨kp0, ?_⟩
   refine h_stS (cs' := [_, _, _, _, _, _, _, _, _, _, _, _, _, _]) (S' := [_, _, _, _]) 0 Try.sizeOf86 rfl rfl rfl rfl rfl (allOne rfl) rfl (leb rfl) rfl rfl kp0 ?_
   refine x_end ?_
   refine nk_cut (e' := [(0, _), (2, _), (3, _), (4, _), (6, _), (7, _), (8, _), (9, _), (10, _), (19, _), (36, _), (54, _), (58, _)]) [0, 2, 3, 4, 6, 7, 8, 9, 10, 19, 36, 54, 58] rfl ?_
   refine nk_seq ?_
   refine ew_seq ?_
   refine ew_seq ?_
   refine rg (.q 0 (.q 1 XT.done)) (by kernel_rfl) (by kernel_rfl) ?_
   refine q_fa fa_86_0 rfl rfl rfl ?_
   refine q_ld 0 Try.isAgg3 rfl rfl rfl rfl rfl ?_
   refine x_end ?_
   refine nk_cut (e' := [(0, _), (2, _), (3, _), (4, _), (6, _), (7, _), (8, _), (9, _), (10, _), (19, _), (36, _), (54, _), (58, _), (66, _)]) [0, 2, 3, 4, 6, 7, 8, 9, 10, 19, 36, 54, 58, 66] rfl ?_
   refine nk_seq ?_
   refine ew_joinC (Cn := [(0, _), (2, _), (3, _), (4, _), (8, _), (9, _), (19, _), (36, _), (54, _), (58, _), (66, _)]) (fun (⟨q2, ls2⟩ : KH × Int) => [(6, .p ⟨q2.gk, 0, none⟩), (7, .i ls2)]) (fun ⟨q2, ls2⟩ => [.box q2.gk 175 (kpCells gc1 q2.a q2.k.has), .box gc1 173 (celCells gp1 q2.a0 q2.a1 q2.a2 q2.a3 q2.k.c.writes), .box gp1 127 q2.k.p.cells]) (fun ⟨q2, ls2⟩ H' => HLe Hl1 H' ∧ (KH.ok H' q2 (i + 1 + 1) ∧ q2.k.inv ∧ ls2 ≤ q2.k.last.given_ ∧ ct ≤ q2.k.last.epoch)) ⟨rfl, rfl, rfl, rfl, rfl, rfl, rfl, rfl, rfl, rfl, rfl, trivial⟩ ?_ ?_
   ·skip
    refine ew_block ?_
    refine ew_seq ?_
    refine rg (.q 0 (.q 1 XT.done)) (by kernel_rfl) (by kernel_rfl) ?_
    refine q_eq rfl rfl rfl rfl ?_
    refine q_as rfl rfl rfl ?_
    refine x_end ?_
    refine nk_cut (e' := [(0, _), (2, _), (3, _), (4, _), (6, _), (7, _), (8, _), (9, _), (10, _), (19, _), (36, _), (54, _), (58, _), (66, _), (67, _)]) [0, 2, 3, 4, 6, 7, 8, 9, 10, 19, 36, 54, 58, 66, 67] rfl ?_
    refine nk_seq ?_
    refine ew_cond rfl ?_ ?_
    ·intro hc67
     try simp only [decide_eq_true_eq] at hc67
     refine ew_seq ?_
     refine rg (.q 0 (.h 1 (.q 2 (.q 3 (.q 4 (.q 5 (.q 6 XT.done))))))) (by kernel_rfl) (by kernel_rfl) ?_
     refine q_mv rfl rfl rfl ?_
     have hss := hq.s
     have hcb := KGive_hc (gk := q.gk) (gc := gc1) (gp := gp1) hq.o (by omega) hss 
     refine h_call Try.call47 (S2 := [_]) rfl rfl rfl (permL [1, 2, 3, 0] rfl) (hcb) ?_
     rintro r_ S_ Hn4 hl7 ⟨an3, b5, b6, b7, b8, rfl, rfl, hks3, hle4⟩
     replace hos := hos.mono hl7
     replace hq := hq.mono hl7
     refine ⟨kp0, ?_⟩
     refine x_S (S' := [_, _, _, _]) rfl ?_
     refine q_mv rfl rfl rfl ?_
     refine q_ext rfl rfl rfl rfl ?_
     refine q_ext rfl rfl rfl rfl ?_
     refine q_as rfl rfl rfl ?_
     refine q_as rfl rfl rfl ?_
     refine x_end ?_
     refine nk_cut (e' := [(0, _), (2, _), (3, _), (4, _), (6, _), (7, _), (8, _), (9, _), (10, _), (11, _), (12, _), (19, _), (36, _), (54, _), (58, _), (66, _), (67, _)]) [0, 2, 3, 4, 6, 7, 8, 9, 10, 11, 12, 19, 36, 54, 58, 66, 67] rfl ?_
     refine nk_seq ?_
     refine ew_seq ?_
     refine rg (.q 0 (.q 1 XT.done)) (by kernel_rfl) (by kernel_rfl) ?_
     refine q_mv rfl rfl rfl ?_
     refine q_eq rfl rfl rfl rfl ?_
     refine x_end ?_
     refine nk_cut (e' := [(0, _), (2, _), (3, _), (4, _), (6, _), (7, _), (8, _), (9, _), (10, _), (11, _), (12, _), (19, _), (36, _), (54, _), (58, _), (66, _), (67, _), (75, _)]) [0, 2, 3, 4, 6, 7, 8, 9, 10, 11, 12, 19, 36, 54, 58, 66, 67, 75] rfl ?_
     refine nk_seq ?_
     refine ew_cond rfl ?_ ?_
     ·intro hc75
      try simp only [Bool.not_eq_true', Bool.not_eq_false', decide_eq_true_eq, decide_eq_false_iff_not, ne_eq, Decidable.not_not] at hc75
      refine ew_seq ?_
      refine ew_seq ?_
      refine rg (.q 0 (.q 1 (.q 2 XT.done))) (by kernel_rfl) (by kernel_rfl) ?_
      refine q_mv rfl rfl rfl ?_
      refine q_mv rfl rfl rfl ?_
      refine q_le rfl rfl rfl rfl ?_
      refine x_end ?_
      refine nk_cut (e' := [(0, _), (2, _), (3, _), (4, _), (6, _), (7, _), (8, _), (9, _), (10, _), (11, _), (12, _), (19, _), (36, _), (54, _), (58, _), (66, _), (67, _), (75, _), (78, _)]) [0, 2, 3, 4, 6, 7, 8, 9, 10, 11, 12, 19, 36, 54, 58, 66, 67, 75, 78] rfl ?_
      refine nk_seq ?_
      refine ew_cond rfl ?_ ?_
      ·intro hc78
       try simp only [decide_eq_true_eq] at hc78
       have h1 := (give_inv hinv).2.2.2 hc75; omega
      ·intro hc78
       try simp only [decide_eq_false_iff_not] at hc78
       refine ew_skip ?_
       refine nk_seq ?_
       refine rg (.q 0 (.q 1 XT.done)) (by kernel_rfl) (by kernel_rfl) ?_
       refine q_mv rfl rfl rfl ?_
       refine q_as rfl rfl rfl ?_
       refine x_end ?_
       refine nk_cut (e' := [(0, _), (2, _), (3, _), (4, _), (6, _), (7, _), (8, _), (9, _), (10, _), (11, _), (12, _), (19, _), (36, _), (54, _), (58, _), (66, _), (67, _), (75, _), (78, _)]) [0, 2, 3, 4, 6, 7, 8, 9, 10, 11, 12, 19, 36, 54, 58, 66, 67, 75, 78] rfl ?_
       refine nk_blk ?_
       have hin := give_inv hinv
       refine nk_drop (S := [_, _, _]) (S' := [_]) ?_
       refine nk_join (⟨(⟨q.gk, q.k.give.1, an3, b5, b6, b7, b8⟩ : KH), q.k.give.2.1⟩ : KH × Int) ⟨rfl, rfl, rfl, rfl, rfl, rfl, rfl, rfl, rfl, rfl, rfl, rfl, rfl, trivial⟩ rfl ⟨hl7, ⟨⟨Kp.give_ok hq.o, hks3⟩, hin.1, (by have h1 := hin.2.2.2 hc75; dsimp only; omega), by dsimp only; omega⟩⟩
     ·intro hc75
      try simp only [Bool.not_eq_true', Bool.not_eq_false', decide_eq_true_eq, decide_eq_false_iff_not, ne_eq, Decidable.not_not] at hc75
      refine ew_skip ?_
      refine nk_blk ?_
      have hin := give_inv hinv
      refine nk_drop (S := [_, _, _]) (S' := [_]) ?_
      refine nk_join (⟨(⟨q.gk, q.k.give.1, an3, b5, b6, b7, b8⟩ : KH), ls⟩ : KH × Int) ⟨rfl, rfl, rfl, rfl, rfl, rfl, rfl, rfl, rfl, rfl, rfl, rfl, rfl, trivial⟩ rfl ⟨hl7, ⟨⟨Kp.give_ok hq.o, hks3⟩, hin.1, (by dsimp only; omega), by dsimp only; omega⟩⟩
    ·intro hc67
     try simp only [decide_eq_false_iff_not] at hc67
     refine ew_seq ?_
     refine rg (.q 0 (.q 1 XT.done)) (by kernel_rfl) (by kernel_rfl) ?_
     refine q_eq rfl rfl rfl rfl ?_
     refine q_as rfl rfl rfl ?_
     refine x_end ?_
     refine nk_cut (e' := [(0, _), (2, _), (3, _), (4, _), (6, _), (7, _), (8, _), (9, _), (10, _), (19, _), (36, _), (54, _), (58, _), (66, _), (67, _), (80, _)]) [0, 2, 3, 4, 6, 7, 8, 9, 10, 19, 36, 54, 58, 66, 67, 80] rfl ?_
     refine nk_seq ?_
     refine ew_cond rfl ?_ ?_
     ·intro hc80
      try simp only [decide_eq_true_eq] at hc80
      refine rg (.q 0 (.q 1 (.q 2 (.q 3 (.q 4 (.q 5 (.q 6 (.h 7 XT.done)))))))) (by kernel_rfl) (by kernel_rfl) ?_
      refine q_mv rfl rfl rfl ?_
      refine q_fa fa_86_2 rfl rfl rfl ?_
      refine q_ld 0 Try.isAgg3 rfl rfl rfl rfl rfl ?_
      refine q_fa fa_86_3 rfl rfl rfl ?_
      refine q_ld 0 Try.isAgg3 rfl rfl rfl rfl rfl ?_
      refine q_fa fa_86_4 rfl rfl rfl ?_
      refine q_ld 0 Try.isAgg3 rfl rfl rfl rfl rfl ?_
      have hss := hq.s
      have hcb := KCommit_hc (e := o.e) (rt := o.rt) (pe := o.pe) (gk := q.gk) (gc := gc1) (gp := gp1) hq.o (by omega) hss 
      refine h_call Try.call49 (S2 := [_]) rfl rfl rfl (permL [1, 2, 3, 0] rfl) (hcb) ?_
      rintro r_ S_ Hn5 hl8 ⟨an4, b9, b10, b11, b12, rfl, rfl, hks4, hle5⟩
      replace hos := hos.mono hl8
      replace hq := hq.mono hl8
      refine ⟨kp0, ?_⟩
      refine x_S (S' := [_, _, _, _]) rfl ?_
      refine x_end ?_
      refine nk_cut (e' := [(0, _), (2, _), (3, _), (4, _), (6, _), (7, _), (8, _), (9, _), (10, _), (19, _), (36, _), (54, _), (58, _), (66, _), (67, _), (80, _)]) [0, 2, 3, 4, 6, 7, 8, 9, 10, 19, 36, 54, 58, 66, 67, 80] rfl ?_
      refine nk_blk ?_
      have hin := commit_inv hinv o.e o.rt o.pe
      refine nk_drop (S := [_, _, _]) (S' := [_]) ?_
      refine nk_join (⟨(⟨q.gk, (q.k.commit o.e o.rt o.pe).1, an4, b9, b10, b11, b12⟩ : KH), ls⟩ : KH × Int) ⟨rfl, rfl, rfl, rfl, rfl, rfl, rfl, rfl, rfl, rfl, rfl, rfl, rfl, trivial⟩ rfl ⟨hl8, ⟨⟨Kp.commit_ok hq.o _ _ _, hks4⟩, hin.1, (by dsimp only; omega), by dsimp only; omega⟩⟩
     ·intro hc80
      try simp only [decide_eq_false_iff_not] at hc80
      refine ew_seq ?_
      refine rg (.q 0 (.q 1 XT.done)) (by kernel_rfl) (by kernel_rfl) ?_
      refine q_eq rfl rfl rfl rfl ?_
      refine q_as rfl rfl rfl ?_
      refine x_end ?_
      refine nk_cut (e' := [(0, _), (2, _), (3, _), (4, _), (6, _), (7, _), (8, _), (9, _), (10, _), (19, _), (36, _), (54, _), (58, _), (66, _), (67, _), (80, _), (90, _)]) [0, 2, 3, 4, 6, 7, 8, 9, 10, 19, 36, 54, 58, 66, 67, 80, 90] rfl ?_
      refine nk_seq ?_
      refine ew_cond rfl ?_ ?_
      ·intro hc90
       try simp only [decide_eq_true_eq] at hc90
       refine rg (.q 0 (.h 1 XT.done)) (by kernel_rfl) (by kernel_rfl) ?_
       refine q_mv rfl rfl rfl ?_
       have hss := hq.s
       have hcb := KClean_hc (gk := q.gk) (gc := gc1) (gp := gp1) hq.o (by omega) hss 
       refine h_call Try.call51 (S2 := [_]) rfl rfl rfl (permL [1, 2, 3, 0] rfl) (hcb) ?_
       rintro r_ S_ Hn6 hl9 ⟨an5, b13, b14, b15, b16, rfl, rfl, hks5, hle6⟩
       replace hos := hos.mono hl9
       replace hq := hq.mono hl9
       refine ⟨kp0, ?_⟩
       refine x_S (S' := [_, _, _, _]) rfl ?_
       refine x_end ?_
       refine nk_cut (e' := [(0, _), (2, _), (3, _), (4, _), (6, _), (7, _), (8, _), (9, _), (10, _), (19, _), (36, _), (54, _), (58, _), (66, _), (67, _), (80, _), (90, _)]) [0, 2, 3, 4, 6, 7, 8, 9, 10, 19, 36, 54, 58, 66, 67, 80, 90] rfl ?_
       refine nk_blk ?_
       have hin := clean_inv hinv
       refine nk_drop (S := [_, _, _]) (S' := [_]) ?_
       refine nk_join (⟨(⟨q.gk, q.k.clean.1, an5, b13, b14, b15, b16⟩ : KH), ls⟩ : KH × Int) ⟨rfl, rfl, rfl, rfl, rfl, rfl, rfl, rfl, rfl, rfl, rfl, rfl, rfl, trivial⟩ rfl ⟨hl9, ⟨⟨Kp.clean_ok hq.o, hks5⟩, hin.1, (by dsimp only; omega), by dsimp only; omega⟩⟩
      ·intro hc90
       try simp only [decide_eq_false_iff_not] at hc90
       refine ew_seq ?_
       refine rg (.q 0 (.q 1 XT.done)) (by kernel_rfl) (by kernel_rfl) ?_
       refine q_eq rfl rfl rfl rfl ?_
       refine q_as rfl rfl rfl ?_
       refine x_end ?_
       refine nk_cut (e' := [(0, _), (2, _), (3, _), (4, _), (6, _), (7, _), (8, _), (9, _), (10, _), (19, _), (36, _), (54, _), (58, _), (66, _), (67, _), (80, _), (90, _), (94, _)]) [0, 2, 3, 4, 6, 7, 8, 9, 10, 19, 36, 54, 58, 66, 67, 80, 90, 94] rfl ?_
       refine nk_seq ?_
       refine ew_cond rfl ?_ ?_
       ·intro hc94
        try simp only [decide_eq_true_eq] at hc94
        refine rg (.q 0 (.q 1 (.q 2 (.q 3 (.q 4 (.h 5 XT.done)))))) (by kernel_rfl) (by kernel_rfl) ?_
        refine q_mv rfl rfl rfl ?_
        refine q_fa fa_86_5 rfl rfl rfl ?_
        refine q_ld 0 Try.isAgg3 rfl rfl rfl rfl rfl ?_
        refine q_fa fa_86_6 rfl rfl rfl ?_
        refine q_ld 0 Try.isAgg4 rfl rfl rfl rfl rfl ?_
        refine h_call Try.call52 (S2 := [_, _, _]) rfl rfl rfl (nth_split (k := 3) rfl) (PowFuse_hc) ?_
        rintro r_ S_ Hl1 hl10 ⟨rfl, rfl, rfl⟩
        refine ⟨kp0, ?_⟩
        refine x_S (S' := [_, _, _, _]) rfl ?_
        refine x_end ?_
        refine nk_cut (e' := [(0, _), (2, _), (3, _), (4, _), (6, _), (7, _), (8, _), (9, _), (10, _), (19, _), (36, _), (54, _), (58, _), (66, _), (67, _), (80, _), (90, _), (94, _)]) [0, 2, 3, 4, 6, 7, 8, 9, 10, 19, 36, 54, 58, 66, 67, 80, 90, 94] rfl ?_
        refine nk_blk ?_
        refine nk_perm (S' := [_, _, _, _]) (permL [2, 3, 0, 1] rfl) ?_
        refine nk_drop (S := [_, _, _]) (S' := [_]) ?_
        refine nk_join (⟨({ q with k := ⟨q.k.c, q.k.p.setFuse o.n o.dn, q.k.last, q.k.has⟩ } : KH), ls⟩ : KH × Int) ⟨rfl, rfl, rfl, rfl, rfl, rfl, rfl, rfl, rfl, rfl, rfl, rfl, rfl, trivial⟩ rfl ⟨HLe.refl _, ⟨⟨(Kp.fuse_ok hq.o hnum o.dn).more, hq.s.fuse _⟩, fuse_inv hinv _ _, hls, hct⟩⟩
       ·intro hc94
        try simp only [decide_eq_false_iff_not] at hc94
        refine ew_seq ?_
        refine rg (.q 0 (.q 1 XT.done)) (by kernel_rfl) (by kernel_rfl) ?_
        refine q_eq rfl rfl rfl rfl ?_
        refine q_as rfl rfl rfl ?_
        refine x_end ?_
        refine nk_cut (e' := [(0, _), (2, _), (3, _), (4, _), (6, _), (7, _), (8, _), (9, _), (10, _), (19, _), (36, _), (54, _), (58, _), (66, _), (67, _), (80, _), (90, _), (94, _), (102, _)]) [0, 2, 3, 4, 6, 7, 8, 9, 10, 19, 36, 54, 58, 66, 67, 80, 90, 94, 102] rfl ?_
        refine nk_seq ?_
        refine ew_cond rfl ?_ ?_
        ·intro hc102
         try simp only [decide_eq_true_eq] at hc102
         refine ew_seq ?_
         refine rg (.q 0 (.h 1 XT.done)) (by kernel_rfl) (by kernel_rfl) ?_
         refine q_mv rfl rfl rfl ?_
         refine h_call Try.call54 (S2 := [_, _, _]) rfl rfl rfl (nth_split (k := 3) rfl) (PowBack_hc) ?_
         rintro r_ S_ Hl1 hl11 ⟨rfl, rfl, rfl⟩
         refine ⟨kp0, ?_⟩
         refine x_S (S' := [_, _, _, _]) rfl ?_
         refine x_end ?_
         refine nk_cut (e' := [(0, _), (2, _), (3, _), (4, _), (6, _), (7, _), (8, _), (9, _), (10, _), (19, _), (36, _), (54, _), (58, _), (66, _), (67, _), (80, _), (90, _), (94, _), (102, _)]) [0, 2, 3, 4, 6, 7, 8, 9, 10, 19, 36, 54, 58, 66, 67, 80, 90, 94, 102] rfl ?_
         refine nk_seq ?_
         refine ew_seq ?_
         refine rg (.q 0 (.h 1 (.q 2 (.q 3 (.q 4 (.q 5 (.q 6 XT.done))))))) (by kernel_rfl) (by kernel_rfl) ?_
         refine q_mv rfl rfl rfl ?_
         have hca := KOpen_hc (gc := gc1) (gp := gp1) (cl := q.k.c) (p := q.k.p.back) hq.s.cs rfl
         refine h_call Try.call41 (S2 := [_, _]) rfl rfl rfl (permL [3, 0, 1, 2] rfl) (hca) ?_
         rintro r_ S_ Hn7 hl12 ⟨gk2, an6, rfl, rfl, hks6, hle7⟩
         replace hos := hos.mono hl12
         replace hq := hq.mono hl12
         refine ⟨kp0, ?_⟩
         refine x_S (S' := [_, _, _, _, _]) rfl ?_
         refine q_mv rfl rfl rfl ?_
         refine q_ext rfl rfl rfl rfl ?_
         refine q_ext rfl rfl rfl rfl ?_
         refine q_as rfl rfl rfl ?_
         refine q_as rfl rfl rfl ?_
         refine x_end ?_
         refine nk_cut (e' := [(0, _), (2, _), (3, _), (4, _), (6, _), (7, _), (8, _), (9, _), (10, _), (13, _), (14, _), (19, _), (36, _), (54, _), (58, _), (66, _), (67, _), (80, _), (90, _), (94, _), (102, _)]) [0, 2, 3, 4, 6, 7, 8, 9, 10, 13, 14, 19, 36, 54, 58, 66, 67, 80, 90, 94, 102] rfl ?_
         refine nk_seq ?_
         refine ew_seq ?_
         refine ew_seq ?_
         refine rg (.q 0 (.q 1 (.q 2 (.q 3 (.q 4 (.q 5 XT.done)))))) (by kernel_rfl) (by kernel_rfl) ?_
         refine q_mv rfl rfl rfl ?_
         refine q_ne rfl rfl rfl rfl ?_
         refine x_F (by simp) ?_
         refine q_mv rfl rfl rfl ?_
         refine q_mv rfl rfl rfl ?_
         refine q_eq_pn Try.underlying74 rfl rfl rfl rfl ?_
         refine q_pkF rfl rfl rfl rfl ?_
         refine x_end ?_
         refine nk_cut (e' := [(0, _), (2, _), (3, _), (4, _), (6, _), (7, _), (8, _), (9, _), (10, _), (13, _), (14, _), (19, _), (36, _), (54, _), (58, _), (66, _), (67, _), (80, _), (90, _), (94, _), (102, _), (116, _)]) [0, 2, 3, 4, 6, 7, 8, 9, 10, 13, 14, 19, 36, 54, 58, 66, 67, 80, 90, 94, 102, 116] rfl ?_
         refine nk_seq ?_
         refine ew_false rfl ?_
         refine ew_skip ?_
         refine nk_seq ?_
         refine rg (.q 0 (.q 1 XT.done)) (by kernel_rfl) (by kernel_rfl) ?_
         refine q_mv rfl rfl rfl ?_
         refine q_as rfl rfl rfl ?_
         refine x_end ?_
         refine nk_cut (e' := [(0, _), (2, _), (3, _), (4, _), (6, _), (7, _), (8, _), (9, _), (10, _), (13, _), (14, _), (19, _), (36, _), (54, _), (58, _), (66, _), (67, _), (80, _), (90, _), (94, _), (102, _), (116, _)]) [0, 2, 3, 4, 6, 7, 8, 9, 10, 13, 14, 19, 36, 54, 58, 66, 67, 80, 90, 94, 102, 116] rfl ?_
         refine nk_blk ?_
         have hin := opn_inv hinv (p := q.k.p.back) rfl
         refine nk_drop (S := [_, _, _]) (S' := [_, _]) ?_
         refine nk_join (⟨(⟨gk2, (Kp.opn q.k.c q.k.p.back).1, an6, q.a0, q.a1, q.a2, q.a3⟩ : KH), ls⟩ : KH × Int) ⟨rfl, rfl, rfl, rfl, rfl, rfl, rfl, rfl, rfl, rfl, rfl, rfl, rfl, trivial⟩ (by have e := opn_cp q.k.c q.k.p.back; dsimp only; rw [e.1, e.2] <;> rfl) ⟨hl12, ⟨⟨(Kp.back_ok hq.o).more, hks6⟩, hin.1, by dsimp only; omega, by dsimp only; omega⟩⟩
        ·intro hc102
         try simp only [decide_eq_false_iff_not] at hc102
         refine ew_skip ?_
         refine nk_blk ?_
         refine nk_perm (S' := [_, _, _, _]) (permL [1, 2, 3, 0] rfl) ?_
         refine nk_drop (S := [_, _, _]) (S' := [_]) ?_
         refine nk_join (⟨q, ls⟩ : KH × Int) ⟨rfl, rfl, rfl, rfl, rfl, rfl, rfl, rfl, rfl, rfl, rfl, rfl, rfl, trivial⟩ rfl ⟨HLe.refl _, ⟨⟨hq.o.more, hq.s⟩, hinv, hls, hct⟩⟩
   ·skip
    rintro ⟨q2, ls2⟩ Hl2 ⟨hl13, hJ⟩
    replace hos := hos.mono hl13
    replace hq := hq.mono hl13
    obtain ⟨hq2, hinv2, hls2, hct2⟩ := hJ
    refine nk_S (S' := [.box _ _ [_, _, _, _, _, _, _, _, _, _], .box _ _ [_, _, _, _, _, _], .box _ _ [_, _, _, _]]) rfl ?_
    refine nk_cut (e' := [(6, _), (7, _), (0, _), (2, _), (3, _), (4, _), (8, _), (9, _), (19, _), (36, _), (54, _), (58, _), (66, _)]) [6, 7, 0, 2, 3, 4, 8, 9, 19, 36, 54, 58, 66] rfl ?_
    refine nk_seq ?_
    refine ew_seq ?_
    refine rg (.q 0 (.h 1 (.q 2 (.q 3 (.q 4 (.h 5 (.h 6 (.q 7 XT.done)))))))) (by kernel_rfl) (by kernel_rfl) ?_
    refine q_mv rfl rfl rfl ?_
    refine h_call Try.call56 (S2 := []) rfl rfl rfl (List.Perm.refl _) (KLast_hc hq2.o (by omega) hq2.s) ?_
    rintro r_ S_ Hn8 hl14 ⟨an7, rfl, ha1, hav1, rfl, hle8⟩
    replace hos := hos.mono hl14
    replace hq := hq.mono hl14
    replace hq2 := hq2.mono hl14
    refine ⟨kp0, ?_⟩
    refine x_S (S' := [_, _, _]) rfl ?_
    refine q_mv rfl rfl rfl ?_
    refine q_ext rfl rfl rfl rfl ?_
    refine q_ext rfl rfl rfl rfl ?_
    refine h_alloc (cs := [_, _, _, _, _, _, _, _]) Try.zeroValue60 rfl rfl (zc_60 Try.zeroValue60) ?_
    intro g3
    refine ⟨kp0, ?_⟩
    refine h_stS (cs' := [_, _, _, _, _, _, _, _]) (S' := [_, _, _, _]) 0 Try.sizeOf60 rfl rfl rfl rfl rfl (allOne rfl) rfl (leb rfl) rfl rfl kp0 ?_
    refine q_as rfl rfl rfl ?_
    refine x_end ?_
    refine nk_cut (e' := [(0, _), (2, _), (3, _), (4, _), (6, _), (7, _), (8, _), (9, _), (15, _), (16, _), (19, _), (36, _), (54, _), (58, _), (66, _)]) [0, 2, 3, 4, 6, 7, 8, 9, 15, 16, 19, 36, 54, 58, 66] rfl ?_
    refine nk_seq ?_
    refine ew_seq ?_
    refine ew_seq ?_
    refine rg (.q 0 (.q 1 (.q 2 (.q 3 (.q 4 (.q 5 (.q 6 (.q 7 XT.done)))))))) (by kernel_rfl) (by kernel_rfl) ?_
    refine q_mv rfl rfl rfl ?_
    refine q_not rfl rfl rfl ?_
    refine x_F (by simp [hinv2.has]) ?_
    refine q_mv rfl rfl rfl ?_
    refine q_fa fa_60_1 rfl rfl rfl ?_
    refine q_ld 0 Try.isAgg3 rfl rfl rfl rfl rfl ?_
    refine q_mv rfl rfl rfl ?_
    refine q_lt rfl rfl rfl rfl ?_
    refine x_F (decide_eq_false (by rw [epo_v hav1]; have := hct2; omega)) ?_
    refine q_pkF rfl rfl rfl rfl ?_
    refine x_end ?_
    refine nk_cut (e' := [(0, _), (2, _), (3, _), (4, _), (6, _), (7, _), (8, _), (9, _), (15, _), (16, _), (19, _), (36, _), (54, _), (58, _), (66, _), (130, _)]) [0, 2, 3, 4, 6, 7, 8, 9, 15, 16, 19, 36, 54, 58, 66, 130] rfl ?_
    refine nk_seq ?_
    refine ew_false rfl ?_
    refine ew_skip ?_
    refine nk_seq ?_
    refine rg (.q 0 (.q 1 (.q 2 XT.done))) (by kernel_rfl) (by kernel_rfl) ?_
    refine q_fa fa_60_1 rfl rfl rfl ?_
    refine q_ld 0 Try.isAgg3 rfl rfl rfl rfl rfl ?_
    refine q_as rfl rfl rfl ?_
    refine x_end ?_
    refine nk_cut (e' := [(0, _), (2, _), (3, _), (4, _), (6, _), (7, _), (8, _), (9, _), (15, _), (16, _), (19, _), (36, _), (54, _), (58, _), (66, _), (130, _)]) [0, 2, 3, 4, 6, 7, 8, 9, 15, 16, 19, 36, 54, 58, 66, 130] rfl ?_
    refine nk_blk ?_
    refine nk_seq ?_
    refine rg (.q 0 (.q 1 (.q 2 XT.done))) (by kernel_rfl) (by kernel_rfl) ?_
    refine q_mv rfl rfl rfl ?_
    refine q_add rfl rfl rfl rfl (by omega) (by omega) ?_
    refine q_as rfl rfl rfl ?_
    refine x_end ?_
    refine nk_cut (e' := [(0, _), (2, _), (3, _), (4, _), (6, _), (7, _), (8, _), (9, _), (15, _), (16, _), (19, _), (36, _), (54, _), (58, _), (66, _), (130, _)]) [0, 2, 3, 4, 6, 7, 8, 9, 15, 16, 19, 36, 54, 58, 66, 130] rfl ?_
    refine nk_perm (S' := [_, _, _, _]) (permL [1, 2, 3, 0] rfl) ?_
    refine nk_drop (S := [_, _, _]) (S' := [_]) ?_
    refine nk_round (μ := Mv1) (i := (i, q, ls, ct)) (S := Sv1) (G := Gv1) (⟨i + 1, q2, ls2, an7.epoch⟩ : Nat × KH × Int × Int) ?_ ?_ ?_ ?_
    ·exact ⟨rfl, rfl, rfl, rfl, rfl, rfl, rfl, rfl, rfl, rfl, rfl, trivial⟩
    ·exact rfl
    ·exact ⟨((hl6.trans hl13).trans hl14), ⟨by omega, ⟨hq2.o.le (by omega), hq2.s⟩, hinv2, hls2, by rw [epo_v hav1]; exact Int.le_refl _⟩⟩
    ·dsimp only [Mv1]; omega
  ·intro hc58
   try simp only [decide_eq_false_iff_not] at hc58
   refine ew_exit _ rfl ?_
   refine nk_seq ?_
   refine ew_seq ?_
   refine rg (.h 0 (.q 1 XT.done)) (by kernel_rfl) (by kernel_rfl) ?_
   refine h_call0 Try.call30 rfl rfl rfl (Works_hc) ?_
   rintro r_ S_ Hn9 hl15 ⟨rfl, rfl, hle9⟩
   replace hos := hos.mono hl15
   replace hq := hq.mono hl15
   refine ⟨kp0, ?_⟩
   refine x_S (S' := [_, _, _]) rfl ?_
   refine q_as rfl rfl rfl ?_
   refine x_end ?_
   refine nk_cut (e' := [(0, _), (2, _), (3, _), (4, _), (6, _), (7, _), (8, _), (9, _), (19, _), (36, _), (54, _), (58, _)]) [0, 2, 3, 4, 6, 7, 8, 9, 19, 36, 54, 58] rfl ?_
   refine nk_seq ?_
   refine ew_retS rfl rfl (.cons (.tmp rfl) .nil) ?_
   exact ⟨rfl, rfl, ((((hl4.trans hp1).trans hl5).trans hl6).trans hl15)⟩

end Go.GW
