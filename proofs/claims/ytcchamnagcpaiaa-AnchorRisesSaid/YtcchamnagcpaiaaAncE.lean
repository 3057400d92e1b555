/- Contracts of functions of the loaded program, printed by our own program gen.py. -/
import Derived.Test.YtcchamnagcpaiaaAncK
namespace Go.GW
open Go Go.Proofs


theorem KLast_hc {H : Hp} {gk gc gp : Nat} {k : Kp} {m : Int} (hko : k.ok m) (hmm : m ≤ 1000000000) {a : An} {a0 a1 a2 a3 : Sli} (hks : KpS H a a0 a1 a2 a3 k) :
  HC Try.prog 56 [.p ⟨gk, 0, none⟩] [.box gk 175 (kpCells gc a k.has), .box gc 173 (celCells gp a0 a1 a2 a3 k.c.writes), .box gp 127 k.p.cells] H (fun rr S' H' => ∃ a', rr = .tup [.agg (An.cells a'), .b k.has] ∧ An.ok H' a' ∧ a'.v = k.last ∧ S' = [.box gk 175 (kpCells gc a k.has), .box gc 173 (celCells gp a0 a1 a2 a3 k.c.writes), .box gp 127 k.p.cells] ∧ HLe H H') := by
 have hka : An.ok H a := hks.an
 have hav := hks.av
 have hcs := hks.cs
 have hpw := hko.pw (by omega)
 have hse := hko.seq
 have hgi := hko.giv
 rw [← hav] at hse hgi
 have hse0 : 0 ≤ a.seq := hse.1
 have hse1 : a.seq ≤ 1099511627776 := hse.2
 have hgi0 : 0 ≤ a.given_ := hgi.1
 have hgi1 : a.given_ ≤ 1099511627776 := hgi.2
 have hww := hko.w1
 refine hc_intro (n := 13) Try.func56 rfl Try.ntmps56 rfl (fun B hB => ?_)
 refine ew_cut (e' := [(0, _)]) [0] rfl ?_
 refine ew_S (S' := [.box _ _ [_, _, _, _, _, _, _, _, _, _], _, _]) rfl ?_
 refine ew_seq ?_
 refine rg (.h 0 (.q 1 XT.done)) (by kernel_rfl) (by kernel_rfl) ?_
 refine h_alloc (cs := [_, _, _, _, _, _, _, _]) Try.zeroValue60 rfl rfl (zc_60 Try.zeroValue60) ?_
 intro g1
 refine ⟨kp0, ?_⟩
 refine q_as (sv := .b false) rfl rfl rfl ?_
 refine x_end ?_
 refine nk_cut (e' := [(0, _), (2, _), (3, _)]) [0, 2, 3] rfl ?_
 refine nk_seq ?_
 refine ew_seq ?_
 refine rd (by kernel_rfl) [0, 1, 2, 3, 5, 6, 7, 8, 10] [0, 1, 2, 3, 4, 5, 6, 7, 8, 9, 10] (.q 0 (.q 1 (.q 2 (.q 3 (.q 5 (.q 6 (.q 7 (.q 8 (.h 4 (.h 9 (.q 10 XT.done))))))))))) (by kernel_rfl) (by kernel_rfl) (keepL _ [1]) (keepL_sub _ _) ?_
 refine q_mv rfl rfl rfl ?_
 refine q_nil rfl rfl rfl ?_
 refine q_fa fa_175_1 rfl rfl rfl ?_
 refine q_ldSp (cs' := [_, _, _, _, _, _, _, _]) 0 Try.isAgg60 Try.sizeOf60 rfl rfl rfl rfl rfl (leb rfl) ?_
 refine q_mv rfl rfl rfl ?_
 refine q_nil rfl rfl rfl ?_
 refine q_fa fa_175_2 rfl rfl rfl ?_
 refine q_ld 0 Try.isAgg4 rfl rfl rfl rfl rfl ?_
 refine h_call0 Try.call39 rfl rfl rfl (ACopy_hc hka) ?_
 rintro r_ S_ Hn1 hl1 ⟨an1, rfl, ha1, hav1, rfl, hle1⟩
 replace hka := hka.mono hl1
 replace hcs := hcs.mono hl1
 refine ⟨(fun _ => ⟨by first | exact kpL [1] rfl | simp [keepL, nth], hl1⟩), ?_⟩
 refine x_S (S' := [_, _, _, _]) rfl ?_
 refine h_stS (cs' := [_, _, _, _, _, _, _, _]) (S' := [_, _, _, _]) 0 Try.sizeOf60 rfl rfl rfl rfl rfl (allOne rfl) rfl (leb rfl) rfl rfl (fun _ => ⟨by first | exact kpL [1] rfl | simp [keepL, nth], hl1⟩) ?_
 refine q_as rfl rfl rfl ?_
 refine x_end ?_
 refine nk_cut (e' := [(0, _), (2, _), (3, _)]) [0, 2, 3] rfl ?_
 refine nk_seq ?_
 refine ew_perm (S' := [_, _, _, _]) (permL [1, 2, 3, 0] rfl) ?_
 refine ew_retp (r := .tup [_, _]) (S' := [_, _, _]) (G := [_]) rfl rfl (.cons (.agg 3 Try.isAgg60 Try.sizeOf60 rfl rfl rfl) (.cons (.tmp rfl) .nil)) rfl (List.Perm.refl _) ?_
 exact ⟨an1, rfl, ha1, hav1.trans hav, rfl, hle1⟩


theorem KSave_hc {H : Hp} {gk gc gp : Nat} {k : Kp} {m : Int} (hko : k.ok m) (hmm : m ≤ 1000000000) {a : An} {a0 a1 a2 a3 : Sli} (hks : KpS H a a0 a1 a2 a3 k) {b : An} (hb : An.ok H b) :
  HC Try.prog 45 [.p ⟨gk, 0, none⟩, .agg b.cells] [.box gk 175 (kpCells gc a k.has), .box gc 173 (celCells gp a0 a1 a2 a3 k.c.writes), .box gp 127 k.p.cells] H (fun rr S' H' => ∃ a' b0 b1 b2 b3, rr = .i (k.save b.v).2 ∧ S' = [.box gk 175 (kpCells gc a' ((k.save b.v).1).has), .box gc 173 (celCells gp b0 b1 b2 b3 ((k.save b.v).1).c.writes), .box gp 127 ((k.save b.v).1).p.cells] ∧ KpS H' a' b0 b1 b2 b3 ((k.save b.v).1) ∧ HLe H H') := by
 have hka : An.ok H a := hks.an
 have hav := hks.av
 have hcs := hks.cs
 have hpw := hko.pw (by omega)
 have hse := hko.seq
 have hgi := hko.giv
 rw [← hav] at hse hgi
 have hse0 : 0 ≤ a.seq := hse.1
 have hse1 : a.seq ≤ 1099511627776 := hse.2
 have hgi0 : 0 ≤ a.given_ := hgi.1
 have hgi1 : a.given_ ≤ 1099511627776 := hgi.2
 have hww := hko.w1
 have hsq : (k.last.seq + 1) % 2 = (a.seq + 1) % 2 := by rw [← hav]; rfl
 refine hc_intro (n := 44) Try.func45 rfl Try.ntmps45 rfl (fun B hB => ?_)
 refine ew_cut (e' := [(0, _), (1, _)]) [0, 1] rfl ?_
 refine ew_sub (e' := [(0, _), (1, .agg [_, _, _, _, _, _, _, _])]) ⟨rfl, rfl, trivial⟩ ?_
 refine ew_S (S' := [.box _ _ [_, _, _, _, _, _, _, _, _, _], _, _]) rfl ?_
 refine ew_seq ?_
 refine rg (.h 0 (.q 1 XT.done)) (by kernel_rfl) (by kernel_rfl) ?_
 refine h_boxS rfl rfl rfl ?_
 intro g1
 refine ⟨kp0, ?_⟩
 refine q_as (sv := .i 0) rfl rfl rfl ?_
 refine x_end ?_
 refine nk_cut (e' := [(0, _), (1, _), (3, _), (4, _)]) [0, 1, 3, 4] rfl ?_
 refine nk_seq ?_
 refine ew_seq ?_
 refine rg (.q 0 (.h 1 (.h 2 XT.done))) (by kernel_rfl) (by kernel_rfl) ?_
 refine q_ldS 0 Try.isAgg60 Try.sizeOf60 rfl rfl rfl rfl rfl ?_
 refine h_call0 Try.call39 rfl rfl rfl (ACopy_hc hb) ?_
 rintro r_ S_ Hn1 hl1 ⟨an1, rfl, ha1, hav1, rfl, hle1⟩
 replace hka := hka.mono hl1
 replace hcs := hcs.mono hl1
 replace hb := hb.mono hl1
 refine ⟨kp0, ?_⟩
 refine x_S (S' := [_, _, _, _]) rfl ?_
 refine h_stS (cs' := [_, _, _, _, _, _, _, _]) (S' := [_, _, _, _]) 0 Try.sizeOf60 rfl rfl rfl rfl rfl (allOne rfl) rfl (leb rfl) rfl rfl kp0 ?_
 refine x_end ?_
 refine nk_cut (e' := [(0, _), (1, _), (3, _), (4, _)]) [0, 1, 3, 4] rfl ?_
 refine nk_seq ?_
 refine ew_seq ?_
 refine rg (.q 0 (.q 1 (.q 2 (.q 3 (.q 4 (.q 5 (.q 6 (.h 7 XT.done)))))))) (by kernel_rfl) (by kernel_rfl) ?_
 refine q_mv rfl rfl rfl ?_
 refine q_nil rfl rfl rfl ?_
 refine q_fa fa_175_1 rfl rfl rfl ?_
 refine q_fa fa_60_0 rfl rfl rfl ?_
 refine q_ld 1 Try.isAgg3 rfl rfl rfl rfl rfl ?_
 refine q_add rfl rfl rfl rfl (by omega) (by omega) ?_
 refine q_fa fa_60_0 rfl rfl rfl ?_
 refine h_st (cs' := [_, _, _, _, _, _, _, _]) (S' := [_, _, _, _]) 0 Try.sizeOf3 rfl rfl rfl rfl rfl rfl (ltb rfl) rfl rfl kp0 ?_
 refine x_end ?_
 refine nk_cut (e' := [(0, _), (1, _), (3, _), (4, _)]) [0, 1, 3, 4] rfl ?_
 have hxa : An.ok Hn1 ⟨a.seq + 1, an1.epoch, an1.given_, an1.root, an1.rep, an1.pending, an1.m, an1.A, an1.n, an1.c, an1.ks⟩ := ha1.cong rfl rfl rfl rfl rfl
 have hxv : An.v ⟨a.seq + 1, an1.epoch, an1.given_, an1.root, an1.rep, an1.pending, an1.m, an1.A, an1.n, an1.c, an1.ks⟩ = { b.v with seq := k.last.seq + 1 } := by rw [← hav1, ← hav]; rfl
 refine nk_seq ?_
 refine ew_seq ?_
 refine rg (.q 0 (.h 1 (.q 2 (.q 3 (.q 4 (.q 5 (.q 6 XT.done))))))) (by kernel_rfl) (by kernel_rfl) ?_
 refine q_ldS 0 Try.isAgg60 Try.sizeOf60 rfl rfl rfl rfl rfl ?_
 have hcells : An.cells ⟨a.seq + 1, an1.epoch, an1.given_, an1.root, an1.rep, an1.pending, an1.m, an1.A, an1.n, an1.c, an1.ks⟩ = [.i (a.seq + 1), .i an1.epoch, .i an1.given_, .i an1.root, .i an1.rep, .i an1.pending, .sl an1.m.A an1.m.n an1.m.c, .sl an1.A an1.n an1.c] := rfl
 have hca := APut_hc hxa
 rw [hcells, hxv] at hca
 generalize hxe : ({ b.v with seq := k.last.seq + 1 } : Anc) = xv at hca hxv
 refine h_call0 Try.call31 rfl rfl rfl (hca) ?_
 rintro r_ S_ Hn1 hl2 ⟨A1, c1, rfl, hcap1, rfl, rfl⟩
 refine ⟨kp0, ?_⟩
 refine x_S (S' := [_, _, _, _, _]) rfl ?_
 refine q_mv rfl rfl rfl ?_
 refine q_ext rfl rfl rfl rfl ?_
 refine q_ext rfl rfl rfl rfl ?_
 refine q_as rfl rfl rfl ?_
 refine q_as rfl rfl rfl ?_
 refine x_end ?_
 refine nk_cut (e' := [(0, _), (1, _), (3, _), (4, _), (5, _), (6, _)]) [0, 1, 3, 4, 5, 6] rfl ?_
 refine nk_seq ?_
 refine ew_seq ?_
 refine ew_seq ?_
 refine rg (.q 0 (.q 1 XT.done)) (by kernel_rfl) (by kernel_rfl) ?_
 refine q_mv rfl rfl rfl ?_
 refine q_ne rfl rfl rfl rfl ?_
 refine x_end ?_
 refine nk_cut (e' := [(0, _), (1, _), (3, _), (4, _), (5, _), (6, _), (23, _)]) [0, 1, 3, 4, 5, 6, 23] rfl ?_
 refine nk_seq ?_
 refine ew_cond rfl ?_ ?_
 ·intro hc23
  simp only [ne_eq, decide_eq_true_eq, decide_eq_false_iff_not, Decidable.not_not] at hc23
  refine ew_seq ?_
  refine rg (.q 0 (.q 1 XT.done)) (by kernel_rfl) (by kernel_rfl) ?_
  refine q_mv rfl rfl rfl ?_
  refine q_as rfl rfl rfl ?_
  refine x_end ?_
  refine nk_cut (e' := [(0, _), (1, _), (3, _), (4, _), (5, _), (6, _), (23, _)]) [0, 1, 3, 4, 5, 6, 23] rfl ?_
  refine nk_seq ?_
  refine ew_perm (S' := [_, _, _, _, _]) (permL [2, 3, 4, 0, 1] rfl) ?_
  refine ew_retpS (S' := [_, _, _]) (G := [_, _]) rfl rfl (.cons (.tmp rfl) .nil) (List.Perm.refl _) ?_
  rw [Kp.save_1 hxe hc23]
  exact ⟨a, a0, a1, a2, a3, rfl, rfl, ⟨hka, hav, hcs⟩, hl1⟩
 ·intro hc23
  simp only [ne_eq, decide_eq_true_eq, decide_eq_false_iff_not, Decidable.not_not] at hc23
  refine ew_skip ?_
  refine nk_seq ?_
  refine ew_seq ?_
  refine ew_seq ?_
  refine rd (by kernel_rfl) [0, 1, 2, 3, 4, 5, 6, 7, 9] [0, 1, 2, 3, 4, 5, 6, 7, 8, 9] (.q 0 (.q 1 (.q 2 (.q 3 (.q 4 (.q 5 (.q 6 (.q 7 (.h 8 (.q 9 XT.done)))))))))) (by kernel_rfl) (by kernel_rfl) (keepL _ [1, 2]) (keepL_sub _ _) ?_
  refine q_mv rfl rfl rfl ?_
  refine q_nil rfl rfl rfl ?_
  refine q_fa fa_175_0 rfl rfl rfl ?_
  refine q_ld 1 Try.isAgg71 rfl rfl rfl rfl rfl ?_
  refine q_fa fa_60_0 rfl rfl rfl ?_
  refine q_ld 0 Try.isAgg3 rfl rfl rfl rfl rfl ?_
  refine q_rem rfl rfl rfl rfl (by omega) (by omega) (by omega) ?_
  refine q_mv rfl rfl rfl ?_
  refine pubX (S' := [_, _, _, _]) 0 rfl rfl ?_
  intro Hp1 hp1 hr1
  replace hka := hka.mono hp1
  replace hcs := hcs.mono hp1
  replace hb := hb.mono hp1
  replace ha1 := ha1.mono hp1
  replace hxa := hxa.mono hp1
  refine h_call Try.call101 (S2 := [_, _]) rfl rfl rfl (permL [2, 3, 0, 1] rfl) (CelWrite_hc (at_ := (a.seq + 1) % 2) hpw hcs (by omega) (by omega) (by omega) (⟨hr1, rfl, hcap1⟩ : BS _ _ _ _ xv.put) (Nat.le_trans (Anc.put_len xv) (by decide))) ?_
  rintro r_ S_ Hn2 hl3 ⟨b1, b2, b3, b4, rfl, rfl, hcs1, hle2⟩
  replace hka := hka.mono hl3
  replace hcs := hcs.mono hl3
  replace hb := hb.mono hl3
  replace ha1 := ha1.mono hl3
  replace hxa := hxa.mono hl3
  replace hr1 := hr1.mono hl3
  refine ⟨(fun _ => ⟨by first | exact kpL [2, 3] rfl | simp [keepL, nth], (hp1.trans hl3)⟩), ?_⟩
  refine x_S (S' := [_, _, _, _]) rfl ?_
  refine q_as rfl rfl rfl ?_
  refine x_end ?_
  refine nk_cut (e' := [(0, _), (1, _), (3, _), (4, _), (5, _), (6, _), (7, _), (23, _)]) [0, 1, 3, 4, 5, 6, 7, 23] rfl ?_
  refine nk_seq ?_
  refine ew_seq ?_
  refine rg (.q 0 (.q 1 XT.done)) (by kernel_rfl) (by kernel_rfl) ?_
  refine q_mv rfl rfl rfl ?_
  refine q_ne rfl rfl rfl rfl ?_
  refine x_end ?_
  refine nk_cut (e' := [(0, _), (1, _), (3, _), (4, _), (5, _), (6, _), (7, _), (23, _), (35, _)]) [0, 1, 3, 4, 5, 6, 7, 23, 35] rfl ?_
  refine nk_seq ?_
  refine ew_cond rfl ?_ ?_
  ·intro hc35
   simp only [ne_eq, decide_eq_true_eq, decide_eq_false_iff_not, Decidable.not_not] at hc35
   refine ew_seq ?_
   refine rg (.q 0 (.q 1 XT.done)) (by kernel_rfl) (by kernel_rfl) ?_
   refine q_mv rfl rfl rfl ?_
   refine q_as rfl rfl rfl ?_
   refine x_end ?_
   refine nk_cut (e' := [(0, _), (1, _), (3, _), (4, _), (5, _), (6, _), (7, _), (23, _), (35, _)]) [0, 1, 3, 4, 5, 6, 7, 23, 35] rfl ?_
   refine nk_seq ?_
   refine ew_perm (S' := [_, _, _, _]) (permL [3, 0, 1, 2] rfl) ?_
   refine ew_retpS (S' := [_, _, _]) (G := [_]) rfl rfl (.cons (.tmp rfl) .nil) (List.Perm.refl _) ?_
   rw [Kp.save_2 hxe hsq hc23 hc35]
   exact ⟨a, b1, b2, b3, b4, rfl, rfl, ⟨hka, hav, hcs1⟩, ((hl1.trans hp1).trans hl3)⟩
  ·intro hc35
   simp only [ne_eq, decide_eq_true_eq, decide_eq_false_iff_not, Decidable.not_not] at hc35
   refine ew_skip ?_
   refine nk_seq ?_
   refine ew_seq ?_
   refine rg (.q 0 (.q 1 (.q 2 (.q 3 (.q 4 (.h 5 (.q 6 (.q 7 (.h 8 XT.done))))))))) (by kernel_rfl) (by kernel_rfl) ?_
   refine q_mv rfl rfl rfl ?_
   refine q_mv rfl rfl rfl ?_
   refine q_ldS 2 Try.isAgg60 Try.sizeOf60 rfl rfl rfl rfl rfl ?_
   refine q_nil rfl rfl rfl ?_
   refine q_fa fa_175_1 rfl rfl rfl ?_
   refine h_stS (cs' := [_, _, _, _, _, _, _, _, _, _]) (S' := [_, _, _, _]) 3 Try.sizeOf60 rfl rfl rfl rfl rfl (allOne rfl) rfl (leb rfl) rfl rfl kp0 ?_
   refine q_nil rfl rfl rfl ?_
   refine q_fa fa_175_2 rfl rfl rfl ?_
   refine h_st (sv := .b true) (cs' := [_, _, _, _, _, _, _, _, _, _]) (S' := [_, _, _, _]) 3 Try.sizeOf4 rfl rfl rfl rfl rfl rfl (ltb rfl) rfl rfl kp0 ?_
   refine x_end ?_
   refine nk_cut (e' := [(0, _), (1, _), (3, _), (4, _), (5, _), (6, _), (7, _), (23, _), (35, _)]) [0, 1, 3, 4, 5, 6, 7, 23, 35] rfl ?_
   refine nk_seq ?_
   refine ew_seq ?_
   refine rg (.q 0 XT.done) (by kernel_rfl) (by kernel_rfl) ?_
   refine q_as (sv := .i 0) rfl rfl rfl ?_
   refine x_end ?_
   refine nk_cut (e' := [(0, _), (1, _), (3, _), (4, _), (5, _), (6, _), (7, _), (23, _), (35, _)]) [0, 1, 3, 4, 5, 6, 7, 23, 35] rfl ?_
   refine nk_seq ?_
   refine ew_perm (S' := [_, _, _, _]) (permL [3, 0, 1, 2] rfl) ?_
   refine ew_retpS (S' := [_, _, _]) (G := [_]) rfl rfl (.cons (.tmp rfl) .nil) (List.Perm.refl _) ?_
   rw [Kp.save_3 hxe hsq hc23 hc35]
   exact ⟨⟨a.seq + 1, an1.epoch, an1.given_, an1.root, an1.rep, an1.pending, an1.m, an1.A, an1.n, an1.c, an1.ks⟩, b1, b2, b3, b4, rfl, rfl, ⟨hxa, hxv, hcs1⟩, ((hl1.trans hp1).trans hl3)⟩


theorem KGive_hc {H : Hp} {gk gc gp : Nat} {k : Kp} {m : Int} (hko : k.ok m) (hmm : m ≤ 1000000000) {a : An} {a0 a1 a2 a3 : Sli} (hks : KpS H a a0 a1 a2 a3 k) :
  HC Try.prog 47 [.p ⟨gk, 0, none⟩] [.box gk 175 (kpCells gc a k.has), .box gc 173 (celCells gp a0 a1 a2 a3 k.c.writes), .box gp 127 k.p.cells] H (fun rr S' H' => ∃ a' b0 b1 b2 b3, rr = .tup [.i k.give.2.1, .i k.give.2.2] ∧ S' = [.box gk 175 (kpCells gc a' (k.give.1).has), .box gc 173 (celCells gp b0 b1 b2 b3 (k.give.1).c.writes), .box gp 127 (k.give.1).p.cells] ∧ KpS H' a' b0 b1 b2 b3 (k.give.1) ∧ HLe H H') := by
 have hka : An.ok H a := hks.an
 have hav := hks.av
 have hcs := hks.cs
 have hpw := hko.pw (by omega)
 have hse := hko.seq
 have hgi := hko.giv
 rw [← hav] at hse hgi
 have hse0 : 0 ≤ a.seq := hse.1
 have hse1 : a.seq ≤ 1099511627776 := hse.2
 have hgi0 : 0 ≤ a.given_ := hgi.1
 have hgi1 : a.given_ ≤ 1099511627776 := hgi.2
 have hww := hko.w1
 refine hc_intro (n := 28) Try.func47 rfl Try.ntmps47 rfl (fun B hB => ?_)
 refine ew_cut (e' := [(0, _)]) [0] rfl ?_
 refine ew_S (S' := [.box _ _ [_, _, _, _, _, _, _, _, _, _], _, _]) rfl ?_
 refine ew_seq ?_
 refine rg (.q 0 (.q 1 XT.done)) (by kernel_rfl) (by kernel_rfl) ?_
 refine q_as (sv := .i 0) rfl rfl rfl ?_
 refine q_as (sv := .i 0) rfl rfl rfl ?_
 refine x_end ?_
 refine nk_cut (e' := [(0, _), (2, _), (3, _)]) [0, 2, 3] rfl ?_
 refine nk_seq ?_
 refine ew_seq ?_
 refine ew_seq ?_
 refine rg (.q 0 (.q 1 (.q 2 (.q 3 (.q 4 XT.done))))) (by kernel_rfl) (by kernel_rfl) ?_
 refine q_mv rfl rfl rfl ?_
 refine q_nil rfl rfl rfl ?_
 refine q_fa fa_175_2 rfl rfl rfl ?_
 refine q_ld 0 Try.isAgg4 rfl rfl rfl rfl rfl ?_
 refine q_not rfl rfl rfl ?_
 refine x_end ?_
 refine nk_cut (e' := [(0, _), (2, _), (3, _), (10, _)]) [0, 2, 3, 10] rfl ?_
 refine nk_seq ?_
 refine ew_cond rfl ?_ ?_
 ·intro hc10
  simp only [Bool.not_eq_true', Bool.not_eq_false'] at hc10
  refine ew_seq ?_
  refine rg (.q 0 (.q 1 XT.done)) (by kernel_rfl) (by kernel_rfl) ?_
  refine q_as (sv := .i 0) rfl rfl rfl ?_
  refine q_as (sv := .i 9) rfl rfl rfl ?_
  refine x_end ?_
  refine nk_cut (e' := [(0, _), (2, _), (3, _), (10, _)]) [0, 2, 3, 10] rfl ?_
  refine nk_seq ?_
  refine ew_retp (r := .tup [_, _]) (S' := [_, _, _]) (G := []) rfl rfl (.cons (.tmp rfl) (.cons (.tmp rfl) .nil)) rfl (List.Perm.refl _) ?_
  rw [Kp.give_1 hc10]
  exact ⟨a, a0, a1, a2, a3, rfl, rfl, hks, HLe.refl _⟩
 ·intro hc10
  simp only [Bool.not_eq_true', Bool.not_eq_false'] at hc10
  have hh : ¬ k.has = false := by simp [hc10]
  refine ew_skip ?_
  refine nk_seq ?_
  refine ew_seq ?_
  refine rg (.q 0 (.q 1 (.q 2 (.q 3 (.h 4 (.h 5 (.h 6 XT.done))))))) (by kernel_rfl) (by kernel_rfl) ?_
  refine q_mv rfl rfl rfl ?_
  refine q_nil rfl rfl rfl ?_
  refine q_fa fa_175_1 rfl rfl rfl ?_
  refine q_ldSp (cs' := [_, _, _, _, _, _, _, _]) 0 Try.isAgg60 Try.sizeOf60 rfl rfl rfl rfl rfl (leb rfl) ?_
  refine h_call0 Try.call39 rfl rfl rfl (ACopy_hc hka) ?_
  rintro r_ S_ Hn1 hl1 ⟨an1, rfl, ha1, hav1, rfl, hle1⟩
  replace hka := hka.mono hl1
  replace hcs := hcs.mono hl1
  replace hks := hks.mono hl1
  refine ⟨kp0, ?_⟩
  refine x_S (S' := [_, _, _]) rfl ?_
  refine h_alloc (cs := [_, _, _, _, _, _, _, _]) Try.zeroValue60 rfl rfl (zc_60 Try.zeroValue60) ?_
  intro g1
  refine ⟨kp0, ?_⟩
  refine h_stS (cs' := [_, _, _, _, _, _, _, _]) (S' := [_, _, _, _]) 0 Try.sizeOf60 rfl rfl rfl rfl rfl (allOne rfl) rfl (leb rfl) rfl rfl kp0 ?_
  refine x_end ?_
  refine nk_cut (e' := [(0, _), (2, _), (3, _), (4, _), (10, _)]) [0, 2, 3, 4, 10] rfl ?_
  have hgg : an1.given_ = k.last.given_ := congrArg Anc.given_ (hav1.trans hav)
  have hgg2 : a.given_ = k.last.given_ := congrArg Anc.given_ hav
  refine nk_seq ?_
  refine ew_seq ?_
  refine rg (.q 0 (.q 1 (.q 2 (.q 3 (.h 4 XT.done))))) (by kernel_rfl) (by kernel_rfl) ?_
  refine q_fa fa_60_2 rfl rfl rfl ?_
  refine q_ld 0 Try.isAgg3 rfl rfl rfl rfl rfl ?_
  refine q_add rfl rfl rfl rfl (by omega) (by omega) ?_
  refine q_fa fa_60_2 rfl rfl rfl ?_
  refine h_st (cs' := [_, _, _, _, _, _, _, _]) (S' := [_, _, _, _]) 0 Try.sizeOf3 rfl rfl rfl rfl rfl rfl (ltb rfl) rfl rfl kp0 ?_
  refine x_end ?_
  refine nk_cut (e' := [(0, _), (2, _), (3, _), (4, _), (10, _)]) [0, 2, 3, 4, 10] rfl ?_
  have hxa : An.ok Hn1 ⟨an1.seq, an1.epoch, an1.given_ + 1, an1.root, an1.rep, an1.pending, an1.m, an1.A, an1.n, an1.c, an1.ks⟩ := ha1.cong rfl rfl rfl rfl rfl
  have hxv : An.v ⟨an1.seq, an1.epoch, an1.given_ + 1, an1.root, an1.rep, an1.pending, an1.m, an1.A, an1.n, an1.c, an1.ks⟩ = { k.last with given_ := k.last.given_ + 1 } := by rw [← hav, ← hav1]; rfl
  have hcells : An.cells ⟨an1.seq, an1.epoch, an1.given_ + 1, an1.root, an1.rep, an1.pending, an1.m, an1.A, an1.n, an1.c, an1.ks⟩ = [.i (an1.seq), .i (an1.epoch), .i (an1.given_ + 1), .i (an1.root), .i (an1.rep), .i (an1.pending), .sl an1.m.A an1.m.n an1.m.c, .sl an1.A an1.n an1.c] := rfl
  refine nk_seq ?_
  refine ew_seq ?_
  refine ew_seq ?_
  refine rg (.q 0 (.q 1 (.h 2 (.q 3 XT.done)))) (by kernel_rfl) (by kernel_rfl) ?_
  refine q_mv rfl rfl rfl ?_
  refine q_ldS 0 Try.isAgg60 Try.sizeOf60 rfl rfl rfl rfl rfl ?_
  have hca := KSave_hc (gk := gk) (gc := gc) (gp := gp) hko hmm hks hxa
  rw [hcells, hxv] at hca
  refine h_call Try.call45 (S2 := [_]) rfl rfl rfl (permL [1, 2, 3, 0] rfl) (hca) ?_
  rintro r_ S_ Hn2 hl2 ⟨an2, b1, b2, b3, b4, rfl, rfl, hks1, hle2⟩
  replace hka := hka.mono hl2
  replace hcs := hcs.mono hl2
  replace hks := hks.mono hl2
  replace ha1 := ha1.mono hl2
  replace hxa := hxa.mono hl2
  refine ⟨kp0, ?_⟩
  refine x_S (S' := [_, _, _, _]) rfl ?_
  refine q_as rfl rfl rfl ?_
  refine x_end ?_
  refine nk_cut (e' := [(0, _), (2, _), (3, _), (4, _), (5, _), (10, _)]) [0, 2, 3, 4, 5, 10] rfl ?_
  refine nk_seq ?_
  refine ew_seq ?_
  refine rg (.q 0 (.q 1 XT.done)) (by kernel_rfl) (by kernel_rfl) ?_
  refine q_mv rfl rfl rfl ?_
  refine q_ne rfl rfl rfl rfl ?_
  refine x_end ?_
  refine nk_cut (e' := [(0, _), (2, _), (3, _), (4, _), (5, _), (10, _), (24, _)]) [0, 2, 3, 4, 5, 10, 24] rfl ?_
  refine nk_seq ?_
  refine ew_cond rfl ?_ ?_
  ·intro hc24
   simp only [ne_eq, decide_eq_true_eq, decide_eq_false_iff_not, Decidable.not_not] at hc24
   refine ew_seq ?_
   refine rg (.q 0 (.q 1 (.q 2 XT.done))) (by kernel_rfl) (by kernel_rfl) ?_
   refine q_mv rfl rfl rfl ?_
   refine q_as (sv := .i 0) rfl rfl rfl ?_
   refine q_as rfl rfl rfl ?_
   refine x_end ?_
   refine nk_cut (e' := [(0, _), (2, _), (3, _), (4, _), (5, _), (10, _), (24, _)]) [0, 2, 3, 4, 5, 10, 24] rfl ?_
   refine nk_seq ?_
   refine ew_perm (S' := [_, _, _, _]) (permL [0, 1, 2, 3] rfl) ?_
   refine ew_retp (r := .tup [_, _]) (S' := [_, _, _]) (G := [_]) rfl rfl (.cons (.tmp rfl) (.cons (.tmp rfl) .nil)) rfl (List.Perm.refl _) ?_
   rw [Kp.give_2 hh hc24]
   exact ⟨an2, b1, b2, b3, b4, rfl, rfl, hks1, (hl1.trans hl2)⟩
  ·intro hc24
   simp only [ne_eq, decide_eq_true_eq, decide_eq_false_iff_not, Decidable.not_not] at hc24
   refine ew_skip ?_
   refine nk_seq ?_
   refine ew_seq ?_
   refine rg (.q 0 (.q 1 (.q 2 (.q 3 XT.done)))) (by kernel_rfl) (by kernel_rfl) ?_
   refine q_fa fa_60_2 rfl rfl rfl ?_
   refine q_ld 3 Try.isAgg3 rfl rfl rfl rfl rfl ?_
   refine q_as rfl rfl rfl ?_
   refine q_as (sv := .i 0) rfl rfl rfl ?_
   refine x_end ?_
   refine nk_cut (e' := [(0, _), (2, _), (3, _), (4, _), (5, _), (10, _), (24, _)]) [0, 2, 3, 4, 5, 10, 24] rfl ?_
   refine nk_seq ?_
   refine ew_perm (S' := [_, _, _, _]) (permL [0, 1, 2, 3] rfl) ?_
   refine ew_retp (r := .tup [_, _]) (S' := [_, _, _]) (G := [_]) rfl rfl (.cons (.tmp rfl) (.cons (.tmp rfl) .nil)) rfl (List.Perm.refl _) ?_
   rw [Kp.give_3 hh hc24]
   exact ⟨an2, b1, b2, b3, b4, by rw [hgg], rfl, hks1, (hl1.trans hl2)⟩


theorem KCommit_hc {H : Hp} {gk gc gp : Nat} {k : Kp} {m : Int} (hko : k.ok m) (hmm : m ≤ 1000000000) {a : An} {a0 a1 a2 a3 : Sli} (hks : KpS H a a0 a1 a2 a3 k) {e rt pe : Int} :
  HC Try.prog 49 [.p ⟨gk, 0, none⟩, .i e, .i rt, .i pe] [.box gk 175 (kpCells gc a k.has), .box gc 173 (celCells gp a0 a1 a2 a3 k.c.writes), .box gp 127 k.p.cells] H (fun rr S' H' => ∃ a' b0 b1 b2 b3, rr = .i (k.commit e rt pe).2 ∧ S' = [.box gk 175 (kpCells gc a' ((k.commit e rt pe).1).has), .box gc 173 (celCells gp b0 b1 b2 b3 ((k.commit e rt pe).1).c.writes), .box gp 127 ((k.commit e rt pe).1).p.cells] ∧ KpS H' a' b0 b1 b2 b3 ((k.commit e rt pe).1) ∧ HLe H H') := by
 have hka : An.ok H a := hks.an
 have hav := hks.av
 have hcs := hks.cs
 have hpw := hko.pw (by omega)
 have hse := hko.seq
 have hgi := hko.giv
 rw [← hav] at hse hgi
 have hse0 : 0 ≤ a.seq := hse.1
 have hse1 : a.seq ≤ 1099511627776 := hse.2
 have hgi0 : 0 ≤ a.given_ := hgi.1
 have hgi1 : a.given_ ≤ 1099511627776 := hgi.2
 have hww := hko.w1
 have hgg2 : a.given_ = k.last.given_ := congrArg Anc.given_ hav
 have hee2 : a.epoch = k.last.epoch := congrArg Anc.epoch hav
 refine hc_intro (n := 49) Try.func49 rfl Try.ntmps49 rfl (fun B hB => ?_)
 refine ew_cut (e' := [(0, _), (1, _), (2, _), (3, _)]) [0, 1, 2, 3] rfl ?_
 refine ew_S (S' := [.box _ _ [_, _, _, _, _, _, _, _, _, _], _, _]) rfl ?_
 refine ew_seq ?_
 refine rg (.q 0 XT.done) (by kernel_rfl) (by kernel_rfl) ?_
 refine q_as (sv := .i 0) rfl rfl rfl ?_
 refine x_end ?_
 refine nk_cut (e' := [(0, _), (1, _), (2, _), (3, _), (8, _)]) [0, 1, 2, 3, 8] rfl ?_
 refine nk_seq ?_
 refine ew_seq ?_
 refine ew_seq ?_
 by_cases e1 : k.has = false
 ·skip
  refine rg (.q 0 (.q 1 (.q 2 (.q 3 (.q 4 (.q 5 (.q 6 (.q 7 (.q 8 (.q 9 (.q 10 (.q 11 (.q 12 (.q 13 (.q 14 (.q 15 (.q 16 (.q 17 (.q 18 (.q 19 (.q 20 (.q 21 (.q 22 XT.done))))))))))))))))))))))) (by kernel_rfl) (by kernel_rfl) ?_
  refine q_mv rfl rfl rfl ?_
  refine q_nil rfl rfl rfl ?_
  refine q_fa fa_175_2 rfl rfl rfl ?_
  refine q_ld 0 Try.isAgg4 rfl rfl rfl rfl rfl ?_
  refine q_not rfl rfl rfl ?_
  refine x_T (by simp [e1]) ?_
  refine q_mv rfl rfl rfl ?_
  iterate 7 refine q_skip rfl rfl ?_
  refine q_pkT rfl rfl rfl rfl ?_
  refine q_mv rfl rfl rfl ?_
  iterate 7 refine q_skip rfl rfl ?_
  refine q_pkT rfl rfl rfl rfl ?_
  refine x_end ?_
  refine nk_cut (e' := [(0, _), (1, _), (2, _), (3, _), (8, _), (32, _)]) [0, 1, 2, 3, 8, 32] rfl ?_
  refine nk_seq ?_
  refine ew_true rfl ?_
  refine ew_seq ?_
  refine rg (.q 0 XT.done) (by kernel_rfl) (by kernel_rfl) ?_
  refine q_as (sv := .i 15) rfl rfl rfl ?_
  refine x_end ?_
  refine nk_cut (e' := [(0, _), (1, _), (2, _), (3, _), (8, _), (32, _)]) [0, 1, 2, 3, 8, 32] rfl ?_
  refine nk_seq ?_
  refine ew_retpS (S' := [_, _, _]) (G := []) rfl rfl (.cons (.tmp rfl) .nil) (List.Perm.refl _) ?_
  rw [Kp.commit_1 (.inl e1)]
  exact ⟨a, a0, a1, a2, a3, rfl, rfl, hks, HLe.refl _⟩
 ·skip
  by_cases e2 : e ≤ a.epoch
  ·skip
   refine rg (.q 0 (.q 1 (.q 2 (.q 3 (.q 4 (.q 5 (.q 6 (.q 7 (.q 8 (.q 9 (.q 10 (.q 11 (.q 12 (.q 13 (.q 14 (.q 15 (.q 16 (.q 17 (.q 18 (.q 19 (.q 20 (.q 21 (.q 22 XT.done))))))))))))))))))))))) (by kernel_rfl) (by kernel_rfl) ?_
   refine q_mv rfl rfl rfl ?_
   refine q_nil rfl rfl rfl ?_
   refine q_fa fa_175_2 rfl rfl rfl ?_
   refine q_ld 0 Try.isAgg4 rfl rfl rfl rfl rfl ?_
   refine q_not rfl rfl rfl ?_
   refine x_F (by simp [e1]) ?_
   iterate 3 refine q_mv rfl rfl rfl ?_
   refine q_nil rfl rfl rfl ?_
   refine q_fa fa_175_1 rfl rfl rfl ?_
   refine q_fa fa_60_1 rfl rfl rfl ?_
   refine q_ld 0 Try.isAgg3 rfl rfl rfl rfl rfl ?_
   refine q_le rfl rfl rfl rfl ?_
   refine x_T (decide_eq_true e2) ?_
   refine q_pkF rfl rfl rfl rfl ?_
   refine q_mv rfl rfl rfl ?_
   iterate 7 refine q_skip rfl rfl ?_
   refine q_pkT rfl rfl rfl rfl ?_
   refine x_end ?_
   refine nk_cut (e' := [(0, _), (1, _), (2, _), (3, _), (8, _), (32, _)]) [0, 1, 2, 3, 8, 32] rfl ?_
   refine nk_seq ?_
   refine ew_true rfl ?_
   refine ew_seq ?_
   refine rg (.q 0 XT.done) (by kernel_rfl) (by kernel_rfl) ?_
   refine q_as (sv := .i 15) rfl rfl rfl ?_
   refine x_end ?_
   refine nk_cut (e' := [(0, _), (1, _), (2, _), (3, _), (8, _), (32, _)]) [0, 1, 2, 3, 8, 32] rfl ?_
   refine nk_seq ?_
   refine ew_retpS (S' := [_, _, _]) (G := []) rfl rfl (.cons (.tmp rfl) .nil) (List.Perm.refl _) ?_
   rw [Kp.commit_1 (.inr (.inl (by omega)))]
   exact ⟨a, a0, a1, a2, a3, rfl, rfl, hks, HLe.refl _⟩
  ·skip
   refine rg (.q 0 (.q 1 (.q 2 (.q 3 (.q 4 (.q 5 (.q 6 (.q 7 (.q 8 (.q 9 (.q 10 (.q 11 (.q 12 (.q 13 (.q 14 (.q 15 (.q 16 (.q 17 (.q 18 (.q 19 (.q 20 (.q 21 (.q 22 XT.done))))))))))))))))))))))) (by kernel_rfl) (by kernel_rfl) ?_
   refine q_mv rfl rfl rfl ?_
   refine q_nil rfl rfl rfl ?_
   refine q_fa fa_175_2 rfl rfl rfl ?_
   refine q_ld 0 Try.isAgg4 rfl rfl rfl rfl rfl ?_
   refine q_not rfl rfl rfl ?_
   refine x_F (by simp [e1]) ?_
   iterate 3 refine q_mv rfl rfl rfl ?_
   refine q_nil rfl rfl rfl ?_
   refine q_fa fa_175_1 rfl rfl rfl ?_
   refine q_fa fa_60_1 rfl rfl rfl ?_
   refine q_ld 0 Try.isAgg3 rfl rfl rfl rfl rfl ?_
   refine q_le rfl rfl rfl rfl ?_
   refine x_F (decide_eq_false e2) ?_
   refine q_pkF rfl rfl rfl rfl ?_
   iterate 3 refine q_mv rfl rfl rfl ?_
   refine q_nil rfl rfl rfl ?_
   refine q_fa fa_175_1 rfl rfl rfl ?_
   refine q_fa fa_60_2 rfl rfl rfl ?_
   refine q_ld 0 Try.isAgg3 rfl rfl rfl rfl rfl ?_
   refine q_gt rfl rfl rfl rfl ?_
   refine q_pkF rfl rfl rfl rfl ?_
   refine x_end ?_
   refine nk_cut (e' := [(0, _), (1, _), (2, _), (3, _), (8, _), (32, _)]) [0, 1, 2, 3, 8, 32] rfl ?_
   refine nk_seq ?_
   refine ew_cond rfl ?_ ?_
   ·intro hc32
    try simp only [decide_eq_true_eq] at hc32
    refine ew_seq ?_
    refine rg (.q 0 XT.done) (by kernel_rfl) (by kernel_rfl) ?_
    refine q_as (sv := .i 15) rfl rfl rfl ?_
    refine x_end ?_
    refine nk_cut (e' := [(0, _), (1, _), (2, _), (3, _), (8, _), (32, _)]) [0, 1, 2, 3, 8, 32] rfl ?_
    refine nk_seq ?_
    refine ew_retpS (S' := [_, _, _]) (G := []) rfl rfl (.cons (.tmp rfl) .nil) (List.Perm.refl _) ?_
    rw [Kp.commit_1 (.inr (.inr (by omega)))]
    exact ⟨a, a0, a1, a2, a3, rfl, rfl, hks, HLe.refl _⟩
   ·intro hc32
    try simp only [decide_eq_false_iff_not] at hc32
    refine ew_skip ?_
    refine nk_seq ?_
    refine ew_seq ?_
    refine rg (.q 0 (.q 1 (.q 2 (.q 3 (.h 4 (.h 5 (.h 6 XT.done))))))) (by kernel_rfl) (by kernel_rfl) ?_
    refine q_mv rfl rfl rfl ?_
    refine q_nil rfl rfl rfl ?_
    refine q_fa fa_175_1 rfl rfl rfl ?_
    refine q_ldSp (cs' := [_, _, _, _, _, _, _, _]) 0 Try.isAgg60 Try.sizeOf60 rfl rfl rfl rfl rfl (leb rfl) ?_
    refine h_call0 Try.call39 rfl rfl rfl (ACopy_hc hka) ?_
    rintro r_ S_ Hn1 hl1 ⟨an1, rfl, ha1, hav1, rfl, hle1⟩
    replace hka := hka.mono hl1
    replace hcs := hcs.mono hl1
    replace hks := hks.mono hl1
    refine ⟨kp0, ?_⟩
    refine x_S (S' := [_, _, _]) rfl ?_
    refine h_alloc (cs := [_, _, _, _, _, _, _, _]) Try.zeroValue60 rfl rfl (zc_60 Try.zeroValue60) ?_
    intro g1
    refine ⟨kp0, ?_⟩
    refine h_stS (cs' := [_, _, _, _, _, _, _, _]) (S' := [_, _, _, _]) 0 Try.sizeOf60 rfl rfl rfl rfl rfl (allOne rfl) rfl (leb rfl) rfl rfl kp0 ?_
    refine x_end ?_
    refine nk_cut (e' := [(0, _), (1, _), (2, _), (3, _), (8, _), (9, _), (32, _)]) [0, 1, 2, 3, 8, 9, 32] rfl ?_
    refine nk_seq ?_
    refine ew_seq ?_
    refine rg (.q 0 (.q 1 (.q 2 (.q 3 (.q 4 (.h 5 (.q 6 (.h 7 (.q 8 (.h 9 (.q 10 (.h 11 XT.done)))))))))))) (by kernel_rfl) (by kernel_rfl) ?_
    iterate 4 refine q_mv rfl rfl rfl ?_
    refine q_fa fa_60_1 rfl rfl rfl ?_
    refine h_st (cs' := [_, _, _, _, _, _, _, _]) (S' := [_, _, _, _]) 0 Try.sizeOf3 rfl rfl rfl rfl rfl rfl (ltb rfl) rfl rfl kp0 ?_
    refine q_fa fa_60_3 rfl rfl rfl ?_
    refine h_st (cs' := [_, _, _, _, _, _, _, _]) (S' := [_, _, _, _]) 0 Try.sizeOf3 rfl rfl rfl rfl rfl rfl (ltb rfl) rfl rfl kp0 ?_
    refine q_fa fa_60_4 rfl rfl rfl ?_
    refine h_st (cs' := [_, _, _, _, _, _, _, _]) (S' := [_, _, _, _]) 0 Try.sizeOf3 rfl rfl rfl rfl rfl rfl (ltb rfl) rfl rfl kp0 ?_
    refine q_fa fa_60_5 rfl rfl rfl ?_
    refine h_st (cs' := [_, _, _, _, _, _, _, _]) (S' := [_, _, _, _]) 0 Try.sizeOf3 rfl rfl rfl rfl rfl rfl (ltb rfl) rfl rfl kp0 ?_
    refine x_end ?_
    refine nk_cut (e' := [(0, _), (1, _), (2, _), (3, _), (8, _), (9, _), (32, _)]) [0, 1, 2, 3, 8, 9, 32] rfl ?_
    have hxa : An.ok Hn1 ⟨an1.seq, e, an1.given_, rt, e, pe, an1.m, an1.A, an1.n, an1.c, an1.ks⟩ := ha1.cong rfl rfl rfl rfl rfl
    have hxv : An.v ⟨an1.seq, e, an1.given_, rt, e, pe, an1.m, an1.A, an1.n, an1.c, an1.ks⟩ = { k.last with epoch := e, root := rt, rep := e, pending := pe } := by rw [← hav, ← hav1]; rfl
    have hcells : An.cells ⟨an1.seq, e, an1.given_, rt, e, pe, an1.m, an1.A, an1.n, an1.c, an1.ks⟩ = [.i (an1.seq), .i (e), .i (an1.given_), .i (rt), .i (e), .i (pe), .sl an1.m.A an1.m.n an1.m.c, .sl an1.A an1.n an1.c] := rfl
    refine nk_seq ?_
    refine ew_seq ?_
    refine rg (.q 0 (.q 1 (.h 2 (.q 3 XT.done)))) (by kernel_rfl) (by kernel_rfl) ?_
    refine q_mv rfl rfl rfl ?_
    refine q_ldS 0 Try.isAgg60 Try.sizeOf60 rfl rfl rfl rfl rfl ?_
    have hca := KSave_hc (gk := gk) (gc := gc) (gp := gp) hko hmm hks hxa
    rw [hcells, hxv] at hca
    refine h_call Try.call45 (S2 := [_]) rfl rfl rfl (permL [1, 2, 3, 0] rfl) (hca) ?_
    rintro r_ S_ Hn2 hl2 ⟨an2, b1, b2, b3, b4, rfl, rfl, hks1, hle2⟩
    replace hka := hka.mono hl2
    replace hcs := hcs.mono hl2
    replace hks := hks.mono hl2
    replace ha1 := ha1.mono hl2
    replace hxa := hxa.mono hl2
    refine ⟨kp0, ?_⟩
    refine x_S (S' := [_, _, _, _]) rfl ?_
    refine q_as rfl rfl rfl ?_
    refine x_end ?_
    refine nk_cut (e' := [(0, _), (1, _), (2, _), (3, _), (8, _), (9, _), (32, _)]) [0, 1, 2, 3, 8, 9, 32] rfl ?_
    refine nk_seq ?_
    refine ew_perm (S' := [_, _, _, _]) (permL [0, 1, 2, 3] rfl) ?_
    refine ew_retpS (S' := [_, _, _]) (G := [_]) rfl rfl (.cons (.tmp rfl) .nil) (List.Perm.refl _) ?_
    rw [Kp.commit_2 (fun h => h.elim e1 (fun h => by omega))]
    exact ⟨an2, b1, b2, b3, b4, rfl, rfl, hks1, (hl1.trans hl2)⟩


theorem KClean_hc {H : Hp} {gk gc gp : Nat} {k : Kp} {m : Int} (hko : k.ok m) (hmm : m ≤ 1000000000) {a : An} {a0 a1 a2 a3 : Sli} (hks : KpS H a a0 a1 a2 a3 k) :
  HC Try.prog 51 [.p ⟨gk, 0, none⟩] [.box gk 175 (kpCells gc a k.has), .box gc 173 (celCells gp a0 a1 a2 a3 k.c.writes), .box gp 127 k.p.cells] H (fun rr S' H' => ∃ a' b0 b1 b2 b3, rr = .i k.clean.2 ∧ S' = [.box gk 175 (kpCells gc a' (k.clean.1).has), .box gc 173 (celCells gp b0 b1 b2 b3 (k.clean.1).c.writes), .box gp 127 (k.clean.1).p.cells] ∧ KpS H' a' b0 b1 b2 b3 (k.clean.1) ∧ HLe H H') := by
 have hka : An.ok H a := hks.an
 have hav := hks.av
 have hcs := hks.cs
 have hpw := hko.pw (by omega)
 have hse := hko.seq
 have hgi := hko.giv
 rw [← hav] at hse hgi
 have hse0 : 0 ≤ a.seq := hse.1
 have hse1 : a.seq ≤ 1099511627776 := hse.2
 have hgi0 : 0 ≤ a.given_ := hgi.1
 have hgi1 : a.given_ ≤ 1099511627776 := hgi.2
 have hww := hko.w1
 refine hc_intro (n := 18) Try.func51 rfl Try.ntmps51 rfl (fun B hB => ?_)
 refine ew_cut (e' := [(0, _)]) [0] rfl ?_
 refine ew_S (S' := [.box _ _ [_, _, _, _, _, _, _, _, _, _], _, _]) rfl ?_
 refine ew_seq ?_
 refine rg (.q 0 XT.done) (by kernel_rfl) (by kernel_rfl) ?_
 refine q_as (sv := .i 0) rfl rfl rfl ?_
 refine x_end ?_
 refine nk_cut (e' := [(0, _), (2, _)]) [0, 2] rfl ?_
 refine nk_seq ?_
 refine ew_seq ?_
 refine ew_seq ?_
 refine rg (.q 0 (.q 1 (.q 2 (.q 3 (.q 4 XT.done))))) (by kernel_rfl) (by kernel_rfl) ?_
 refine q_mv rfl rfl rfl ?_
 refine q_nil rfl rfl rfl ?_
 refine q_fa fa_175_2 rfl rfl rfl ?_
 refine q_ld 0 Try.isAgg4 rfl rfl rfl rfl rfl ?_
 refine q_not rfl rfl rfl ?_
 refine x_end ?_
 refine nk_cut (e' := [(0, _), (2, _), (8, _)]) [0, 2, 8] rfl ?_
 refine nk_seq ?_
 refine ew_cond rfl ?_ ?_
 ·intro hc8
  simp only [Bool.not_eq_true', Bool.not_eq_false'] at hc8
  refine ew_seq ?_
  refine rg (.q 0 XT.done) (by kernel_rfl) (by kernel_rfl) ?_
  refine q_as (sv := .i 9) rfl rfl rfl ?_
  refine x_end ?_
  refine nk_cut (e' := [(0, _), (2, _), (8, _)]) [0, 2, 8] rfl ?_
  refine nk_seq ?_
  refine ew_retpS (S' := [_, _, _]) (G := []) rfl rfl (.cons (.tmp rfl) .nil) (List.Perm.refl _) ?_
  rw [Kp.clean_1 hc8]
  exact ⟨a, a0, a1, a2, a3, rfl, rfl, hks, HLe.refl _⟩
 ·intro hc8
  simp only [Bool.not_eq_true', Bool.not_eq_false'] at hc8
  have hh : ¬ k.has = false := by simp [hc8]
  refine ew_skip ?_
  refine nk_seq ?_
  refine ew_seq ?_
  refine rg (.q 0 (.q 1 (.q 2 (.q 3 (.h 4 (.h 5 (.h 6 XT.done))))))) (by kernel_rfl) (by kernel_rfl) ?_
  refine q_mv rfl rfl rfl ?_
  refine q_nil rfl rfl rfl ?_
  refine q_fa fa_175_1 rfl rfl rfl ?_
  refine q_ldSp (cs' := [_, _, _, _, _, _, _, _]) 0 Try.isAgg60 Try.sizeOf60 rfl rfl rfl rfl rfl (leb rfl) ?_
  refine h_call0 Try.call39 rfl rfl rfl (ACopy_hc hka) ?_
  rintro r_ S_ Hn1 hl1 ⟨an1, rfl, ha1, hav1, rfl, hle1⟩
  replace hka := hka.mono hl1
  replace hcs := hcs.mono hl1
  replace hks := hks.mono hl1
  refine ⟨kp0, ?_⟩
  refine x_S (S' := [_, _, _]) rfl ?_
  refine h_alloc (cs := [_, _, _, _, _, _, _, _]) Try.zeroValue60 rfl rfl (zc_60 Try.zeroValue60) ?_
  intro g1
  refine ⟨kp0, ?_⟩
  refine h_stS (cs' := [_, _, _, _, _, _, _, _]) (S' := [_, _, _, _]) 0 Try.sizeOf60 rfl rfl rfl rfl rfl (allOne rfl) rfl (leb rfl) rfl rfl kp0 ?_
  refine x_end ?_
  refine nk_cut (e' := [(0, _), (2, _), (3, _), (8, _)]) [0, 2, 3, 8] rfl ?_
  refine nk_seq ?_
  refine ew_seq ?_
  refine rg (.q 0 (.h 1 XT.done)) (by kernel_rfl) (by kernel_rfl) ?_
  refine q_fa fa_60_5 rfl rfl rfl ?_
  refine h_st (sv := .i 0) (cs' := [_, _, _, _, _, _, _, _]) (S' := [_, _, _, _]) 0 Try.sizeOf3 rfl rfl rfl rfl rfl rfl (ltb rfl) rfl rfl kp0 ?_
  refine x_end ?_
  refine nk_cut (e' := [(0, _), (2, _), (3, _), (8, _)]) [0, 2, 3, 8] rfl ?_
  have hxa : An.ok Hn1 ⟨an1.seq, an1.epoch, an1.given_, an1.root, an1.rep, 0, an1.m, an1.A, an1.n, an1.c, an1.ks⟩ := ha1.cong rfl rfl rfl rfl rfl
  have hxv : An.v ⟨an1.seq, an1.epoch, an1.given_, an1.root, an1.rep, 0, an1.m, an1.A, an1.n, an1.c, an1.ks⟩ = { k.last with pending := 0 } := by rw [← hav, ← hav1]; rfl
  have hcells : An.cells ⟨an1.seq, an1.epoch, an1.given_, an1.root, an1.rep, 0, an1.m, an1.A, an1.n, an1.c, an1.ks⟩ = [.i (an1.seq), .i (an1.epoch), .i (an1.given_), .i (an1.root), .i (an1.rep), .i (0), .sl an1.m.A an1.m.n an1.m.c, .sl an1.A an1.n an1.c] := rfl
  refine nk_seq ?_
  refine ew_seq ?_
  refine rg (.q 0 (.q 1 (.h 2 (.q 3 XT.done)))) (by kernel_rfl) (by kernel_rfl) ?_
  refine q_mv rfl rfl rfl ?_
  refine q_ldS 0 Try.isAgg60 Try.sizeOf60 rfl rfl rfl rfl rfl ?_
  have hca := KSave_hc (gk := gk) (gc := gc) (gp := gp) hko hmm hks hxa
  rw [hcells, hxv] at hca
  refine h_call Try.call45 (S2 := [_]) rfl rfl rfl (permL [1, 2, 3, 0] rfl) (hca) ?_
  rintro r_ S_ Hn2 hl2 ⟨an2, b1, b2, b3, b4, rfl, rfl, hks1, hle2⟩
  replace hka := hka.mono hl2
  replace hcs := hcs.mono hl2
  replace hks := hks.mono hl2
  replace ha1 := ha1.mono hl2
  replace hxa := hxa.mono hl2
  refine ⟨kp0, ?_⟩
  refine x_S (S' := [_, _, _, _]) rfl ?_
  refine q_as rfl rfl rfl ?_
  refine x_end ?_
  refine nk_cut (e' := [(0, _), (2, _), (3, _), (8, _)]) [0, 2, 3, 8] rfl ?_
  refine nk_seq ?_
  refine ew_perm (S' := [_, _, _, _]) (permL [0, 1, 2, 3] rfl) ?_
  refine ew_retpS (S' := [_, _, _]) (G := [_]) rfl rfl (.cons (.tmp rfl) .nil) (List.Perm.refl _) ?_
  rw [Kp.clean_2 hh]
  exact ⟨an2, b1, b2, b3, b4, rfl, rfl, hks1, (hl1.trans hl2)⟩


theorem KOpenNil_hc {H : Hp} :
  HC Try.prog 41 [.np] [] H (fun rr S' H' => rr = .tup [.np, .i 1] ∧ S' = [] ∧ H' = H) := by
 refine hc_intro (n := 63) Try.func41 rfl Try.ntmps41 rfl (fun B hB => ?_)
 refine ew_cut (e' := [(0, _)]) [0] rfl ?_
 refine ew_seq ?_
 refine rg (.q 0 (.q 1 XT.done)) (by kernel_rfl) (by kernel_rfl) ?_
 refine q_as (sv := .np) rfl rfl rfl ?_
 refine q_as (sv := .i 0) rfl rfl rfl ?_
 refine x_end ?_
 refine nk_cut (e' := [(0, _), (2, _), (3, _)]) [0, 2, 3] rfl ?_
 refine nk_seq ?_
 refine ew_seq ?_
 refine ew_seq ?_
 refine rg (.q 0 (.q 1 XT.done)) (by kernel_rfl) (by kernel_rfl) ?_
 refine q_mv rfl rfl rfl ?_
 refine q_eq_nn Try.underlying71 rfl rfl rfl rfl ?_
 refine x_end ?_
 refine nk_cut (e' := [(0, _), (2, _), (3, _), (11, _)]) [0, 2, 3, 11] rfl ?_
 refine nk_seq ?_
 refine ew_true rfl ?_
 refine ew_seq ?_
 refine rg (.q 0 (.q 1 XT.done)) (by kernel_rfl) (by kernel_rfl) ?_
 refine q_as (sv := .np) rfl rfl rfl ?_
 refine q_as (sv := .i 1) rfl rfl rfl ?_
 refine x_end ?_
 refine nk_cut (e' := [(0, _), (2, _), (3, _), (11, _)]) [0, 2, 3, 11] rfl ?_
 refine nk_seq ?_
 refine ew_ret (r := .tup [_, _]) rfl rfl (.cons (.tmp rfl) (.cons (.tmp rfl) .nil)) rfl ?_
 exact ⟨rfl, rfl, rfl⟩


theorem KOpenD_hc {H : Hp} {gc gp : Nat} {cl : Cel} {p : Pow} {a0 a1 a2 a3 : Sli} (hcs : CelS H a0 a1 a2 a3 cl) (hd : p.down = true) :
  HC Try.prog 41 [.p ⟨gc, 0, none⟩] [.box gc 173 (celCells gp a0 a1 a2 a3 cl.writes), .box gp 127 p.cells] H (fun rr S' H' => rr = .tup [.np, .i 5] ∧ S' = [.box gc 173 (celCells gp a0 a1 a2 a3 cl.writes), .box gp 127 p.cells] ∧ H' = H) := by
 refine hc_intro (n := 63) Try.func41 rfl Try.ntmps41 rfl (fun B hB => ?_)
 refine ew_cut (e' := [(0, _)]) [0] rfl ?_
 refine ew_seq ?_
 refine rg (.q 0 (.q 1 XT.done)) (by kernel_rfl) (by kernel_rfl) ?_
 refine q_as (sv := .np) rfl rfl rfl ?_
 refine q_as (sv := .i 0) rfl rfl rfl ?_
 refine x_end ?_
 refine nk_cut (e' := [(0, _), (2, _), (3, _)]) [0, 2, 3] rfl ?_
 refine nk_seq ?_
 refine ew_seq ?_
 refine ew_seq ?_
 refine rg (.q 0 (.q 1 XT.done)) (by kernel_rfl) (by kernel_rfl) ?_
 refine q_mv rfl rfl rfl ?_
 refine q_eq_pn Try.underlying71 rfl rfl rfl rfl ?_
 refine x_end ?_
 refine nk_cut (e' := [(0, _), (2, _), (3, _), (11, _)]) [0, 2, 3, 11] rfl ?_
 refine nk_seq ?_
 refine ew_false rfl ?_
 refine ew_skip ?_
 refine nk_seq ?_
 refine ew_seq ?_
 refine rg (.q 0 (.q 1 (.h 2 (.q 3 XT.done)))) (by kernel_rfl) (by kernel_rfl) ?_
 refine q_mv rfl rfl rfl ?_
 refine q_bld (cs := [_, _, _, _, _, _, _, _, _, _]) bf_175 rfl rfl rfl rfl ?_
 refine h_boxS rfl rfl rfl ?_
 intro g1
 refine ⟨kp0, ?_⟩
 refine q_as rfl rfl rfl ?_
 refine x_end ?_
 refine nk_cut (e' := [(0, _), (2, _), (3, _), (4, _), (11, _)]) [0, 2, 3, 4, 11] rfl ?_
 refine nk_seq ?_
 refine ew_seq ?_
 refine ew_seq ?_
 refine rg (.q 0 XT.done) (by kernel_rfl) (by kernel_rfl) ?_
 refine q_mv (sv := .i 0) rfl rfl rfl ?_
 refine x_end ?_
 refine nk_cut (e' := [(0, _), (2, _), (3, _), (4, _), (11, _), (15, _)]) [0, 2, 3, 4, 11, 15] rfl ?_
 refine nk_seq ?_
 refine ew_block ?_
 let Ev1 : Unit → Env := fun u => [(15, .i 0)]
 let Gv1 : Unit → Hp → Prop := fun u H' => H = H' ∧ (True)
 let Mv1 : Unit → Nat := fun u => 0
 refine ew_loop (mkE [(0, _), (2, _), (3, _), (4, _), (11, _)] Ev1) (mkS [_, _, _] (fun _ => [])) Gv1 Mv1 (() : Unit) ⟨rfl, rfl, rfl, rfl, rfl, rfl, trivial⟩ rfl ⟨rfl, trivial⟩ ?_
 rintro u H' ⟨rfl, hG⟩
 refine ew_S (S' := [_, _, _]) rfl ?_
 refine ew_cut (e' := [(15, _), (0, _), (2, _), (3, _), (4, _), (11, _)]) [15, 0, 2, 3, 4, 11] rfl ?_
 refine ew_seq ?_
 refine rg (.q 0 XT.done) (by kernel_rfl) (by kernel_rfl) ?_
 refine q_lt rfl rfl rfl rfl ?_
 refine x_end ?_
 refine nk_cut (e' := [(0, _), (2, _), (3, _), (4, _), (11, _), (15, _), (16, _)]) [0, 2, 3, 4, 11, 15, 16] rfl ?_
 refine nk_seq ?_
 refine ew_seq ?_
 refine ew_cond rfl ?_ ?_
 ·intro hc16
  try simp only [decide_eq_true_eq] at hc16
  refine ew_skip ?_
  refine nk_seq ?_
  refine ew_seq ?_
  refine ew_block ?_
  refine ew_seq ?_
  refine rg (.q 0 (.q 1 XT.done)) (by kernel_rfl) (by kernel_rfl) ?_
  refine q_mv rfl rfl rfl ?_
  refine q_as rfl rfl rfl ?_
  refine x_end ?_
  refine nk_cut (e' := [(0, _), (2, _), (3, _), (4, _), (5, _), (11, _), (15, _), (16, _)]) [0, 2, 3, 4, 5, 11, 15, 16] rfl ?_
  refine nk_seq ?_
  refine ew_seq ?_
  refine rg (.q 0 (.q 1 (.q 2 (.q 3 (.q 4 (.h 5 (.q 6 (.q 7 (.q 8 (.q 9 (.q 10 XT.done))))))))))) (by kernel_rfl) (by kernel_rfl) ?_
  refine q_mv rfl rfl rfl ?_
  refine q_nil rfl rfl rfl ?_
  refine q_fa fa_175_0 rfl rfl rfl ?_
  refine q_ld 0 Try.isAgg71 rfl rfl rfl rfl rfl ?_
  refine q_mv rfl rfl rfl ?_
  have hca := CelRead_hc (gc := gc) (gp := gp) (p := p) (at_ := 0) hcs (by omega) (by omega)
  rw [read_down hd (by omega) (by omega)] at hca
  refine h_call Try.call99 (S2 := [_]) rfl rfl rfl (permL [1, 2, 0] rfl) (hca) ?_
  rintro r_ S_ H hl1 ⟨A1, c1, rfl, hcap1, rfl, rfl⟩
  refine ⟨kp0, ?_⟩
  refine x_S (S' := [_, _, _, _]) rfl ?_
  refine q_mv rfl rfl rfl ?_
  refine q_ext rfl rfl rfl rfl ?_
  refine q_ext rfl rfl rfl rfl ?_
  refine q_as rfl rfl rfl ?_
  refine q_as rfl rfl rfl ?_
  refine x_end ?_
  refine nk_cut (e' := [(0, _), (2, _), (3, _), (4, _), (5, _), (6, _), (7, _), (11, _), (15, _), (16, _)]) [0, 2, 3, 4, 5, 6, 7, 11, 15, 16] rfl ?_
  refine nk_seq ?_
  refine ew_seq ?_
  refine ew_seq ?_
  refine rg (.q 0 (.q 1 XT.done)) (by kernel_rfl) (by kernel_rfl) ?_
  refine q_mv rfl rfl rfl ?_
  refine q_ne rfl rfl rfl rfl ?_
  refine x_end ?_
  refine nk_cut (e' := [(0, _), (2, _), (3, _), (4, _), (5, _), (6, _), (7, _), (11, _), (15, _), (16, _), (28, _)]) [0, 2, 3, 4, 5, 6, 7, 11, 15, 16, 28] rfl ?_
  refine nk_seq ?_
  refine ew_cond rfl ?_ ?_
  ·intro hc28
   try simp only [decide_eq_true_eq] at hc28
   refine ew_seq ?_
   refine rg (.q 0 (.q 1 (.q 2 XT.done))) (by kernel_rfl) (by kernel_rfl) ?_
   refine q_mv rfl rfl rfl ?_
   refine q_as (sv := .np) rfl rfl rfl ?_
   refine q_as rfl rfl rfl ?_
   refine x_end ?_
   refine nk_cut (e' := [(0, _), (2, _), (3, _), (4, _), (5, _), (6, _), (7, _), (11, _), (15, _), (16, _), (28, _)]) [0, 2, 3, 4, 5, 6, 7, 11, 15, 16, 28] rfl ?_
   refine nk_seq ?_
   refine ew_perm (S' := [_, _, _, _]) (permL [1, 2, 0, 3] rfl) ?_
   refine ew_retp (r := .tup [_, _]) (S' := [_, _]) (G := [_, _]) rfl rfl (.cons (.tmp rfl) (.cons (.tmp rfl) .nil)) rfl (List.Perm.refl _) ?_
   exact ⟨rfl, rfl, rfl⟩
  ·intro hc28
   try simp only [decide_eq_false_iff_not] at hc28
   exact absurd (by decide) hc28
 ·intro hc16
  try simp only [decide_eq_false_iff_not] at hc16
  exact absurd (by decide) hc16


theorem KOpen_hc {H : Hp} {gc gp : Nat} {cl : Cel} {p : Pow} {a0 a1 a2 a3 : Sli} (hcs : CelS H a0 a1 a2 a3 cl) (hd : p.down = false) :
  HC Try.prog 41 [.p ⟨gc, 0, none⟩] [.box gc 173 (celCells gp a0 a1 a2 a3 cl.writes), .box gp 127 p.cells] H (fun rr S' H' => ∃ gk a', rr = .tup [.p ⟨gk, 0, none⟩, .i 0] ∧ S' = [.box gk 175 (kpCells gc a' (Kp.opn cl p).1.has), .box gc 173 (celCells gp a0 a1 a2 a3 cl.writes), .box gp 127 p.cells] ∧ KpS H' a' a0 a1 a2 a3 (Kp.opn cl p).1 ∧ HLe H H') := by
 refine hc_intro (n := 63) Try.func41 rfl Try.ntmps41 rfl (fun B hB => ?_)
 refine ew_cut (e' := [(0, _)]) [0] rfl ?_
 refine ew_seq ?_
 refine rg (.q 0 (.q 1 XT.done)) (by kernel_rfl) (by kernel_rfl) ?_
 refine q_as (sv := .np) rfl rfl rfl ?_
 refine q_as (sv := .i 0) rfl rfl rfl ?_
 refine x_end ?_
 refine nk_cut (e' := [(0, _), (2, _), (3, _)]) [0, 2, 3] rfl ?_
 refine nk_seq ?_
 refine ew_seq ?_
 refine ew_seq ?_
 refine rg (.q 0 (.q 1 XT.done)) (by kernel_rfl) (by kernel_rfl) ?_
 refine q_mv rfl rfl rfl ?_
 refine q_eq_pn Try.underlying71 rfl rfl rfl rfl ?_
 refine x_end ?_
 refine nk_cut (e' := [(0, _), (2, _), (3, _), (11, _)]) [0, 2, 3, 11] rfl ?_
 refine nk_seq ?_
 refine ew_false rfl ?_
 refine ew_skip ?_
 refine nk_seq ?_
 refine ew_seq ?_
 refine rg (.q 0 (.q 1 (.h 2 (.q 3 XT.done)))) (by kernel_rfl) (by kernel_rfl) ?_
 refine q_mv rfl rfl rfl ?_
 refine q_bld (cs := [_, _, _, _, _, _, _, _, _, _]) bf_175 rfl rfl rfl rfl ?_
 refine h_boxS rfl rfl rfl ?_
 intro g1
 refine ⟨kp0, ?_⟩
 refine q_as rfl rfl rfl ?_
 refine x_end ?_
 refine nk_cut (e' := [(0, _), (2, _), (3, _), (4, _), (11, _)]) [0, 2, 3, 4, 11] rfl ?_
 refine nk_seq ?_
 refine ew_seq ?_
 refine ew_seq ?_
 refine rg (.q 0 XT.done) (by kernel_rfl) (by kernel_rfl) ?_
 refine q_mv (sv := .i 0) rfl rfl rfl ?_
 refine x_end ?_
 refine nk_cut (e' := [(0, _), (2, _), (3, _), (4, _), (11, _), (15, _)]) [0, 2, 3, 4, 11, 15] rfl ?_
 refine nk_seq ?_
 refine ew_block ?_
 let Ev1 : Nat × An → Env := fun ⟨i, a⟩ => [(15, .i (i : Int))]
 let Sv1 : Nat × An → Res := fun ⟨i, a⟩ => [.box g1 175 (kpCells gc a (Kp.opnK cl p i).has), .box gc 173 (celCells gp a0 a1 a2 a3 cl.writes), .box gp 127 p.cells]
 let Gv1 : Nat × An → Hp → Prop := fun ⟨i, a⟩ H' => HLe H H' ∧ (i ≤ 2 ∧ An.ok H' a ∧ a.v = (Kp.opnK cl p i).last)
 let Mv1 : Nat × An → Nat := fun ⟨i, a⟩ => 2 - i
 refine ew_loop (mkE [(0, _), (2, _), (3, _), (4, _), (11, _)] Ev1) (Sv1) Gv1 Mv1 (⟨0, zeroAn⟩ : Nat × An) ⟨rfl, rfl, rfl, rfl, rfl, rfl, trivial⟩ rfl ⟨HLe.refl _, ⟨by omega, zeroAn_ok, rfl⟩⟩ ?_
 rintro ⟨i, a⟩ Hl1 ⟨hl1, hG⟩
 replace hcs := hcs.mono hl1
 obtain ⟨hi, hka, hav⟩ := hG
 refine ew_S (S' := [.box _ _ [_, _, _, _, _, _, _, _, _, _], _, _]) rfl ?_
 refine ew_S (S' := [_, _, _]) rfl ?_
 refine ew_cut (e' := [(15, _), (0, _), (2, _), (3, _), (4, _), (11, _)]) [15, 0, 2, 3, 4, 11] rfl ?_
 refine ew_seq ?_
 refine rg (.q 0 XT.done) (by kernel_rfl) (by kernel_rfl) ?_
 refine q_lt rfl rfl rfl rfl ?_
 refine x_end ?_
 refine nk_cut (e' := [(0, _), (2, _), (3, _), (4, _), (11, _), (15, _), (16, _)]) [0, 2, 3, 4, 11, 15, 16] rfl ?_
 refine nk_seq ?_
 refine ew_seq ?_
 refine ew_cond rfl ?_ ?_
 ·intro hc16
  try simp only [decide_eq_true_eq] at hc16
  refine ew_skip ?_
  refine nk_seq ?_
  refine ew_seq ?_
  refine ew_block ?_
  refine ew_seq ?_
  refine rg (.q 0 (.q 1 XT.done)) (by kernel_rfl) (by kernel_rfl) ?_
  refine q_mv rfl rfl rfl ?_
  refine q_as rfl rfl rfl ?_
  refine x_end ?_
  refine nk_cut (e' := [(0, _), (2, _), (3, _), (4, _), (5, _), (11, _), (15, _), (16, _)]) [0, 2, 3, 4, 5, 11, 15, 16] rfl ?_
  refine nk_seq ?_
  refine ew_seq ?_
  refine rg (.q 0 (.q 1 (.q 2 (.q 3 (.q 4 (.h 5 (.q 6 (.q 7 (.q 8 (.q 9 (.q 10 XT.done))))))))))) (by kernel_rfl) (by kernel_rfl) ?_
  refine q_mv rfl rfl rfl ?_
  refine q_nil rfl rfl rfl ?_
  refine q_fa fa_175_0 rfl rfl rfl ?_
  refine q_ld 0 Try.isAgg71 rfl rfl rfl rfl rfl ?_
  refine q_mv rfl rfl rfl ?_
  have hca := CelRead_hc (gc := gc) (gp := gp) (p := p) (at_ := (i : Int)) hcs (by omega) (by omega)
  rw [read_ok hd (by omega) (by omega)] at hca
  refine h_call Try.call99 (S2 := [_]) rfl rfl rfl (permL [1, 2, 0] rfl) (hca) ?_
  rintro r_ S_ Hl1 hl2 ⟨A1, c1, rfl, hcap1, rfl, rfl⟩
  refine ⟨kp0, ?_⟩
  refine x_S (S' := [_, _, _, _]) rfl ?_
  refine q_mv rfl rfl rfl ?_
  refine q_ext rfl rfl rfl rfl ?_
  refine q_ext rfl rfl rfl rfl ?_
  refine q_as rfl rfl rfl ?_
  refine q_as rfl rfl rfl ?_
  refine x_end ?_
  refine nk_cut (e' := [(0, _), (2, _), (3, _), (4, _), (5, _), (6, _), (7, _), (11, _), (15, _), (16, _)]) [0, 2, 3, 4, 5, 6, 7, 11, 15, 16] rfl ?_
  refine nk_seq ?_
  refine ew_seq ?_
  refine ew_seq ?_
  refine rg (.q 0 (.q 1 XT.done)) (by kernel_rfl) (by kernel_rfl) ?_
  refine q_mv rfl rfl rfl ?_
  refine q_ne rfl rfl rfl rfl ?_
  refine x_end ?_
  refine nk_cut (e' := [(0, _), (2, _), (3, _), (4, _), (5, _), (6, _), (7, _), (11, _), (15, _), (16, _), (28, _)]) [0, 2, 3, 4, 5, 6, 7, 11, 15, 16, 28] rfl ?_
  refine nk_seq ?_
  refine ew_cond rfl ?_ ?_
  ·intro hc28
   try simp only [decide_eq_true_eq] at hc28
   exact absurd rfl hc28
  ·intro hc28
   try simp only [decide_eq_false_iff_not] at hc28
   refine ew_skip ?_
   refine nk_seq ?_
   refine ew_seq ?_
   refine rg (.q 0 (.h 1 (.q 2 (.q 3 (.q 4 (.h 5 (.h 6 (.q 7 XT.done)))))))) (by kernel_rfl) (by kernel_rfl) ?_
   refine q_mv rfl rfl rfl ?_
   refine pubX (S' := [_, _, _]) 0 rfl rfl ?_
   intro Hp1 hp1 hr1
   replace hcs := hcs.mono hp1
   replace hka := hka.mono hp1
   refine h_call0 Try.call33 rfl rfl rfl (AGet_hc (⟨hr1, rfl, hcap1⟩ : BS _ _ _ _ (pad (cl.get i))) (by rw [pad_len (get_lim hcs _)]; decide)) ?_
   rintro r_ S_ Hn1 hl3 ⟨an1, rfl, ha1, hav1, rfl, hle1⟩
   replace hcs := hcs.mono hl3
   replace hka := hka.mono hl3
   replace hr1 := hr1.mono hl3
   refine ⟨kp0, ?_⟩
   refine x_S (S' := [_, _, _]) rfl ?_
   refine q_mv rfl rfl rfl ?_
   refine q_ext rfl rfl rfl rfl ?_
   refine q_ext rfl rfl rfl rfl ?_
   refine h_alloc (cs := [_, _, _, _, _, _, _, _]) Try.zeroValue60 rfl rfl (zc_60 Try.zeroValue60) ?_
   intro g3
   refine ⟨kp0, ?_⟩
   refine h_stS (cs' := [_, _, _, _, _, _, _, _]) (S' := [_, _, _, _]) 0 Try.sizeOf60 rfl rfl rfl rfl rfl (allOne rfl) rfl (leb rfl) rfl rfl kp0 ?_
   refine q_as rfl rfl rfl ?_
   refine x_end ?_
   refine nk_cut (e' := [(0, _), (2, _), (3, _), (4, _), (5, _), (6, _), (7, _), (8, _), (9, _), (11, _), (15, _), (16, _), (28, _)]) [0, 2, 3, 4, 5, 6, 7, 8, 9, 11, 15, 16, 28] rfl ?_
   refine nk_seq ?_
   refine ew_seq ?_
   by_cases e1 : (Anc.dec (pad (cl.get i))).2 = 0
   ·skip
    by_cases e2 : (Kp.opnK cl p i).has = false
    ·skip
     refine rd (by kernel_rfl) [0, 1, 2, 3, 4, 5, 6, 7, 8, 9, 10, 11, 12, 13, 14, 15, 16, 17, 18] [0, 1, 2, 3, 4, 5, 6, 7, 8, 9, 10, 11, 12, 13, 14, 15, 16, 17, 18] (.q 0 (.q 1 (.q 2 (.q 3 (.q 4 (.q 5 (.q 6 (.q 7 (.q 8 (.q 9 (.q 10 (.q 11 (.q 12 (.q 13 (.q 14 (.q 15 (.q 16 (.q 17 (.q 18 XT.done))))))))))))))))))) (by kernel_rfl) (by kernel_rfl) (keepL _ [0, 3]) (keepL_sub _ _) ?_
     refine q_mv rfl rfl rfl ?_
     refine q_eq rfl rfl rfl rfl ?_
     refine x_T (decide_eq_true e1) ?_
     refine q_mv rfl rfl rfl ?_
     refine q_mv rfl rfl rfl ?_
     refine q_nil rfl rfl rfl ?_
     refine q_fa fa_175_2 rfl rfl rfl ?_
     refine q_ld 1 Try.isAgg4 rfl rfl rfl rfl rfl ?_
     refine q_not rfl rfl rfl ?_
     refine x_T (by simp [e2]) ?_
     refine q_mv rfl rfl rfl ?_
     iterate 8 refine q_skip rfl rfl ?_
     refine q_pkT rfl rfl rfl rfl ?_
     refine q_pkT rfl rfl rfl rfl ?_
     refine x_end ?_
     refine nk_cut (e' := [(0, _), (2, _), (3, _), (4, _), (5, _), (6, _), (7, _), (8, _), (9, _), (11, _), (15, _), (16, _), (28, _), (53, _)]) [0, 2, 3, 4, 5, 6, 7, 8, 9, 11, 15, 16, 28, 53] rfl ?_
     refine nk_seq ?_
     refine ew_true rfl ?_
     refine rg (.q 0 (.q 1 (.q 2 (.q 3 (.q 4 (.h 5 (.q 6 (.q 7 (.h 8 XT.done))))))))) (by kernel_rfl) (by kernel_rfl) ?_
     refine q_mv rfl rfl rfl ?_
     refine q_mv rfl rfl rfl ?_
     refine q_ldS 0 Try.isAgg60 Try.sizeOf60 rfl rfl rfl rfl rfl ?_
     refine q_nil rfl rfl rfl ?_
     refine q_fa fa_175_1 rfl rfl rfl ?_
     refine h_stS (cs' := [_, _, _, _, _, _, _, _, _, _]) (S' := [_, _, _, _]) 3 Try.sizeOf60 rfl rfl rfl rfl rfl (allOne rfl) rfl (leb rfl) rfl rfl kp0 ?_
     refine q_nil rfl rfl rfl ?_
     refine q_fa fa_175_2 rfl rfl rfl ?_
     refine h_st (sv := .b true) (cs' := [_, _, _, _, _, _, _, _, _, _]) (S' := [_, _, _, _]) 3 Try.sizeOf4 rfl rfl rfl rfl rfl rfl (ltb rfl) rfl rfl kp0 ?_
     refine x_end ?_
     refine nk_cut (e' := [(0, _), (2, _), (3, _), (4, _), (5, _), (6, _), (7, _), (8, _), (9, _), (11, _), (15, _), (16, _), (28, _), (53, _)]) [0, 2, 3, 4, 5, 6, 7, 8, 9, 11, 15, 16, 28, 53] rfl ?_
     refine nk_blk ?_
     refine nk_seq ?_
     refine rg (.q 0 (.q 1 XT.done)) (by kernel_rfl) (by kernel_rfl) ?_
     refine q_add rfl rfl rfl rfl (by omega) (by omega) ?_
     refine q_mv rfl rfl rfl ?_
     refine x_end ?_
     refine nk_cut (e' := [(0, _), (2, _), (3, _), (4, _), (5, _), (6, _), (7, _), (8, _), (9, _), (11, _), (15, _), (16, _), (28, _), (53, _)]) [0, 2, 3, 4, 5, 6, 7, 8, 9, 11, 15, 16, 28, 53] rfl ?_
     have hse : Kp.opnK cl p (i + 1) = ⟨(Kp.opnK cl p i).c, (Kp.opnK cl p i).p, (Anc.dec (pad (cl.get i))).1, true⟩ := see_yes e1 (.inl e2)
     refine nk_perm (S' := [_, _, _, _]) (permL [3, 1, 2, 0] rfl) ?_
     refine nk_drop (S := [_, _, _]) (S' := [_]) ?_
     refine nk_round (μ := Mv1) (i := (i, a)) (S := Sv1) (G := Gv1) (⟨i + 1, an1⟩ : Nat × An) ?_ ?_ ?_ ?_
     ·exact ⟨rfl, rfl, rfl, rfl, rfl, rfl, trivial⟩
     ·exact (by dsimp only [Sv1]; rw [hse]; rfl)
     ·exact ⟨((hl1.trans hp1).trans hl3), ⟨by omega, ha1, by rw [hse]; exact hav1⟩⟩
     ·dsimp only [Mv1]; omega
    ·skip
     refine rd (by kernel_rfl) [0, 1, 2, 3, 4, 5, 6, 7, 8, 9, 10, 11, 12, 13, 14, 15, 16, 17, 18] [0, 1, 2, 3, 4, 5, 6, 7, 8, 9, 10, 11, 12, 13, 14, 15, 16, 17, 18] (.q 0 (.q 1 (.q 2 (.q 3 (.q 4 (.q 5 (.q 6 (.q 7 (.q 8 (.q 9 (.q 10 (.q 11 (.q 12 (.q 13 (.q 14 (.q 15 (.q 16 (.q 17 (.q 18 XT.done))))))))))))))))))) (by kernel_rfl) (by kernel_rfl) (keepL _ [0, 3]) (keepL_sub _ _) ?_
     refine q_mv rfl rfl rfl ?_
     refine q_eq rfl rfl rfl rfl ?_
     refine x_T (decide_eq_true e1) ?_
     refine q_mv rfl rfl rfl ?_
     refine q_mv rfl rfl rfl ?_
     refine q_nil rfl rfl rfl ?_
     refine q_fa fa_175_2 rfl rfl rfl ?_
     refine q_ld 1 Try.isAgg4 rfl rfl rfl rfl rfl ?_
     refine q_not rfl rfl rfl ?_
     refine x_F (by simp [e2]) ?_
     refine q_mv rfl rfl rfl ?_
     refine q_fa fa_60_0 rfl rfl rfl ?_
     refine q_ld 0 Try.isAgg3 rfl rfl rfl rfl rfl ?_
     refine q_mv rfl rfl rfl ?_
     refine q_nil rfl rfl rfl ?_
     refine q_fa fa_175_1 rfl rfl rfl ?_
     refine q_fa fa_60_0 rfl rfl rfl ?_
     refine q_ld 1 Try.isAgg3 rfl rfl rfl rfl rfl ?_
     refine q_gt rfl rfl rfl rfl ?_
     refine q_pkF rfl rfl rfl rfl ?_
     refine q_pkT rfl rfl rfl rfl ?_
     refine x_end ?_
     refine nk_cut (e' := [(0, _), (2, _), (3, _), (4, _), (5, _), (6, _), (7, _), (8, _), (9, _), (11, _), (15, _), (16, _), (28, _), (53, _)]) [0, 2, 3, 4, 5, 6, 7, 8, 9, 11, 15, 16, 28, 53] rfl ?_
     refine nk_seq ?_
     refine ew_cond rfl ?_ ?_
     ·intro hc53
      try simp only [decide_eq_true_eq] at hc53
      refine rg (.q 0 (.q 1 (.q 2 (.q 3 (.q 4 (.h 5 (.q 6 (.q 7 (.h 8 XT.done))))))))) (by kernel_rfl) (by kernel_rfl) ?_
      refine q_mv rfl rfl rfl ?_
      refine q_mv rfl rfl rfl ?_
      refine q_ldS 0 Try.isAgg60 Try.sizeOf60 rfl rfl rfl rfl rfl ?_
      refine q_nil rfl rfl rfl ?_
      refine q_fa fa_175_1 rfl rfl rfl ?_
      refine h_stS (cs' := [_, _, _, _, _, _, _, _, _, _]) (S' := [_, _, _, _]) 3 Try.sizeOf60 rfl rfl rfl rfl rfl (allOne rfl) rfl (leb rfl) rfl rfl kp0 ?_
      refine q_nil rfl rfl rfl ?_
      refine q_fa fa_175_2 rfl rfl rfl ?_
      refine h_st (sv := .b true) (cs' := [_, _, _, _, _, _, _, _, _, _]) (S' := [_, _, _, _]) 3 Try.sizeOf4 rfl rfl rfl rfl rfl rfl (ltb rfl) rfl rfl kp0 ?_
      refine x_end ?_
      refine nk_cut (e' := [(0, _), (2, _), (3, _), (4, _), (5, _), (6, _), (7, _), (8, _), (9, _), (11, _), (15, _), (16, _), (28, _), (53, _)]) [0, 2, 3, 4, 5, 6, 7, 8, 9, 11, 15, 16, 28, 53] rfl ?_
      refine nk_blk ?_
      refine nk_seq ?_
      refine rg (.q 0 (.q 1 XT.done)) (by kernel_rfl) (by kernel_rfl) ?_
      refine q_add rfl rfl rfl rfl (by omega) (by omega) ?_
      refine q_mv rfl rfl rfl ?_
      refine x_end ?_
      refine nk_cut (e' := [(0, _), (2, _), (3, _), (4, _), (5, _), (6, _), (7, _), (8, _), (9, _), (11, _), (15, _), (16, _), (28, _), (53, _)]) [0, 2, 3, 4, 5, 6, 7, 8, 9, 11, 15, 16, 28, 53] rfl ?_
      have hse : Kp.opnK cl p (i + 1) = ⟨(Kp.opnK cl p i).c, (Kp.opnK cl p i).p, (Anc.dec (pad (cl.get i))).1, true⟩ := see_yes e1 (.inr (by rw [← hav, ← hav1]; exact hc53))
      refine nk_perm (S' := [_, _, _, _]) (permL [3, 1, 2, 0] rfl) ?_
      refine nk_drop (S := [_, _, _]) (S' := [_]) ?_
      refine nk_round (μ := Mv1) (i := (i, a)) (S := Sv1) (G := Gv1) (⟨i + 1, an1⟩ : Nat × An) ?_ ?_ ?_ ?_
      ·exact ⟨rfl, rfl, rfl, rfl, rfl, rfl, trivial⟩
      ·exact (by dsimp only [Sv1]; rw [hse]; rfl)
      ·exact ⟨((hl1.trans hp1).trans hl3), ⟨by omega, ha1, by rw [hse]; exact hav1⟩⟩
      ·dsimp only [Mv1]; omega
     ·intro hc53
      try simp only [decide_eq_false_iff_not] at hc53
      refine ew_skip ?_
      refine nk_blk ?_
      refine nk_seq ?_
      refine rg (.q 0 (.q 1 XT.done)) (by kernel_rfl) (by kernel_rfl) ?_
      refine q_add rfl rfl rfl rfl (by omega) (by omega) ?_
      refine q_mv rfl rfl rfl ?_
      refine x_end ?_
      refine nk_cut (e' := [(0, _), (2, _), (3, _), (4, _), (5, _), (6, _), (7, _), (8, _), (9, _), (11, _), (15, _), (16, _), (28, _), (53, _)]) [0, 2, 3, 4, 5, 6, 7, 8, 9, 11, 15, 16, 28, 53] rfl ?_
      have hse : Kp.opnK cl p (i + 1) = Kp.opnK cl p i := see_no2 e2 (by rw [← hav, ← hav1]; exact hc53)
      refine nk_perm (S' := [_, _, _, _]) (permL [3, 1, 2, 0] rfl) ?_
      refine nk_drop (S := [_, _, _]) (S' := [_]) ?_
      refine nk_round (μ := Mv1) (i := (i, a)) (S := Sv1) (G := Gv1) (⟨i + 1, a⟩ : Nat × An) ?_ ?_ ?_ ?_
      ·exact ⟨rfl, rfl, rfl, rfl, rfl, rfl, trivial⟩
      ·exact (by dsimp only [Sv1]; rw [hse]; rfl)
      ·exact ⟨((hl1.trans hp1).trans hl3), ⟨by omega, hka, by rw [hse]; exact hav⟩⟩
      ·dsimp only [Mv1]; omega
   ·skip
    refine rd (by kernel_rfl) [0, 1, 2, 3, 4, 5, 6, 7, 8, 9, 10, 11, 12, 13, 14, 15, 16, 17, 18] [0, 1, 2, 3, 4, 5, 6, 7, 8, 9, 10, 11, 12, 13, 14, 15, 16, 17, 18] (.q 0 (.q 1 (.q 2 (.q 3 (.q 4 (.q 5 (.q 6 (.q 7 (.q 8 (.q 9 (.q 10 (.q 11 (.q 12 (.q 13 (.q 14 (.q 15 (.q 16 (.q 17 (.q 18 XT.done))))))))))))))))))) (by kernel_rfl) (by kernel_rfl) (keepL _ [0, 3]) (keepL_sub _ _) ?_
    refine q_mv rfl rfl rfl ?_
    refine q_eq rfl rfl rfl rfl ?_
    refine x_F (decide_eq_false e1) ?_
    refine q_mv rfl rfl rfl ?_
    iterate 15 refine q_skip rfl rfl ?_
    refine q_pkF rfl rfl rfl rfl ?_
    refine x_end ?_
    refine nk_cut (e' := [(0, _), (2, _), (3, _), (4, _), (5, _), (6, _), (7, _), (8, _), (9, _), (11, _), (15, _), (16, _), (28, _), (53, _)]) [0, 2, 3, 4, 5, 6, 7, 8, 9, 11, 15, 16, 28, 53] rfl ?_
    refine nk_seq ?_
    refine ew_false rfl ?_
    refine ew_skip ?_
    refine nk_blk ?_
    refine nk_seq ?_
    refine rg (.q 0 (.q 1 XT.done)) (by kernel_rfl) (by kernel_rfl) ?_
    refine q_add rfl rfl rfl rfl (by omega) (by omega) ?_
    refine q_mv rfl rfl rfl ?_
    refine x_end ?_
    refine nk_cut (e' := [(0, _), (2, _), (3, _), (4, _), (5, _), (6, _), (7, _), (8, _), (9, _), (11, _), (15, _), (16, _), (28, _), (53, _)]) [0, 2, 3, 4, 5, 6, 7, 8, 9, 11, 15, 16, 28, 53] rfl ?_
    have hse : Kp.opnK cl p (i + 1) = Kp.opnK cl p i := see_no1 e1
    refine nk_perm (S' := [_, _, _, _]) (permL [3, 1, 2, 0] rfl) ?_
    refine nk_drop (S := [_, _, _]) (S' := [_]) ?_
    refine nk_round (μ := Mv1) (i := (i, a)) (S := Sv1) (G := Gv1) (⟨i + 1, a⟩ : Nat × An) ?_ ?_ ?_ ?_
    ·exact ⟨rfl, rfl, rfl, rfl, rfl, rfl, trivial⟩
    ·exact (by dsimp only [Sv1]; rw [hse]; rfl)
    ·exact ⟨((hl1.trans hp1).trans hl3), ⟨by omega, hka, by rw [hse]; exact hav⟩⟩
    ·dsimp only [Mv1]; omega
 ·intro hc16
  try simp only [decide_eq_false_iff_not] at hc16
  refine ew_exit _ rfl ?_
  refine nk_seq ?_
  refine ew_seq ?_
  refine rg (.q 0 (.q 1 (.q 2 XT.done))) (by kernel_rfl) (by kernel_rfl) ?_
  refine q_mv rfl rfl rfl ?_
  refine q_as rfl rfl rfl ?_
  refine q_as (sv := .i 0) rfl rfl rfl ?_
  refine x_end ?_
  refine nk_cut (e' := [(0, _), (2, _), (3, _), (4, _), (11, _), (15, _), (16, _)]) [0, 2, 3, 4, 11, 15, 16] rfl ?_
  refine nk_seq ?_
  refine ew_retp (r := .tup [_, _]) (S' := [_, _, _]) (G := []) rfl rfl (.cons (.tmp rfl) (.cons (.tmp rfl) .nil)) rfl (List.Perm.refl _) ?_
  have hi2 : i = 2 := by omega
  subst hi2
  rw [Kp.opnK_two hd]
  exact ⟨_, a, rfl, rfl, ⟨hka, hav, by rw [(Kp.opnK_cp cl p 2).1]; exact hcs⟩, hl1⟩

end Go.GW
