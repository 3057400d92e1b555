/- Contracts of functions of the loaded program, printed by our own program gen.py. -/
import Derived.Test.YtcchamnagcpaiaaAncC
namespace Go.GW
open Go Go.Proofs


structure KC (H : Hp) (ks l : List Kk) : Prop where
  v : ks.map Kk.v = l.map Kk.v
  ok : ∀ x ∈ ks, x.k.ok H
  n : ∀ x ∈ ks, x.k.n ≤ 1099511627776
theorem KC.mono {H H' : Hp} {ks l : List Kk} (h : KC H ks l) (hle : HLe H H') : KC H' ks l := ⟨h.v, fun x hx => BS.mono (h.ok x hx) hle, h.n⟩
theorem KC.nil {H : Hp} : KC H [] [] := ⟨rfl, by simp, by simp⟩
theorem KC.len {H : Hp} {ks l : List Kk} (h : KC H ks l) : ks.length = l.length := by have := congrArg List.length h.v; simpa using this
theorem KC.snoc {H : Hp} {ks l : List Kk} {k : Nat} (h : KC H ks (l.take k)) (hk : k < l.length) {A : Option Addr} {n c : Nat} {key : List UInt8} (hb : BS H A n c key) (hkey : key = (l.getD k default).k.xs) (hn : n ≤ 1099511627776) :
    KC H (ks ++ [⟨(l.getD k default).b, (l.getD k default).g, ⟨A, n, c, key⟩⟩]) (l.take (k + 1)) := by
  subst hkey
  have h1 : l.take (k + 1) = l.take k ++ [l.getD k default] := by rw [List.take_succ_eq_append_getElem hk]; simp [hk]
  refine ⟨by rw [h1, List.map_append, List.map_append, h.v]; rfl, fun x hx => ?_, fun x hx => ?_⟩
  · rcases List.mem_append.1 hx with hx | hx
    · exact h.ok x hx
    · simp only [List.mem_singleton] at hx
      subst hx
      exact hb
  · rcases List.mem_append.1 hx with hx | hx
    · exact h.n x hx
    · simp only [List.mem_singleton] at hx
      subst hx
      exact hn

theorem ACopy_hc {H : Hp} {a : An} (ha : An.ok H a) :
  HC Try.prog 39 [.agg a.cells] [] H (fun rr S' H' => ∃ (a' : An), rr = .agg a'.cells ∧ An.ok H' a' ∧ a'.v = a.v ∧ S' = [] ∧ HLe H H') := by
 have hml : a.m.xs.length = a.m.n := BS.len ha.m
 have hmn := ha.lm
 have hkl := ha.ks.len
 have hkn := ha.lk.n
 have ham : BS H a.m.A a.m.n a.m.c a.m.xs := ha.m
 refine hc_intro (n := 33) Try.func39 rfl Try.ntmps39 rfl (fun B hB => ?_)
 refine ew_cut (e' := [(0, _)]) [0] rfl ?_
 refine ew_sub (e' := [(0, .agg [_, _, _, _, _, _, _, _])]) ⟨rfl, trivial⟩ ?_
 refine ew_seq ?_
 refine rg (.h 0 (.h 1 XT.done)) (by kernel_rfl) (by kernel_rfl) ?_
 refine h_boxS rfl rfl rfl ?_
 intro g1
 refine ⟨kp0, ?_⟩
 refine h_alloc (cs := [_, _, _, _, _, _, _, _]) Try.zeroValue60 rfl rfl (zc_60 Try.zeroValue60) ?_
 intro g2
 refine ⟨kp0, ?_⟩
 refine x_end ?_
 refine nk_cut (e' := [(0, _), (1, _), (2, _)]) [0, 1, 2] rfl ?_
 refine nk_seq ?_
 refine ew_seq ?_
 refine rg (.q 0 (.q 1 (.h 2 (.h 3 (.q 4 (.h 5 XT.done)))))) (by kernel_rfl) (by kernel_rfl) ?_
 refine q_fa fa_60_6 rfl rfl rfl ?_
 refine q_ld 1 Try.isAgg26 rfl rfl rfl rfl rfl ?_
 refine h_bs (cs := [_]) Try.underlying77 info_26 rfl rfl rfl rfl rfl rfl rfl rfl rfl (by decide) ?_
 intro g3
 refine ⟨kp0, ?_⟩
 refine pubX (S' := [_, _]) 0 rfl rfl ?_
 intro Hp1 hp1 hr1
 replace ha := ha.mono hp1
 replace ham := ham.mono hp1
 refine h_call0 Try.call80 rfl rfl rfl (Join_hc (one_sli hr1 ham) (by rw [catB_one, ham.len]; omega) (by omega)) ?_
 rintro r_ S_ Hp1 hl1 ⟨A1, c1, rfl, rfl, hcap1, rfl⟩
 refine ⟨kp0, ?_⟩
 refine x_S (S' := [_, _, _]) rfl ?_
 refine q_fa fa_60_6 rfl rfl rfl ?_
 refine h_st (cs' := [_, _, _, _, _, _, _, _]) (S' := [_, _, _]) 2 Try.sizeOf26 rfl rfl rfl rfl rfl rfl (ltb rfl) rfl rfl kp0 ?_
 refine x_end ?_
 refine nk_cut (e' := [(0, _), (1, _), (2, _)]) [0, 1, 2] rfl ?_
 refine pubN (S' := [_, _]) 0 rfl rfl ?_
 intro Hp2 hp2 hr2
 replace ha := ha.mono hp2
 replace ham := ham.mono hp2
 replace hr1 := hr1.mono hp2
 have hma : BS Hp2 A1 (catB [⟨a.m.A, a.m.n, a.m.c, a.m.xs⟩]).length c1 (catB [⟨a.m.A, a.m.n, a.m.c, a.m.xs⟩]) := ⟨hr2, rfl, hcap1⟩
 refine nk_seq ?_
 refine ew_seq ?_
 refine rg (.q 0 (.q 1 (.q 2 XT.done))) (by kernel_rfl) (by kernel_rfl) ?_
 refine q_fa fa_60_7 rfl rfl rfl ?_
 refine q_ld 1 Try.isAgg58 rfl rfl rfl rfl rfl ?_
 refine q_as rfl rfl rfl ?_
 refine x_end ?_
 refine nk_cut (e' := [(0, _), (1, _), (2, _), (3, _)]) [0, 1, 2, 3] rfl ?_
 refine nk_seq ?_
 refine ew_seq ?_
 refine rg (.q 0 (.h 1 XT.done)) (by kernel_rfl) (by kernel_rfl) ?_
 refine q_fa fa_60_7 rfl rfl rfl ?_
 refine h_st (sv := .sl none 0 0) (cs' := [_, _, _, _, _, _, _, _]) (S' := [_, _]) 1 Try.sizeOf58 rfl rfl rfl rfl rfl rfl (ltb rfl) rfl rfl kp0 ?_
 refine x_end ?_
 refine nk_cut (e' := [(0, _), (1, _), (2, _), (3, _)]) [0, 1, 2, 3] rfl ?_
 refine nk_seq ?_
 refine ew_seq ?_
 refine ew_seq ?_
 refine ew_nil 153 ?_
 refine rg (.q 0 (.q 1 (.q 2 XT.done))) (by kernel_rfl) (by kernel_rfl) ?_
 refine q_mv rfl rfl rfl ?_
 refine q_len Try.underlying58 rfl rfl rfl ?_
 refine q_mv (sv := .i 0) rfl rfl rfl ?_
 refine x_end ?_
 refine nk_cut (e' := [(0, _), (1, _), (2, _), (3, _), (14, _), (15, _), (16, _)]) [0, 1, 2, 3, 14, 15, 16] rfl ?_
 refine nk_seq ?_
 refine ew_block ?_
 refine ew_perm (S' := [_, _, _]) (permL [0, 2, 1] rfl) ?_
 let Ev1 : Nat × Option Addr × Nat × List Kk → Env := fun ⟨k, A3, c3, ks⟩ => [(16, .i (k : Int))]
 let Sv1 : Nat × Option Addr × Nat × List Kk → Res := fun ⟨k, A3, c3, ks⟩ => [.own A3 153 (kcells ks) (c3 * 3), .box g1 60 [.i a.seq, .i a.epoch, .i a.given_, .i a.root, .i a.rep, .i a.pending, .sl A1 (catB [⟨a.m.A, a.m.n, a.m.c, a.m.xs⟩]).length c1, .sl A3 k c3], .box g2 60 [.i 0, .i 0, .i 0, .i 0, .i 0, .i 0, .sl none 0 0, .sl none 0 0]]
 let Gv1 : Nat × Option Addr × Nat × List Kk → Hp → Prop := fun ⟨k, A3, c3, ks⟩ H' => HLe Hp2 H' ∧ (k ≤ a.n ∧ k ≤ c3 ∧ KC H' ks (a.ks.take k))
 let Mv1 : Nat × Option Addr × Nat × List Kk → Nat := fun ⟨k, A3, c3, ks⟩ => a.n - k
 refine ew_loop (mkE [(0, _), (1, _), (2, _), (3, _), (14, _), (15, _)] Ev1) (Sv1) Gv1 Mv1 (⟨0, none, 0, []⟩ : Nat × Option Addr × Nat × List Kk) ⟨rfl, rfl, rfl, rfl, rfl, rfl, rfl, trivial⟩ rfl ⟨HLe.refl _, ⟨by omega, by omega, KC.nil⟩⟩ ?_
 rintro ⟨k, A3, c3, ks⟩ Hl1 ⟨hl2, hG⟩
 replace ha := ha.mono hl2
 replace ham := ham.mono hl2
 replace hr1 := hr1.mono hl2
 replace hma := hma.mono hl2
 obtain ⟨hk, hkc, hkd⟩ := hG
 refine ew_S (S' := [_, _, _]) rfl ?_
 refine ew_cut (e' := [(16, _), (0, _), (1, _), (2, _), (3, _), (14, _), (15, _)]) [16, 0, 1, 2, 3, 14, 15] rfl ?_
 refine ew_seq ?_
 refine rg (.q 0 XT.done) (by kernel_rfl) (by kernel_rfl) ?_
 refine q_lt rfl rfl rfl rfl ?_
 refine x_end ?_
 refine nk_cut (e' := [(0, _), (1, _), (2, _), (3, _), (14, _), (15, _), (16, _), (17, _)]) [0, 1, 2, 3, 14, 15, 16, 17] rfl ?_
 refine nk_seq ?_
 refine ew_seq ?_
 refine ew_cond rfl ?_ ?_
 ·intro hc17
  try simp only [decide_eq_true_eq] at hc17
  have hks := hkd.len
  rw [List.length_take] at hks
  have hzn := ha.lk.at_ k
  refine ew_skip ?_
  refine nk_seq ?_
  refine ew_seq ?_
  refine ew_block ?_
  refine ew_seq ?_
  refine rg (.q 0 (.q 1 (.h 2 (.h 3 XT.done)))) (by kernel_rfl) (by kernel_rfl) ?_
  refine q_ixs Try.underlying58 Try.sizeOf153 rfl rfl rfl rfl rfl (ha.ks.ne (by omega)) (by omega) (by omega) ?_
  refine q_ldSr Try.isAgg153 Try.sizeOf153 rfl rfl rfl (ha.ks.get (j := k) (by omega)) rfl ?_
  refine h_alloc (cs := [_, _, _]) Try.zeroValue153 rfl rfl (zc_153 Try.zeroValue153) ?_
  intro g5
  refine ⟨kp0, ?_⟩
  refine h_stS (cs' := [_, _, _]) (S' := [_, _, _, _]) 0 Try.sizeOf153 rfl rfl rfl rfl rfl (allOne rfl) rfl (leb rfl) rfl rfl kp0 ?_
  refine x_end ?_
  refine nk_cut (e' := [(0, _), (1, _), (2, _), (3, _), (5, _), (14, _), (15, _), (16, _), (17, _)]) [0, 1, 2, 3, 5, 14, 15, 16, 17] rfl ?_
  refine nk_seq ?_
  refine ew_seq ?_
  refine rg (.q 0 (.q 1 (.h 2 (.h 3 (.q 4 (.h 5 XT.done)))))) (by kernel_rfl) (by kernel_rfl) ?_
  refine q_fa fa_153_2 rfl rfl rfl ?_
  refine q_ld 0 Try.isAgg26 rfl rfl rfl rfl rfl ?_
  refine h_bs (cs := [_]) Try.underlying77 info_26 rfl rfl rfl rfl rfl rfl rfl rfl rfl (by decide) ?_
  intro g6
  refine ⟨kp0, ?_⟩
  refine pubX (S' := [_, _, _, _]) 0 rfl rfl ?_
  intro Hp3 hp3 hr3
  replace ha := ha.mono hp3
  replace ham := ham.mono hp3
  replace hr1 := hr1.mono hp3
  replace hma := hma.mono hp3
  replace hkd := hkd.mono hp3
  have hzk : BS Hp3 (a.ks.getD k default).k.A (a.ks.getD k default).k.n (a.ks.getD k default).k.c (a.ks.getD k default).k.xs := ha.ks.at_ (j := k) (by omega)
  have hzl := hzk.len
  refine h_call0 Try.call80 rfl rfl rfl (Join_hc (one_sli hr3 hzk) (by rw [catB_one, hzk.len]; omega) (by omega)) ?_
  rintro r_ S_ Hp3 hl3 ⟨A2, c2, rfl, rfl, hcap2, rfl⟩
  refine ⟨kp0, ?_⟩
  refine x_S (S' := [_, _, _, _, _]) rfl ?_
  refine q_fa fa_153_2 rfl rfl rfl ?_
  refine h_st (cs' := [_, _, _]) (S' := [_, _, _, _, _]) 1 Try.sizeOf26 rfl rfl rfl rfl rfl rfl (ltb rfl) rfl rfl kp0 ?_
  refine x_end ?_
  refine nk_cut (e' := [(0, _), (1, _), (2, _), (3, _), (5, _), (14, _), (15, _), (16, _), (17, _)]) [0, 1, 2, 3, 5, 14, 15, 16, 17] rfl ?_
  refine pubN (S' := [_, _, _, _]) 0 rfl rfl ?_
  intro Hp4 hp4 hr4
  replace ha := ha.mono hp4
  replace ham := ham.mono hp4
  replace hr1 := hr1.mono hp4
  replace hma := hma.mono hp4
  replace hkd := hkd.mono hp4
  replace hr3 := hr3.mono hp4
  have hke : BS Hp4 A2 (catB [⟨(a.ks.getD k default).k.A, (a.ks.getD k default).k.n, (a.ks.getD k default).k.c, (a.ks.getD k default).k.xs⟩]).length c2 (catB [⟨(a.ks.getD k default).k.A, (a.ks.getD k default).k.n, (a.ks.getD k default).k.c, (a.ks.getD k default).k.xs⟩]) := ⟨hr4, rfl, hcap2⟩
  refine nk_seq ?_
  refine rg (.q 0 (.q 1 (.q 2 (.h 3 (.h 4 (.q 5 (.h 6 XT.done))))))) (by kernel_rfl) (by kernel_rfl) ?_
  refine q_fa fa_60_7 rfl rfl rfl ?_
  refine q_ld 2 Try.isAgg58 rfl rfl rfl rfl rfl ?_
  refine q_ldS 0 Try.isAgg153 Try.sizeOf153 rfl rfl rfl rfl rfl ?_
  refine h_bs (cs := [_, _, _]) Try.underlying58 info_153 rfl rfl rfl rfl rfl rfl rfl rfl rfl (by decide) ?_
  intro g8
  refine ⟨kp0, ?_⟩
  refine h_appO (sz := 3) (S1 := [_, _, _, _]) 0 1 Try.underlying58 info_153 rfl rfl rfl (by decide) rfl rfl rfl rfl rfl rfl rfl rfl (by rw [kcells_len]; omega) (by omega) rfl (allOne rfl) (by simp only [by_153]; omega) (by omega) ?_
  intro A3 c3 hcap3
  refine ⟨kp0, ?_⟩
  refine x_S (S' := [_, _, _, _]) rfl ?_
  refine q_fa fa_60_7 rfl rfl rfl ?_
  refine h_st (cs' := [_, _, _, _, _, _, _, _]) (S' := [_, _, _, _]) 2 Try.sizeOf58 rfl rfl rfl rfl rfl rfl (ltb rfl) rfl rfl kp0 ?_
  refine x_end ?_
  refine nk_cut (e' := [(0, _), (1, _), (2, _), (3, _), (5, _), (14, _), (15, _), (16, _), (17, _)]) [0, 1, 2, 3, 5, 14, 15, 16, 17] rfl ?_
  refine nk_blk ?_
  refine nk_seq ?_
  refine rg (.q 0 (.q 1 XT.done)) (by kernel_rfl) (by kernel_rfl) ?_
  refine q_add rfl rfl rfl rfl (by omega) (by omega) ?_
  refine q_mv rfl rfl rfl ?_
  refine x_end ?_
  refine nk_cut (e' := [(0, _), (1, _), (2, _), (3, _), (5, _), (14, _), (15, _), (16, _), (17, _)]) [0, 1, 2, 3, 5, 14, 15, 16, 17] rfl ?_
  refine nk_perm (S' := [_, _, _, _]) (permL [1, 2, 3, 0] rfl) ?_
  refine nk_drop (S := [_, _, _]) (S' := [_]) ?_
  refine nk_round (μ := Mv1) (i := (k, A3, c3, ks)) (S := Sv1) (G := Gv1) (⟨k + 1, A3, c3, ks ++ [⟨(a.ks.getD k default).b, (a.ks.getD k default).g, ⟨A2, (catB [⟨(a.ks.getD k default).k.A, (a.ks.getD k default).k.n, (a.ks.getD k default).k.c, (a.ks.getD k default).k.xs⟩]).length, c2, catB [⟨(a.ks.getD k default).k.A, (a.ks.getD k default).k.n, (a.ks.getD k default).k.c, (a.ks.getD k default).k.xs⟩]⟩⟩]⟩ : Nat × Option Addr × Nat × List Kk) ?_ ?_ ?_ ?_
  ·exact ⟨rfl, rfl, rfl, rfl, rfl, rfl, rfl, trivial⟩
  ·exact (congrArg (fun l => Chunk.own _ 153 l _ :: _) (kcells_snoc ks ⟨(a.ks.getD k default).b, (a.ks.getD k default).g, ⟨A2, (catB [⟨(a.ks.getD k default).k.A, (a.ks.getD k default).k.n, (a.ks.getD k default).k.c, (a.ks.getD k default).k.xs⟩]).length, c2, catB [⟨(a.ks.getD k default).k.A, (a.ks.getD k default).k.n, (a.ks.getD k default).k.c, (a.ks.getD k default).k.xs⟩]⟩⟩))
  ·exact ⟨((hl2.trans hp3).trans hp4), ⟨by omega, by omega, hkd.snoc (by omega) hke (catB_one _ _ _ _) (by rw [catB_one]; omega)⟩⟩
  ·dsimp only [Mv1]; omega
 ·intro hc17
  try simp only [decide_eq_false_iff_not] at hc17
  refine ew_exit _ rfl ?_
  refine nk_seq ?_
  refine ew_seq ?_
  refine rg (.q 0 (.h 1 XT.done)) (by kernel_rfl) (by kernel_rfl) ?_
  refine q_ldS 1 Try.isAgg60 Try.sizeOf60 rfl rfl rfl rfl rfl ?_
  refine h_stS (cs' := [_, _, _, _, _, _, _, _]) (S' := [_, _, _]) 2 Try.sizeOf60 rfl rfl rfl rfl rfl (allOne rfl) rfl (leb rfl) rfl rfl kp0 ?_
  refine x_end ?_
  refine nk_cut (e' := [(0, _), (1, _), (2, _), (3, _), (14, _), (15, _), (16, _), (17, _)]) [0, 1, 2, 3, 14, 15, 16, 17] rfl ?_
  refine nk_seq ?_
  refine pubE (S' := [_, _]) 0 rfl rfl ?_
  intro Hp5 hp5 hrL
  replace ha := ha.mono hp5
  replace ham := ham.mono hp5
  replace hr1 := hr1.mono hp5
  replace hma := hma.mono hp5
  replace hkd := hkd.mono hp5
  refine ew_retS rfl rfl (.cons (.agg 1 Try.isAgg60 Try.sizeOf60 rfl rfl rfl) .nil) ?_
  have hks := hkd.len
  rw [List.length_take] at hks
  have hall : a.ks.take k = a.ks := List.take_of_length_le (by omega)
  rw [hall] at hkd
  exact ⟨⟨a.seq, a.epoch, a.given_, a.root, a.rep, a.pending, ⟨A1, (catB [⟨a.m.A, a.m.n, a.m.c, a.m.xs⟩]).length, c1, catB [⟨a.m.A, a.m.n, a.m.c, a.m.xs⟩]⟩, A3, k, c3, ks⟩, rfl, ⟨hma, ⟨hrL, (by show ks.length = k; omega), hkc, hkd.ok⟩, (by show (catB [⟨a.m.A, a.m.n, a.m.c, a.m.xs⟩]).length ≤ 1099511627776; rw [catB_one]; omega), ⟨by show ks.length ≤ 1099511627776; omega, hkd.n⟩⟩, by simp only [An.v, catB_one, hkd.v], rfl, (((hp1.trans hp2).trans hl2).trans hp5)⟩

end Go.GW
