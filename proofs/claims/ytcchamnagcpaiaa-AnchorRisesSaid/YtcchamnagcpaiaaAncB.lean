/- Contracts of functions of the loaded program, printed by our own program gen.py. -/
import Derived.Test.YtcchamnagcpaiaaAncP
namespace Go.GW
open Go Go.Proofs


def Anc.pre (a : Anc) : List UInt8 := magicB ++ a.nums.flatMap num8 ++ a.master ++ putN (UInt64.ofNat a.keks.length) 1
theorem Anc.pre_enc (a : Anc) : a.enc = a.pre ++ a.keks.flatMap kekB := rfl
theorem An.bounds {a : An} (h : a.v.fine) : 1 ≤ a.seq ∧ a.seq ≤ 1099511627776 ∧ 0 ≤ a.epoch ∧ a.epoch ≤ 1099511627776 ∧ 0 ≤ a.given_ ∧ a.given_ ≤ 1099511627776 ∧ 0 ≤ a.rep ∧ a.rep ≤ 1099511627776 ∧ -1 ≤ a.root ∧ a.root < 4096 ∧ 0 ≤ a.pending ∧ a.pending < 4096 ∧ a.m.xs.length = 32 ∧ a.ks.length ≤ 16 := by
  obtain ⟨h1, h2, h3, h4, h5, h6, h7, h8, _, h10, h11, h12, h13, h14, h15, _⟩ := h
  exact ⟨h1, h2, h3, h4, h5, h6, h7, h8, h10, h11, h12, h13, h14, by simpa [An.v] using h15⟩
theorem nums_at {a : Anc} (h : a.fine) {k : Nat} (hk : k < 6) : (a.nums.map SV.i)[k]? = some (.i (a.nums.getD k 0)) ∧ 0 ≤ a.nums.getD k 0 ∧ a.nums.getD k 0 ≤ 1099511627776 := by
  obtain ⟨h1, h2, h3, h4, h5, h6, h7, h8, _, h10, h11, h12, h13, h14, h15, _⟩ := h
  rcases (by omega : k = 0 ∨ k = 1 ∨ k = 2 ∨ k = 3 ∨ k = 4 ∨ k = 5) with rfl | rfl | rfl | rfl | rfl | rfl <;> simp [Anc.nums] <;> omega
theorem num_app (p : List UInt8) (l : List Int) (k : Nat) (h : k < l.length) : (p ++ (l.take k).flatMap num8).map SV.u8 ++ (putN (UInt64.ofNat (l.getD k 0).toNat) 8).map SV.u8 = (p ++ (l.take (k + 1)).flatMap num8).map SV.u8 := by
  rw [List.take_succ_eq_append_getElem h, List.flatMap_append, ← List.map_append, List.append_assoc]
  simp [num8, h]
theorem kk_fine {a : An} (h : a.v.fine) {k : Nat} (hk : k < a.ks.length) : 0 ≤ (a.ks.getD k default).b ∧ (a.ks.getD k default).b ≤ 65535 ∧ 0 ≤ (a.ks.getD k default).g ∧ (a.ks.getD k default).g ≤ 65535 ∧ (a.ks.getD k default).k.xs.length = 32 := by
  have h1 : (a.ks.getD k default).v.fine := h.ks _ (by
    have : a.ks.getD k default = a.ks[k] := by simp [hk]
    rw [this]
    exact List.mem_map.2 ⟨_, List.getElem_mem hk, rfl⟩)
  exact ⟨h1.b0, h1.b1, h1.g0, h1.g1, h1.key⟩
theorem Anc.pre_len {a : Anc} (h : a.fine) : a.pre.length = 89 := by
  have h1 := a.enc_len h
  have h2 := keks_len h.ks
  rw [Anc.pre_enc, List.length_append, h2] at h1
  omega
theorem pre_app_len {a : An} (h : a.v.fine) {k : Nat} (hk : k ≤ a.ks.length) : (a.v.pre ++ (a.v.keks.take k).flatMap kekB).length = 89 + 36 * k := by
  have h3 : (a.v.keks.take k).length = k := by simp [An.v]; omega
  rw [List.length_append, Anc.pre_len h, keks_len (fun x hx => h.ks x (List.mem_of_mem_take hx)), h3]
theorem kek_snoc {a : An} {k : Nat} (hk : k < a.ks.length) : a.v.pre ++ (a.v.keks.take (k + 1)).flatMap kekB = (a.v.pre ++ (a.v.keks.take k).flatMap kekB) ++ putN (UInt64.ofNat (a.ks.getD k default).b.toNat) 2 ++ putN (UInt64.ofNat (a.ks.getD k default).g.toNat) 2 ++ (a.ks.getD k default).k.xs := by
  have h1 : a.v.keks.take (k + 1) = a.v.keks.take k ++ [(a.ks.getD k default).v] := by
    have h2 : k < a.v.keks.length := by simpa [An.v] using hk
    rw [List.take_succ_eq_append_getElem h2]
    simp [An.v, hk]
  rw [h1, List.flatMap_append]
  simp [kekB, Kk.v]
theorem sli3 {g : Nat} {H' : Hp} {a b c : Sli} (hr : RR H' (some ⟨g, 0, none⟩) [a.sv, b.sv, c.sv]) (ha : a.ok H') (hb : b.ok H') (hc : c.ok H') : BSS H' (some ⟨g, 0, none⟩) 3 3 [a, b, c] :=
  ⟨hr, rfl, Nat.le_refl _, fun p hp => by
    simp only [List.mem_cons, List.not_mem_nil, or_false] at hp
    rcases hp with rfl | rfl | rfl
    · exact ha
    · exact hb
    · exact hc⟩
theorem sli4 {g : Nat} {H' : Hp} {a b c d : Sli} (hr : RR H' (some ⟨g, 0, none⟩) [a.sv, b.sv, c.sv, d.sv]) (ha : a.ok H') (hb : b.ok H') (hc : c.ok H') (hd : d.ok H') : BSS H' (some ⟨g, 0, none⟩) 4 4 [a, b, c, d] :=
  ⟨hr, rfl, Nat.le_refl _, fun p hp => by
    simp only [List.mem_cons, List.not_mem_nil, or_false] at hp
    rcases hp with rfl | rfl | rfl | rfl
    · exact ha
    · exact hb
    · exact hc
    · exact hd⟩
theorem catB_3 (a b c : Sli) : catB [a, b, c] = a.xs ++ b.xs ++ c.xs := by simp [catB]
theorem catB_4 (a b c d : Sli) : catB [a, b, c, d] = a.xs ++ b.xs ++ c.xs ++ d.xs := by simp [catB]
theorem mag_len {a : Anc} {k : Nat} (hk : k ≤ 6) : (List.map SV.u8 (magicB ++ (a.nums.take k).flatMap num8)).length = (8 + 8 * k) * 1 := by
  have h1 : a.nums.length = 6 := rfl
  have h2 : magicB.length = 8 := rfl
  rw [List.length_map, List.length_append, nums_len, List.length_take]
  omega
theorem pre_cat {a : An} {k : Nat} (hk : k = 6) (hl : a.ks.length = a.n) {A A2 : Option Addr} {n c n2 c2 : Nat} : catB [⟨A, n, c, magicB ++ (a.v.nums.take k).flatMap num8⟩, a.m, ⟨A2, n2, c2, putN (UInt64.ofNat a.n) 1⟩] = a.v.pre ++ (a.v.keks.take 0).flatMap kekB := by
  subst hk
  have h1 : a.v.nums.take 6 = a.v.nums := rfl
  have h2 : a.v.keks.length = a.n := by simpa [An.v] using hl
  rw [catB_3, h1]
  simp only [Anc.pre, h2, List.take_zero, List.flatMap_nil, List.append_nil]
  rfl
theorem kek_cat {a : An} {k : Nat} (hk : k < a.ks.length) {A A2 A3 : Option Addr} {n c n2 c2 n3 c3 : Nat} : catB [⟨A, n, c, a.v.pre ++ (a.v.keks.take k).flatMap kekB⟩, ⟨A2, n2, c2, putN (UInt64.ofNat (a.ks.getD k default).b.toNat) 2⟩, ⟨A3, n3, c3, putN (UInt64.ofNat (a.ks.getD k default).g.toNat) 2⟩, (a.ks.getD k default).k] = a.v.pre ++ (a.v.keks.take (k + 1)).flatMap kekB := by
  rw [catB_4, kek_snoc hk]
theorem Anc.put_ok {a : Anc} (h : a.check = 0) : a.put = a.enc := if_pos h
theorem Anc.put_no {a : Anc} (h : ¬ a.check = 0) : a.put = [] := if_neg h
theorem sec_bs {H : Hp} {A : Option Addr} {n c : Nat} {xs : List UInt8} (hr : RR H A (xs.map SV.u8)) (hn : xs.length = n) (hc : n ≤ c) : BS H A n c xs := ⟨hr, hn, hc⟩

theorem APut_hc {H : Hp} {a : An} (ha : An.ok H a) :
  HC Try.prog 31 [.agg a.cells] [] H (fun r S' H' => ∃ A' c', r = .tup [.sl A' a.v.put.length c', .i a.v.check] ∧ a.v.put.length ≤ c' ∧ S' = [.own A' 5 (a.v.put.map SV.u8) (c' * 1)] ∧ H' = H) := by
 have hml : a.m.xs.length = a.m.n := BS.len ha.m
 have hkl := ha.ks.len
 refine hc_intro (n := 76) Try.func31 rfl Try.ntmps31 rfl (fun B hB => ?_)
 refine ew_cut (e' := [(0, _)]) [0] rfl ?_
 refine ew_sub (e' := [(0, .agg [_, _, _, _, _, _, _, _])]) ⟨rfl, trivial⟩ ?_
 refine ew_seq ?_
 refine rg (.h 0 (.q 1 (.q 2 XT.done))) (by kernel_rfl) (by kernel_rfl) ?_
 refine h_boxS rfl rfl rfl ?_
 intro g1
 refine ⟨kp0, ?_⟩
 refine q_as (sv := .sl none 0 0) rfl rfl rfl ?_
 refine q_as (sv := .i 0) rfl rfl rfl ?_
 refine x_end ?_
 refine nk_cut (e' := [(0, _), (1, _), (2, _), (3, _)]) [0, 1, 2, 3] rfl ?_
 refine nk_seq ?_
 refine ew_seq ?_
 refine ew_seq ?_
 refine rg (.q 0 (.h 1 (.q 2 XT.done))) (by kernel_rfl) (by kernel_rfl) ?_
 refine q_ldS 0 Try.isAgg60 Try.sizeOf60 rfl rfl rfl rfl rfl ?_
 refine h_call0 Try.call35 rfl rfl rfl (AChk_hc ha) ?_
 rintro r_ S_ H hl1 ⟨rfl, rfl, rfl⟩
 refine ⟨kp0, ?_⟩
 refine x_S (S' := [_]) rfl ?_
 refine q_as rfl rfl rfl ?_
 refine x_end ?_
 refine nk_cut (e' := [(0, _), (1, _), (2, _), (3, _), (4, _)]) [0, 1, 2, 3, 4] rfl ?_
 refine nk_seq ?_
 refine ew_seq ?_
 refine rg (.q 0 (.q 1 XT.done)) (by kernel_rfl) (by kernel_rfl) ?_
 refine q_mv rfl rfl rfl ?_
 refine q_ne rfl rfl rfl rfl ?_
 refine x_end ?_
 refine nk_cut (e' := [(0, _), (1, _), (2, _), (3, _), (4, _), (13, _)]) [0, 1, 2, 3, 4, 13] rfl ?_
 refine nk_seq ?_
 refine ew_cond rfl ?_ ?_
 ·intro hc13
  try simp only [decide_eq_true_eq] at hc13
  refine ew_seq ?_
  refine rg (.q 0 (.q 1 (.q 2 XT.done))) (by kernel_rfl) (by kernel_rfl) ?_
  refine q_mv rfl rfl rfl ?_
  refine q_as (sv := .sl none 0 0) rfl rfl rfl ?_
  refine q_as rfl rfl rfl ?_
  refine x_end ?_
  refine nk_cut (e' := [(0, _), (1, _), (2, _), (3, _), (4, _), (13, _)]) [0, 1, 2, 3, 4, 13] rfl ?_
  refine nk_seq ?_
  refine ew_shrink hB ?_
  refine ew_nil 5 ?_
  refine ew_ret1 (r := .tup [_, _]) 0 rfl rfl (.cons (.tmp rfl) (.cons (.tmp rfl) .nil)) rfl rfl ?_
  rw [Anc.put_no hc13]
  exact ⟨none, 0, rfl, Nat.le_refl _, rfl, rfl⟩
 ·intro hc13
  try simp only [decide_eq_false_iff_not] at hc13
  have hck : a.v.check = 0 := by simpa using hc13
  have hf := Anc.check_ok hck
  obtain ⟨b1, b2, b3, b4, b5, b6, b7, b8, b9, b10, b11, b12, b13, b14⟩ := An.bounds hf
  refine ew_skip ?_
  refine nk_seq ?_
  refine ew_seq ?_
  refine rg (.h 0 (.h 1 (.h 2 (.h 3 (.q 4 XT.done))))) (by kernel_rfl) (by kernel_rfl) ?_
  refine h_bs (cs := [_, _, _, _, _, _, _, _]) Try.underlying26 info_5 rfl rfl rfl rfl rfl rfl rfl rfl rfl (by decide) ?_
  intro g2
  refine ⟨kp0, ?_⟩
  refine h_cvm (S1 := [_]) 0 Try.underlying26 Try.underlying5 rfl rfl rfl rfl rfl ?_
  intro Hp1 hp1 hr1
  replace ha := ha.mono hp1
  refine ⟨kp0, ?_⟩
  have hmb : BS Hp1 _ 8 8 magicB := ⟨hr1, rfl, Nat.le_refl _⟩
  refine h_bs (cs := [_]) Try.underlying77 info_26 rfl rfl rfl rfl rfl rfl rfl rfl rfl (by decide) ?_
  intro g3
  refine ⟨kp0, ?_⟩
  refine pubX (S' := [_]) 0 rfl rfl ?_
  intro Hp2 hp2 hr2
  replace ha := ha.mono hp2
  replace hmb := hmb.mono hp2
  refine h_call0 Try.call80 rfl rfl rfl (Join_hc (one_sli hr2 hmb) (by rw [catB_one]; decide) (by omega)) ?_
  rintro r_ S_ Hp2 hl2 ⟨A1, c1, rfl, rfl, hcap1, rfl⟩
  refine ⟨kp0, ?_⟩
  refine x_S (S' := [_, _]) rfl ?_
  refine q_as rfl rfl rfl ?_
  refine x_end ?_
  refine nk_cut (e' := [(0, _), (1, _), (2, _), (3, _), (4, _), (5, _), (13, _)]) [0, 1, 2, 3, 4, 5, 13] rfl ?_
  refine nk_seq ?_
  refine ew_seq ?_
  refine ew_seq ?_
  refine rg (.q 0 (.q 1 (.q 2 (.q 3 (.q 4 (.q 5 (.q 6 (.q 7 (.q 8 (.q 9 (.q 10 (.q 11 (.q 12 (.h 13 (.q 14 (.q 15 XT.done)))))))))))))))) (by kernel_rfl) (by kernel_rfl) ?_
  refine q_fa fa_60_0 rfl rfl rfl ?_
  refine q_ld 1 Try.isAgg3 rfl rfl rfl rfl rfl ?_
  refine q_fa fa_60_1 rfl rfl rfl ?_
  refine q_ld 1 Try.isAgg3 rfl rfl rfl rfl rfl ?_
  refine q_fa fa_60_2 rfl rfl rfl ?_
  refine q_ld 1 Try.isAgg3 rfl rfl rfl rfl rfl ?_
  refine q_fa fa_60_3 rfl rfl rfl ?_
  refine q_ld 1 Try.isAgg3 rfl rfl rfl rfl rfl ?_
  refine q_add rfl rfl rfl rfl (by omega) (by omega) ?_
  refine q_fa fa_60_4 rfl rfl rfl ?_
  refine q_ld 1 Try.isAgg3 rfl rfl rfl rfl rfl ?_
  refine q_fa fa_60_5 rfl rfl rfl ?_
  refine q_ld 1 Try.isAgg3 rfl rfl rfl rfl rfl ?_
  refine h_bs (cs := [_, _, _, _, _, _]) Try.underlying154 info_3 rfl rfl rfl rfl rfl rfl rfl rfl rfl (by decide) ?_
  intro g5
  refine ⟨kp0, ?_⟩
  refine q_len Try.underlying154 rfl rfl rfl ?_
  refine q_mv (sv := .i 0) rfl rfl rfl ?_
  refine x_end ?_
  refine nk_cut (e' := [(0, _), (1, _), (2, _), (3, _), (4, _), (5, _), (13, _), (32, _), (33, _), (34, _)]) [0, 1, 2, 3, 4, 5, 13, 32, 33, 34] rfl ?_
  refine nk_seq ?_
  refine ew_block ?_
  let Ev1 : Nat × Option Addr × Nat → Env := fun ⟨k, A, c⟩ => [(5, .sl A (8 + 8 * k) c), (34, .i (k : Int))]
  let Sv1 : Nat × Option Addr × Nat → Res := fun ⟨k, A, c⟩ => [.own (some ⟨g5, 0, none⟩) 3 (a.v.nums.map SV.i) 6, .own A 5 ((magicB ++ (a.v.nums.take k).flatMap num8).map SV.u8) (c * 1), .box g1 60 a.cells]
  let Gv1 : Nat × Option Addr × Nat → Hp → Prop := fun ⟨k, A, c⟩ H' => Hp2 = H' ∧ (k ≤ 6 ∧ 8 + 8 * k ≤ c)
  let Mv1 : Nat × Option Addr × Nat → Nat := fun ⟨k, A, c⟩ => 6 - k
  refine ew_loop (mkE [(0, _), (1, _), (2, _), (3, _), (4, _), (13, _), (32, _), (33, _)] Ev1) (Sv1) Gv1 Mv1 (⟨0, A1, c1⟩ : Nat × Option Addr × Nat) ⟨congrArg (fun z => some (SV.sl _ z _)) (by rw [catB_one]; rfl), rfl, rfl, rfl, rfl, rfl, rfl, rfl, rfl, rfl, trivial⟩ (by dsimp only [Sv1]; rw [catB_one]; rfl) ⟨rfl, ⟨by omega, by rw [catB_one] at hcap1; exact hcap1⟩⟩ ?_
  rintro ⟨k, A, c⟩ H' ⟨rfl, hG⟩
  obtain ⟨hk, hkc⟩ := hG
  refine ew_S (S' := [_, _, _]) rfl ?_
  refine ew_cut (e' := [(5, _), (34, _), (0, _), (1, _), (2, _), (3, _), (4, _), (13, _), (32, _), (33, _)]) [5, 34, 0, 1, 2, 3, 4, 13, 32, 33] rfl ?_
  refine ew_seq ?_
  refine rg (.q 0 XT.done) (by kernel_rfl) (by kernel_rfl) ?_
  refine q_lt rfl rfl rfl rfl ?_
  refine x_end ?_
  refine nk_cut (e' := [(0, _), (1, _), (2, _), (3, _), (4, _), (5, _), (13, _), (32, _), (33, _), (34, _), (35, _)]) [0, 1, 2, 3, 4, 5, 13, 32, 33, 34, 35] rfl ?_
  refine nk_seq ?_
  refine ew_seq ?_
  refine ew_cond rfl ?_ ?_
  ·intro hc35
   try simp only [decide_eq_true_eq] at hc35
   obtain ⟨hv0, hv1, hv2⟩ := nums_at hf (k := k) (by omega)
   refine ew_skip ?_
   refine nk_seq ?_
   refine ew_seq ?_
   refine ew_block ?_
   refine ew_seq ?_
   refine rg (.q 0 (.q 1 (.q 2 XT.done))) (by kernel_rfl) (by kernel_rfl) ?_
   refine q_ixs1 Try.underlying154 Try.sizeOf3 rfl rfl rfl rfl rfl (by simp) (by omega) (by omega) ?_
   refine q_ldo 0 Try.isAgg3 rfl rfl rfl rfl (hv0) ?_
   refine q_as rfl rfl rfl ?_
   refine x_end ?_
   refine nk_cut (e' := [(0, _), (1, _), (2, _), (3, _), (4, _), (5, _), (7, _), (13, _), (32, _), (33, _), (34, _), (35, _)]) [0, 1, 2, 3, 4, 5, 7, 13, 32, 33, 34, 35] rfl ?_
   refine nk_seq ?_
   refine rg (.q 0 (.q 1 (.q 2 (.h 3 (.h 4 (.q 5 XT.done)))))) (by kernel_rfl) (by kernel_rfl) ?_
   refine q_mv rfl rfl rfl ?_
   refine q_mv rfl rfl rfl ?_
   refine q_cv_i_u64 Try.underlying156 (by kernel_rfl) rfl rfl rfl (by omega) ?_
   refine h_call0 Try.call84 rfl rfl rfl (Put_hc (by decide) (by decide)) ?_
   rintro r_ S_ Hp2 hl3 ⟨A2, c2, rfl, rfl, hcap2, rfl⟩
   refine ⟨kp0, ?_⟩
   refine x_S (S' := [_, _, _, _]) rfl ?_
   refine h_appO (sz := 1) (S1 := [_, _, _]) 0 1 Try.underlying26 info_5 rfl rfl rfl (by decide) rfl rfl rfl rfl rfl rfl rfl rfl (mag_len (by omega)) (by omega) (by rw [List.length_map, putN_length]; rfl) (oneU8 _) (by simp only [by_5]; omega) (by omega) ?_
   intro A3 c3 hcap3
   refine ⟨kp0, ?_⟩
   refine x_S (S' := [_, _, _]) rfl ?_
   refine q_as rfl rfl rfl ?_
   refine x_end ?_
   refine nk_cut (e' := [(0, _), (1, _), (2, _), (3, _), (4, _), (5, _), (7, _), (13, _), (32, _), (33, _), (34, _), (35, _)]) [0, 1, 2, 3, 4, 5, 7, 13, 32, 33, 34, 35] rfl ?_
   refine nk_blk ?_
   refine nk_seq ?_
   refine rg (.q 0 (.q 1 XT.done)) (by kernel_rfl) (by kernel_rfl) ?_
   refine q_add rfl rfl rfl rfl (by omega) (by omega) ?_
   refine q_mv rfl rfl rfl ?_
   refine x_end ?_
   refine nk_cut (e' := [(0, _), (1, _), (2, _), (3, _), (4, _), (5, _), (7, _), (13, _), (32, _), (33, _), (34, _), (35, _)]) [0, 1, 2, 3, 4, 5, 7, 13, 32, 33, 34, 35] rfl ?_
   refine nk_round (μ := Mv1) (i := (k, A, c)) (S := Sv1) (G := Gv1) (⟨k + 1, A3, c3⟩ : Nat × Option Addr × Nat) ?_ ?_ ?_ ?_
   ·exact ⟨congrArg (fun z => some (SV.sl A3 z c3)) (by omega), rfl, rfl, rfl, rfl, rfl, rfl, rfl, rfl, rfl, trivial⟩
   ·exact congrArg (fun l => [_, Chunk.own A3 5 l (c3 * 1), _]) (num_app magicB a.v.nums k (by simp [Anc.nums]; omega))
   ·exact ⟨rfl, ⟨by omega, by omega⟩⟩
   ·dsimp only [Mv1]; omega
  ·intro hc35
   try simp only [decide_eq_false_iff_not] at hc35
   have hk6 : k = 6 := by omega
   refine ew_exit _ rfl ?_
   refine nk_seq ?_
   refine ew_seq ?_
   refine rd (by kernel_rfl) [0, 1, 2, 3, 4, 5, 6, 10] [0, 1, 2, 3, 4, 5, 6, 7, 8, 9, 10] (.q 0 (.q 1 (.q 2 (.q 3 (.q 4 (.q 5 (.q 6 (.h 7 (.h 8 (.h 9 (.q 10 XT.done))))))))))) (by kernel_rfl) (by kernel_rfl) (keepL _ [2]) (keepL_sub _ _) ?_
   refine q_mv rfl rfl rfl ?_
   refine q_fa fa_60_6 rfl rfl rfl ?_
   refine q_ld 0 Try.isAgg26 rfl rfl rfl rfl rfl ?_
   refine q_fa fa_60_7 rfl rfl rfl ?_
   refine q_ld 0 Try.isAgg58 rfl rfl rfl rfl rfl ?_
   refine q_len Try.underlying58 rfl rfl rfl ?_
   refine q_cv_i_u64 Try.underlying156 (by kernel_rfl) rfl rfl rfl (by omega) ?_
   refine h_call0 Try.call84 rfl rfl rfl (Put_hc (by decide) (by decide)) ?_
   rintro r_ S_ Hp2 hl4 ⟨A4, c4, rfl, rfl, hcap4, rfl⟩
   refine ⟨(fun _ => ⟨by first | exact kpL [3] rfl | simp [keepL, nth], HLe.refl _⟩), ?_⟩
   refine x_S (S' := [_, _, _, _]) rfl ?_
   refine h_bs (cs := [_, _, _]) Try.underlying77 info_26 rfl rfl rfl rfl rfl rfl rfl rfl rfl (by decide) ?_
   intro g8
   refine ⟨(fun _ => ⟨by first | exact kpL [4] rfl | simp [keepL, nth], HLe.refl _⟩), ?_⟩
   refine pubX (S' := [_, _, _, _]) 3 rfl rfl ?_
   intro Hp3 hp3 hr3
   replace ha := ha.mono hp3
   replace hmb := hmb.mono hp3
   replace hr2 := hr2.mono hp3
   refine pubX (S' := [_, _, _]) 1 rfl rfl ?_
   intro Hp4 hp4 hr4
   replace ha := ha.mono hp4
   replace hmb := hmb.mono hp4
   replace hr2 := hr2.mono hp4
   replace hr3 := hr3.mono hp4
   refine pubX (S' := [_, _]) 0 rfl rfl ?_
   intro Hp5 hp5 hr5
   replace ha := ha.mono hp5
   replace hmb := hmb.mono hp5
   replace hr2 := hr2.mono hp5
   replace hr3 := hr3.mono hp5
   replace hr4 := hr4.mono hp5
   refine h_call0 Try.call80 rfl rfl rfl (Join_hc (sli3 (a := ⟨A, 8 + 8 * k, c, magicB ++ (a.v.nums.take k).flatMap num8⟩) (b := a.m) (c := ⟨_, _, _, putN (UInt64.ofNat a.n) 1⟩) hr5 ⟨hr3, (by rw [List.length_append, nums_len, hk6]; rfl), hkc⟩ ha.m ⟨hr4, putN_length _ _, (by assumption)⟩) (by rw [catB_3]; simp only [List.length_append, putN_length, nums_len, b13]; simp [Anc.nums, magicB]; omega) (by omega)) ?_
   rintro r_ S_ Hp5 hl5 ⟨A5, c5, rfl, rfl, hcap5, rfl⟩
   refine ⟨(fun _ => ⟨by first | exact kpL [2] rfl | simp [keepL, nth], ((hp3.trans hp4).trans hp5)⟩), ?_⟩
   refine x_S (S' := [_, _, _]) rfl ?_
   refine q_as rfl rfl rfl ?_
   refine x_end ?_
   refine nk_cut (e' := [(0, _), (1, _), (2, _), (3, _), (4, _), (5, _), (13, _), (32, _), (33, _), (34, _), (35, _)]) [0, 1, 2, 3, 4, 5, 13, 32, 33, 34, 35] rfl ?_
   refine nk_seq ?_
   refine ew_seq ?_
   refine ew_seq ?_
   refine rg (.q 0 (.q 1 (.q 2 (.q 3 XT.done)))) (by kernel_rfl) (by kernel_rfl) ?_
   refine q_fa fa_60_7 rfl rfl rfl ?_
   refine q_ld 2 Try.isAgg58 rfl rfl rfl rfl rfl ?_
   refine q_len Try.underlying58 rfl rfl rfl ?_
   refine q_mv (sv := .i 0) rfl rfl rfl ?_
   refine x_end ?_
   refine nk_cut (e' := [(0, _), (1, _), (2, _), (3, _), (4, _), (5, _), (13, _), (32, _), (33, _), (34, _), (35, _), (55, _), (56, _), (57, _)]) [0, 1, 2, 3, 4, 5, 13, 32, 33, 34, 35, 55, 56, 57] rfl ?_
   refine nk_seq ?_
   refine ew_block ?_
   let Ev2 : Nat × Option Addr × Nat → Env := fun ⟨k, A, c⟩ => [(5, .sl A (89 + 36 * k) c), (57, .i (k : Int))]
   let Sv2 : Nat × Option Addr × Nat → Res := fun ⟨k, A, c⟩ => [.own A 5 ((a.v.pre ++ (a.v.keks.take k).flatMap kekB).map SV.u8) (c * 1), .own (some ⟨g5, 0, none⟩) 3 (a.v.nums.map SV.i) 6, .box g1 60 a.cells]
   let Gv2 : Nat × Option Addr × Nat → Hp → Prop := fun ⟨k, A, c⟩ H' => HLe Hp5 H' ∧ (k ≤ a.n ∧ 89 + 36 * k ≤ c)
   let Mv2 : Nat × Option Addr × Nat → Nat := fun ⟨k, A, c⟩ => a.n - k
   refine ew_loop (mkE [(0, _), (1, _), (2, _), (3, _), (4, _), (13, _), (32, _), (33, _), (34, _), (35, _), (55, _), (56, _)] Ev2) (Sv2) Gv2 Mv2 (⟨0, A5, c5⟩ : Nat × Option Addr × Nat) ⟨congrArg (fun z => some (SV.sl _ z _)) (by rw [pre_cat hk6 hkl, pre_app_len hf (by omega)]), rfl, rfl, rfl, rfl, rfl, rfl, rfl, rfl, rfl, rfl, rfl, rfl, rfl, trivial⟩ (congrArg (fun l => Chunk.own _ 5 (l.map SV.u8) _ :: _) (pre_cat hk6 hkl)) ⟨HLe.refl _, ⟨by omega, by rw [pre_cat hk6 hkl, pre_app_len hf (by omega)] at hcap5; exact hcap5⟩⟩ ?_
   rintro ⟨k, A, c⟩ Hl1 ⟨hl6, hG⟩
   replace ha := ha.mono hl6
   replace hmb := hmb.mono hl6
   replace hr2 := hr2.mono hl6
   replace hr3 := hr3.mono hl6
   replace hr4 := hr4.mono hl6
   replace hr5 := hr5.mono hl6
   obtain ⟨hk, hkc⟩ := hG
   refine ew_S (S' := [_, _, _]) rfl ?_
   refine ew_cut (e' := [(5, _), (57, _), (0, _), (1, _), (2, _), (3, _), (4, _), (13, _), (32, _), (33, _), (34, _), (35, _), (55, _), (56, _)]) [5, 57, 0, 1, 2, 3, 4, 13, 32, 33, 34, 35, 55, 56] rfl ?_
   refine ew_seq ?_
   refine rg (.q 0 XT.done) (by kernel_rfl) (by kernel_rfl) ?_
   refine q_lt rfl rfl rfl rfl ?_
   refine x_end ?_
   refine nk_cut (e' := [(0, _), (1, _), (2, _), (3, _), (4, _), (5, _), (13, _), (32, _), (33, _), (34, _), (35, _), (55, _), (56, _), (57, _), (58, _)]) [0, 1, 2, 3, 4, 5, 13, 32, 33, 34, 35, 55, 56, 57, 58] rfl ?_
   refine nk_seq ?_
   refine ew_seq ?_
   refine ew_cond rfl ?_ ?_
   ·intro hc58
    try simp only [decide_eq_true_eq] at hc58
    obtain ⟨hb0, hb1, hg0, hg1, hkey⟩ := kk_fine hf (k := k) (by omega)
    have hkeyn : (a.ks.getD k default).k.xs.length = (a.ks.getD k default).k.n := (ha.ks.at_ (j := k) (by omega)).len
    refine ew_skip ?_
    refine nk_seq ?_
    refine ew_seq ?_
    refine ew_block ?_
    refine ew_seq ?_
    refine rg (.q 0 (.q 1 (.h 2 (.h 3 XT.done)))) (by kernel_rfl) (by kernel_rfl) ?_
    refine q_ixs Try.underlying58 Try.sizeOf153 rfl rfl rfl rfl rfl (ha.ks.ne (by omega)) (by omega) (by omega) ?_
    refine q_ldSr Try.isAgg153 Try.sizeOf153 rfl rfl rfl (ha.ks.get (j := k) (by omega)) rfl ?_
    refine h_alloc (cs := [_, _, _]) Try.zeroValue153 rfl rfl (zc_153 Try.zeroValue153) ?_
    intro g10
    refine ⟨kp0, ?_⟩
    refine h_stS (cs' := [_, _, _]) (S' := [_, _, _, _]) 0 Try.sizeOf153 rfl rfl rfl rfl rfl (allOne rfl) rfl (leb rfl) rfl rfl kp0 ?_
    refine x_end ?_
    refine nk_cut (e' := [(0, _), (1, _), (2, _), (3, _), (4, _), (5, _), (9, _), (13, _), (32, _), (33, _), (34, _), (35, _), (55, _), (56, _), (57, _), (58, _)]) [0, 1, 2, 3, 4, 5, 9, 13, 32, 33, 34, 35, 55, 56, 57, 58] rfl ?_
    refine nk_seq ?_
    refine rd (by kernel_rfl) [0, 1, 2, 3, 5, 6, 7, 9, 10, 13] [0, 1, 2, 3, 4, 5, 6, 7, 8, 9, 10, 11, 12, 13] (.q 0 (.q 1 (.q 2 (.q 3 (.q 5 (.q 6 (.q 7 (.q 9 (.q 10 (.h 4 (.h 8 (.h 11 (.h 12 (.q 13 XT.done)))))))))))))) (by kernel_rfl) (by kernel_rfl) (keepL _ [0]) (keepL_sub _ _) ?_
    refine q_mv rfl rfl rfl ?_
    refine q_fa fa_153_0 rfl rfl rfl ?_
    refine q_ld 0 Try.isAgg3 rfl rfl rfl rfl rfl ?_
    refine q_cv_i_u64 Try.underlying156 (by kernel_rfl) rfl rfl rfl (by omega) ?_
    refine q_fa fa_153_1 rfl rfl rfl ?_
    refine q_ld 0 Try.isAgg3 rfl rfl rfl rfl rfl ?_
    refine q_cv_i_u64 Try.underlying156 (by kernel_rfl) rfl rfl rfl (by omega) ?_
    refine q_fa fa_153_2 rfl rfl rfl ?_
    refine q_ld 0 Try.isAgg26 rfl rfl rfl rfl rfl ?_
    refine h_call0 Try.call84 rfl rfl rfl (Put_hc (by decide) (by decide)) ?_
    rintro r_ S_ Hl1 hl7 ⟨A6, c6, rfl, rfl, hcap6, rfl⟩
    refine ⟨(fun _ => ⟨by first | exact kpL [1] rfl | simp [keepL, nth], HLe.refl _⟩), ?_⟩
    refine x_S (S' := [_, _, _, _, _]) rfl ?_
    refine h_call0 Try.call84 rfl rfl rfl (Put_hc (by decide) (by decide)) ?_
    rintro r_ S_ Hl1 hl8 ⟨A7, c7, rfl, rfl, hcap7, rfl⟩
    refine ⟨(fun _ => ⟨by first | exact kpL [2] rfl | simp [keepL, nth], HLe.refl _⟩), ?_⟩
    refine x_S (S' := [_, _, _, _, _, _]) rfl ?_
    refine h_bs (cs := [_, _, _, _]) Try.underlying77 info_26 rfl rfl rfl rfl rfl rfl rfl rfl rfl (by decide) ?_
    intro g13
    refine ⟨(fun _ => ⟨by first | exact kpL [3] rfl | simp [keepL, nth], HLe.refl _⟩), ?_⟩
    refine pubX (S' := [_, _, _, _, _, _]) 4 rfl rfl ?_
    intro Hp6 hp6 hr6
    replace ha := ha.mono hp6
    replace hmb := hmb.mono hp6
    replace hr2 := hr2.mono hp6
    replace hr3 := hr3.mono hp6
    replace hr4 := hr4.mono hp6
    replace hr5 := hr5.mono hp6
    refine pubX (S' := [_, _, _, _, _]) 2 rfl rfl ?_
    intro Hp7 hp7 hr7
    replace ha := ha.mono hp7
    replace hmb := hmb.mono hp7
    replace hr2 := hr2.mono hp7
    replace hr3 := hr3.mono hp7
    replace hr4 := hr4.mono hp7
    replace hr5 := hr5.mono hp7
    replace hr6 := hr6.mono hp7
    refine pubX (S' := [_, _, _, _]) 1 rfl rfl ?_
    intro Hp8 hp8 hr8
    replace ha := ha.mono hp8
    replace hmb := hmb.mono hp8
    replace hr2 := hr2.mono hp8
    replace hr3 := hr3.mono hp8
    replace hr4 := hr4.mono hp8
    replace hr5 := hr5.mono hp8
    replace hr6 := hr6.mono hp8
    replace hr7 := hr7.mono hp8
    refine pubX (S' := [_, _, _]) 0 rfl rfl ?_
    intro Hp9 hp9 hr9
    replace ha := ha.mono hp9
    replace hmb := hmb.mono hp9
    replace hr2 := hr2.mono hp9
    replace hr3 := hr3.mono hp9
    replace hr4 := hr4.mono hp9
    replace hr5 := hr5.mono hp9
    replace hr6 := hr6.mono hp9
    replace hr7 := hr7.mono hp9
    replace hr8 := hr8.mono hp9
    refine h_call0 Try.call80 rfl rfl rfl (Join_hc (sli4 (a := ⟨A, 89 + 36 * k, c, a.v.pre ++ (a.v.keks.take k).flatMap kekB⟩) (b := ⟨_, _, _, putN (UInt64.ofNat (a.ks.getD k default).b.toNat) 2⟩) (c := ⟨_, _, _, putN (UInt64.ofNat (a.ks.getD k default).g.toNat) 2⟩) (d := (a.ks.getD k default).k) hr9 ⟨hr6, pre_app_len hf (by omega), hkc⟩ ⟨hr7, putN_length _ _, (by assumption)⟩ ⟨hr8, putN_length _ _, (by assumption)⟩ (ha.ks.at_ (j := k) (by omega))) (by rw [catB_4]; simp only [List.length_append, putN_length, hkey]; rw [← List.length_append, pre_app_len hf (by omega)]; omega) (by omega)) ?_
    rintro r_ S_ Hp9 hl9 ⟨A8, c8, rfl, rfl, hcap8, rfl⟩
    refine ⟨(fun _ => ⟨by first | exact kpL [1] rfl | simp [keepL, nth], (((hp6.trans hp7).trans hp8).trans hp9)⟩), ?_⟩
    refine x_S (S' := [_, _, _, _]) rfl ?_
    refine q_as rfl rfl rfl ?_
    refine x_end ?_
    refine nk_cut (e' := [(0, _), (1, _), (2, _), (3, _), (4, _), (5, _), (9, _), (13, _), (32, _), (33, _), (34, _), (35, _), (55, _), (56, _), (57, _), (58, _)]) [0, 1, 2, 3, 4, 5, 9, 13, 32, 33, 34, 35, 55, 56, 57, 58] rfl ?_
    refine nk_blk ?_
    refine nk_seq ?_
    refine rg (.q 0 (.q 1 XT.done)) (by kernel_rfl) (by kernel_rfl) ?_
    refine q_add rfl rfl rfl rfl (by omega) (by omega) ?_
    refine q_mv rfl rfl rfl ?_
    refine x_end ?_
    refine nk_cut (e' := [(0, _), (1, _), (2, _), (3, _), (4, _), (5, _), (9, _), (13, _), (32, _), (33, _), (34, _), (35, _), (55, _), (56, _), (57, _), (58, _)]) [0, 1, 2, 3, 4, 5, 9, 13, 32, 33, 34, 35, 55, 56, 57, 58] rfl ?_
    refine nk_perm (S' := [_, _, _, _]) (permL [0, 2, 3, 1] rfl) ?_
    refine nk_drop (S := [_, _, _]) (S' := [_]) ?_
    refine nk_round (μ := Mv2) (i := (k, A, c)) (S := Sv2) (G := Gv2) (⟨k + 1, A8, c8⟩ : Nat × Option Addr × Nat) ?_ ?_ ?_ ?_
    ·exact ⟨congrArg (fun z => some (SV.sl _ z _)) (by rw [kek_cat (a := a) (k := k) (by omega), pre_app_len hf (by omega)]), rfl, rfl, rfl, rfl, rfl, rfl, rfl, rfl, rfl, rfl, rfl, rfl, rfl, trivial⟩
    ·exact (by rw [kek_cat (a := a) (k := k) (by omega)])
    ·exact ⟨((((hl6.trans hp6).trans hp7).trans hp8).trans hp9), ⟨by omega, by rw [kek_cat (a := a) (k := k) (by omega), pre_app_len hf (by omega)] at hcap8; omega⟩⟩
    ·dsimp only [Mv2]; omega
   ·intro hc58
    try simp only [decide_eq_false_iff_not] at hc58
    have hkn : k = a.n := by omega
    refine ew_exit _ rfl ?_
    refine nk_seq ?_
    refine ew_seq ?_
    refine rg (.q 0 (.q 1 (.q 2 XT.done))) (by kernel_rfl) (by kernel_rfl) ?_
    refine q_mv rfl rfl rfl ?_
    refine q_as rfl rfl rfl ?_
    refine q_as (sv := .i 0) rfl rfl rfl ?_
    refine x_end ?_
    refine nk_cut (e' := [(0, _), (1, _), (2, _), (3, _), (4, _), (5, _), (13, _), (32, _), (33, _), (34, _), (35, _), (55, _), (56, _), (57, _), (58, _)]) [0, 1, 2, 3, 4, 5, 13, 32, 33, 34, 35, 55, 56, 57, 58] rfl ?_
    refine nk_seq ?_
    refine ew_shrink hB ?_
    refine ew_ret1 (r := .tup [_, _]) 0 rfl rfl (.cons (.tmp rfl) (.cons (.tmp rfl) .nil)) rfl rfl ?_
    have he : a.v.put = a.v.pre ++ (a.v.keks.take k).flatMap kekB := by rw [Anc.put_ok hck, Anc.pre_enc, List.take_of_length_le (by simp [An.v]; omega)]
    rw [he, pre_app_len hf (by omega), hck]
    exact ⟨A, c, rfl, hkc, rfl, rfl⟩


theorem put1 (n : Nat) : putN (UInt64.ofNat n) 1 = [UInt8.ofNat n] := by
  simp only [putN, List.nil_append]
  congr 1
  apply UInt8.toNat_inj.1
  rw [UInt64.toNat_toUInt8, UInt64.toNat_mod, UInt64.toNat_ofNat', UInt8.toNat_ofNat']
  have : (256 : UInt64).toNat = 256 := rfl
  rw [this]
  omega
theorem pre_map {a : An} {k : Nat} (hk : k = 6) (hl : a.ks.length = a.n) : (magicB ++ (a.v.nums.take k).flatMap num8).map SV.u8 ++ a.m.xs.map SV.u8 ++ [SV.u8 (UInt8.ofNat a.n)] = (a.v.pre ++ (a.v.keks.take 0).flatMap kekB).map SV.u8 := by
  subst hk
  have h1 : a.v.nums.take 6 = a.v.nums := rfl
  have h2 : a.v.keks.length = a.n := by simpa [An.v] using hl
  have h3 : a.v.master = a.m.xs := rfl
  rw [h1]
  simp only [Anc.pre, h2, put1, h3, List.take_zero, List.flatMap_nil, List.append_nil, List.map_append, List.map_cons, List.map_nil]
theorem kek_map {a : An} {k : Nat} (hk : k < a.ks.length) : (a.v.pre ++ (a.v.keks.take k).flatMap kekB).map SV.u8 ++ (putN (UInt64.ofNat (a.ks.getD k default).b.toNat) 2).map SV.u8 ++ (putN (UInt64.ofNat (a.ks.getD k default).g.toNat) 2).map SV.u8 ++ (a.ks.getD k default).k.xs.map SV.u8 = (a.v.pre ++ (a.v.keks.take (k + 1)).flatMap kekB).map SV.u8 := by
  rw [kek_snoc hk]
  simp only [List.map_append]

theorem RAPut_hc {H : Hp} {a : An} (ha : An.ok H a) :
  HC Try.prog 32 [.agg a.cells] [] H (fun r S' H' => ∃ A' c', r = .tup [.sl A' a.v.put.length c', .i a.v.check] ∧ a.v.put.length ≤ c' ∧ S' = [.own A' 5 (a.v.put.map SV.u8) (c' * 1)] ∧ H' = H) := by
 have hml : a.m.xs.length = a.m.n := BS.len ha.m
 have hkl := ha.ks.len
 refine hc_intro (n := 83) Try.func32 rfl Try.ntmps32 rfl (fun B hB => ?_)
 refine ew_cut (e' := [(0, _)]) [0] rfl ?_
 refine ew_sub (e' := [(0, .agg [_, _, _, _, _, _, _, _])]) ⟨rfl, trivial⟩ ?_
 refine ew_seq ?_
 refine rg (.h 0 (.q 1 (.q 2 XT.done))) (by kernel_rfl) (by kernel_rfl) ?_
 refine h_boxS rfl rfl rfl ?_
 intro g1
 refine ⟨kp0, ?_⟩
 refine q_as (sv := .sl none 0 0) rfl rfl rfl ?_
 refine q_as (sv := .i 0) rfl rfl rfl ?_
 refine x_end ?_
 refine nk_cut (e' := [(0, _), (1, _), (2, _), (3, _)]) [0, 1, 2, 3] rfl ?_
 refine nk_seq ?_
 refine ew_seq ?_
 refine ew_seq ?_
 refine rg (.q 0 (.h 1 (.q 2 XT.done))) (by kernel_rfl) (by kernel_rfl) ?_
 refine q_ldS 0 Try.isAgg60 Try.sizeOf60 rfl rfl rfl rfl rfl ?_
 refine h_call0 Try.call36 rfl rfl rfl (RAChk_hc ha) ?_
 rintro r_ S_ H hl1 ⟨rfl, rfl, rfl⟩
 refine ⟨kp0, ?_⟩
 refine x_S (S' := [_]) rfl ?_
 refine q_as rfl rfl rfl ?_
 refine x_end ?_
 refine nk_cut (e' := [(0, _), (1, _), (2, _), (3, _), (4, _)]) [0, 1, 2, 3, 4] rfl ?_
 refine nk_seq ?_
 refine ew_seq ?_
 refine rg (.q 0 (.q 1 XT.done)) (by kernel_rfl) (by kernel_rfl) ?_
 refine q_mv rfl rfl rfl ?_
 refine q_ne rfl rfl rfl rfl ?_
 refine x_end ?_
 refine nk_cut (e' := [(0, _), (1, _), (2, _), (3, _), (4, _), (13, _)]) [0, 1, 2, 3, 4, 13] rfl ?_
 refine nk_seq ?_
 refine ew_cond rfl ?_ ?_
 ·intro hc13
  try simp only [decide_eq_true_eq] at hc13
  refine ew_seq ?_
  refine rg (.q 0 (.q 1 (.q 2 XT.done))) (by kernel_rfl) (by kernel_rfl) ?_
  refine q_mv rfl rfl rfl ?_
  refine q_as (sv := .sl none 0 0) rfl rfl rfl ?_
  refine q_as rfl rfl rfl ?_
  refine x_end ?_
  refine nk_cut (e' := [(0, _), (1, _), (2, _), (3, _), (4, _), (13, _)]) [0, 1, 2, 3, 4, 13] rfl ?_
  refine nk_seq ?_
  refine ew_shrink hB ?_
  refine ew_nil 5 ?_
  refine ew_ret1 (r := .tup [_, _]) 0 rfl rfl (.cons (.tmp rfl) (.cons (.tmp rfl) .nil)) rfl rfl ?_
  rw [Anc.put_no hc13]
  exact ⟨none, 0, rfl, Nat.le_refl _, rfl, rfl⟩
 ·intro hc13
  try simp only [decide_eq_false_iff_not] at hc13
  have hck : a.v.check = 0 := by simpa using hc13
  have hf := Anc.check_ok hck
  obtain ⟨b1, b2, b3, b4, b5, b6, b7, b8, b9, b10, b11, b12, b13, b14⟩ := An.bounds hf
  refine ew_skip ?_
  refine nk_seq ?_
  refine ew_seq ?_
  refine rg (.h 0 (.h 1 (.q 2 XT.done))) (by kernel_rfl) (by kernel_rfl) ?_
  refine h_bs (cs := [_, _, _, _, _, _, _, _]) Try.underlying26 info_5 rfl rfl rfl rfl rfl rfl rfl rfl rfl (by decide) ?_
  intro g2
  refine ⟨kp0, ?_⟩
  refine h_cvm (S1 := [_]) 0 Try.underlying26 Try.underlying5 rfl rfl rfl rfl rfl ?_
  intro Hp1 hp1 hr1
  replace ha := ha.mono hp1
  refine ⟨kp0, ?_⟩
  have hmb : BS Hp1 _ 8 8 magicB := ⟨hr1, rfl, Nat.le_refl _⟩
  refine q_as rfl rfl rfl ?_
  refine x_end ?_
  refine nk_cut (e' := [(0, _), (1, _), (2, _), (3, _), (4, _), (5, _), (13, _)]) [0, 1, 2, 3, 4, 5, 13] rfl ?_
  refine nk_seq ?_
  refine ew_seq ?_
  refine rg (.q 0 (.q 1 (.q 2 (.q 3 (.q 4 (.q 5 (.q 6 (.q 7 (.q 8 (.q 9 (.q 10 (.q 11 (.q 12 (.h 13 (.q 14 XT.done))))))))))))))) (by kernel_rfl) (by kernel_rfl) ?_
  refine q_fa fa_60_0 rfl rfl rfl ?_
  refine q_ld 0 Try.isAgg3 rfl rfl rfl rfl rfl ?_
  refine q_fa fa_60_1 rfl rfl rfl ?_
  refine q_ld 0 Try.isAgg3 rfl rfl rfl rfl rfl ?_
  refine q_fa fa_60_2 rfl rfl rfl ?_
  refine q_ld 0 Try.isAgg3 rfl rfl rfl rfl rfl ?_
  refine q_fa fa_60_3 rfl rfl rfl ?_
  refine q_ld 0 Try.isAgg3 rfl rfl rfl rfl rfl ?_
  refine q_add rfl rfl rfl rfl (by omega) (by omega) ?_
  refine q_fa fa_60_4 rfl rfl rfl ?_
  refine q_ld 0 Try.isAgg3 rfl rfl rfl rfl rfl ?_
  refine q_fa fa_60_5 rfl rfl rfl ?_
  refine q_ld 0 Try.isAgg3 rfl rfl rfl rfl rfl ?_
  refine h_bs (cs := [_, _, _, _, _, _]) Try.underlying154 info_3 rfl rfl rfl rfl rfl rfl rfl rfl rfl (by decide) ?_
  intro g3
  refine ⟨kp0, ?_⟩
  refine q_as rfl rfl rfl ?_
  refine x_end ?_
  refine nk_cut (e' := [(0, _), (1, _), (2, _), (3, _), (4, _), (5, _), (6, _), (13, _)]) [0, 1, 2, 3, 4, 5, 6, 13] rfl ?_
  refine nk_seq ?_
  refine ew_seq ?_
  refine ew_seq ?_
  refine rg (.q 0 XT.done) (by kernel_rfl) (by kernel_rfl) ?_
  refine q_as (sv := .i 0) rfl rfl rfl ?_
  refine x_end ?_
  refine nk_cut (e' := [(0, _), (1, _), (2, _), (3, _), (4, _), (5, _), (6, _), (7, _), (13, _)]) [0, 1, 2, 3, 4, 5, 6, 7, 13] rfl ?_
  refine nk_seq ?_
  refine ew_block ?_
  let Ev1 : Nat × Option Addr × Nat → Env := fun ⟨k, A, c⟩ => [(5, .sl A (8 + 8 * k) c), (7, .i (k : Int))]
  let Sv1 : Nat × Option Addr × Nat → Res := fun ⟨k, A, c⟩ => [.own A 5 ((magicB ++ (a.v.nums.take k).flatMap num8).map SV.u8) (c * 1), .own (some ⟨g3, 0, none⟩) 3 (a.v.nums.map SV.i) 6, .box g1 60 a.cells]
  let Gv1 : Nat × Option Addr × Nat → Hp → Prop := fun ⟨k, A, c⟩ H' => HLe Hp1 H' ∧ (k ≤ 6 ∧ 8 + 8 * k ≤ c)
  let Mv1 : Nat × Option Addr × Nat → Nat := fun ⟨k, A, c⟩ => 6 - k
  refine ew_loop1 (Cn := [(0, _), (1, _), (2, _), (3, _), (4, _), (6, _), (13, _)]) Ev1 (Sv1) Gv1 Mv1 (7) ⟨rfl, rfl, rfl, rfl, rfl, rfl, rfl, trivial⟩ ?_ ?_
  ·skip
   refine ew_seq ?_
   refine ew_seq ?_
   refine rg (.q 0 (.q 1 XT.done)) (by kernel_rfl) (by kernel_rfl) ?_
   refine q_mv rfl rfl rfl ?_
   refine q_lt rfl rfl rfl rfl ?_
   refine x_end ?_
   refine nk_cut (e' := [(0, _), (1, _), (2, _), (3, _), (4, _), (5, _), (6, _), (7, _), (13, _), (32, _)]) [0, 1, 2, 3, 4, 5, 6, 7, 13, 32] rfl ?_
   refine nk_seq ?_
   refine ew_cond rfl ?_ ?_
   ·intro hc32
    try simp only [decide_eq_true_eq] at hc32
    obtain ⟨hv0, hv1, hv2⟩ := nums_at hf (k := 0) (by omega)
    refine ew_skip ?_
    refine nk_seq ?_
    refine ew_seq ?_
    refine ew_block ?_
    refine rg (.q 0 (.q 1 (.q 2 (.q 3 (.q 4 (.q 5 (.h 6 (.h 7 (.q 8 XT.done))))))))) (by kernel_rfl) (by kernel_rfl) ?_
    iterate 3 refine q_mv rfl rfl rfl ?_
    refine q_ixs1 Try.underlying154 Try.sizeOf3 rfl rfl rfl rfl rfl (by simp) (by omega) (by omega) ?_
    refine q_ldo 0 Try.isAgg3 rfl rfl rfl rfl (hv0) ?_
    refine q_cv_i_u64 Try.underlying156 (by kernel_rfl) rfl rfl rfl (by omega) ?_
    refine h_call0 Try.call85 rfl rfl rfl (RPut_hc _ _ _ rfl (by decide) (by decide)) ?_
    rintro r_ S_ Hp1 hl2 ⟨A1, c1, rfl, rfl, hcap1, rfl⟩
    refine ⟨kp0, ?_⟩
    refine x_S (S' := [_, _, _]) rfl ?_
    refine pubX (S' := [_, _]) 0 rfl rfl ?_
    intro Hp2 hp2 hr2
    replace ha := ha.mono hp2
    replace hmb := hmb.mono hp2
    refine h_appF (sz := 1) Try.underlying26 info_5 rfl rfl rfl (by decide) rfl rfl rfl rfl hmb.rr rfl (by omega) hr2 (by rw [List.length_map, putN_length]; rfl) (by omega) (oneU8 _) (by simp only [by_5]; omega) (by omega) ?_
    intro A2 c2 hcap2
    refine ⟨kp0, ?_⟩
    refine q_as rfl rfl rfl ?_
    refine x_end ?_
    refine nk_cut (e' := [(0, _), (1, _), (2, _), (3, _), (4, _), (5, _), (6, _), (7, _), (13, _), (32, _)]) [0, 1, 2, 3, 4, 5, 6, 7, 13, 32] rfl ?_
    refine nk_blk ?_
    refine nk_seq ?_
    refine rg (.q 0 (.q 1 (.q 2 XT.done))) (by kernel_rfl) (by kernel_rfl) ?_
    refine q_mv rfl rfl rfl ?_
    refine q_add rfl rfl rfl rfl (by omega) (by omega) ?_
    refine q_as rfl rfl rfl ?_
    refine x_end ?_
    refine nk_cut (e' := [(0, _), (1, _), (2, _), (3, _), (4, _), (5, _), (6, _), (7, _), (13, _), (32, _)]) [0, 1, 2, 3, 4, 5, 6, 7, 13, 32] rfl ?_
    refine nk_first (S := Sv1) (G := Gv1) (μ := Mv1) (⟨1, A2, c2⟩ : Nat × Option Addr × Nat) ?_ ?_ ?_ ?_
    ·exact ⟨rfl, rfl, rfl, rfl, rfl, rfl, rfl, rfl, rfl, trivial⟩
    ·exact (congrArg (fun l => Chunk.own _ 5 l _ :: _) (num_app magicB a.v.nums 0 (by simp [Anc.nums])))
    ·exact ⟨hp2, ⟨by omega, by omega⟩⟩
    ·dsimp only [Mv1]; omega
   ·intro hc32
    try simp only [decide_eq_false_iff_not] at hc32
    exfalso; omega
  ·skip
   rintro ⟨k, A, c⟩ Hl1 ⟨hl3, hG⟩
   replace ha := ha.mono hl3
   replace hmb := hmb.mono hl3
   obtain ⟨hk, hkc⟩ := hG
   refine ew_S (S' := [_, _, _]) rfl ?_
   refine ew_cut (e' := [(5, _), (7, _), (0, _), (1, _), (2, _), (3, _), (4, _), (6, _), (13, _)]) [5, 7, 0, 1, 2, 3, 4, 6, 13] rfl ?_
   refine ew_seq ?_
   refine ew_seq ?_
   refine rg (.q 0 (.q 1 XT.done)) (by kernel_rfl) (by kernel_rfl) ?_
   refine q_mv rfl rfl rfl ?_
   refine q_lt rfl rfl rfl rfl ?_
   refine x_end ?_
   refine nk_cut (e' := [(0, _), (1, _), (2, _), (3, _), (4, _), (5, _), (6, _), (7, _), (13, _), (32, _)]) [0, 1, 2, 3, 4, 5, 6, 7, 13, 32] rfl ?_
   refine nk_seq ?_
   refine ew_cond rfl ?_ ?_
   ·intro hc32
    try simp only [decide_eq_true_eq] at hc32
    obtain ⟨hv0, hv1, hv2⟩ := nums_at hf (k := k) (by omega)
    refine ew_skip ?_
    refine nk_seq ?_
    refine ew_seq ?_
    refine ew_block ?_
    refine rg (.q 0 (.q 1 (.q 2 (.q 3 (.q 4 (.q 5 (.h 6 (.h 7 (.q 8 XT.done))))))))) (by kernel_rfl) (by kernel_rfl) ?_
    iterate 3 refine q_mv rfl rfl rfl ?_
    refine q_ixs1 Try.underlying154 Try.sizeOf3 rfl rfl rfl rfl rfl (by simp) (by omega) (by omega) ?_
    refine q_ldo 1 Try.isAgg3 rfl rfl rfl rfl (hv0) ?_
    refine q_cv_i_u64 Try.underlying156 (by kernel_rfl) rfl rfl rfl (by omega) ?_
    refine h_call0 Try.call85 rfl rfl rfl (RPut_hc _ _ _ rfl (by decide) (by decide)) ?_
    rintro r_ S_ Hl1 hl4 ⟨A3, c3, rfl, rfl, hcap3, rfl⟩
    refine ⟨kp0, ?_⟩
    refine x_S (S' := [_, _, _, _]) rfl ?_
    refine h_appO (sz := 1) (S1 := [_, _, _]) 0 0 Try.underlying26 info_5 rfl rfl rfl (by decide) rfl rfl rfl rfl rfl rfl rfl rfl (mag_len (by omega)) (by omega) (by rw [List.length_map, putN_length]; rfl) (oneU8 _) (by simp only [by_5]; omega) (by omega) ?_
    intro A4 c4 hcap4
    refine ⟨kp0, ?_⟩
    refine x_S (S' := [_, _, _]) rfl ?_
    refine q_as rfl rfl rfl ?_
    refine x_end ?_
    refine nk_cut (e' := [(0, _), (1, _), (2, _), (3, _), (4, _), (5, _), (6, _), (7, _), (13, _), (32, _)]) [0, 1, 2, 3, 4, 5, 6, 7, 13, 32] rfl ?_
    refine nk_blk ?_
    refine nk_seq ?_
    refine rg (.q 0 (.q 1 (.q 2 XT.done))) (by kernel_rfl) (by kernel_rfl) ?_
    refine q_mv rfl rfl rfl ?_
    refine q_add rfl rfl rfl rfl (by omega) (by omega) ?_
    refine q_as rfl rfl rfl ?_
    refine x_end ?_
    refine nk_cut (e' := [(0, _), (1, _), (2, _), (3, _), (4, _), (5, _), (6, _), (7, _), (13, _), (32, _)]) [0, 1, 2, 3, 4, 5, 6, 7, 13, 32] rfl ?_
    refine nk_round (μ := Mv1) (i := (k, A, c)) (S := Sv1) (G := Gv1) (⟨k + 1, A4, c4⟩ : Nat × Option Addr × Nat) ?_ ?_ ?_ ?_
    ·exact ⟨congrArg (fun z => some (SV.sl _ z _)) (by omega), rfl, rfl, rfl, rfl, rfl, rfl, rfl, rfl, trivial⟩
    ·exact congrArg (fun l => Chunk.own _ 5 l _ :: _) (num_app magicB a.v.nums k (by simp [Anc.nums]; omega))
    ·exact ⟨hl3, ⟨by omega, by omega⟩⟩
    ·dsimp only [Mv1]; omega
   ·intro hc32
    try simp only [decide_eq_false_iff_not] at hc32
    have hk6 : k = 6 := by omega
    refine ew_exit _ rfl ?_
    refine nk_seq ?_
    refine ew_seq ?_
    refine rg (.q 0 (.q 1 (.q 2 (.h 3 (.q 4 XT.done))))) (by kernel_rfl) (by kernel_rfl) ?_
    refine q_mv rfl rfl rfl ?_
    refine q_fa fa_60_6 rfl rfl rfl ?_
    refine q_ld 2 Try.isAgg26 rfl rfl rfl rfl rfl ?_
    refine h_app (sz := 1) 0 Try.underlying26 info_5 rfl rfl rfl (by decide) rfl rfl rfl rfl rfl rfl (mag_len (by omega)) (by omega) (BS.rr ha.m) (by rw [List.length_map, hml]; omega) (oneU8 _) (by simp only [by_5]; omega) (by omega) ?_
    intro A5 c5 hcap5
    refine ⟨kp0, ?_⟩
    refine x_S (S' := [_, _, _]) rfl ?_
    refine q_as rfl rfl rfl ?_
    refine x_end ?_
    refine nk_cut (e' := [(0, _), (1, _), (2, _), (3, _), (4, _), (5, _), (6, _), (7, _), (13, _), (32, _)]) [0, 1, 2, 3, 4, 5, 6, 7, 13, 32] rfl ?_
    refine nk_seq ?_
    refine ew_seq ?_
    refine rg (.q 0 (.q 1 (.q 2 (.q 3 (.q 4 (.h 5 (.h 6 (.q 7 XT.done)))))))) (by kernel_rfl) (by kernel_rfl) ?_
    refine q_mv rfl rfl rfl ?_
    refine q_fa fa_60_7 rfl rfl rfl ?_
    refine q_ld 2 Try.isAgg58 rfl rfl rfl rfl rfl ?_
    refine q_len Try.underlying58 rfl rfl rfl ?_
    refine q_cv_i_u8 Try.underlying5 (by kernel_rfl) rfl rfl rfl (by omega) ?_
    refine h_bs (cs := [_]) Try.underlying26 info_5 rfl rfl rfl rfl rfl rfl rfl rfl rfl (by decide) ?_
    intro g7
    refine ⟨kp0, ?_⟩
    refine h_appO (sz := 1) (S1 := [_, _, _]) 0 0 Try.underlying26 info_5 rfl rfl rfl (by decide) rfl rfl rfl rfl rfl rfl rfl rfl (by have hml2 := mag_len (a := a.v) (k := k) (by omega); rw [List.length_append, hml2, List.length_map, hml]; omega) (by omega) rfl (allOne rfl) (by simp only [by_5]; omega) (by omega) ?_
    intro A6 c6 hcap6
    refine ⟨kp0, ?_⟩
    refine x_S (S' := [_, _, _]) rfl ?_
    refine q_as rfl rfl rfl ?_
    refine x_end ?_
    refine nk_cut (e' := [(0, _), (1, _), (2, _), (3, _), (4, _), (5, _), (6, _), (7, _), (13, _), (32, _)]) [0, 1, 2, 3, 4, 5, 6, 7, 13, 32] rfl ?_
    refine nk_seq ?_
    refine ew_seq ?_
    refine ew_seq ?_
    refine rg (.q 0 XT.done) (by kernel_rfl) (by kernel_rfl) ?_
    refine q_as (sv := .i 0) rfl rfl rfl ?_
    refine x_end ?_
    refine nk_cut (e' := [(0, _), (1, _), (2, _), (3, _), (4, _), (5, _), (6, _), (7, _), (8, _), (13, _), (32, _)]) [0, 1, 2, 3, 4, 5, 6, 7, 8, 13, 32] rfl ?_
    refine nk_seq ?_
    refine ew_block ?_
    let Ev2 : Nat × Option Addr × Nat → Env := fun ⟨k, A, c⟩ => [(5, .sl A (89 + 36 * k) c), (8, .i (k : Int))]
    let Sv2 : Nat × Option Addr × Nat → Res := fun ⟨k, A, c⟩ => [.own A 5 ((a.v.pre ++ (a.v.keks.take k).flatMap kekB).map SV.u8) (c * 1), .own (some ⟨g3, 0, none⟩) 3 (a.v.nums.map SV.i) 6, .box g1 60 a.cells]
    let Gv2 : Nat × Option Addr × Nat → Hp → Prop := fun ⟨k, A, c⟩ H' => Hl1 = H' ∧ (k ≤ a.n ∧ 89 + 36 * k ≤ c)
    let Mv2 : Nat × Option Addr × Nat → Nat := fun ⟨k, A, c⟩ => a.n - k
    refine ew_loop (mkE [(0, _), (1, _), (2, _), (3, _), (4, _), (6, _), (7, _), (13, _), (32, _)] Ev2) (Sv2) Gv2 Mv2 (⟨0, A6, c6⟩ : Nat × Option Addr × Nat) ⟨congrArg (fun z => some (SV.sl _ z _)) (by omega), rfl, rfl, rfl, rfl, rfl, rfl, rfl, rfl, rfl, rfl, trivial⟩ (congrArg (fun l => Chunk.own _ 5 l _ :: _) (pre_map hk6 hkl)) ⟨rfl, ⟨by omega, by omega⟩⟩ ?_
    rintro ⟨k, A, c⟩ H' ⟨rfl, hG⟩
    obtain ⟨hk, hkc⟩ := hG
    refine ew_S (S' := [_, _, _]) rfl ?_
    refine ew_cut (e' := [(5, _), (8, _), (0, _), (1, _), (2, _), (3, _), (4, _), (6, _), (7, _), (13, _), (32, _)]) [5, 8, 0, 1, 2, 3, 4, 6, 7, 13, 32] rfl ?_
    refine ew_seq ?_
    refine ew_seq ?_
    refine rg (.q 0 (.q 1 (.q 2 (.q 3 (.q 4 XT.done))))) (by kernel_rfl) (by kernel_rfl) ?_
    refine q_mv rfl rfl rfl ?_
    refine q_fa fa_60_7 rfl rfl rfl ?_
    refine q_ld 2 Try.isAgg58 rfl rfl rfl rfl rfl ?_
    refine q_len Try.underlying58 rfl rfl rfl ?_
    refine q_lt rfl rfl rfl rfl ?_
    refine x_end ?_
    refine nk_cut (e' := [(0, _), (1, _), (2, _), (3, _), (4, _), (5, _), (6, _), (7, _), (8, _), (13, _), (32, _), (58, _)]) [0, 1, 2, 3, 4, 5, 6, 7, 8, 13, 32, 58] rfl ?_
    refine nk_seq ?_
    refine ew_cond rfl ?_ ?_
    ·intro hc58
     try simp only [decide_eq_true_eq] at hc58
     obtain ⟨hb0, hb1, hg0, hg1, hkey⟩ := kk_fine hf (k := k) (by omega)
     have hkeyn : (a.ks.getD k default).k.xs.length = (a.ks.getD k default).k.n := (ha.ks.at_ (j := k) (by omega)).len
     refine ew_skip ?_
     refine nk_seq ?_
     refine ew_seq ?_
     refine ew_block ?_
     refine ew_seq ?_
     refine rg (.q 0 (.q 1 (.q 2 (.q 3 (.q 4 (.h 5 (.h 6 XT.done))))))) (by kernel_rfl) (by kernel_rfl) ?_
     refine q_fa fa_60_7 rfl rfl rfl ?_
     refine q_ld 2 Try.isAgg58 rfl rfl rfl rfl rfl ?_
     refine q_mv rfl rfl rfl ?_
     refine q_ixs Try.underlying58 Try.sizeOf153 rfl rfl rfl rfl rfl (ha.ks.ne (by omega)) (by omega) (by omega) ?_
     refine q_ldSr Try.isAgg153 Try.sizeOf153 rfl rfl rfl (ha.ks.get (j := k) (by omega)) rfl ?_
     refine h_alloc (cs := [_, _, _]) Try.zeroValue153 rfl rfl (zc_153 Try.zeroValue153) ?_
     intro g8
     refine ⟨kp0, ?_⟩
     refine h_stS (cs' := [_, _, _]) (S' := [_, _, _, _]) 0 Try.sizeOf153 rfl rfl rfl rfl rfl (allOne rfl) rfl (leb rfl) rfl rfl kp0 ?_
     refine x_end ?_
     refine nk_cut (e' := [(0, _), (1, _), (2, _), (3, _), (4, _), (5, _), (6, _), (7, _), (8, _), (9, _), (13, _), (32, _), (58, _)]) [0, 1, 2, 3, 4, 5, 6, 7, 8, 9, 13, 32, 58] rfl ?_
     refine nk_seq ?_
     refine ew_seq ?_
     refine rg (.q 0 (.q 1 (.q 2 (.q 3 (.h 4 (.h 5 (.q 6 XT.done))))))) (by kernel_rfl) (by kernel_rfl) ?_
     refine q_mv rfl rfl rfl ?_
     refine q_fa fa_153_0 rfl rfl rfl ?_
     refine q_ld 0 Try.isAgg3 rfl rfl rfl rfl rfl ?_
     refine q_cv_i_u64 Try.underlying156 (by kernel_rfl) rfl rfl rfl (by omega) ?_
     refine h_call0 Try.call85 rfl rfl rfl (RPut_hc _ _ _ rfl (by decide) (by decide)) ?_
     rintro r_ S_ Hl1 hl5 ⟨A7, c7, rfl, rfl, hcap7, rfl⟩
     refine ⟨kp0, ?_⟩
     refine x_S (S' := [_, _, _, _, _]) rfl ?_
     refine h_appO (sz := 1) (S1 := [_, _, _, _]) 0 1 Try.underlying26 info_5 rfl rfl rfl (by decide) rfl rfl rfl rfl rfl rfl rfl rfl (by simp only [List.length_append, List.length_map, putN_length]; have hpl := pre_app_len hf (k := k) (by omega); rw [List.length_append] at hpl; omega) (by omega) (by rw [List.length_map, putN_length]; rfl) (oneU8 _) (by simp only [by_5]; omega) (by omega) ?_
     intro A8 c8 hcap8
     refine ⟨kp0, ?_⟩
     refine x_S (S' := [_, _, _, _]) rfl ?_
     refine q_as rfl rfl rfl ?_
     refine x_end ?_
     refine nk_cut (e' := [(0, _), (1, _), (2, _), (3, _), (4, _), (5, _), (6, _), (7, _), (8, _), (9, _), (13, _), (32, _), (58, _)]) [0, 1, 2, 3, 4, 5, 6, 7, 8, 9, 13, 32, 58] rfl ?_
     refine nk_seq ?_
     refine ew_seq ?_
     refine rg (.q 0 (.q 1 (.q 2 (.q 3 (.h 4 (.h 5 (.q 6 XT.done))))))) (by kernel_rfl) (by kernel_rfl) ?_
     refine q_mv rfl rfl rfl ?_
     refine q_fa fa_153_1 rfl rfl rfl ?_
     refine q_ld 0 Try.isAgg3 rfl rfl rfl rfl rfl ?_
     refine q_cv_i_u64 Try.underlying156 (by kernel_rfl) rfl rfl rfl (by omega) ?_
     refine h_call0 Try.call85 rfl rfl rfl (RPut_hc _ _ _ rfl (by decide) (by decide)) ?_
     rintro r_ S_ Hl1 hl6 ⟨A9, c9, rfl, rfl, hcap9, rfl⟩
     refine ⟨kp0, ?_⟩
     refine x_S (S' := [_, _, _, _, _]) rfl ?_
     refine h_appO (sz := 1) (S1 := [_, _, _, _]) 0 1 Try.underlying26 info_5 rfl rfl rfl (by decide) rfl rfl rfl rfl rfl rfl rfl rfl (by simp only [List.length_append, List.length_map, putN_length]; have hpl := pre_app_len hf (k := k) (by omega); rw [List.length_append] at hpl; omega) (by omega) (by rw [List.length_map, putN_length]; rfl) (oneU8 _) (by simp only [by_5]; omega) (by omega) ?_
     intro A10 c10 hcap10
     refine ⟨kp0, ?_⟩
     refine x_S (S' := [_, _, _, _]) rfl ?_
     refine q_as rfl rfl rfl ?_
     refine x_end ?_
     refine nk_cut (e' := [(0, _), (1, _), (2, _), (3, _), (4, _), (5, _), (6, _), (7, _), (8, _), (9, _), (13, _), (32, _), (58, _)]) [0, 1, 2, 3, 4, 5, 6, 7, 8, 9, 13, 32, 58] rfl ?_
     refine nk_seq ?_
     refine rg (.q 0 (.q 1 (.q 2 (.h 3 (.q 4 XT.done))))) (by kernel_rfl) (by kernel_rfl) ?_
     refine q_mv rfl rfl rfl ?_
     refine q_fa fa_153_2 rfl rfl rfl ?_
     refine q_ld 0 Try.isAgg26 rfl rfl rfl rfl rfl ?_
     refine h_app (sz := 1) 1 Try.underlying26 info_5 rfl rfl rfl (by decide) rfl rfl rfl rfl rfl rfl (by simp only [List.length_append, List.length_map, putN_length]; have hpl := pre_app_len hf (k := k) (by omega); rw [List.length_append] at hpl; omega) (by omega) (BS.rr (ha.ks.at_ (j := k) (by omega))) (by rw [List.length_map]; omega) (oneU8 _) (by simp only [by_5]; omega) (by omega) ?_
     intro A11 c11 hcap11
     refine ⟨kp0, ?_⟩
     refine x_S (S' := [_, _, _, _]) rfl ?_
     refine q_as rfl rfl rfl ?_
     refine x_end ?_
     refine nk_cut (e' := [(0, _), (1, _), (2, _), (3, _), (4, _), (5, _), (6, _), (7, _), (8, _), (9, _), (13, _), (32, _), (58, _)]) [0, 1, 2, 3, 4, 5, 6, 7, 8, 9, 13, 32, 58] rfl ?_
     refine nk_blk ?_
     refine nk_seq ?_
     refine rg (.q 0 (.q 1 (.q 2 XT.done))) (by kernel_rfl) (by kernel_rfl) ?_
     refine q_mv rfl rfl rfl ?_
     refine q_add rfl rfl rfl rfl (by omega) (by omega) ?_
     refine q_as rfl rfl rfl ?_
     refine x_end ?_
     refine nk_cut (e' := [(0, _), (1, _), (2, _), (3, _), (4, _), (5, _), (6, _), (7, _), (8, _), (9, _), (13, _), (32, _), (58, _)]) [0, 1, 2, 3, 4, 5, 6, 7, 8, 9, 13, 32, 58] rfl ?_
     refine nk_perm (S' := [_, _, _, _]) (permL [1, 2, 3, 0] rfl) ?_
     refine nk_drop (S := [_, _, _]) (S' := [_]) ?_
     refine nk_round (μ := Mv2) (i := (k, A, c)) (S := Sv2) (G := Gv2) (⟨k + 1, A11, c11⟩ : Nat × Option Addr × Nat) ?_ ?_ ?_ ?_
     ·exact ⟨congrArg (fun z => some (SV.sl _ z _)) (by omega), rfl, rfl, rfl, rfl, rfl, rfl, rfl, rfl, rfl, rfl, trivial⟩
     ·exact (congrArg (fun l => Chunk.own _ 5 l _ :: _) (kek_map (a := a) (k := k) (by omega)))
     ·exact ⟨rfl, ⟨by omega, by omega⟩⟩
     ·dsimp only [Mv2]; omega
    ·intro hc58
     try simp only [decide_eq_false_iff_not] at hc58
     have hkn : k = a.n := by omega
     refine ew_exit _ rfl ?_
     refine nk_seq ?_
     refine ew_seq ?_
     refine rg (.q 0 (.q 1 (.q 2 XT.done))) (by kernel_rfl) (by kernel_rfl) ?_
     refine q_mv rfl rfl rfl ?_
     refine q_as rfl rfl rfl ?_
     refine q_as (sv := .i 0) rfl rfl rfl ?_
     refine x_end ?_
     refine nk_cut (e' := [(0, _), (1, _), (2, _), (3, _), (4, _), (5, _), (6, _), (7, _), (8, _), (13, _), (32, _), (58, _)]) [0, 1, 2, 3, 4, 5, 6, 7, 8, 13, 32, 58] rfl ?_
     refine nk_seq ?_
     refine ew_shrink hB ?_
     refine ew_ret1 (r := .tup [_, _]) 0 rfl rfl (.cons (.tmp rfl) (.cons (.tmp rfl) .nil)) rfl rfl ?_
     have he : a.v.put = a.v.pre ++ (a.v.keks.take k).flatMap kekB := by rw [Anc.put_ok hck, Anc.pre_enc, List.take_of_length_le (by simp [An.v]; omega)]
     rw [he, pre_app_len hf (by omega), hck]
     exact ⟨A, c, rfl, hkc, rfl, rfl⟩

end Go.GW
