/- Contracts of functions of the loaded program, printed by our own program gen.py. -/
import Derived.Test.YtcchamnagcpaiaaGcmB
namespace Go.GW
open Go Go.Proofs
set_option linter.unusedSimpArgs false
set_option linter.unusedVariables false


def sealG (ks nonce beside text : List UInt8) : List UInt8 × Int := if nonce.length ≠ 12 then ([], 17) else (sealF ks nonce beside text, 0)
theorem openF_1 {ks nonce beside s : List UInt8} (h : nonce.length ≠ 12) : openF ks nonce beside s = ([], 17) := if_pos h
theorem openF_2 {ks nonce beside s : List UInt8} (h : nonce.length = 12) (h2 : s.length < 16) : openF ks nonce beside s = ([], 3) := (if_neg (fun h3 => h3 h)).trans (if_pos h2)
theorem openF_3 {ks nonce beside s : List UInt8} (h : nonce.length = 12) (h2 : ¬ s.length < 16) (h3 : ¬ tagF ks nonce beside (s.take (s.length - 16)) = s.drop (s.length - 16)) : openF ks nonce beside s = ([], 6) := (if_neg (fun h3 => h3 h)).trans ((if_neg h2).trans (if_neg h3))
theorem openF_4 {ks nonce beside s : List UInt8} (h : nonce.length = 12) (h2 : ¬ s.length < 16) (h3 : tagF ks nonce beside (s.take (s.length - 16)) = s.drop (s.length - 16)) : openF ks nonce beside s = (streamF ks nonce (s.take (s.length - 16)), 0) := (if_neg (fun h3 => h3 h)).trans ((if_neg h2).trans (if_pos h3))

theorem GcmSeal_hc {H : Hp} {gg gc gt gh : Nat} {ks : List UInt8} (hg : GcmP H gg gc gt gh ks) {An : Option Addr} {nn cn : Nat} {nonce : List UInt8} (hno : BS H An nn cn nonce) {A1 A2 : Option Addr} {n1 c1 n2 c2 : Nat} {bs sd : List UInt8} (hbs : BS H A1 n1 c1 bs) (hsd : BS H A2 n2 c2 sd) (hl : n2 ≤ 549755813888) :
  HC Try.prog 61 [.p ⟨gg, 0, none⟩, .sl An nn cn, .sl A1 n1 c1, .sl A2 n2 c2] [] H (fun r S' H' => ∃ A c, r = .tup [.sl A (sealG ks nonce bs sd).1.length c, .i (sealG ks nonce bs sd).2] ∧ S' = [.own A 5 ((sealG ks nonce bs sd).1.map SV.u8) (c * 1)] ∧ (sealG ks nonce bs sd).1.length ≤ c ∧ HLe H H') := by
 have hnl := hno.len
 have hsl := hsd.len
 have hsc := hsd.cap
 refine hc_intro (n := 26) Try.func61 rfl Try.ntmps61 rfl (fun B hB => ?_)
 refine ew_cut (e' := [(0, _), (1, _), (2, _), (3, _)]) [0, 1, 2, 3] rfl ?_
 refine ew_seq ?_
 refine rg (.q 0 (.q 1 XT.done)) (by kernel_rfl) (by kernel_rfl) ?_
 refine q_as (sv := .sl none 0 0) rfl rfl rfl ?_
 refine q_as (sv := .i 0) rfl rfl rfl ?_
 refine x_end ?_
 refine nk_cut (e' := [(0, _), (1, _), (2, _), (3, _), (8, _), (9, _)]) [0, 1, 2, 3, 8, 9] rfl ?_
 refine nk_seq ?_
 refine ew_seq ?_
 refine ew_seq ?_
 refine rg (.q 0 (.q 1 (.q 2 XT.done))) (by kernel_rfl) (by kernel_rfl) ?_
 refine q_mv rfl rfl rfl ?_
 refine q_len Try.underlying26 rfl rfl rfl ?_
 refine q_ne rfl rfl rfl rfl ?_
 refine x_end ?_
 refine nk_cut (e' := [(0, _), (1, _), (2, _), (3, _), (8, _), (9, _), (13, _)]) [0, 1, 2, 3, 8, 9, 13] rfl ?_
 refine nk_seq ?_
 refine ew_cond rfl ?_ ?_
 ·intro hc13
  try simp only [ne_eq, decide_eq_true_eq, decide_eq_false_iff_not, Decidable.not_not] at hc13
  have hn12 : nonce.length ≠ 12 := by omega
  refine ew_seq ?_
  refine rg (.q 0 (.q 1 XT.done)) (by kernel_rfl) (by kernel_rfl) ?_
  refine q_as (sv := .sl none 0 0) rfl rfl rfl ?_
  refine q_as (sv := .i 17) rfl rfl rfl ?_
  refine x_end ?_
  refine nk_cut (e' := [(0, _), (1, _), (2, _), (3, _), (8, _), (9, _), (13, _)]) [0, 1, 2, 3, 8, 9, 13] rfl ?_
  refine nk_seq ?_
  refine ew_nil 5 ?_
  refine ew_ret1 (r := .tup [_, _]) 0 rfl rfl (.cons (.tmp rfl) (.cons (.tmp rfl) .nil)) rfl rfl ?_
  rw [show sealG ks nonce bs sd = ([], 17) from if_pos hn12]
  exact ⟨none, 0, rfl, rfl, Nat.le_refl _, HLe.refl _⟩
 ·intro hc13
  try simp only [ne_eq, decide_eq_true_eq, decide_eq_false_iff_not, Decidable.not_not] at hc13
  have hn12 : nonce.length = 12 := by omega
  refine ew_skip ?_
  refine nk_seq ?_
  refine ew_seq ?_
  refine rg (.q 0 (.q 1 (.q 2 (.h 3 (.q 4 XT.done))))) (by kernel_rfl) (by kernel_rfl) ?_
  iterate 3 refine q_mv rfl rfl rfl ?_
  refine h_call0 Try.call108 rfl rfl rfl (GcmStream_hc hg hno hn12 hsd hl) ?_
  rintro r_ S_ Hn1 hl1 ⟨A1, c1, rfl, rfl, hcap1, hle1⟩
  replace hg := hg.mono hl1
  replace hno := hno.mono hl1
  replace hbs := hbs.mono hl1
  replace hsd := hsd.mono hl1
  refine ⟨kp0, ?_⟩
  refine x_S (S' := [_]) rfl ?_
  refine q_as rfl rfl rfl ?_
  refine x_end ?_
  refine nk_cut (e' := [(0, _), (1, _), (2, _), (3, _), (8, _), (9, _), (10, _), (13, _)]) [0, 1, 2, 3, 8, 9, 10, 13] rfl ?_
  refine nk_seq ?_
  refine ew_seq ?_
  refine rg (.q 0 (.q 1 (.q 2 (.q 3 (.q 4 (.h 5 (.h 6 (.h 7 (.q 8 (.q 9 XT.done)))))))))) (by kernel_rfl) (by kernel_rfl) ?_
  iterate 5 refine q_mv rfl rfl rfl ?_
  refine pubX (S' := []) 0 rfl rfl ?_
  intro Hp1 hp1 hr1
  replace hg := hg.mono hp1
  replace hno := hno.mono hp1
  replace hbs := hbs.mono hp1
  replace hsd := hsd.mono hp1
  refine h_call0 Try.call109 rfl rfl rfl (GcmTagC_hc hg hno hn12 hbs ⟨hr1, rfl, hcap1⟩) ?_
  rintro r_ S_ Hn2 hl2 ⟨A2, c2, rfl, rfl, hcap2, hle2⟩
  replace hg := hg.mono hl2
  replace hno := hno.mono hl2
  replace hbs := hbs.mono hl2
  replace hsd := hsd.mono hl2
  replace hr1 := hr1.mono hl2
  refine ⟨kp0, ?_⟩
  refine x_S (S' := [_]) rfl ?_
  refine h_bs (cs := [_, _]) Try.underlying77 info_26 rfl rfl rfl rfl rfl rfl rfl rfl rfl (by decide) ?_
  intro g3
  refine ⟨kp0, ?_⟩
  refine pubX (S' := [_]) 1 rfl rfl ?_
  intro Hp2 hp2 hr2
  replace hg := hg.mono hp2
  replace hno := hno.mono hp2
  replace hbs := hbs.mono hp2
  replace hsd := hsd.mono hp2
  replace hr1 := hr1.mono hp2
  refine pubX (S' := []) 0 rfl rfl ?_
  intro Hp3 hp3 hr3
  replace hg := hg.mono hp3
  replace hno := hno.mono hp3
  replace hbs := hbs.mono hp3
  replace hsd := hsd.mono hp3
  replace hr1 := hr1.mono hp3
  replace hr2 := hr2.mono hp3
  refine h_call0 Try.call80 rfl rfl rfl (Join2_hc hr3 ⟨hr1, rfl, hcap1⟩ ⟨hr2, rfl, hcap2⟩ (by rw [streamF_len, tagF_len]; omega)) ?_
  rintro r_ S_ Hp3 hl3 ⟨A3, c3, rfl, rfl, hcap3, rfl⟩
  refine ⟨kp0, ?_⟩
  refine x_S (S' := [_]) rfl ?_
  refine q_as rfl rfl rfl ?_
  refine q_as (sv := .i 0) rfl rfl rfl ?_
  refine x_end ?_
  refine nk_cut (e' := [(0, _), (1, _), (2, _), (3, _), (8, _), (9, _), (10, _), (13, _)]) [0, 1, 2, 3, 8, 9, 10, 13] rfl ?_
  refine nk_seq ?_
  refine ew_ret1 (r := .tup [_, _]) 0 rfl rfl (.cons (.tmp rfl) (.cons (.tmp rfl) .nil)) rfl rfl ?_
  have he : sealG ks nonce bs sd = (sealF ks nonce bs sd, 0) := if_neg (fun h => h hn12)
  rw [he]
  exact ⟨_, _, rfl, rfl, hcap3, ((((hl1.trans hp1).trans hl2).trans hp2).trans hp3)⟩


theorem GcmOpen_hc {H : Hp} {gg gc gt gh : Nat} {ks : List UInt8} (hg : GcmP H gg gc gt gh ks) {An : Option Addr} {nn cn : Nat} {nonce : List UInt8} (hno : BS H An nn cn nonce) {A1 A2 : Option Addr} {n1 c1 n2 c2 : Nat} {bs sd : List UInt8} (hbs : BS H A1 n1 c1 bs) (hsd : BS H A2 n2 c2 sd) (hl : n2 ≤ 549755813888) :
  HC Try.prog 64 [.p ⟨gg, 0, none⟩, .sl An nn cn, .sl A1 n1 c1, .sl A2 n2 c2] [] H (fun r S' H' => ∃ A c, r = .tup [.sl A (openF ks nonce bs sd).1.length c, .i (openF ks nonce bs sd).2] ∧ S' = [.own A 5 ((openF ks nonce bs sd).1.map SV.u8) (c * 1)] ∧ (openF ks nonce bs sd).1.length ≤ c ∧ HLe H H') := by
 have hnl := hno.len
 have hsl := hsd.len
 have hsc := hsd.cap
 refine hc_intro (n := 40) Try.func64 rfl Try.ntmps64 rfl (fun B hB => ?_)
 refine ew_cut (e' := [(0, _), (1, _), (2, _), (3, _)]) [0, 1, 2, 3] rfl ?_
 refine ew_seq ?_
 refine rg (.q 0 (.q 1 XT.done)) (by kernel_rfl) (by kernel_rfl) ?_
 refine q_as (sv := .sl none 0 0) rfl rfl rfl ?_
 refine q_as (sv := .i 0) rfl rfl rfl ?_
 refine x_end ?_
 refine nk_cut (e' := [(0, _), (1, _), (2, _), (3, _), (8, _), (9, _)]) [0, 1, 2, 3, 8, 9] rfl ?_
 refine nk_seq ?_
 refine ew_seq ?_
 refine ew_block ?_
 refine ew_seq ?_
 refine rg (.q 0 (.q 1 (.q 2 (.q 3 XT.done)))) (by kernel_rfl) (by kernel_rfl) ?_
 refine q_mv rfl rfl rfl ?_
 refine q_len Try.underlying26 rfl rfl rfl ?_
 refine q_ne rfl rfl rfl rfl ?_
 refine q_as rfl rfl rfl ?_
 refine x_end ?_
 refine nk_cut (e' := [(0, _), (1, _), (2, _), (3, _), (8, _), (9, _), (11, _)]) [0, 1, 2, 3, 8, 9, 11] rfl ?_
 refine nk_seq ?_
 refine ew_cond rfl ?_ ?_
 ·intro hc11
  try simp only [ne_eq, decide_eq_true_eq, decide_eq_false_iff_not, Decidable.not_not] at hc11
  have hn12 : nonce.length ≠ 12 := by omega
  refine ew_seq ?_
  refine rg (.q 0 (.q 1 XT.done)) (by kernel_rfl) (by kernel_rfl) ?_
  refine q_as (sv := .sl none 0 0) rfl rfl rfl ?_
  refine q_as (sv := .i 17) rfl rfl rfl ?_
  refine x_end ?_
  refine nk_cut (e' := [(0, _), (1, _), (2, _), (3, _), (8, _), (9, _), (11, _)]) [0, 1, 2, 3, 8, 9, 11] rfl ?_
  refine nk_seq ?_
  refine ew_nil 5 ?_
  refine ew_ret1 (r := .tup [_, _]) 0 rfl rfl (.cons (.tmp rfl) (.cons (.tmp rfl) .nil)) rfl rfl ?_
  rw [openF_1 hn12]
  exact ⟨none, 0, rfl, rfl, Nat.le_refl _, HLe.refl _⟩
 ·intro hc11
  try simp only [ne_eq, decide_eq_true_eq, decide_eq_false_iff_not, Decidable.not_not] at hc11
  have hn12 : nonce.length = 12 := by omega
  refine ew_seq ?_
  refine rg (.q 0 (.q 1 (.q 2 (.q 3 XT.done)))) (by kernel_rfl) (by kernel_rfl) ?_
  refine q_mv rfl rfl rfl ?_
  refine q_len Try.underlying26 rfl rfl rfl ?_
  refine q_lt rfl rfl rfl rfl ?_
  refine q_as rfl rfl rfl ?_
  refine x_end ?_
  refine nk_cut (e' := [(0, _), (1, _), (2, _), (3, _), (8, _), (9, _), (11, _), (15, _)]) [0, 1, 2, 3, 8, 9, 11, 15] rfl ?_
  refine nk_seq ?_
  refine ew_cond rfl ?_ ?_
  ·intro hc15
   try simp only [decide_eq_true_eq] at hc15
   refine ew_seq ?_
   refine rg (.q 0 (.q 1 XT.done)) (by kernel_rfl) (by kernel_rfl) ?_
   refine q_as (sv := .sl none 0 0) rfl rfl rfl ?_
   refine q_as (sv := .i 3) rfl rfl rfl ?_
   refine x_end ?_
   refine nk_cut (e' := [(0, _), (1, _), (2, _), (3, _), (8, _), (9, _), (11, _), (15, _)]) [0, 1, 2, 3, 8, 9, 11, 15] rfl ?_
   refine nk_seq ?_
   refine ew_nil 5 ?_
   refine ew_ret1 (r := .tup [_, _]) 0 rfl rfl (.cons (.tmp rfl) (.cons (.tmp rfl) .nil)) rfl rfl ?_
   rw [openF_2 hn12 (by omega)]
   exact ⟨none, 0, rfl, rfl, Nat.le_refl _, HLe.refl _⟩
  ·intro hc15
   try simp only [decide_eq_false_iff_not] at hc15
   have htk : sd.take ((n2 : Int) - 16).toNat = sd.take (sd.length - 16) := by congr 1; omega
   have hdk : sd.drop ((n2 : Int) - 16).toNat = sd.drop (sd.length - 16) := by congr 1; omega
   refine ew_skip ?_
   refine nk_blk ?_
   refine nk_seq ?_
   refine ew_seq ?_
   refine rg (.q 0 (.q 1 (.q 2 (.q 3 XT.done)))) (by kernel_rfl) (by kernel_rfl) ?_
   refine q_mv rfl rfl rfl ?_
   refine q_len Try.underlying26 rfl rfl rfl ?_
   refine q_sub rfl rfl rfl rfl (by omega) (by omega) ?_
   refine q_as rfl rfl rfl ?_
   refine x_end ?_
   refine nk_cut (e' := [(0, _), (1, _), (2, _), (3, _), (8, _), (9, _), (10, _), (11, _), (15, _)]) [0, 1, 2, 3, 8, 9, 10, 11, 15] rfl ?_
   refine nk_seq ?_
   refine ew_seq ?_
   refine ew_seq ?_
   refine rd (by kernel_rfl) [0, 1, 2, 3, 4, 5, 7, 8, 9, 11] [0, 1, 2, 3, 4, 5, 6, 7, 8, 9, 10, 11] (.q 0 (.q 1 (.q 2 (.q 3 (.q 4 (.q 5 (.q 7 (.q 8 (.q 9 (.h 6 (.h 10 (.q 11 XT.done)))))))))))) (by kernel_rfl) (by kernel_rfl) (keepL _ []) (keepL_sub _ _) ?_
   iterate 5 refine q_mv rfl rfl rfl ?_
   refine q_sl_h Try.underlying26 Try.sizeOf5 rfl rfl rfl rfl (by omega) (by omega) ?_
   refine q_mv rfl rfl rfl ?_
   refine q_mv rfl rfl rfl ?_
   refine q_sl_l Try.underlying26 Try.sizeOf5 rfl rfl rfl rfl (by omega) (by omega) ?_
   have hct := GcmTagC_hc hg hno hn12 hbs (hsd.take (m := ((n2 : Int) - 16).toNat) (by omega))
   rw [htk] at hct
   refine h_call0 Try.call109 rfl rfl rfl (hct) ?_
   rintro r_ S_ Hn1 hl1 ⟨A1, c1, rfl, rfl, hcap1, hle1⟩
   replace hg := hg.mono hl1
   replace hno := hno.mono hl1
   replace hbs := hbs.mono hl1
   replace hsd := hsd.mono hl1
   refine ⟨(fun _ => ⟨by first | exact kpL [] rfl | simp [keepL, nth], hl1⟩), ?_⟩
   refine x_S (S' := [_]) rfl ?_
   refine pubX (S' := []) 0 rfl rfl ?_
   intro Hp1 hp1 hr1
   replace hg := hg.mono hp1
   replace hno := hno.mono hp1
   replace hbs := hbs.mono hp1
   replace hsd := hsd.mono hp1
   refine h_call0 Try.call96 rfl rfl rfl (Same_hc ⟨hr1, rfl, hcap1⟩ (hsd.drop (L := ((n2 : Int) - 16).toNat) (by omega)) (by rw [tagF_len]; decide)) ?_
   rintro r_ S_ Hp1 hl2 ⟨rfl, rfl, rfl⟩
   refine ⟨(fun _ => ⟨by first | exact kpL [] rfl | simp [keepL, nth], (hl1.trans hp1)⟩), ?_⟩
   refine x_S (S' := []) rfl ?_
   refine q_not rfl rfl rfl ?_
   refine x_end ?_
   refine nk_cut (e' := [(0, _), (1, _), (2, _), (3, _), (8, _), (9, _), (10, _), (11, _), (15, _), (33, _)]) [0, 1, 2, 3, 8, 9, 10, 11, 15, 33] rfl ?_
   refine nk_seq ?_
   refine ew_cond rfl ?_ ?_
   ·intro hc33
    simp only [Bool.not_eq_true', Bool.not_eq_false', decide_eq_true_eq, decide_eq_false_iff_not, hdk] at hc33
    refine ew_seq ?_
    refine rg (.q 0 (.q 1 XT.done)) (by kernel_rfl) (by kernel_rfl) ?_
    refine q_as (sv := .sl none 0 0) rfl rfl rfl ?_
    refine q_as (sv := .i 6) rfl rfl rfl ?_
    refine x_end ?_
    refine nk_cut (e' := [(0, _), (1, _), (2, _), (3, _), (8, _), (9, _), (10, _), (11, _), (15, _), (33, _)]) [0, 1, 2, 3, 8, 9, 10, 11, 15, 33] rfl ?_
    refine nk_seq ?_
    refine ew_nil 5 ?_
    refine ew_ret1 (r := .tup [_, _]) 0 rfl rfl (.cons (.tmp rfl) (.cons (.tmp rfl) .nil)) rfl rfl ?_
    rw [openF_3 hn12 (by omega) hc33]
    exact ⟨none, 0, rfl, rfl, Nat.le_refl _, (hl1.trans hp1)⟩
   ·intro hc33
    simp only [Bool.not_eq_true', Bool.not_eq_false', decide_eq_true_eq, decide_eq_false_iff_not, hdk] at hc33
    refine ew_skip ?_
    refine nk_seq ?_
    refine ew_seq ?_
    refine rg (.q 0 (.q 1 (.q 2 (.q 3 (.q 4 (.h 5 (.q 6 (.q 7 XT.done)))))))) (by kernel_rfl) (by kernel_rfl) ?_
    iterate 4 refine q_mv rfl rfl rfl ?_
    refine q_sl_h Try.underlying26 Try.sizeOf5 rfl rfl rfl rfl (by omega) (by omega) ?_
    have hcs := GcmStream_hc hg hno hn12 (hsd.take (m := ((n2 : Int) - 16).toNat) (by omega)) (by omega)
    rw [htk] at hcs
    refine h_call0 Try.call108 rfl rfl rfl (hcs) ?_
    rintro r_ S_ Hn2 hl3 ⟨A2, c2, rfl, rfl, hcap2, hle2⟩
    replace hg := hg.mono hl3
    replace hno := hno.mono hl3
    replace hbs := hbs.mono hl3
    replace hsd := hsd.mono hl3
    replace hr1 := hr1.mono hl3
    refine ⟨kp0, ?_⟩
    refine x_S (S' := [_]) rfl ?_
    refine q_as rfl rfl rfl ?_
    refine q_as (sv := .i 0) rfl rfl rfl ?_
    refine x_end ?_
    refine nk_cut (e' := [(0, _), (1, _), (2, _), (3, _), (8, _), (9, _), (10, _), (11, _), (15, _), (33, _)]) [0, 1, 2, 3, 8, 9, 10, 11, 15, 33] rfl ?_
    refine nk_seq ?_
    refine ew_ret1 (r := .tup [_, _]) 0 rfl rfl (.cons (.tmp rfl) (.cons (.tmp rfl) .nil)) rfl rfl ?_
    rw [openF_4 hn12 (by omega) hc33]
    exact ⟨_, _, rfl, rfl, hcap2, ((hl1.trans hp1).trans hl3)⟩

end Go.GW
