/- Contracts of functions of the loaded program, printed by our own program gen.py. -/
import Derived.Test.YtcchamnagcpaiaaPowA
namespace Go.GW
open Go Go.Proofs
set_option linter.unusedSimpArgs false
set_option linter.unusedVariables false


theorem putN_succ (n : UInt64) (size : Int) (h : ¬ size < 1) : putN n size.toNat = putN (n / 256) (size - 1).toNat ++ [(n % 256).toUInt8] := by
  rw [show size.toNat = (size - 1).toNat + 1 by omega]; rfl

theorem RPut_hc {H : Hp} : ∀ (s : Nat) (n : UInt64) (size : Int), size.toNat = s → size ≤ 1048576 → -1048576 ≤ size →
  HC Try.prog 85 [.u64 n, .i size] [] H (fun r S' H' => ∃ A c, r = .sl A size.toNat c ∧ S' = [.own A 5 ((putN n size.toNat).map SV.u8) (c * 1)] ∧ size.toNat ≤ c ∧ H' = H) := by
 intro s
 induction s using Nat.strongRecOn with
 | _ s ih =>
 intro n size hs hb hb0
 refine hc_intro (n := 17) Try.func85 rfl Try.ntmps85 rfl (fun B hB => ?_)
 refine ew_cut (e' := [(0, _), (1, _)]) [0, 1] rfl ?_
 refine ew_seq ?_
 refine rg (.q 0 XT.done) (by kernel_rfl) (by kernel_rfl) ?_
 refine q_as (sv := .sl none 0 0) rfl rfl rfl ?_
 refine x_end ?_
 refine nk_cut (e' := [(0, _), (1, _), (4, _)]) [0, 1, 4] rfl ?_
 refine nk_seq ?_
 refine ew_seq ?_
 refine ew_seq ?_
 refine rg (.q 0 (.q 1 XT.done)) (by kernel_rfl) (by kernel_rfl) ?_
 refine q_mv rfl rfl rfl ?_
 refine q_lt rfl rfl rfl rfl ?_
 refine x_end ?_
 refine nk_cut (e' := [(0, _), (1, _), (4, _), (6, _)]) [0, 1, 4, 6] rfl ?_
 refine nk_seq ?_
 refine ew_cond rfl ?_ ?_
 ·intro hc6
  try simp only [decide_eq_true_eq] at hc6
  refine ew_seq ?_
  refine rg (.q 0 XT.done) (by kernel_rfl) (by kernel_rfl) ?_
  refine q_as (sv := .sl none 0 0) rfl rfl rfl ?_
  refine x_end ?_
  refine nk_cut (e' := [(0, _), (1, _), (4, _), (6, _)]) [0, 1, 4, 6] rfl ?_
  refine nk_seq ?_
  refine ew_nil 5 ?_
  refine ew_retk 0 rfl rfl (.cons (.tmp rfl) .nil) rfl rfl ?_
  have h0 : size.toNat = 0 := by omega
  rw [h0]
  exact ⟨none, 0, rfl, rfl, Nat.le_refl _, rfl⟩
 ·intro hc6
  try simp only [decide_eq_false_iff_not] at hc6
  refine ew_skip ?_
  refine nk_seq ?_
  refine ew_seq ?_
  refine rg (.q 0 (.q 1 (.q 2 (.q 3 (.h 4 (.q 5 (.q 6 (.q 7 (.h 8 (.h 9 (.q 10 XT.done))))))))))) (by kernel_rfl) (by kernel_rfl) ?_
  refine q_mv rfl rfl rfl ?_
  refine q_quo_u64 rfl rfl rfl rfl (by decide) ?_
  refine q_mv rfl rfl rfl ?_
  refine q_sub rfl rfl rfl rfl (by omega) (by omega) ?_
  refine h_call0 Try.call85 rfl rfl rfl (ih (size - 1).toNat (by omega) _ (size - 1) rfl (by omega) (by omega)) ?_
  rintro r_ S_ H hl1 ⟨A1, c1, rfl, rfl, hcap1, rfl⟩
  refine ⟨kp0, ?_⟩
  refine x_S (S' := [_]) rfl ?_
  refine q_mv rfl rfl rfl ?_
  refine q_rem_u64 rfl rfl rfl rfl (by decide) ?_
  refine q_cv_u64_u8 Try.underlying5 (by kernel_rfl) rfl rfl rfl ?_
  refine h_bs (cs := [_]) Try.underlying26 info_5 rfl rfl rfl rfl rfl rfl rfl rfl rfl (by decide) ?_
  intro g2
  refine ⟨kp0, ?_⟩
  refine h_appO (sz := 1) (S1 := [_]) 0 0 Try.underlying26 info_5 rfl rfl rfl (by decide) rfl rfl rfl rfl rfl rfl rfl rfl (by simp [putN_length]) (by omega) rfl (allOne rfl) (by simp only [by_5]; omega) (by omega) ?_
  intro A2 c2 hcap2
  refine ⟨kp0, ?_⟩
  refine x_S (S' := [_]) rfl ?_
  refine q_as rfl rfl rfl ?_
  refine x_end ?_
  refine nk_cut (e' := [(0, _), (1, _), (4, _), (6, _)]) [0, 1, 4, 6] rfl ?_
  refine nk_seq ?_
  refine ew_retk 0 rfl rfl (.cons (.tmp rfl) .nil) rfl rfl ?_
  rw [putN_succ n size (by omega)]
  refine ⟨A2, c2, congrArg (fun z => SV.sl _ z _) (by omega), by simp, by omega, rfl⟩


theorem or8 (n : UInt64) (c : UInt8) : n * 256 + c.toUInt64 = shl_u64 n 8 ||| c.toUInt64 := by
  apply UInt64.toNat_inj.1
  have hc := c.toNat_lt
  unfold shl_u64
  rw [UInt64.toNat_or, UInt64.toNat_ofNat', UInt64.toNat_add, UInt64.toNat_mul, UInt8.toNat_toUInt64, Nat.shiftLeft_eq]
  have h1 : n.toNat * 2 ^ 8 % 2 ^ 64 = (n.toNat % 2 ^ 56) * 2 ^ 8 := by omega
  rw [h1, ← Nat.shiftLeft_eq, ← Nat.shiftLeft_add_eq_or_of_lt (by simpa using hc), Nat.shiftLeft_eq]
  have h2 : (256 : UInt64).toNat = 256 := rfl
  rw [h2]
  omega

theorem RGet_hc {H : Hp} {A : Option Addr} {n c : Nat} {xs : List UInt8} (hx : BS H A n c xs) (hn : n ≤ 4611686018427387904) :
  HC Try.prog 133 [.sl A n c] [] H (fun r S' H' => r = .u64 (getN xs) ∧ S' = [] ∧ H' = H) := by
 refine hc_intro (n := 20) Try.func133 rfl Try.ntmps133 rfl (fun B hB => ?_)
 refine ew_cut (e' := [(0, _)]) [0] rfl ?_
 refine ew_seq ?_
 refine rg (.q 0 XT.done) (by kernel_rfl) (by kernel_rfl) ?_
 refine q_as (sv := .u64 0) rfl rfl rfl ?_
 refine x_end ?_
 refine nk_cut (e' := [(0, _), (2, _)]) [0, 2] rfl ?_
 refine nk_seq ?_
 refine ew_seq ?_
 refine rg (.q 0 XT.done) (by kernel_rfl) (by kernel_rfl) ?_
 refine q_as (sv := .u64 0) rfl rfl rfl ?_
 refine x_end ?_
 refine nk_cut (e' := [(0, _), (2, _), (3, _)]) [0, 2, 3] rfl ?_
 refine nk_seq ?_
 refine ew_seq ?_
 refine ew_seq ?_
 refine rg (.q 0 XT.done) (by kernel_rfl) (by kernel_rfl) ?_
 refine q_as (sv := .i 0) rfl rfl rfl ?_
 refine x_end ?_
 refine nk_cut (e' := [(0, _), (2, _), (3, _), (4, _)]) [0, 2, 3, 4] rfl ?_
 refine nk_seq ?_
 refine ew_block ?_
 let Ev1 : Nat → Env := fun k => [(3, .u64 (getN (xs.take k))), (4, .i (k : Int))]
 let Gv1 : Nat → Hp → Prop := fun k H' => H = H' ∧ (k ≤ n)
 let Mv1 : Nat → Nat := fun k => n - k
 refine ew_loop (mkE [(0, _), (2, _)] Ev1) (mkS [] (fun _ => [])) Gv1 Mv1 (0 : Nat) ⟨rfl, rfl, rfl, rfl, trivial⟩ rfl ⟨rfl, by omega⟩ ?_
 rintro k H' ⟨rfl, hG⟩
 refine ew_S (S' := []) rfl ?_
 refine ew_cut (e' := [(3, _), (4, _), (0, _), (2, _)]) [3, 4, 0, 2] rfl ?_
 refine ew_seq ?_
 refine ew_seq ?_
 refine rg (.q 0 (.q 1 (.q 2 (.q 3 XT.done)))) (by kernel_rfl) (by kernel_rfl) ?_
 refine q_mv rfl rfl rfl ?_
 refine q_mv rfl rfl rfl ?_
 refine q_len Try.underlying26 rfl rfl rfl ?_
 refine q_lt rfl rfl rfl rfl ?_
 refine x_end ?_
 refine nk_cut (e' := [(0, _), (2, _), (3, _), (4, _), (8, _)]) [0, 2, 3, 4, 8] rfl ?_
 refine nk_seq ?_
 refine ew_cond rfl ?_ ?_
 ·intro hc8
  try simp only [decide_eq_true_eq] at hc8
  refine ew_skip ?_
  refine nk_seq ?_
  refine ew_seq ?_
  refine ew_block ?_
  refine rg (.q 0 (.q 1 (.q 2 (.q 3 (.q 4 (.q 5 (.q 6 (.q 7 (.q 8 XT.done))))))))) (by kernel_rfl) (by kernel_rfl) ?_
  refine q_mv rfl rfl rfl ?_
  refine q_mul_u64 rfl rfl rfl rfl ?_
  refine q_mv rfl rfl rfl ?_
  refine q_mv rfl rfl rfl ?_
  refine q_ixs1 Try.underlying26 Try.sizeOf5 rfl rfl rfl rfl rfl (hx.ne (by omega)) (by omega) (by omega) ?_
  refine q_ldp Try.isAgg5 rfl rfl rfl (hx.cell (j := k) (by omega)) ?_
  refine q_cv_u8_u64 Try.underlying156 (by kernel_rfl) rfl rfl rfl ?_
  refine q_add_u64 rfl rfl rfl rfl ?_
  refine q_as rfl rfl rfl ?_
  refine x_end ?_
  refine nk_cut (e' := [(0, _), (2, _), (3, _), (4, _), (8, _)]) [0, 2, 3, 4, 8] rfl ?_
  refine nk_blk ?_
  refine nk_seq ?_
  refine rg (.q 0 (.q 1 (.q 2 XT.done))) (by kernel_rfl) (by kernel_rfl) ?_
  refine q_mv rfl rfl rfl ?_
  refine q_add rfl rfl rfl rfl (by omega) (by omega) ?_
  refine q_as rfl rfl rfl ?_
  refine x_end ?_
  refine nk_cut (e' := [(0, _), (2, _), (3, _), (4, _), (8, _)]) [0, 2, 3, 4, 8] rfl ?_
  refine nk_round (μ := Mv1) (i := k) (S := _) (G := Gv1) (k + 1 : Nat) ?_ ?_ ?_ ?_
  ·exact ⟨congrArg (fun z => some (SV.u64 z)) ((or8 _ _).trans (getN_snoc xs k (by rw [hx.len]; omega)).symm), rfl, rfl, rfl, trivial⟩
  ·exact rfl
  ·exact ⟨rfl, by omega⟩
  ·dsimp only [Mv1]; omega
 ·intro hc8
  try simp only [decide_eq_false_iff_not] at hc8
  have hk : k = n := by omega
  refine ew_exit _ rfl ?_
  refine nk_seq ?_
  refine ew_seq ?_
  refine rg (.q 0 (.q 1 XT.done)) (by kernel_rfl) (by kernel_rfl) ?_
  refine q_mv rfl rfl rfl ?_
  refine q_as rfl rfl rfl ?_
  refine x_end ?_
  refine nk_cut (e' := [(0, _), (2, _), (3, _), (4, _), (8, _)]) [0, 2, 3, 4, 8] rfl ?_
  refine nk_seq ?_
  refine ew_retS rfl rfl (.cons (.tmp rfl) .nil) ?_
  exact ⟨by rw [List.take_of_length_le (by rw [hx.len]; omega)], rfl, rfl⟩


/-- bytes that were not read, and what was wrong first -/
structure Rd where
  b : List UInt8
  code : Int

def Rd.take (r : Rd) (m : Int) : List UInt8 × Rd :=
  if r.code ≠ 0 then ([], r) else if m < 0 ∨ (r.b.length : Int) < m then ([], ⟨r.b, 3⟩) else (r.b.take m.toNat, ⟨r.b.drop m.toNat, 0⟩)
theorem Rd.take_b (r : Rd) (m : Int) : (r.take m).2.b.length ≤ r.b.length := by
  unfold Rd.take
  split
  · exact Nat.le_refl _
  · split
    · exact Nat.le_refl _
    · simp
theorem Rd.take_l (r : Rd) (m : Int) : (r.take m).1.length ≤ r.b.length := by
  unfold Rd.take
  split
  · simp
  · split
    · simp
    · simp; omega
/-- a reader's struct -/
structure RdS (H : Hp) (A : Option Addr) (n c : Nat) (r : Rd) : Prop where
  bs : BS H A n c r.b
  lim : n ≤ 1099511627776
theorem RdS.mono {H H' : Hp} {A : Option Addr} {n c : Nat} {r : Rd} (h : RdS H A n c r) (hle : HLe H H') : RdS H' A n c r := ⟨h.bs.mono hle, h.lim⟩
theorem Rd.take_lim {H : Hp} {A A' : Option Addr} {n c n' c' : Nat} {r : Rd} (h : RdS H A n c r) {m : Int} (h' : BS H A' n' c' (r.take m).1) : n' ≤ n := by
  have := r.take_l m
  rw [h'.len, h.bs.len] at this
  exact this
theorem one_sli {g : Nat} {H' : Hp} {A : Option Addr} {n c : Nat} {xs : List UInt8} (hr : RR H' (some ⟨g, 0, none⟩) [.sl A n c]) (hx : BS H' A n c xs) : BSS H' (some ⟨g, 0, none⟩) 1 1 [⟨A, n, c, xs⟩] :=
  ⟨hr, rfl, Nat.le_refl _, fun p hp => by simp only [List.mem_singleton] at hp; subst hp; exact hx⟩
theorem catB_one (A : Option Addr) (n c : Nat) (xs : List UInt8) : catB [⟨A, n, c, xs⟩] = xs := by simp [catB]

theorem Read_hc {H : Hp} {A : Option Addr} {n c : Nat} {xs : List UInt8} (hx : BS H A n c xs) (hn : n ≤ 1099511627776) :
  HC Try.prog 86 [.sl A n c] [] H (fun r S' H' => ∃ gr A' n' c', r = .p ⟨gr, 0, none⟩ ∧ S' = [.box gr 215 [.sl A' n' c', .i 0]] ∧ RdS H' A' n' c' ⟨xs, 0⟩ ∧ HLe H H') := by
 refine hc_intro (n := 8) Try.func86 rfl Try.ntmps86 rfl (fun B hB => ?_)
 refine ew_cut (e' := [(0, _)]) [0] rfl ?_
 refine ew_seq ?_
 refine rg (.q 0 XT.done) (by kernel_rfl) (by kernel_rfl) ?_
 refine q_as (sv := .np) rfl rfl rfl ?_
 refine x_end ?_
 refine nk_cut (e' := [(0, _), (2, _)]) [0, 2] rfl ?_
 refine nk_seq ?_
 refine ew_seq ?_
 refine rg (.q 0 (.h 1 (.h 2 (.q 3 (.h 4 (.q 5 XT.done)))))) (by kernel_rfl) (by kernel_rfl) ?_
 refine q_mv rfl rfl rfl ?_
 refine h_bs (cs := [_]) Try.underlying77 info_26 rfl rfl rfl rfl rfl rfl rfl rfl rfl (by decide) ?_
 intro g1
 refine ⟨kp0, ?_⟩
 refine pubX (S' := []) 0 rfl rfl ?_
 intro Hp1 hp1 hr1
 replace hx := hx.mono hp1
 refine h_call0 Try.call80 rfl rfl rfl (Join_hc (one_sli hr1 hx) (by rw [catB_one, hx.len]; omega) (by omega)) ?_
 rintro r_ S_ Hp1 hl1 ⟨A1, c1, rfl, rfl, hcap1, rfl⟩
 refine ⟨kp0, ?_⟩
 refine x_S (S' := [_]) rfl ?_
 refine q_bld (cs := [_, _]) bf_215 rfl rfl rfl rfl ?_
 refine h_boxS rfl rfl rfl ?_
 intro g3
 refine ⟨kp0, ?_⟩
 refine q_as rfl rfl rfl ?_
 refine x_end ?_
 refine nk_cut (e' := [(0, _), (2, _)]) [0, 2] rfl ?_
 refine nk_seq ?_
 refine pubE (S' := [_]) 1 rfl rfl ?_
 intro Hp2 hp2 hout
 replace hx := hx.mono hp2
 replace hr1 := hr1.mono hp2
 refine ew_retA rfl rfl (.cons (.tmp rfl) .nil) ?_
 rw [catB_one] at hout ⊢
 exact ⟨_, _, _, _, rfl, rfl, ⟨⟨hout, rfl, by rw [catB_one] at hcap1; exact hcap1⟩, by rw [hx.len]; exact hn⟩, hp1.trans hp2⟩


theorem Take_hc {H : Hp} {gr : Nat} {A : Option Addr} {n c : Nat} {r : Rd} (hr : RdS H A n c r) {m : Int} (hm : m ≤ 1099511627776) :
  HC Try.prog 129 [.p ⟨gr, 0, none⟩, .i m] [.box gr 215 [.sl A n c, .i r.code]] H (fun rr S' H' => ∃ A1 n1 c1 A2 n2 c2, rr = .sl A1 n1 c1 ∧ BS H A1 n1 c1 (r.take m).1 ∧ S' = [.box gr 215 [.sl A2 n2 c2, .i (r.take m).2.code]] ∧ RdS H A2 n2 c2 (r.take m).2 ∧ H' = H) := by
 have hbs := hr.bs
 have hlim := hr.lim
 have hlen := hbs.len
 have hcap := hbs.cap
 refine hc_intro (n := 49) Try.func129 rfl Try.ntmps129 rfl (fun B hB => ?_)
 refine ew_cut (e' := [(0, _), (1, _)]) [0, 1] rfl ?_
 refine ew_seq ?_
 refine rg (.q 0 XT.done) (by kernel_rfl) (by kernel_rfl) ?_
 refine q_as (sv := .sl none 0 0) rfl rfl rfl ?_
 refine x_end ?_
 refine nk_cut (e' := [(0, _), (1, _), (4, _)]) [0, 1, 4] rfl ?_
 refine nk_seq ?_
 refine ew_seq ?_
 refine ew_seq ?_
 by_cases h0 : r.code = 0
 ·skip
  by_cases h1 : m < 0
  ·skip
   have ht : r.take m = ([], ⟨r.b, 3⟩) := by simp [Rd.take, h0, h1]
   refine rg (.q 0 (.q 1 (.q 2 (.q 3 (.q 4 (.q 5 (.q 6 (.q 7 (.q 8 (.q 9 (.q 10 (.q 11 (.q 12 (.q 13 (.q 14 (.q 15 (.q 16 (.q 17 XT.done)))))))))))))))))) (by kernel_rfl) (by kernel_rfl) ?_
   refine q_mv rfl rfl rfl ?_
   refine q_nil rfl rfl rfl ?_
   refine q_fa fa_215_1 rfl rfl rfl ?_
   refine q_ld 0 Try.isAgg32 rfl rfl rfl rfl rfl ?_
   refine q_eq rfl rfl rfl rfl ?_
   refine q_mv rfl rfl rfl ?_
   refine x_T (decide_eq_true h0) ?_
   refine q_mv rfl rfl rfl ?_
   refine q_lt rfl rfl rfl rfl ?_
   refine q_mv rfl rfl rfl ?_
   refine x_T (decide_eq_true h1) ?_
   iterate 7 refine q_skip rfl rfl ?_
   refine q_pkT rfl rfl rfl rfl ?_
   refine q_pkT rfl rfl rfl rfl ?_
   refine x_end ?_
   refine nk_cut (e' := [(0, _), (1, _), (4, _), (23, _)]) [0, 1, 4, 23] rfl ?_
   refine nk_seq ?_
   refine ew_true rfl ?_
   refine rg (.q 0 (.q 1 (.q 2 (.h 3 XT.done)))) (by kernel_rfl) (by kernel_rfl) ?_
   refine q_mv rfl rfl rfl ?_
   refine q_nil rfl rfl rfl ?_
   refine q_fa fa_215_1 rfl rfl rfl ?_
   refine h_st (sv := .i 3) (cs' := [_, _]) (S' := [_]) 0 Try.sizeOf32 rfl rfl rfl rfl rfl rfl (ltb rfl) rfl rfl kp0 ?_
   refine x_end ?_
   refine nk_cut (e' := [(0, _), (1, _), (4, _), (23, _)]) [0, 1, 4, 23] rfl ?_
   refine nk_seq ?_
   refine ew_seq ?_
   refine ew_seq ?_
   refine rg (.q 0 (.q 1 (.q 2 (.q 3 (.q 4 XT.done))))) (by kernel_rfl) (by kernel_rfl) ?_
   refine q_mv rfl rfl rfl ?_
   refine q_nil rfl rfl rfl ?_
   refine q_fa fa_215_1 rfl rfl rfl ?_
   refine q_ld 0 Try.isAgg32 rfl rfl rfl rfl rfl ?_
   refine q_ne rfl rfl rfl rfl ?_
   refine x_T (rfl) ?_
   refine x_end ?_
   refine nk_cut (e' := [(0, _), (1, _), (4, _), (23, _), (31, _)]) [0, 1, 4, 23, 31] rfl ?_
   refine nk_seq ?_
   refine ew_true rfl ?_
   refine ew_seq ?_
   refine rg (.q 0 XT.done) (by kernel_rfl) (by kernel_rfl) ?_
   refine q_as (sv := .sl none 0 0) rfl rfl rfl ?_
   refine x_end ?_
   refine nk_cut (e' := [(0, _), (1, _), (4, _), (23, _), (31, _)]) [0, 1, 4, 23, 31] rfl ?_
   refine nk_seq ?_
   refine ew_retA rfl rfl (.cons (.tmp rfl) .nil) ?_
   rw [ht]
   exact ⟨none, 0, 0, A, n, c, rfl, .nil, rfl, ⟨hbs, hlim⟩, rfl⟩
  ·skip
   by_cases h2 : (n : Int) < m
   ·skip
    have ht : r.take m = ([], ⟨r.b, 3⟩) := by simp [Rd.take, h0, h1, hlen, h2]
    refine rg (.q 0 (.q 1 (.q 2 (.q 3 (.q 4 (.q 5 (.q 6 (.q 7 (.q 8 (.q 9 (.q 10 (.q 11 (.q 12 (.q 13 (.q 14 (.q 15 (.q 16 (.q 17 XT.done)))))))))))))))))) (by kernel_rfl) (by kernel_rfl) ?_
    refine q_mv rfl rfl rfl ?_
    refine q_nil rfl rfl rfl ?_
    refine q_fa fa_215_1 rfl rfl rfl ?_
    refine q_ld 0 Try.isAgg32 rfl rfl rfl rfl rfl ?_
    refine q_eq rfl rfl rfl rfl ?_
    refine q_mv rfl rfl rfl ?_
    refine x_T (decide_eq_true h0) ?_
    refine q_mv rfl rfl rfl ?_
    refine q_lt rfl rfl rfl rfl ?_
    refine q_mv rfl rfl rfl ?_
    refine x_F (decide_eq_false h1) ?_
    refine q_mv rfl rfl rfl ?_
    refine q_mv rfl rfl rfl ?_
    refine q_nil rfl rfl rfl ?_
    refine q_fa fa_215_0 rfl rfl rfl ?_
    refine q_ld 0 Try.isAgg26 rfl rfl rfl rfl rfl ?_
    refine q_len Try.underlying26 rfl rfl rfl ?_
    refine q_gt rfl rfl rfl rfl ?_
    refine x_T (decide_eq_true h2) ?_
    refine q_pkF rfl rfl rfl rfl ?_
    refine q_pkT rfl rfl rfl rfl ?_
    refine x_end ?_
    refine nk_cut (e' := [(0, _), (1, _), (4, _), (23, _)]) [0, 1, 4, 23] rfl ?_
    refine nk_seq ?_
    refine ew_true rfl ?_
    refine rg (.q 0 (.q 1 (.q 2 (.h 3 XT.done)))) (by kernel_rfl) (by kernel_rfl) ?_
    refine q_mv rfl rfl rfl ?_
    refine q_nil rfl rfl rfl ?_
    refine q_fa fa_215_1 rfl rfl rfl ?_
    refine h_st (sv := .i 3) (cs' := [_, _]) (S' := [_]) 0 Try.sizeOf32 rfl rfl rfl rfl rfl rfl (ltb rfl) rfl rfl kp0 ?_
    refine x_end ?_
    refine nk_cut (e' := [(0, _), (1, _), (4, _), (23, _)]) [0, 1, 4, 23] rfl ?_
    refine nk_seq ?_
    refine ew_seq ?_
    refine ew_seq ?_
    refine rg (.q 0 (.q 1 (.q 2 (.q 3 (.q 4 XT.done))))) (by kernel_rfl) (by kernel_rfl) ?_
    refine q_mv rfl rfl rfl ?_
    refine q_nil rfl rfl rfl ?_
    refine q_fa fa_215_1 rfl rfl rfl ?_
    refine q_ld 0 Try.isAgg32 rfl rfl rfl rfl rfl ?_
    refine q_ne rfl rfl rfl rfl ?_
    refine x_T (rfl) ?_
    refine x_end ?_
    refine nk_cut (e' := [(0, _), (1, _), (4, _), (23, _), (31, _)]) [0, 1, 4, 23, 31] rfl ?_
    refine nk_seq ?_
    refine ew_true rfl ?_
    refine ew_seq ?_
    refine rg (.q 0 XT.done) (by kernel_rfl) (by kernel_rfl) ?_
    refine q_as (sv := .sl none 0 0) rfl rfl rfl ?_
    refine x_end ?_
    refine nk_cut (e' := [(0, _), (1, _), (4, _), (23, _), (31, _)]) [0, 1, 4, 23, 31] rfl ?_
    refine nk_seq ?_
    refine ew_retA rfl rfl (.cons (.tmp rfl) .nil) ?_
    rw [ht]
    exact ⟨none, 0, 0, A, n, c, rfl, .nil, rfl, ⟨hbs, hlim⟩, rfl⟩
   ·skip
    have ht : r.take m = (r.b.take m.toNat, ⟨r.b.drop m.toNat, 0⟩) := by simp [Rd.take, h0, h1, hlen, h2]
    refine rg (.q 0 (.q 1 (.q 2 (.q 3 (.q 4 (.q 5 (.q 6 (.q 7 (.q 8 (.q 9 (.q 10 (.q 11 (.q 12 (.q 13 (.q 14 (.q 15 (.q 16 (.q 17 XT.done)))))))))))))))))) (by kernel_rfl) (by kernel_rfl) ?_
    refine q_mv rfl rfl rfl ?_
    refine q_nil rfl rfl rfl ?_
    refine q_fa fa_215_1 rfl rfl rfl ?_
    refine q_ld 0 Try.isAgg32 rfl rfl rfl rfl rfl ?_
    refine q_eq rfl rfl rfl rfl ?_
    refine q_mv rfl rfl rfl ?_
    refine x_T (decide_eq_true h0) ?_
    refine q_mv rfl rfl rfl ?_
    refine q_lt rfl rfl rfl rfl ?_
    refine q_mv rfl rfl rfl ?_
    refine x_F (decide_eq_false h1) ?_
    refine q_mv rfl rfl rfl ?_
    refine q_mv rfl rfl rfl ?_
    refine q_nil rfl rfl rfl ?_
    refine q_fa fa_215_0 rfl rfl rfl ?_
    refine q_ld 0 Try.isAgg26 rfl rfl rfl rfl rfl ?_
    refine q_len Try.underlying26 rfl rfl rfl ?_
    refine q_gt rfl rfl rfl rfl ?_
    refine x_F (decide_eq_false h2) ?_
    refine q_pkF rfl rfl rfl rfl ?_
    refine q_pkT rfl rfl rfl rfl ?_
    refine x_end ?_
    refine nk_cut (e' := [(0, _), (1, _), (4, _), (23, _)]) [0, 1, 4, 23] rfl ?_
    refine nk_seq ?_
    refine ew_false rfl ?_
    refine ew_skip ?_
    refine nk_seq ?_
    refine ew_seq ?_
    refine ew_seq ?_
    refine rg (.q 0 (.q 1 (.q 2 (.q 3 (.q 4 XT.done))))) (by kernel_rfl) (by kernel_rfl) ?_
    refine q_mv rfl rfl rfl ?_
    refine q_nil rfl rfl rfl ?_
    refine q_fa fa_215_1 rfl rfl rfl ?_
    refine q_ld 0 Try.isAgg32 rfl rfl rfl rfl rfl ?_
    refine q_ne rfl rfl rfl rfl ?_
    refine x_F (by simp [h0]) ?_
    refine x_end ?_
    refine nk_cut (e' := [(0, _), (1, _), (4, _), (23, _), (31, _)]) [0, 1, 4, 23, 31] rfl ?_
    refine nk_seq ?_
    refine ew_false rfl ?_
    refine ew_skip ?_
    refine nk_seq ?_
    refine ew_seq ?_
    refine rg (.q 0 (.q 1 (.q 2 (.q 3 (.q 4 (.q 5 (.q 6 (.q 7 XT.done)))))))) (by kernel_rfl) (by kernel_rfl) ?_
    refine q_mv rfl rfl rfl ?_
    refine q_nil rfl rfl rfl ?_
    refine q_fa fa_215_0 rfl rfl rfl ?_
    refine q_ld 0 Try.isAgg26 rfl rfl rfl rfl rfl ?_
    refine q_mv rfl rfl rfl ?_
    refine q_mv rfl rfl rfl ?_
    refine q_sl_hm Try.underlying26 Try.sizeOf5 rfl rfl rfl rfl rfl (by omega) (by omega) (by omega) ?_
    refine q_as rfl rfl rfl ?_
    refine x_end ?_
    refine nk_cut (e' := [(0, _), (1, _), (4, _), (5, _), (23, _), (31, _)]) [0, 1, 4, 5, 23, 31] rfl ?_
    refine nk_seq ?_
    refine ew_seq ?_
    refine rg (.q 0 (.q 1 (.q 2 (.q 3 (.q 4 (.q 5 (.q 6 (.q 7 (.q 8 (.h 9 XT.done)))))))))) (by kernel_rfl) (by kernel_rfl) ?_
    refine q_mv rfl rfl rfl ?_
    refine q_mv rfl rfl rfl ?_
    refine q_nil rfl rfl rfl ?_
    refine q_fa fa_215_0 rfl rfl rfl ?_
    refine q_ld 0 Try.isAgg26 rfl rfl rfl rfl rfl ?_
    refine q_mv rfl rfl rfl ?_
    refine q_sl_l Try.underlying26 Try.sizeOf5 rfl rfl rfl rfl (by omega) (by omega) ?_
    refine q_nil rfl rfl rfl ?_
    refine q_fa fa_215_0 rfl rfl rfl ?_
    refine h_st (cs' := [_, _]) (S' := [_]) 0 Try.sizeOf26 rfl rfl rfl rfl rfl rfl (ltb rfl) rfl rfl kp0 ?_
    refine x_end ?_
    refine nk_cut (e' := [(0, _), (1, _), (4, _), (5, _), (23, _), (31, _)]) [0, 1, 4, 5, 23, 31] rfl ?_
    refine nk_seq ?_
    refine ew_seq ?_
    refine rg (.q 0 (.q 1 XT.done)) (by kernel_rfl) (by kernel_rfl) ?_
    refine q_mv rfl rfl rfl ?_
    refine q_as rfl rfl rfl ?_
    refine x_end ?_
    refine nk_cut (e' := [(0, _), (1, _), (4, _), (5, _), (23, _), (31, _)]) [0, 1, 4, 5, 23, 31] rfl ?_
    refine nk_seq ?_
    refine ew_retA rfl rfl (.cons (.tmp rfl) .nil) ?_
    rw [ht, h0]
    exact ⟨_, _, _, _, _, _, rfl, (hbs.take (by omega)).recap (Nat.le_refl _), rfl, ⟨hbs.drop (by omega), by omega⟩, rfl⟩
 ·skip
  have ht : r.take m = ([], r) := by simp [Rd.take, h0]
  refine rg (.q 0 (.q 1 (.q 2 (.q 3 (.q 4 (.q 5 (.q 6 (.q 7 (.q 8 (.q 9 (.q 10 (.q 11 (.q 12 (.q 13 (.q 14 (.q 15 (.q 16 (.q 17 XT.done)))))))))))))))))) (by kernel_rfl) (by kernel_rfl) ?_
  refine q_mv rfl rfl rfl ?_
  refine q_nil rfl rfl rfl ?_
  refine q_fa fa_215_1 rfl rfl rfl ?_
  refine q_ld 0 Try.isAgg32 rfl rfl rfl rfl rfl ?_
  refine q_eq rfl rfl rfl rfl ?_
  refine q_mv rfl rfl rfl ?_
  refine x_F (decide_eq_false h0) ?_
  iterate 11 refine q_skip rfl rfl ?_
  refine q_pkF rfl rfl rfl rfl ?_
  refine x_end ?_
  refine nk_cut (e' := [(0, _), (1, _), (4, _), (23, _)]) [0, 1, 4, 23] rfl ?_
  refine nk_seq ?_
  refine ew_false rfl ?_
  refine ew_skip ?_
  refine nk_seq ?_
  refine ew_seq ?_
  refine ew_seq ?_
  refine rg (.q 0 (.q 1 (.q 2 (.q 3 (.q 4 XT.done))))) (by kernel_rfl) (by kernel_rfl) ?_
  refine q_mv rfl rfl rfl ?_
  refine q_nil rfl rfl rfl ?_
  refine q_fa fa_215_1 rfl rfl rfl ?_
  refine q_ld 0 Try.isAgg32 rfl rfl rfl rfl rfl ?_
  refine q_ne rfl rfl rfl rfl ?_
  refine x_T (decide_eq_true h0) ?_
  refine x_end ?_
  refine nk_cut (e' := [(0, _), (1, _), (4, _), (23, _), (31, _)]) [0, 1, 4, 23, 31] rfl ?_
  refine nk_seq ?_
  refine ew_true rfl ?_
  refine ew_seq ?_
  refine rg (.q 0 XT.done) (by kernel_rfl) (by kernel_rfl) ?_
  refine q_as (sv := .sl none 0 0) rfl rfl rfl ?_
  refine x_end ?_
  refine nk_cut (e' := [(0, _), (1, _), (4, _), (23, _), (31, _)]) [0, 1, 4, 23, 31] rfl ?_
  refine nk_seq ?_
  refine ew_retA rfl rfl (.cons (.tmp rfl) .nil) ?_
  rw [ht]
  exact ⟨none, 0, 0, A, n, c, rfl, .nil, rfl, hr, rfl⟩


theorem RBytes_hc {H : Hp} {gr : Nat} {A : Option Addr} {n c : Nat} {r : Rd} (hr : RdS H A n c r) {m : Int} (hm : m ≤ 1099511627776) :
  HC Try.prog 87 [.p ⟨gr, 0, none⟩, .i m] [.box gr 215 [.sl A n c, .i r.code]] H (fun rr S' H' => ∃ A1 c1 A2 n2 c2, rr = .sl A1 (r.take m).1.length c1 ∧ (r.take m).1.length ≤ c1 ∧ S' = [.own A1 5 ((r.take m).1.map SV.u8) (c1 * 1), .box gr 215 [.sl A2 n2 c2, .i (r.take m).2.code]] ∧ RdS H A2 n2 c2 (r.take m).2 ∧ H' = H) := by
 have hbs := hr.bs
 have hlim := hr.lim
 have hlen := hbs.len
 have hcap := hbs.cap
 refine hc_intro (n := 10) Try.func87 rfl Try.ntmps87 rfl (fun B hB => ?_)
 refine ew_cut (e' := [(0, _), (1, _)]) [0, 1] rfl ?_
 refine ew_seq ?_
 refine rg (.q 0 XT.done) (by kernel_rfl) (by kernel_rfl) ?_
 refine q_as (sv := .sl none 0 0) rfl rfl rfl ?_
 refine x_end ?_
 refine nk_cut (e' := [(0, _), (1, _), (4, _)]) [0, 1, 4] rfl ?_
 refine nk_seq ?_
 refine ew_seq ?_
 refine rg (.q 0 (.q 1 (.h 2 (.h 3 (.h 4 (.q 5 XT.done)))))) (by kernel_rfl) (by kernel_rfl) ?_
 refine q_mv rfl rfl rfl ?_
 refine q_mv rfl rfl rfl ?_
 refine h_call Try.call129 (S2 := []) rfl rfl rfl (List.Perm.refl _) (Take_hc hr (by omega)) ?_
 rintro r_ S_ H hl1 ⟨A1, n1, c1, A2, n2, c2, rfl, hbt1, rfl, hrd1, rfl⟩
 refine ⟨kp0, ?_⟩
 refine x_S (S' := [_]) rfl ?_
 have hl1 := Rd.take_lim hr hbt1
 have hrdk := hrd1
 refine h_bs (cs := [_]) Try.underlying77 info_26 rfl rfl rfl rfl rfl rfl rfl rfl rfl (by decide) ?_
 intro g1
 refine ⟨kp0, ?_⟩
 refine pubX (S' := [_]) 0 rfl rfl ?_
 intro Hp1 hp1 hr1
 replace hr := hr.mono hp1
 replace hbt1 := hbt1.mono hp1
 replace hrd1 := hrd1.mono hp1
 refine h_call0 Try.call80 rfl rfl rfl (Join_hc (one_sli hr1 hbt1) (by rw [catB_one, hbt1.len]; omega) (by omega)) ?_
 rintro r_ S_ Hp1 hl2 ⟨A3, c3, rfl, rfl, hcap1, rfl⟩
 refine ⟨kp0, ?_⟩
 refine x_S (S' := [_, _]) rfl ?_
 refine q_as rfl rfl rfl ?_
 refine x_end ?_
 refine nk_cut (e' := [(0, _), (1, _), (4, _)]) [0, 1, 4] rfl ?_
 refine nk_seq ?_
 refine ew_shrink hB ?_
 refine ew_retA rfl rfl (.cons (.tmp rfl) .nil) ?_
 rw [catB_one] at hcap1 ⊢
 exact ⟨A3, c3, A2, n2, c2, rfl, hcap1, rfl, hrdk, rfl⟩


theorem RNumber_hc {H : Hp} {gr : Nat} {A : Option Addr} {n c : Nat} {r : Rd} (hr : RdS H A n c r) {m : Int} (hm : m ≤ 1099511627776) :
  HC Try.prog 89 [.p ⟨gr, 0, none⟩, .i m] [.box gr 215 [.sl A n c, .i r.code]] H (fun rr S' H' => ∃ A2 n2 c2, rr = .u64 (getN (r.take m).1) ∧ S' = [.box gr 215 [.sl A2 n2 c2, .i (r.take m).2.code]] ∧ RdS H A2 n2 c2 (r.take m).2 ∧ H' = H) := by
 have hbs := hr.bs
 have hlim := hr.lim
 have hlen := hbs.len
 have hcap := hbs.cap
 refine hc_intro (n := 9) Try.func89 rfl Try.ntmps89 rfl (fun B hB => ?_)
 refine ew_cut (e' := [(0, _), (1, _)]) [0, 1] rfl ?_
 refine ew_seq ?_
 refine rg (.q 0 XT.done) (by kernel_rfl) (by kernel_rfl) ?_
 refine q_as (sv := .u64 0) rfl rfl rfl ?_
 refine x_end ?_
 refine nk_cut (e' := [(0, _), (1, _), (4, _)]) [0, 1, 4] rfl ?_
 refine nk_seq ?_
 refine ew_seq ?_
 refine rg (.q 0 (.q 1 (.h 2 (.h 3 (.q 4 XT.done))))) (by kernel_rfl) (by kernel_rfl) ?_
 refine q_mv rfl rfl rfl ?_
 refine q_mv rfl rfl rfl ?_
 refine h_call Try.call129 (S2 := []) rfl rfl rfl (List.Perm.refl _) (Take_hc hr (by omega)) ?_
 rintro r_ S_ H hl1 ⟨A1, n1, c1, A2, n2, c2, rfl, hbt1, rfl, hrd1, rfl⟩
 refine ⟨kp0, ?_⟩
 refine x_S (S' := [_]) rfl ?_
 have hl1 := Rd.take_lim hr hbt1
 refine h_call0 Try.call130 rfl rfl rfl (Get_hc hbt1 (by omega)) ?_
 rintro r_ S_ H hl2 ⟨rfl, rfl, rfl⟩
 refine ⟨kp0, ?_⟩
 refine x_S (S' := [_]) rfl ?_
 refine q_as rfl rfl rfl ?_
 refine x_end ?_
 refine nk_cut (e' := [(0, _), (1, _), (4, _)]) [0, 1, 4] rfl ?_
 refine nk_seq ?_
 refine ew_retA rfl rfl (.cons (.tmp rfl) .nil) ?_
 exact ⟨A2, n2, c2, rfl, rfl, hrd1, rfl⟩


theorem RCode_hc {H : Hp} {gr : Nat} {A : Option Addr} {n c : Nat} {r : Rd} (hr : RdS H A n c r) :
  HC Try.prog 90 [.p ⟨gr, 0, none⟩] [.box gr 215 [.sl A n c, .i r.code]] H (fun rr S' H' => rr = .i r.code ∧ S' = [.box gr 215 [.sl A n c, .i r.code]] ∧ H' = H) := by
 have hbs := hr.bs
 have hlim := hr.lim
 have hlen := hbs.len
 have hcap := hbs.cap
 refine hc_intro (n := 7) Try.func90 rfl Try.ntmps90 rfl (fun B hB => ?_)
 refine ew_cut (e' := [(0, _)]) [0] rfl ?_
 refine ew_seq ?_
 refine rg (.q 0 XT.done) (by kernel_rfl) (by kernel_rfl) ?_
 refine q_as (sv := .i 0) rfl rfl rfl ?_
 refine x_end ?_
 refine nk_cut (e' := [(0, _), (2, _)]) [0, 2] rfl ?_
 refine nk_seq ?_
 refine ew_seq ?_
 refine rg (.q 0 (.q 1 (.q 2 (.q 3 (.q 4 XT.done))))) (by kernel_rfl) (by kernel_rfl) ?_
 refine q_mv rfl rfl rfl ?_
 refine q_nil rfl rfl rfl ?_
 refine q_fa fa_215_1 rfl rfl rfl ?_
 refine q_ld 0 Try.isAgg32 rfl rfl rfl rfl rfl ?_
 refine q_as rfl rfl rfl ?_
 refine x_end ?_
 refine nk_cut (e' := [(0, _), (2, _)]) [0, 2] rfl ?_
 refine nk_seq ?_
 refine ew_retA rfl rfl (.cons (.tmp rfl) .nil) ?_
 exact ⟨rfl, rfl, rfl⟩


theorem RFail_hc {H : Hp} {A : Option Addr} {n c : Nat} {r : Rd} (hr : RdS H A n c r) {cd : Int} :
  HC Try.prog 131 [.agg [.sl A n c, .i r.code], .i cd] [] H (fun rr S' H' => rr = .agg [.sl A n c, .i (if r.code = 0 then cd else r.code)] ∧ S' = [] ∧ H' = H) := by
 have hbs := hr.bs
 have hlim := hr.lim
 have hlen := hbs.len
 have hcap := hbs.cap
 refine hc_intro (n := 13) Try.func131 rfl Try.ntmps131 rfl (fun B hB => ?_)
 refine ew_cut (e' := [(0, _), (1, _)]) [0, 1] rfl ?_
 refine ew_seq ?_
 refine rg (.h 0 (.h 1 XT.done)) (by kernel_rfl) (by kernel_rfl) ?_
 refine h_boxS rfl rfl rfl ?_
 intro g1
 refine ⟨kp0, ?_⟩
 refine h_alloc (cs := [_, _]) Try.zeroValue161 rfl rfl (zc_161 Try.zeroValue161) ?_
 intro g2
 refine ⟨kp0, ?_⟩
 refine x_end ?_
 refine nk_cut (e' := [(0, _), (1, _), (2, _), (4, _)]) [0, 1, 2, 4] rfl ?_
 refine nk_seq ?_
 refine ew_seq ?_
 refine rg (.q 0 (.h 1 (.h 2 XT.done))) (by kernel_rfl) (by kernel_rfl) ?_
 refine q_ldS 1 Try.isAgg161 Try.sizeOf161 rfl rfl rfl rfl rfl ?_
 refine h_alloc (cs := [_, _]) Try.zeroValue161 rfl rfl (zc_161 Try.zeroValue161) ?_
 intro g3
 refine ⟨kp0, ?_⟩
 refine h_stS (cs' := [_, _]) (S' := [_, _, _]) 0 Try.sizeOf161 rfl rfl rfl rfl rfl (allOne rfl) rfl (leb rfl) rfl rfl kp0 ?_
 refine x_end ?_
 refine nk_cut (e' := [(0, _), (1, _), (2, _), (4, _), (5, _)]) [0, 1, 2, 4, 5] rfl ?_
 refine nk_seq ?_
 refine ew_seq ?_
 refine ew_seq ?_
 refine rg (.q 0 (.q 1 (.q 2 XT.done))) (by kernel_rfl) (by kernel_rfl) ?_
 refine q_fa fa_161_1 rfl rfl rfl ?_
 refine q_ld 2 Try.isAgg32 rfl rfl rfl rfl rfl ?_
 refine q_eq rfl rfl rfl rfl ?_
 refine x_end ?_
 refine nk_cut (e' := [(0, _), (1, _), (2, _), (4, _), (5, _), (9, _)]) [0, 1, 2, 4, 5, 9] rfl ?_
 refine nk_seq ?_
 refine ew_cond rfl ?_ ?_
 ·intro hc9
  try simp only [decide_eq_true_eq] at hc9
  refine rg (.q 0 (.q 1 (.h 2 XT.done))) (by kernel_rfl) (by kernel_rfl) ?_
  refine q_mv rfl rfl rfl ?_
  refine q_fa fa_161_1 rfl rfl rfl ?_
  refine h_st (cs' := [_, _]) (S' := [_, _, _]) 0 Try.sizeOf32 rfl rfl rfl rfl rfl rfl (ltb rfl) rfl rfl kp0 ?_
  refine x_end ?_
  refine nk_cut (e' := [(0, _), (1, _), (2, _), (4, _), (5, _), (9, _)]) [0, 1, 2, 4, 5, 9] rfl ?_
  refine nk_seq ?_
  refine ew_seq ?_
  refine rg (.q 0 (.h 1 XT.done)) (by kernel_rfl) (by kernel_rfl) ?_
  refine q_ldS 0 Try.isAgg161 Try.sizeOf161 rfl rfl rfl rfl rfl ?_
  refine h_stS (cs' := [_, _]) (S' := [_, _, _]) 1 Try.sizeOf161 rfl rfl rfl rfl rfl (allOne rfl) rfl (leb rfl) rfl rfl kp0 ?_
  refine x_end ?_
  refine nk_cut (e' := [(0, _), (1, _), (2, _), (4, _), (5, _), (9, _)]) [0, 1, 2, 4, 5, 9] rfl ?_
  refine nk_seq ?_
  refine ew_retS rfl rfl (.cons (.agg 1 Try.isAgg161 Try.sizeOf161 rfl rfl rfl) .nil) ?_
  rw [if_pos hc9]
  exact ⟨rfl, rfl, rfl⟩
 ·intro hc9
  try simp only [decide_eq_false_iff_not] at hc9
  refine ew_skip ?_
  refine nk_seq ?_
  refine ew_seq ?_
  refine rg (.q 0 (.h 1 XT.done)) (by kernel_rfl) (by kernel_rfl) ?_
  refine q_ldS 0 Try.isAgg161 Try.sizeOf161 rfl rfl rfl rfl rfl ?_
  refine h_stS (cs' := [_, _]) (S' := [_, _, _]) 1 Try.sizeOf161 rfl rfl rfl rfl rfl (allOne rfl) rfl (leb rfl) rfl rfl kp0 ?_
  refine x_end ?_
  refine nk_cut (e' := [(0, _), (1, _), (2, _), (4, _), (5, _), (9, _)]) [0, 1, 2, 4, 5, 9] rfl ?_
  refine nk_seq ?_
  refine ew_retS rfl rfl (.cons (.agg 1 Try.isAgg161 Try.sizeOf161 rfl rfl rfl) .nil) ?_
  rw [if_neg hc9]
  exact ⟨rfl, rfl, rfl⟩


theorem RBytesV_hc {H : Hp} {A : Option Addr} {n c : Nat} {r : Rd} (hr : RdS H A n c r) {m : Int} (hm : m ≤ 1099511627776) :
  HC Try.prog 91 [.agg [.sl A n c, .i r.code], .i m] [] H (fun rr S' H' => ∃ A1 n1 c1 A2 n2 c2, rr = .tup [.agg [.sl A2 n2 c2, .i (r.take m).2.code], .sl A1 n1 c1] ∧ BS H A1 n1 c1 (r.take m).1 ∧ RdS H A2 n2 c2 (r.take m).2 ∧ S' = [] ∧ H' = H) := by
 have hbs := hr.bs
 have hlim := hr.lim
 have hlen := hbs.len
 have hcap := hbs.cap
 refine hc_intro (n := 30) Try.func91 rfl Try.ntmps91 rfl (fun B hB => ?_)
 refine ew_cut (e' := [(0, _), (1, _)]) [0, 1] rfl ?_
 refine ew_seq ?_
 refine rg (.h 0 (.h 1 (.q 2 XT.done))) (by kernel_rfl) (by kernel_rfl) ?_
 refine h_boxS rfl rfl rfl ?_
 intro g1
 refine ⟨kp0, ?_⟩
 refine h_alloc (cs := [_, _]) Try.zeroValue161 rfl rfl (zc_161 Try.zeroValue161) ?_
 intro g2
 refine ⟨kp0, ?_⟩
 refine q_as (sv := .sl none 0 0) rfl rfl rfl ?_
 refine x_end ?_
 refine nk_cut (e' := [(0, _), (1, _), (2, _), (4, _), (5, _)]) [0, 1, 2, 4, 5] rfl ?_
 refine nk_seq ?_
 refine ew_seq ?_
 refine ew_seq ?_
 refine rg (.q 0 (.q 1 (.q 2 XT.done))) (by kernel_rfl) (by kernel_rfl) ?_
 refine q_fa fa_161_1 rfl rfl rfl ?_
 refine q_ld 1 Try.isAgg32 rfl rfl rfl rfl rfl ?_
 refine q_ne rfl rfl rfl rfl ?_
 refine x_end ?_
 refine nk_cut (e' := [(0, _), (1, _), (2, _), (4, _), (5, _), (8, _)]) [0, 1, 2, 4, 5, 8] rfl ?_
 refine nk_seq ?_
 refine ew_cond rfl ?_ ?_
 ·intro hc8
  simp only [ne_eq, decide_eq_true_eq, decide_eq_false_iff_not, Decidable.not_not] at hc8
  have ht : r.take m = ([], r) := by simp [Rd.take, hc8]
  refine ew_seq ?_
  refine rg (.q 0 (.h 1 (.q 2 XT.done))) (by kernel_rfl) (by kernel_rfl) ?_
  refine q_ldS 1 Try.isAgg161 Try.sizeOf161 rfl rfl rfl rfl rfl ?_
  refine h_stS (cs' := [_, _]) (S' := [_, _]) 0 Try.sizeOf161 rfl rfl rfl rfl rfl (allOne rfl) rfl (leb rfl) rfl rfl kp0 ?_
  refine q_as (sv := .sl none 0 0) rfl rfl rfl ?_
  refine x_end ?_
  refine nk_cut (e' := [(0, _), (1, _), (2, _), (4, _), (5, _), (8, _)]) [0, 1, 2, 4, 5, 8] rfl ?_
  refine nk_seq ?_
  refine ew_ret (r := .tup [_, _]) rfl rfl (.cons (.agg 0 Try.isAgg161 Try.sizeOf161 rfl rfl rfl) (.cons (.tmp rfl) .nil)) rfl ?_
  rw [ht]
  exact ⟨none, 0, 0, A, n, c, rfl, .nil, hr, rfl, rfl⟩
 ·intro hc8
  simp only [ne_eq, decide_eq_true_eq, decide_eq_false_iff_not, Decidable.not_not] at hc8
  refine ew_skip ?_
  refine nk_seq ?_
  refine ew_seq ?_
  refine ew_seq ?_
  by_cases h1 : m < 0
  ·skip
   have ht : r.take m = ([], ⟨r.b, 3⟩) := by simp [Rd.take, hc8, h1]
   refine rg (.q 0 (.q 1 (.q 2 (.q 3 (.q 4 (.q 5 (.q 6 (.q 7 (.q 8 XT.done))))))))) (by kernel_rfl) (by kernel_rfl) ?_
   refine q_mv rfl rfl rfl ?_
   refine q_lt rfl rfl rfl rfl ?_
   refine q_mv rfl rfl rfl ?_
   refine x_T (decide_eq_true h1) ?_
   iterate 5 refine q_skip rfl rfl ?_
   refine q_pkT rfl rfl rfl rfl ?_
   refine x_end ?_
   refine nk_cut (e' := [(0, _), (1, _), (2, _), (4, _), (5, _), (8, _), (18, _)]) [0, 1, 2, 4, 5, 8, 18] rfl ?_
   refine nk_seq ?_
   refine ew_true rfl ?_
   refine ew_seq ?_
   refine rg (.q 0 (.h 1 (.h 2 (.q 3 XT.done)))) (by kernel_rfl) (by kernel_rfl) ?_
   refine q_ldS 1 Try.isAgg161 Try.sizeOf161 rfl rfl rfl rfl rfl ?_
   refine h_call0 Try.call131 rfl rfl rfl (RFail_hc hr) ?_
   rintro r_ S_ H hl1 ⟨rfl, rfl, rfl⟩
   refine ⟨kp0, ?_⟩
   refine x_S (S' := [_, _]) rfl ?_
   refine h_stS (cs' := [_, _]) (S' := [_, _]) 0 Try.sizeOf161 rfl rfl rfl rfl rfl (allOne rfl) rfl (leb rfl) rfl rfl kp0 ?_
   refine q_as (sv := .sl none 0 0) rfl rfl rfl ?_
   refine x_end ?_
   refine nk_cut (e' := [(0, _), (1, _), (2, _), (4, _), (5, _), (8, _), (18, _)]) [0, 1, 2, 4, 5, 8, 18] rfl ?_
   refine nk_seq ?_
   refine ew_ret (r := .tup [_, _]) rfl rfl (.cons (.agg 0 Try.isAgg161 Try.sizeOf161 rfl rfl rfl) (.cons (.tmp rfl) .nil)) rfl ?_
   rw [ht, if_pos hc8]
   exact ⟨none, 0, 0, A, n, c, rfl, .nil, ⟨hbs, hlim⟩, rfl, rfl⟩
  ·skip
   by_cases h2 : (n : Int) < m
   ·skip
    have ht : r.take m = ([], ⟨r.b, 3⟩) := by simp [Rd.take, hc8, h1, hlen, h2]
    refine rg (.q 0 (.q 1 (.q 2 (.q 3 (.q 4 (.q 5 (.q 6 (.q 7 (.q 8 XT.done))))))))) (by kernel_rfl) (by kernel_rfl) ?_
    refine q_mv rfl rfl rfl ?_
    refine q_lt rfl rfl rfl rfl ?_
    refine q_mv rfl rfl rfl ?_
    refine x_F (decide_eq_false h1) ?_
    refine q_mv rfl rfl rfl ?_
    refine q_fa fa_161_0 rfl rfl rfl ?_
    refine q_ld 1 Try.isAgg26 rfl rfl rfl rfl rfl ?_
    refine q_len Try.underlying26 rfl rfl rfl ?_
    refine q_gt rfl rfl rfl rfl ?_
    refine q_pkF rfl rfl rfl rfl ?_
    refine x_T (decide_eq_true h2) ?_
    refine x_end ?_
    refine nk_cut (e' := [(0, _), (1, _), (2, _), (4, _), (5, _), (8, _), (18, _)]) [0, 1, 2, 4, 5, 8, 18] rfl ?_
    refine nk_seq ?_
    refine ew_true rfl ?_
    refine ew_seq ?_
    refine rg (.q 0 (.h 1 (.h 2 (.q 3 XT.done)))) (by kernel_rfl) (by kernel_rfl) ?_
    refine q_ldS 1 Try.isAgg161 Try.sizeOf161 rfl rfl rfl rfl rfl ?_
    refine h_call0 Try.call131 rfl rfl rfl (RFail_hc hr) ?_
    rintro r_ S_ H hl2 ⟨rfl, rfl, rfl⟩
    refine ⟨kp0, ?_⟩
    refine x_S (S' := [_, _]) rfl ?_
    refine h_stS (cs' := [_, _]) (S' := [_, _]) 0 Try.sizeOf161 rfl rfl rfl rfl rfl (allOne rfl) rfl (leb rfl) rfl rfl kp0 ?_
    refine q_as (sv := .sl none 0 0) rfl rfl rfl ?_
    refine x_end ?_
    refine nk_cut (e' := [(0, _), (1, _), (2, _), (4, _), (5, _), (8, _), (18, _)]) [0, 1, 2, 4, 5, 8, 18] rfl ?_
    refine nk_seq ?_
    refine ew_ret (r := .tup [_, _]) rfl rfl (.cons (.agg 0 Try.isAgg161 Try.sizeOf161 rfl rfl rfl) (.cons (.tmp rfl) .nil)) rfl ?_
    rw [ht, if_pos hc8]
    exact ⟨none, 0, 0, A, n, c, rfl, .nil, ⟨hbs, hlim⟩, rfl, rfl⟩
   ·skip
    have ht : r.take m = (r.b.take m.toNat, ⟨r.b.drop m.toNat, 0⟩) := by simp [Rd.take, hc8, h1, hlen, h2]
    refine rg (.q 0 (.q 1 (.q 2 (.q 3 (.q 4 (.q 5 (.q 6 (.q 7 (.q 8 XT.done))))))))) (by kernel_rfl) (by kernel_rfl) ?_
    refine q_mv rfl rfl rfl ?_
    refine q_lt rfl rfl rfl rfl ?_
    refine q_mv rfl rfl rfl ?_
    refine x_F (decide_eq_false h1) ?_
    refine q_mv rfl rfl rfl ?_
    refine q_fa fa_161_0 rfl rfl rfl ?_
    refine q_ld 1 Try.isAgg26 rfl rfl rfl rfl rfl ?_
    refine q_len Try.underlying26 rfl rfl rfl ?_
    refine q_gt rfl rfl rfl rfl ?_
    refine q_pkF rfl rfl rfl rfl ?_
    refine x_F (decide_eq_false h2) ?_
    refine x_end ?_
    refine nk_cut (e' := [(0, _), (1, _), (2, _), (4, _), (5, _), (8, _), (18, _)]) [0, 1, 2, 4, 5, 8, 18] rfl ?_
    refine nk_seq ?_
    refine ew_false rfl ?_
    refine ew_skip ?_
    refine nk_seq ?_
    refine ew_seq ?_
    refine rd (by kernel_rfl) [0, 1, 2, 3, 4, 5, 6, 7, 8, 10] [0, 1, 2, 3, 4, 5, 6, 7, 8, 9, 10] (.q 0 (.q 1 (.q 2 (.q 3 (.q 4 (.q 5 (.q 6 (.q 7 (.q 8 (.h 9 (.q 10 XT.done))))))))))) (by kernel_rfl) (by kernel_rfl) (keepL _ [1]) (keepL_sub _ _) ?_
    refine q_fa fa_161_0 rfl rfl rfl ?_
    refine q_ld 0 Try.isAgg26 rfl rfl rfl rfl rfl ?_
    refine q_mv rfl rfl rfl ?_
    refine q_sl_l Try.underlying26 Try.sizeOf5 rfl rfl rfl rfl (by omega) (by omega) ?_
    refine q_bld (cs := [_, _]) bf_161 rfl rfl rfl rfl ?_
    refine q_fa fa_161_0 rfl rfl rfl ?_
    refine q_ld 0 Try.isAgg26 rfl rfl rfl rfl rfl ?_
    refine q_mv rfl rfl rfl ?_
    refine q_sl_h Try.underlying26 Try.sizeOf5 rfl rfl rfl rfl (by omega) (by omega) ?_
    refine h_stS (cs' := [_, _]) (S' := [_, _]) 0 Try.sizeOf161 rfl rfl rfl rfl rfl (allOne rfl) rfl (leb rfl) rfl rfl (fun _ => ⟨by first | exact kpL [1] rfl | simp [keepL, nth], HLe.refl _⟩) ?_
    refine q_as rfl rfl rfl ?_
    refine x_end ?_
    refine nk_cut (e' := [(0, _), (1, _), (2, _), (4, _), (5, _), (8, _), (18, _)]) [0, 1, 2, 4, 5, 8, 18] rfl ?_
    refine nk_seq ?_
    refine ew_ret (r := .tup [_, _]) rfl rfl (.cons (.agg 0 Try.isAgg161 Try.sizeOf161 rfl rfl rfl) (.cons (.tmp rfl) .nil)) rfl ?_
    rw [ht]
    exact ⟨_, _, _, _, _, _, rfl, hbs.take (by omega), ⟨hbs.drop (by omega), by omega⟩, rfl, rfl⟩


theorem RNumberV_hc {H : Hp} {A : Option Addr} {n c : Nat} {r : Rd} (hr : RdS H A n c r) {m : Int} (hm : m ≤ 1099511627776) :
  HC Try.prog 93 [.agg [.sl A n c, .i r.code], .i m] [] H (fun rr S' H' => ∃ A2 n2 c2, rr = .tup [.agg [.sl A2 n2 c2, .i (r.take m).2.code], .u64 (getN (r.take m).1)] ∧ RdS H A2 n2 c2 (r.take m).2 ∧ S' = [] ∧ H' = H) := by
 have hbs := hr.bs
 have hlim := hr.lim
 have hlen := hbs.len
 have hcap := hbs.cap
 refine hc_intro (n := 17) Try.func93 rfl Try.ntmps93 rfl (fun B hB => ?_)
 refine ew_cut (e' := [(0, _), (1, _)]) [0, 1] rfl ?_
 refine ew_seq ?_
 refine rg (.h 0 (.h 1 (.q 2 XT.done))) (by kernel_rfl) (by kernel_rfl) ?_
 refine h_boxS rfl rfl rfl ?_
 intro g1
 refine ⟨kp0, ?_⟩
 refine h_alloc (cs := [_, _]) Try.zeroValue161 rfl rfl (zc_161 Try.zeroValue161) ?_
 intro g2
 refine ⟨kp0, ?_⟩
 refine q_as (sv := .u64 0) rfl rfl rfl ?_
 refine x_end ?_
 refine nk_cut (e' := [(0, _), (1, _), (2, _), (4, _), (5, _)]) [0, 1, 2, 4, 5] rfl ?_
 refine nk_seq ?_
 refine ew_seq ?_
 refine rg (.q 0 (.q 1 (.h 2 (.q 3 (.q 4 (.q 5 (.h 6 (.h 7 (.q 8 XT.done))))))))) (by kernel_rfl) (by kernel_rfl) ?_
 refine q_ldS 1 Try.isAgg161 Try.sizeOf161 rfl rfl rfl rfl rfl ?_
 refine q_mv rfl rfl rfl ?_
 refine h_call0 Try.call91 rfl rfl rfl (RBytesV_hc hr (by omega)) ?_
 rintro r_ S_ H hl1 ⟨A1, n1, c1, A2, n2, c2, rfl, hbt, hrd, rfl, rfl⟩
 refine ⟨kp0, ?_⟩
 refine x_S (S' := [_, _]) rfl ?_
 have hl1 := Rd.take_lim hr hbt
 refine q_mv rfl rfl rfl ?_
 refine q_ext rfl rfl rfl rfl ?_
 refine q_ext rfl rfl rfl rfl ?_
 refine h_alloc (cs := [_, _]) Try.zeroValue161 rfl rfl (zc_161 Try.zeroValue161) ?_
 intro g3
 refine ⟨kp0, ?_⟩
 refine h_stS (cs' := [_, _]) (S' := [_, _, _]) 0 Try.sizeOf161 rfl rfl rfl rfl rfl (allOne rfl) rfl (leb rfl) rfl rfl kp0 ?_
 refine q_as rfl rfl rfl ?_
 refine x_end ?_
 refine nk_cut (e' := [(0, _), (1, _), (2, _), (4, _), (5, _), (6, _), (7, _)]) [0, 1, 2, 4, 5, 6, 7] rfl ?_
 refine nk_seq ?_
 refine ew_seq ?_
 refine rd (by kernel_rfl) [0, 1, 4] [0, 1, 2, 3, 4] (.q 0 (.q 1 (.h 2 (.h 3 (.q 4 XT.done))))) (by kernel_rfl) (by kernel_rfl) (keepL _ [0]) (keepL_sub _ _) ?_
 refine q_ldS 0 Try.isAgg161 Try.sizeOf161 rfl rfl rfl rfl rfl ?_
 refine q_mv rfl rfl rfl ?_
 refine h_call0 Try.call133 rfl rfl rfl (RGet_hc hbt (by omega)) ?_
 rintro r_ S_ H hl2 ⟨rfl, rfl, rfl⟩
 refine ⟨(fun _ => ⟨by first | exact kpL [0] rfl | simp [keepL, nth], HLe.refl _⟩), ?_⟩
 refine x_S (S' := [_, _, _]) rfl ?_
 refine h_stS (cs' := [_, _]) (S' := [_, _, _]) 1 Try.sizeOf161 rfl rfl rfl rfl rfl (allOne rfl) rfl (leb rfl) rfl rfl (fun _ => ⟨by first | exact kpL [0] rfl | simp [keepL, nth], HLe.refl _⟩) ?_
 refine q_as rfl rfl rfl ?_
 refine x_end ?_
 refine nk_cut (e' := [(0, _), (1, _), (2, _), (4, _), (5, _), (6, _), (7, _)]) [0, 1, 2, 4, 5, 6, 7] rfl ?_
 refine nk_seq ?_
 refine ew_ret (r := .tup [_, _]) rfl rfl (.cons (.agg 1 Try.isAgg161 Try.sizeOf161 rfl rfl rfl) (.cons (.tmp rfl) .nil)) rfl ?_
 exact ⟨_, _, _, rfl, hrd, rfl, rfl⟩

end Go.GW
