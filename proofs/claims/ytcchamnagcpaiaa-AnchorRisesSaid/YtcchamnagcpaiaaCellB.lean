/- Contracts of functions of the loaded program, printed by our own program gen.py. -/
import Derived.Test.YtcchamnagcpaiaaCellA
namespace Go.GW
open Go Go.Proofs


/-- the reference's cell: four sectors, each of 1024 bytes -/
structure RCelS (H : Hp) (A : Option Addr) (c : Nat) (ps : List Sli) (cl : Cel) : Prop where
  bss : BSS H A 4 c ps
  xs : ps.map (·.xs) = [pad cl.s0, pad cl.s1, pad cl.s2, pad cl.s3]
  w0 : 0 ≤ cl.writes
  w1 : cl.writes ≤ 4611686018427387904
theorem RCelS.mono {H H' : Hp} {A : Option Addr} {c : Nat} {ps : List Sli} {cl : Cel} (h : RCelS H A c ps cl) (hle : HLe H H') : RCelS H' A c ps cl := ⟨h.bss.mono hle, h.xs, h.w0, h.w1⟩
def rcelCells (p : Pow) (A : Option Addr) (c : Nat) (w : Int) : List SV := [.i p.steps, .i p.fuse, .b p.done, .b p.down, .sl A 4 c, .i w]
theorem zeros_map (k : Nat) : List.replicate k (SV.u8 0) = (zeros k).map SV.u8 := by simp [zeros]
def zeroSlis (H : Hp) (ps : List Sli) : Prop := ∀ p ∈ ps, p.ok H ∧ p.xs = zeros 1024
theorem zeroSlis.snoc {H H' : Hp} {ps : List Sli} (h : zeroSlis H ps) (hle : HLe H H') {A : Option Addr} (hr : RR H' A (List.replicate 1024 (SV.u8 0))) : zeroSlis H' (ps ++ [⟨A, 1024, 1024, zeros 1024⟩]) := by
  intro p hp
  rcases List.mem_append.1 hp with hp | hp
  · exact ⟨BS.mono (h p hp).1 hle, (h p hp).2⟩
  · simp only [List.mem_singleton] at hp
    subst hp
    exact ⟨⟨by rw [← zeros_map]; exact hr, List.length_replicate, Nat.le_refl _⟩, rfl⟩
theorem zeroSlis.pads {H : Hp} : ∀ {ps : List Sli}, zeroSlis H ps → ps.length = 4 → ps.map (·.xs) = [pad [], pad [], pad [], pad []]
  | [a, b, c, d], h, _ => by
    have e : pad [] = zeros 1024 := rfl
    rw [e]
    simp only [List.map_cons, List.map_nil, (h a (by simp)).2, (h b (by simp)).2, (h c (by simp)).2, (h d (by simp)).2]

theorem RCelNew_hc {H : Hp} {p : Pow} :
  HC Try.prog 43 [.agg p.rcells] [] H (fun r S' H' => ∃ A c ps, r = .agg (rcelCells p A c 0) ∧ RCelS H' A c ps cel0 ∧ S' = [] ∧ HLe H H') := by
 refine hc_intro (n := 18) Try.func43 rfl Try.ntmps43 rfl (fun B hB => ?_)
 refine ew_cut (e' := [(0, _)]) [0] rfl ?_
 refine ew_sub (e' := [(0, .agg [_, _, _, _])]) ⟨rfl, trivial⟩ ?_
 refine ew_seq ?_
 refine rg (.h 0 (.h 1 XT.done)) (by kernel_rfl) (by kernel_rfl) ?_
 refine h_boxS rfl rfl rfl ?_
 intro g1
 refine ⟨kp0, ?_⟩
 refine h_alloc (cs := [_, _, _, _, _, _]) Try.zeroValue79 rfl rfl (zc_79 Try.zeroValue79) ?_
 intro g2
 refine ⟨kp0, ?_⟩
 refine x_end ?_
 refine nk_cut (e' := [(0, _), (1, _), (2, _)]) [0, 1, 2] rfl ?_
 refine nk_seq ?_
 refine ew_seq ?_
 refine rg (.q 0 (.q 1 (.h 2 (.h 3 XT.done)))) (by kernel_rfl) (by kernel_rfl) ?_
 refine q_ldS 1 Try.isAgg36 Try.sizeOf36 rfl rfl rfl rfl rfl ?_
 refine q_bld (cs := [_, _, _, _, _, _]) bf_79 rfl rfl rfl rfl ?_
 refine h_alloc (cs := [_, _, _, _, _, _]) Try.zeroValue79 rfl rfl (zc_79 Try.zeroValue79) ?_
 intro g3
 refine ⟨kp0, ?_⟩
 refine h_stS (cs' := [_, _, _, _, _, _]) (S' := [_, _, _]) 0 Try.sizeOf79 rfl rfl rfl rfl rfl (allOne rfl) rfl (leb rfl) rfl rfl kp0 ?_
 refine x_end ?_
 refine nk_cut (e' := [(0, _), (1, _), (2, _), (3, _)]) [0, 1, 2, 3] rfl ?_
 refine nk_seq ?_
 refine ew_seq ?_
 refine ew_seq ?_
 refine ew_nil 26 ?_
 refine rg (.q 0 XT.done) (by kernel_rfl) (by kernel_rfl) ?_
 refine q_as (sv := .i 0) rfl rfl rfl ?_
 refine x_end ?_
 refine nk_cut (e' := [(0, _), (1, _), (2, _), (3, _), (4, _)]) [0, 1, 2, 3, 4] rfl ?_
 refine nk_seq ?_
 refine ew_block ?_
 let Ev1 : Nat × Option Addr × Nat × List Sli → Env := fun ⟨k, A, c, ps⟩ => [(4, .i (k : Int))]
 let Sv1 : Nat × Option Addr × Nat × List Sli → Res := fun ⟨k, A, c, ps⟩ => [.own A 26 (ps.map Sli.sv) (c * 1), .box g3 79 [.i p.steps, .i p.fuse, .b p.done, .b p.down, .sl A k c, .i 0], .box g2 79 [.i 0, .i 0, .b false, .b false, .sl none 0 0, .i 0], .box g1 36 [.i p.steps, .i p.fuse, .b p.done, .b p.down]]
 let Gv1 : Nat × Option Addr × Nat × List Sli → Hp → Prop := fun ⟨k, A, c, ps⟩ H' => HLe H H' ∧ (k ≤ 4 ∧ ps.length = k ∧ k ≤ c ∧ zeroSlis H' ps)
 let Mv1 : Nat × Option Addr × Nat × List Sli → Nat := fun ⟨k, A, c, ps⟩ => 4 - k
 refine ew_loop (mkE [(0, _), (1, _), (2, _), (3, _)] Ev1) (Sv1) Gv1 Mv1 (⟨0, none, 0, []⟩ : Nat × Option Addr × Nat × List Sli) ⟨rfl, rfl, rfl, rfl, rfl, trivial⟩ rfl ⟨HLe.refl _, ⟨by omega, rfl, by omega, by simp [zeroSlis]⟩⟩ ?_
 rintro ⟨k, A, c, ps⟩ Hl1 ⟨hl1, hG⟩
 obtain ⟨hk, hpl, hkc, hz⟩ := hG
 refine ew_S (S' := [_, _, _, _]) rfl ?_
 refine ew_cut (e' := [(4, _), (0, _), (1, _), (2, _), (3, _)]) [4, 0, 1, 2, 3] rfl ?_
 refine ew_seq ?_
 refine ew_seq ?_
 refine rg (.q 0 (.q 1 XT.done)) (by kernel_rfl) (by kernel_rfl) ?_
 refine q_mv rfl rfl rfl ?_
 refine q_lt rfl rfl rfl rfl ?_
 refine x_end ?_
 refine nk_cut (e' := [(0, _), (1, _), (2, _), (3, _), (4, _), (8, _)]) [0, 1, 2, 3, 4, 8] rfl ?_
 refine nk_seq ?_
 refine ew_cond rfl ?_ ?_
 ·intro hc8
  try simp only [decide_eq_true_eq] at hc8
  refine ew_skip ?_
  refine nk_seq ?_
  refine ew_seq ?_
  refine ew_block ?_
  refine rd (by kernel_rfl) [0, 1, 5] [0, 1, 2, 3, 4, 5] (.q 0 (.q 1 (.h 2 (.h 3 (.h 4 (.q 5 (.h 6 XT.done))))))) (by kernel_rfl) (by kernel_rfl) (keepL _ [1]) (keepL_sub _ _) ?_
  refine q_fa fa_79_1 rfl rfl rfl ?_
  refine q_ld 0 Try.isAgg77 rfl rfl rfl rfl rfl ?_
  refine h_mk (z := .u8 0) Try.underlying26 info_5 rfl rfl rfl rfl rfl rfl rfl (by omega) (by omega) (by simp only [by_5]; omega) (by omega) ?_
  intro g4
  refine ⟨(fun _ => ⟨by first | exact kpL [2] rfl | simp [keepL, nth], HLe.refl _⟩), ?_⟩
  refine h_bs (cs := [_]) Try.underlying77 info_26 rfl rfl rfl rfl rfl rfl rfl rfl rfl (by decide) ?_
  intro g5
  refine ⟨(fun _ => ⟨by first | exact kpL [3] rfl | simp [keepL, nth], HLe.refl _⟩), ?_⟩
  refine h_appO (sz := 1) (S1 := [_, _, _, _, _]) 0 1 Try.underlying77 info_26 rfl rfl rfl (by decide) rfl rfl rfl rfl rfl rfl rfl rfl (by rw [List.length_map, hpl, Nat.mul_one]) (by omega) rfl (allOne rfl) (by simp only [by_26]; omega) (by omega) ?_
  intro A1 c1 hcap1
  refine ⟨(fun _ => ⟨by first | exact kpL [2] rfl | simp [keepL, nth], HLe.refl _⟩), ?_⟩
  refine x_S (S' := [_, _, _, _, _]) rfl ?_
  refine q_fa fa_79_1 rfl rfl rfl ?_
  refine h_st (cs' := [_, _, _, _, _, _]) (S' := [_, _, _, _, _]) 2 Try.sizeOf77 rfl rfl rfl rfl rfl rfl (ltb rfl) rfl rfl (fun h => absurd h (by decide)) ?_
  refine x_end ?_
  refine nk_cut (e' := [(0, _), (1, _), (2, _), (3, _), (4, _), (8, _)]) [0, 1, 2, 3, 4, 8] rfl ?_
  refine pubN (S' := [_, _, _, _]) 0 rfl rfl ?_
  intro Hp1 hp1 hr1
  refine nk_blk ?_
  refine nk_seq ?_
  refine rg (.q 0 (.q 1 (.q 2 XT.done))) (by kernel_rfl) (by kernel_rfl) ?_
  refine q_mv rfl rfl rfl ?_
  refine q_add rfl rfl rfl rfl (by omega) (by omega) ?_
  refine q_as rfl rfl rfl ?_
  refine x_end ?_
  refine nk_cut (e' := [(0, _), (1, _), (2, _), (3, _), (4, _), (8, _)]) [0, 1, 2, 3, 4, 8] rfl ?_
  refine nk_round (μ := Mv1) (i := (k, A, c, ps)) (S := Sv1) (G := Gv1) (⟨k + 1, A1, c1, ps ++ [⟨some ⟨g4, 0, none⟩, 1024, 1024, zeros 1024⟩]⟩ : Nat × Option Addr × Nat × List Sli) ?_ ?_ ?_ ?_
  ·exact ⟨rfl, rfl, rfl, rfl, rfl, trivial⟩
  ·exact by dsimp only [Sv1]; rw [List.map_append]; rfl
  ·exact ⟨(hl1.trans hp1), ⟨by omega, by rw [List.length_append, hpl]; rfl, by omega, hz.snoc hp1 hr1⟩⟩
  ·dsimp only [Mv1]; omega
 ·intro hc8
  try simp only [decide_eq_false_iff_not] at hc8
  refine ew_exit _ rfl ?_
  refine nk_seq ?_
  refine ew_seq ?_
  refine rg (.q 0 (.h 1 XT.done)) (by kernel_rfl) (by kernel_rfl) ?_
  refine q_ldS 1 Try.isAgg79 Try.sizeOf79 rfl rfl rfl rfl rfl ?_
  refine h_stS (cs' := [_, _, _, _, _, _]) (S' := [_, _, _, _]) 2 Try.sizeOf79 rfl rfl rfl rfl rfl (allOne rfl) rfl (leb rfl) rfl rfl kp0 ?_
  refine x_end ?_
  refine nk_cut (e' := [(0, _), (1, _), (2, _), (3, _), (4, _), (8, _)]) [0, 1, 2, 3, 4, 8] rfl ?_
  refine nk_seq ?_
  refine pubE (S' := [_, _, _]) 0 rfl rfl ?_
  intro Hp2 hp2 hrL
  refine ew_retS rfl rfl (.cons (.agg 1 Try.isAgg79 Try.sizeOf79 rfl rfl rfl) .nil) ?_
  have h4 : k = 4 := by omega
  subst h4
  exact ⟨A, c, ps, rfl, ⟨⟨hrL, hpl, hkc, fun p hp => BS.mono (hz p hp).1 hp2⟩, hz.pads hpl, (by decide), (by decide)⟩, rfl, hl1.trans hp2⟩


def padK (xs : List UInt8) (k : Nat) : List UInt8 := xs.take k ++ zeros (1024 - k)
theorem padK_len (xs : List UInt8) (k : Nat) (h : k ≤ xs.length) (h2 : k ≤ 1024) : (padK xs k).length = 1024 := by
  unfold padK zeros; rw [List.length_append, List.length_take, List.length_replicate]; omega
theorem padK_snoc (xs : List UInt8) (k : Nat) (h : k < xs.length) (h2 : k < 1024) : (padK xs k).set k (xs.getD k 0) = padK xs (k + 1) := by
  have e1 : (xs.take k).length = k := by rw [List.length_take]; omega
  have e2 : zeros (1024 - k) = 0 :: zeros (1024 - (k + 1)) := by unfold zeros; rw [← List.replicate_succ]; congr 1; omega
  unfold padK
  rw [List.set_append_right _ _ (by omega), e1, Nat.sub_self, e2, List.set_cons_zero, List.take_succ_eq_append_getElem h, List.append_assoc]
  simp [h]
theorem padK_set (xs : List UInt8) (k : Nat) (h : k < xs.length) (h2 : k < 1024) : ((padK xs k).map SV.u8).set (k : Int).toNat (.u8 (xs.getD k 0)) = (padK xs (k + 1)).map SV.u8 := by
  rw [Int.toNat_natCast, ← List.map_set, padK_snoc xs k h h2]
theorem padK_all (xs : List UInt8) (k : Nat) (h : k = xs.length) : padK xs k = pad xs := by
  unfold padK pad; rw [List.take_of_length_le (by omega), h]
theorem padK_zero (xs : List UInt8) : (padK xs 0).map SV.u8 = List.replicate 1024 (SV.u8 0) := by unfold padK zeros; rw [List.take_zero, List.nil_append, List.map_replicate]
theorem sli_one (ps : List Sli) : ∀ s ∈ ps.map Sli.sv, s.one = true := by
  intro s hs
  obtain ⟨p, _, rfl⟩ := List.mem_map.1 hs
  rfl
theorem RCelS.put {H H' : Hp} {A A1 : Option Addr} {c c1 k : Nat} {ps : List Sli} {cl : Cel} (h : RCelS H A c ps cl) (hle : HLe H H') {i : Nat} (hi : i < 4) (hw : cl.writes ≤ 4611686018427387903) (hc1 : 4 ≤ c1) {xs : List UInt8} {z : Sli} (hz : RR H' z.A ((padK xs k).map SV.u8)) (hzn : z.n = 1024) (hzc : z.c = 1024) (hzx : z.xs = padK xs k)
    (hk : k = xs.length) (hk2 : k ≤ 1024) (hL : RR H' A1 ((ps.map Sli.sv).set i (.sl z.A z.n z.c))) {w : Int} (hww : w = cl.writes + 1) : ∃ ps', RCelS H' A1 c1 ps' (cl.put i xs) := by
  refine ⟨ps.set i z, ⟨by rw [List.map_set]; exact hL, by rw [List.length_set, h.bss.len], hc1, ?_⟩, ?_, ?_, ?_⟩
  · intro p hp
    rcases List.mem_or_eq_of_mem_set hp with hp | rfl
    · exact BS.mono (h.bss.each p hp) hle
    · exact ⟨by rw [hzx]; exact hz, by rw [hzx, hzn, padK_len xs k (by omega) hk2], by omega⟩
  · rw [List.map_set, h.xs, hzx, padK_all xs k hk]
    rcases (by omega : i = 0 ∨ i = 1 ∨ i = 2 ∨ i = 3) with rfl | rfl | rfl | rfl <;> rfl
  · rw [put_writes]; have := h.w0; omega
  · rw [put_writes]; omega
theorem RCelS.pow {H H' : Hp} {A : Option Addr} {c : Nat} {ps : List Sli} {cl : Cel} (h : RCelS H A c ps cl) (hle : HLe H H') : RCelS H' A c ps cl := h.mono hle

theorem RCelWrite_hc {H : Hp} {p : Pow} (hpw : p.ok) {A0 : Option Addr} {c0 : Nat} {ps : List Sli} {cl : Cel} (hcs : RCelS H A0 c0 ps cl) {at_ : Int} (hw : cl.writes ≤ 4611686018427387903) {A : Option Addr} {n c : Nat} {xs : List UInt8} (hx : BS H A n c xs) (hn : n ≤ 1099511627776) :
  HC Try.prog 100 [.agg (rcelCells p A0 c0 cl.writes), .i at_, .sl A n c] [] H (fun r S' H' => ∃ A' c' ps', r = .tup [.agg (rcelCells (cl.write p at_ xs).2.1 A' c' (cl.write p at_ xs).1.writes), .i (cl.write p at_ xs).2.2] ∧ RCelS H' A' c' ps' (cl.write p at_ xs).1 ∧ S' = [] ∧ HLe H H') := by
 have hxl := hx.len
 have hww := hcs.w0
 have hpl := hcs.bss.len
 refine hc_intro (n := 70) Try.func100 rfl Try.ntmps100 rfl (fun B hB => ?_)
 refine ew_cut (e' := [(0, _), (1, _), (2, _)]) [0, 1, 2] rfl ?_
 refine ew_sub (e' := [(0, .agg [_, _, _, _, _, _]), (1, _), (2, _)]) ⟨rfl, rfl, rfl, trivial⟩ ?_
 refine ew_seq ?_
 refine rg (.h 0 (.h 1 (.q 2 XT.done))) (by kernel_rfl) (by kernel_rfl) ?_
 refine h_boxS rfl rfl rfl ?_
 intro g1
 refine ⟨kp0, ?_⟩
 refine h_alloc (cs := [_, _, _, _, _, _]) Try.zeroValue79 rfl rfl (zc_79 Try.zeroValue79) ?_
 intro g2
 refine ⟨kp0, ?_⟩
 refine q_as (sv := .i 0) rfl rfl rfl ?_
 refine x_end ?_
 refine nk_cut (e' := [(0, _), (1, _), (2, _), (3, _), (6, _), (7, _)]) [0, 1, 2, 3, 6, 7] rfl ?_
 refine nk_seq ?_
 refine ew_seq ?_
 refine ew_seq ?_
 by_cases h1 : at_ < 0
 ·skip
  refine rg (.q 0 (.q 1 (.q 2 (.q 3 (.q 4 (.q 5 XT.done)))))) (by kernel_rfl) (by kernel_rfl) ?_
  refine q_mv rfl rfl rfl ?_
  refine q_lt rfl rfl rfl rfl ?_
  refine x_T (decide_eq_true h1) ?_
  refine q_mv rfl rfl rfl ?_
  refine q_skip rfl rfl ?_
  refine q_skip rfl rfl ?_
  refine q_pkT rfl rfl rfl rfl ?_
  refine x_end ?_
  refine nk_cut (e' := [(0, _), (1, _), (2, _), (3, _), (6, _), (7, _), (19, _)]) [0, 1, 2, 3, 6, 7, 19] rfl ?_
  refine nk_seq ?_
  refine ew_true rfl ?_
  refine ew_seq ?_
  refine rg (.q 0 (.h 1 (.q 2 XT.done))) (by kernel_rfl) (by kernel_rfl) ?_
  refine q_ldS 1 Try.isAgg79 Try.sizeOf79 rfl rfl rfl rfl rfl ?_
  refine h_stS (cs' := [_, _, _, _, _, _]) (S' := [_, _]) 0 Try.sizeOf79 rfl rfl rfl rfl rfl (allOne rfl) rfl (leb rfl) rfl rfl kp0 ?_
  refine q_as (sv := .i 2) rfl rfl rfl ?_
  refine x_end ?_
  refine nk_cut (e' := [(0, _), (1, _), (2, _), (3, _), (6, _), (7, _), (19, _)]) [0, 1, 2, 3, 6, 7, 19] rfl ?_
  refine nk_seq ?_
  refine ew_ret (r := .tup [_, _]) rfl rfl (.cons (.agg 0 Try.isAgg79 Try.sizeOf79 rfl rfl rfl) (.cons (.tmp rfl) .nil)) rfl ?_
  have hwr : cl.write p at_ xs = (cl, p, 2) := by simp [Cel.write, h1]
  rw [hwr]
  exact ⟨A0, c0, ps, rfl, hcs, rfl, HLe.refl _⟩
 ·skip
  by_cases h2 : 3 < at_
  ·skip
   refine rg (.q 0 (.q 1 (.q 2 (.q 3 (.q 4 (.q 5 XT.done)))))) (by kernel_rfl) (by kernel_rfl) ?_
   refine q_mv rfl rfl rfl ?_
   refine q_lt rfl rfl rfl rfl ?_
   refine x_F (decide_eq_false h1) ?_
   refine q_mv rfl rfl rfl ?_
   refine q_mv rfl rfl rfl ?_
   refine q_gt rfl rfl rfl rfl ?_
   refine x_T (decide_eq_true h2) ?_
   refine q_pkF rfl rfl rfl rfl ?_
   refine x_end ?_
   refine nk_cut (e' := [(0, _), (1, _), (2, _), (3, _), (6, _), (7, _), (19, _)]) [0, 1, 2, 3, 6, 7, 19] rfl ?_
   refine nk_seq ?_
   refine ew_true rfl ?_
   refine ew_seq ?_
   refine rg (.q 0 (.h 1 (.q 2 XT.done))) (by kernel_rfl) (by kernel_rfl) ?_
   refine q_ldS 1 Try.isAgg79 Try.sizeOf79 rfl rfl rfl rfl rfl ?_
   refine h_stS (cs' := [_, _, _, _, _, _]) (S' := [_, _]) 0 Try.sizeOf79 rfl rfl rfl rfl rfl (allOne rfl) rfl (leb rfl) rfl rfl kp0 ?_
   refine q_as (sv := .i 2) rfl rfl rfl ?_
   refine x_end ?_
   refine nk_cut (e' := [(0, _), (1, _), (2, _), (3, _), (6, _), (7, _), (19, _)]) [0, 1, 2, 3, 6, 7, 19] rfl ?_
   refine nk_seq ?_
   refine ew_ret (r := .tup [_, _]) rfl rfl (.cons (.agg 0 Try.isAgg79 Try.sizeOf79 rfl rfl rfl) (.cons (.tmp rfl) .nil)) rfl ?_
   replace h2 : 4 ≤ at_ := by omega
   have hwr : cl.write p at_ xs = (cl, p, 2) := by simp [Cel.write, h1, h2]
   rw [hwr]
   exact ⟨A0, c0, ps, rfl, hcs, rfl, HLe.refl _⟩
  ·skip
   refine rg (.q 0 (.q 1 (.q 2 (.q 3 (.q 4 (.q 5 XT.done)))))) (by kernel_rfl) (by kernel_rfl) ?_
   refine q_mv rfl rfl rfl ?_
   refine q_lt rfl rfl rfl rfl ?_
   refine x_F (decide_eq_false h1) ?_
   refine q_mv rfl rfl rfl ?_
   refine q_mv rfl rfl rfl ?_
   refine q_gt rfl rfl rfl rfl ?_
   refine x_F (decide_eq_false h2) ?_
   refine q_pkF rfl rfl rfl rfl ?_
   refine x_end ?_
   refine nk_cut (e' := [(0, _), (1, _), (2, _), (3, _), (6, _), (7, _), (19, _)]) [0, 1, 2, 3, 6, 7, 19] rfl ?_
   refine nk_seq ?_
   refine ew_false rfl ?_
   refine ew_skip ?_
   refine nk_seq ?_
   refine ew_seq ?_
   refine ew_seq ?_
   refine rg (.q 0 (.q 1 (.q 2 XT.done))) (by kernel_rfl) (by kernel_rfl) ?_
   refine q_mv rfl rfl rfl ?_
   refine q_len Try.underlying26 rfl rfl rfl ?_
   refine q_gt rfl rfl rfl rfl ?_
   refine x_end ?_
   refine nk_cut (e' := [(0, _), (1, _), (2, _), (3, _), (6, _), (7, _), (19, _), (23, _)]) [0, 1, 2, 3, 6, 7, 19, 23] rfl ?_
   refine nk_seq ?_
   refine ew_cond rfl ?_ ?_
   ·intro hc23
    try simp only [decide_eq_true_eq] at hc23
    refine ew_seq ?_
    refine rg (.q 0 (.h 1 (.q 2 XT.done))) (by kernel_rfl) (by kernel_rfl) ?_
    refine q_ldS 1 Try.isAgg79 Try.sizeOf79 rfl rfl rfl rfl rfl ?_
    refine h_stS (cs' := [_, _, _, _, _, _]) (S' := [_, _]) 0 Try.sizeOf79 rfl rfl rfl rfl rfl (allOne rfl) rfl (leb rfl) rfl rfl kp0 ?_
    refine q_as (sv := .i 17) rfl rfl rfl ?_
    refine x_end ?_
    refine nk_cut (e' := [(0, _), (1, _), (2, _), (3, _), (6, _), (7, _), (19, _), (23, _)]) [0, 1, 2, 3, 6, 7, 19, 23] rfl ?_
    refine nk_seq ?_
    refine ew_ret (r := .tup [_, _]) rfl rfl (.cons (.agg 0 Try.isAgg79 Try.sizeOf79 rfl rfl rfl) (.cons (.tmp rfl) .nil)) rfl ?_
    replace h2 : ¬ 4 ≤ at_ := by omega
    have h3 : 1024 < xs.length := by omega
    have hwr : cl.write p at_ xs = (cl, p, 17) := by simp [Cel.write, h1, h2, h3]
    rw [hwr]
    exact ⟨A0, c0, ps, rfl, hcs, rfl, HLe.refl _⟩
   ·intro hc23
    try simp only [decide_eq_false_iff_not] at hc23
    refine ew_skip ?_
    refine nk_seq ?_
    refine ew_seq ?_
    refine rg (.q 0 (.q 1 (.h 2 (.q 3 (.q 4 (.q 5 (.q 6 (.h 7 (.h 8 (.q 9 (.q 10 XT.done))))))))))) (by kernel_rfl) (by kernel_rfl) ?_
    refine q_fa fa_79_0 rfl rfl rfl ?_
    refine q_ldSp (cs' := [_, _, _, _]) 1 Try.isAgg36 Try.sizeOf36 rfl rfl rfl rfl rfl (leb rfl) ?_
    refine h_call0 Try.call134 rfl rfl rfl (RPowStep_hc (by assumption)) ?_
    rintro r_ S_ H hl1 ⟨rfl, rfl, rfl⟩
    refine ⟨kp0, ?_⟩
    refine x_S (S' := [_, _]) rfl ?_
    refine q_mv rfl rfl rfl ?_
    iterate 3 refine q_ext rfl rfl rfl rfl ?_
    refine h_alloc (cs := [_, _, _, _]) Try.zeroValue36 rfl rfl (zc_36 Try.zeroValue36) ?_
    intro g3
    refine ⟨kp0, ?_⟩
    refine h_stS (cs' := [_, _, _, _]) (S' := [_, _, _]) 0 Try.sizeOf36 rfl rfl rfl rfl rfl (allOne rfl) rfl (leb rfl) rfl rfl kp0 ?_
    refine q_as rfl rfl rfl ?_
    refine q_as rfl rfl rfl ?_
    refine x_end ?_
    refine nk_cut (e' := [(0, _), (1, _), (2, _), (3, _), (6, _), (7, _), (8, _), (9, _), (10, _), (19, _), (23, _)]) [0, 1, 2, 3, 6, 7, 8, 9, 10, 19, 23] rfl ?_
    refine nk_seq ?_
    refine ew_seq ?_
    refine rg (.q 0 (.h 1 (.h 2 XT.done))) (by kernel_rfl) (by kernel_rfl) ?_
    refine q_ldS 2 Try.isAgg79 Try.sizeOf79 rfl rfl rfl rfl rfl ?_
    refine h_alloc (cs := [_, _, _, _, _, _]) Try.zeroValue79 rfl rfl (zc_79 Try.zeroValue79) ?_
    intro g4
    refine ⟨kp0, ?_⟩
    refine h_stS (cs' := [_, _, _, _, _, _]) (S' := [_, _, _, _]) 0 Try.sizeOf79 rfl rfl rfl rfl rfl (allOne rfl) rfl (leb rfl) rfl rfl kp0 ?_
    refine x_end ?_
    refine nk_cut (e' := [(0, _), (1, _), (2, _), (3, _), (6, _), (7, _), (8, _), (9, _), (10, _), (11, _), (19, _), (23, _)]) [0, 1, 2, 3, 6, 7, 8, 9, 10, 11, 19, 23] rfl ?_
    refine nk_seq ?_
    refine ew_seq ?_
    refine rg (.q 0 (.q 1 (.h 2 XT.done))) (by kernel_rfl) (by kernel_rfl) ?_
    refine q_ldS 1 Try.isAgg36 Try.sizeOf36 rfl rfl rfl rfl rfl ?_
    refine q_fa fa_79_0 rfl rfl rfl ?_
    refine h_stS (cs' := [_, _, _, _, _, _]) (S' := [_, _, _, _]) 0 Try.sizeOf36 rfl rfl rfl rfl rfl (allOne rfl) rfl (leb rfl) rfl rfl kp0 ?_
    refine x_end ?_
    refine nk_cut (e' := [(0, _), (1, _), (2, _), (3, _), (6, _), (7, _), (8, _), (9, _), (10, _), (11, _), (19, _), (23, _)]) [0, 1, 2, 3, 6, 7, 8, 9, 10, 11, 19, 23] rfl ?_
    refine nk_seq ?_
    refine ew_seq ?_
    refine ew_seq ?_
    refine rg (.q 0 XT.done) (by kernel_rfl) (by kernel_rfl) ?_
    refine q_mv rfl rfl rfl ?_
    refine x_end ?_
    refine nk_cut (e' := [(0, _), (1, _), (2, _), (3, _), (6, _), (7, _), (8, _), (9, _), (10, _), (11, _), (19, _), (23, _), (35, _)]) [0, 1, 2, 3, 6, 7, 8, 9, 10, 11, 19, 23, 35] rfl ?_
    refine nk_seq ?_
    refine ew_cond rfl ?_ ?_
    ·intro hc35
     try simp only [decide_eq_true_eq] at hc35
     refine ew_seq ?_
     refine rg (.q 0 (.h 1 XT.done)) (by kernel_rfl) (by kernel_rfl) ?_
     refine q_fa fa_79_1 rfl rfl rfl ?_
     refine h_st (sv := .sl none 0 0) (cs' := [_, _, _, _, _, _]) (S' := [_, _, _, _]) 0 Try.sizeOf77 rfl rfl rfl rfl rfl rfl (ltb rfl) rfl rfl kp0 ?_
     refine x_end ?_
     refine nk_cut (e' := [(0, _), (1, _), (2, _), (3, _), (6, _), (7, _), (8, _), (9, _), (10, _), (11, _), (19, _), (23, _), (35, _)]) [0, 1, 2, 3, 6, 7, 8, 9, 10, 11, 19, 23, 35] rfl ?_
     refine nk_seq ?_
     refine ew_seq ?_
     refine rg (.q 0 (.q 1 (.q 2 (.q 3 (.h 4 (.q 5 (.h 6 XT.done))))))) (by kernel_rfl) (by kernel_rfl) ?_
     refine q_fa fa_79_1 rfl rfl rfl ?_
     refine q_ld 0 Try.isAgg77 rfl rfl rfl rfl rfl ?_
     refine q_fa fa_79_1 rfl rfl rfl ?_
     refine q_ld 3 Try.isAgg77 rfl rfl rfl rfl rfl ?_
     refine x_nil (t' := 26) ?_
     refine h_app (sz := 1) 0 Try.underlying77 info_26 rfl rfl rfl (by decide) rfl rfl rfl rfl rfl rfl (by simp) (by omega) hcs.bss.rr (by rw [List.length_map, hpl, Nat.mul_one]) (sli_one ps) (by simp only [by_26]; omega) (by omega) ?_
     intro A1 c1 hcap1
     refine ⟨kp0, ?_⟩
     refine x_S (S' := [_, _, _, _, _]) rfl ?_
     refine q_fa fa_79_1 rfl rfl rfl ?_
     refine h_st (cs' := [_, _, _, _, _, _]) (S' := [_, _, _, _, _]) 1 Try.sizeOf77 rfl rfl rfl rfl rfl rfl (ltb rfl) rfl rfl kp0 ?_
     refine x_end ?_
     refine nk_cut (e' := [(0, _), (1, _), (2, _), (3, _), (6, _), (7, _), (8, _), (9, _), (10, _), (11, _), (19, _), (23, _), (35, _)]) [0, 1, 2, 3, 6, 7, 8, 9, 10, 11, 19, 23, 35] rfl ?_
     refine nk_seq ?_
     refine ew_seq ?_
     refine rg (.h 0 (.q 1 XT.done)) (by kernel_rfl) (by kernel_rfl) ?_
     refine h_mk (z := .u8 0) Try.underlying26 info_5 rfl rfl rfl rfl rfl rfl rfl (by omega) (by omega) (by simp only [by_5]; omega) (by omega) ?_
     intro g6
     refine ⟨kp0, ?_⟩
     refine q_as rfl rfl rfl ?_
     refine x_end ?_
     refine nk_cut (e' := [(0, _), (1, _), (2, _), (3, _), (6, _), (7, _), (8, _), (9, _), (10, _), (11, _), (12, _), (19, _), (23, _), (35, _)]) [0, 1, 2, 3, 6, 7, 8, 9, 10, 11, 12, 19, 23, 35] rfl ?_
     refine nk_seq ?_
     refine ew_seq ?_
     refine ew_seq ?_
     refine rg (.q 0 XT.done) (by kernel_rfl) (by kernel_rfl) ?_
     refine q_as (sv := .i 0) rfl rfl rfl ?_
     refine x_end ?_
     refine nk_cut (e' := [(0, _), (1, _), (2, _), (3, _), (6, _), (7, _), (8, _), (9, _), (10, _), (11, _), (12, _), (13, _), (19, _), (23, _), (35, _)]) [0, 1, 2, 3, 6, 7, 8, 9, 10, 11, 12, 13, 19, 23, 35] rfl ?_
     refine nk_seq ?_
     refine ew_block ?_
     let Ev1 : Nat → Env := fun k => [(13, .i (k : Int))]
     let Sv1 : Nat → Res := fun k => [.own (some ⟨g6, 0, none⟩) 5 ((padK xs k).map SV.u8) 1024, .own A1 26 (ps.map Sli.sv) (c1 * 1), .box g4 79 [.i p.step.1.steps, .i p.step.1.fuse, .b p.step.1.done, .b p.step.1.down, .sl A1 4 c1, .i cl.writes], .box g3 36 p.step.1.rcells, .box g2 79 [.i 0, .i 0, .b false, .b false, .sl none 0 0, .i 0], .box g1 79 (rcelCells p A0 c0 cl.writes)]
     let Gv1 : Nat → Hp → Prop := fun k H' => H = H' ∧ (k ≤ n)
     let Mv1 : Nat → Nat := fun k => n - k
     refine ew_loop (mkE [(0, _), (1, _), (2, _), (3, _), (6, _), (7, _), (8, _), (9, _), (10, _), (11, _), (12, _), (19, _), (23, _), (35, _)] Ev1) (Sv1) Gv1 Mv1 (0 : Nat) ⟨rfl, rfl, rfl, rfl, rfl, rfl, rfl, rfl, rfl, rfl, rfl, rfl, rfl, rfl, rfl, trivial⟩ (by dsimp only [Sv1]; rw [padK_zero]; rfl) ⟨rfl, (by omega)⟩ ?_
     rintro k H' ⟨rfl, hG⟩
     have hk := hG
     refine ew_S (S' := [_, _, _, _, _, _]) rfl ?_
     refine ew_cut (e' := [(13, _), (0, _), (1, _), (2, _), (3, _), (6, _), (7, _), (8, _), (9, _), (10, _), (11, _), (12, _), (19, _), (23, _), (35, _)]) [13, 0, 1, 2, 3, 6, 7, 8, 9, 10, 11, 12, 19, 23, 35] rfl ?_
     refine ew_seq ?_
     refine ew_seq ?_
     refine rg (.q 0 (.q 1 (.q 2 (.q 3 XT.done)))) (by kernel_rfl) (by kernel_rfl) ?_
     refine q_mv rfl rfl rfl ?_
     refine q_mv rfl rfl rfl ?_
     refine q_len Try.underlying26 rfl rfl rfl ?_
     refine q_lt rfl rfl rfl rfl ?_
     refine x_end ?_
     refine nk_cut (e' := [(0, _), (1, _), (2, _), (3, _), (6, _), (7, _), (8, _), (9, _), (10, _), (11, _), (12, _), (13, _), (19, _), (23, _), (35, _), (47, _)]) [0, 1, 2, 3, 6, 7, 8, 9, 10, 11, 12, 13, 19, 23, 35, 47] rfl ?_
     refine nk_seq ?_
     refine ew_cond rfl ?_ ?_
     ·intro hc47
      try simp only [decide_eq_true_eq, decide_eq_false_iff_not] at hc47
      refine ew_skip ?_
      refine nk_seq ?_
      refine ew_seq ?_
      refine ew_block ?_
      refine rg (.q 0 (.q 1 (.q 2 (.q 3 (.q 4 (.q 5 (.q 6 (.h 7 XT.done)))))))) (by kernel_rfl) (by kernel_rfl) ?_
      iterate 4 refine q_mv rfl rfl rfl ?_
      refine q_ixs1 Try.underlying26 Try.sizeOf5 rfl rfl rfl rfl rfl (hx.ne (by omega)) (by omega) (by omega) ?_
      refine q_ldp Try.isAgg5 rfl rfl rfl (hx.cell (j := k) (by omega)) ?_
      refine q_ixs1 Try.underlying26 Try.sizeOf5 rfl rfl rfl rfl rfl (by simp) (by omega) (by omega) ?_
      refine h_sto (cs' := (padK xs (k + 1)).map SV.u8) (S' := [_, _, _, _, _, _]) 0 Try.sizeOf5 rfl rfl rfl rfl rfl rfl (by rw [List.length_map, padK_len xs k (by omega) (by omega)]; omega) (padK_set xs k (by omega) (by omega)) rfl kp0 ?_
      refine x_end ?_
      refine nk_cut (e' := [(0, _), (1, _), (2, _), (3, _), (6, _), (7, _), (8, _), (9, _), (10, _), (11, _), (12, _), (13, _), (19, _), (23, _), (35, _), (47, _)]) [0, 1, 2, 3, 6, 7, 8, 9, 10, 11, 12, 13, 19, 23, 35, 47] rfl ?_
      refine nk_blk ?_
      refine nk_seq ?_
      refine rg (.q 0 (.q 1 (.q 2 XT.done))) (by kernel_rfl) (by kernel_rfl) ?_
      refine q_mv rfl rfl rfl ?_
      refine q_add rfl rfl rfl rfl (by omega) (by omega) ?_
      refine q_as rfl rfl rfl ?_
      refine x_end ?_
      refine nk_cut (e' := [(0, _), (1, _), (2, _), (3, _), (6, _), (7, _), (8, _), (9, _), (10, _), (11, _), (12, _), (13, _), (19, _), (23, _), (35, _), (47, _)]) [0, 1, 2, 3, 6, 7, 8, 9, 10, 11, 12, 13, 19, 23, 35, 47] rfl ?_
      refine nk_round (μ := Mv1) (i := k) (S := Sv1) (G := Gv1) (k + 1 : Nat) ?_ ?_ ?_ ?_
      ·exact ⟨rfl, rfl, rfl, rfl, rfl, rfl, rfl, rfl, rfl, rfl, rfl, rfl, rfl, rfl, rfl, trivial⟩
      ·exact rfl
      ·exact ⟨rfl, by omega⟩
      ·dsimp only [Mv1]; omega
     ·intro hc47
      try simp only [decide_eq_true_eq, decide_eq_false_iff_not] at hc47
      refine ew_exit _ rfl ?_
      refine nk_seq ?_
      refine ew_seq ?_
      refine rg (.q 0 (.q 1 (.q 2 (.q 3 (.q 4 (.h 5 XT.done)))))) (by kernel_rfl) (by kernel_rfl) ?_
      refine q_fa fa_79_1 rfl rfl rfl ?_
      refine q_ld 2 Try.isAgg77 rfl rfl rfl rfl rfl ?_
      refine q_mv rfl rfl rfl ?_
      refine q_mv rfl rfl rfl ?_
      refine x_own 1 rfl (by rw [List.length_map, hpl]; omega) ?_
      intro hAs
      refine q_ixs1 Try.underlying77 Try.sizeOf26 rfl rfl rfl rfl rfl hAs (by omega) (by omega) ?_
      refine h_sto  (S' := [_, _, _, _, _, _]) 1 Try.sizeOf26 rfl rfl rfl rfl rfl rfl (by rw [List.length_map, hpl]; omega) rfl rfl kp0 ?_
      refine x_end ?_
      refine nk_cut (e' := [(0, _), (1, _), (2, _), (3, _), (6, _), (7, _), (8, _), (9, _), (10, _), (11, _), (12, _), (13, _), (19, _), (23, _), (35, _), (47, _)]) [0, 1, 2, 3, 6, 7, 8, 9, 10, 11, 12, 13, 19, 23, 35, 47] rfl ?_
      refine nk_seq ?_
      refine rg (.q 0 (.q 1 (.q 2 (.q 3 (.h 4 XT.done))))) (by kernel_rfl) (by kernel_rfl) ?_
      refine q_fa fa_79_2 rfl rfl rfl ?_
      refine q_ld 5 Try.isAgg3 rfl rfl rfl rfl rfl ?_
      refine q_add rfl rfl rfl rfl (by omega) (by omega) ?_
      refine q_fa fa_79_2 rfl rfl rfl ?_
      refine h_st (cs' := [_, _, _, _, _, _]) (S' := [_, _, _, _, _, _]) 2 Try.sizeOf3 rfl rfl rfl rfl rfl rfl (ltb rfl) rfl rfl kp0 ?_
      refine x_end ?_
      refine nk_cut (e' := [(0, _), (1, _), (2, _), (3, _), (6, _), (7, _), (8, _), (9, _), (10, _), (11, _), (12, _), (13, _), (19, _), (23, _), (35, _), (47, _)]) [0, 1, 2, 3, 6, 7, 8, 9, 10, 11, 12, 13, 19, 23, 35, 47] rfl ?_
      refine nk_seq ?_
      refine ew_seq ?_
      refine ew_seq ?_
      refine rg (.q 0 (.q 1 XT.done)) (by kernel_rfl) (by kernel_rfl) ?_
      refine q_mv rfl rfl rfl ?_
      refine q_not rfl rfl rfl ?_
      refine x_end ?_
      refine nk_cut (e' := [(0, _), (1, _), (2, _), (3, _), (6, _), (7, _), (8, _), (9, _), (10, _), (11, _), (12, _), (13, _), (19, _), (23, _), (35, _), (47, _), (67, _)]) [0, 1, 2, 3, 6, 7, 8, 9, 10, 11, 12, 13, 19, 23, 35, 47, 67] rfl ?_
      refine nk_seq ?_
      refine ew_cond rfl ?_ ?_
      ·intro hc67
       try simp only [Bool.not_eq_true', Bool.not_eq_false'] at hc67
       refine ew_seq ?_
       refine rg (.q 0 (.h 1 (.q 2 XT.done))) (by kernel_rfl) (by kernel_rfl) ?_
       refine q_ldS 2 Try.isAgg79 Try.sizeOf79 rfl rfl rfl rfl rfl ?_
       refine h_stS (cs' := [_, _, _, _, _, _]) (S' := [_, _, _, _, _, _]) 4 Try.sizeOf79 rfl rfl rfl rfl rfl (allOne rfl) rfl (leb rfl) rfl rfl kp0 ?_
       refine q_as (sv := .i 5) rfl rfl rfl ?_
       refine x_end ?_
       refine nk_cut (e' := [(0, _), (1, _), (2, _), (3, _), (6, _), (7, _), (8, _), (9, _), (10, _), (11, _), (12, _), (13, _), (19, _), (23, _), (35, _), (47, _), (67, _)]) [0, 1, 2, 3, 6, 7, 8, 9, 10, 11, 12, 13, 19, 23, 35, 47, 67] rfl ?_
       refine nk_seq ?_
       refine pubE (S' := [_, _, _, _, _]) 0 rfl rfl ?_
       intro Hp1 hp1 hrZ
       replace hcs := hcs.mono hp1
       replace hx := hx.mono hp1
       refine pubE (S' := [_, _, _, _]) 0 rfl rfl ?_
       intro Hp2 hp2 hrL
       replace hcs := hcs.mono hp2
       replace hx := hx.mono hp2
       replace hrZ := hrZ.mono hp2
       refine ew_ret (r := .tup [_, _]) rfl rfl (.cons (.agg 2 Try.isAgg79 Try.sizeOf79 rfl rfl rfl) (.cons (.tmp rfl) .nil)) rfl ?_
       replace h2 : ¬ 4 ≤ at_ := by omega
       have h3 : ¬ 1024 < xs.length := by omega
       have hwr : cl.write p at_ xs = (cl.put at_ xs, p.step.1, 5) := by simp [Cel.write, h1, h2, h3, hc35, hc67]
       obtain ⟨ps', hps⟩ := hcs.put (xs := xs) (k := k) (i := at_.toNat) (z := ⟨some ⟨g6, 0, none⟩, 1024, 1024, padK xs k⟩) (HLe.refl _) (by omega) hw hcap1 hrZ rfl rfl rfl (by omega) (by omega) hrL rfl
       rw [hwr]
       rw [show ((at_.toNat : Nat) : Int) = at_ by omega] at hps
       exact ⟨A1, c1, ps', by simp only [rcelCells, put_writes], hps, rfl, hp1.trans hp2⟩
      ·intro hc67
       try simp only [Bool.not_eq_true', Bool.not_eq_false'] at hc67
       refine ew_skip ?_
       refine nk_seq ?_
       refine ew_seq ?_
       refine rg (.q 0 (.h 1 (.q 2 XT.done))) (by kernel_rfl) (by kernel_rfl) ?_
       refine q_ldS 2 Try.isAgg79 Try.sizeOf79 rfl rfl rfl rfl rfl ?_
       refine h_stS (cs' := [_, _, _, _, _, _]) (S' := [_, _, _, _, _, _]) 4 Try.sizeOf79 rfl rfl rfl rfl rfl (allOne rfl) rfl (leb rfl) rfl rfl kp0 ?_
       refine q_as (sv := .i 0) rfl rfl rfl ?_
       refine x_end ?_
       refine nk_cut (e' := [(0, _), (1, _), (2, _), (3, _), (6, _), (7, _), (8, _), (9, _), (10, _), (11, _), (12, _), (13, _), (19, _), (23, _), (35, _), (47, _), (67, _)]) [0, 1, 2, 3, 6, 7, 8, 9, 10, 11, 12, 13, 19, 23, 35, 47, 67] rfl ?_
       refine nk_seq ?_
       refine pubE (S' := [_, _, _, _, _]) 0 rfl rfl ?_
       intro Hp3 hp3 hrZ
       replace hcs := hcs.mono hp3
       replace hx := hx.mono hp3
       refine pubE (S' := [_, _, _, _]) 0 rfl rfl ?_
       intro Hp4 hp4 hrL
       replace hcs := hcs.mono hp4
       replace hx := hx.mono hp4
       replace hrZ := hrZ.mono hp4
       refine ew_ret (r := .tup [_, _]) rfl rfl (.cons (.agg 2 Try.isAgg79 Try.sizeOf79 rfl rfl rfl) (.cons (.tmp rfl) .nil)) rfl ?_
       replace h2 : ¬ 4 ≤ at_ := by omega
       have h3 : ¬ 1024 < xs.length := by omega
       have hwr : cl.write p at_ xs = (cl.put at_ xs, p.step.1, 0) := by simp [Cel.write, h1, h2, h3, hc35, hc67]
       obtain ⟨ps', hps⟩ := hcs.put (xs := xs) (k := k) (i := at_.toNat) (z := ⟨some ⟨g6, 0, none⟩, 1024, 1024, padK xs k⟩) (HLe.refl _) (by omega) hw hcap1 hrZ rfl rfl rfl (by omega) (by omega) hrL rfl
       rw [hwr]
       rw [show ((at_.toNat : Nat) : Int) = at_ by omega] at hps
       exact ⟨A1, c1, ps', by simp only [rcelCells, put_writes], hps, rfl, hp3.trans hp4⟩
    ·intro hc35
     try simp only [decide_eq_false_iff_not] at hc35
     refine ew_skip ?_
     refine nk_seq ?_
     refine ew_seq ?_
     refine ew_seq ?_
     refine rg (.q 0 (.q 1 XT.done)) (by kernel_rfl) (by kernel_rfl) ?_
     refine q_mv rfl rfl rfl ?_
     refine q_not rfl rfl rfl ?_
     refine x_end ?_
     refine nk_cut (e' := [(0, _), (1, _), (2, _), (3, _), (6, _), (7, _), (8, _), (9, _), (10, _), (11, _), (19, _), (23, _), (35, _), (67, _)]) [0, 1, 2, 3, 6, 7, 8, 9, 10, 11, 19, 23, 35, 67] rfl ?_
     refine nk_seq ?_
     refine ew_cond rfl ?_ ?_
     ·intro hc67
      try simp only [Bool.not_eq_true', Bool.not_eq_false'] at hc67
      refine ew_seq ?_
      refine rg (.q 0 (.h 1 (.q 2 XT.done))) (by kernel_rfl) (by kernel_rfl) ?_
      refine q_ldS 0 Try.isAgg79 Try.sizeOf79 rfl rfl rfl rfl rfl ?_
      refine h_stS (cs' := [_, _, _, _, _, _]) (S' := [_, _, _, _]) 2 Try.sizeOf79 rfl rfl rfl rfl rfl (allOne rfl) rfl (leb rfl) rfl rfl kp0 ?_
      refine q_as (sv := .i 5) rfl rfl rfl ?_
      refine x_end ?_
      refine nk_cut (e' := [(0, _), (1, _), (2, _), (3, _), (6, _), (7, _), (8, _), (9, _), (10, _), (11, _), (19, _), (23, _), (35, _), (67, _)]) [0, 1, 2, 3, 6, 7, 8, 9, 10, 11, 19, 23, 35, 67] rfl ?_
      refine nk_seq ?_
      refine ew_ret (r := .tup [_, _]) rfl rfl (.cons (.agg 2 Try.isAgg79 Try.sizeOf79 rfl rfl rfl) (.cons (.tmp rfl) .nil)) rfl ?_
      replace h2 : ¬ 4 ≤ at_ := by omega
      have h3 : ¬ 1024 < xs.length := by omega
      have hwr : cl.write p at_ xs = (cl, p.step.1, 5) := by simp [Cel.write, h1, h2, h3, hc35, hc67]
      rw [hwr]
      exact ⟨A0, c0, ps, rfl, hcs, rfl, HLe.refl _⟩
     ·intro hc67
      try simp only [Bool.not_eq_true', Bool.not_eq_false'] at hc67
      refine ew_skip ?_
      refine nk_seq ?_
      refine ew_seq ?_
      refine rg (.q 0 (.h 1 (.q 2 XT.done))) (by kernel_rfl) (by kernel_rfl) ?_
      refine q_ldS 0 Try.isAgg79 Try.sizeOf79 rfl rfl rfl rfl rfl ?_
      refine h_stS (cs' := [_, _, _, _, _, _]) (S' := [_, _, _, _]) 2 Try.sizeOf79 rfl rfl rfl rfl rfl (allOne rfl) rfl (leb rfl) rfl rfl kp0 ?_
      refine q_as (sv := .i 0) rfl rfl rfl ?_
      refine x_end ?_
      refine nk_cut (e' := [(0, _), (1, _), (2, _), (3, _), (6, _), (7, _), (8, _), (9, _), (10, _), (11, _), (19, _), (23, _), (35, _), (67, _)]) [0, 1, 2, 3, 6, 7, 8, 9, 10, 11, 19, 23, 35, 67] rfl ?_
      refine nk_seq ?_
      refine ew_ret (r := .tup [_, _]) rfl rfl (.cons (.agg 2 Try.isAgg79 Try.sizeOf79 rfl rfl rfl) (.cons (.tmp rfl) .nil)) rfl ?_
      replace h2 : ¬ 4 ≤ at_ := by omega
      have h3 : ¬ 1024 < xs.length := by omega
      have hwr : cl.write p at_ xs = (cl, p.step.1, 0) := by simp [Cel.write, h1, h2, h3, hc35, hc67]
      rw [hwr]
      exact ⟨A0, c0, ps, rfl, hcs, rfl, HLe.refl _⟩

end Go.GW
