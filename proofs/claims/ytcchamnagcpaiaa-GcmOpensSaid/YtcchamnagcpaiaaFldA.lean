/- Contracts of functions of the loaded program, printed by our own program gen.py. -/
import Derived.Test.YtcchamnagcpaiaaOctA
import Derived.Test.YtcchamnagcpaiaaGwN
import Derived.Test.YtcchamnagcpaiaaReadA
namespace Go.GW
open Go Go.Proofs
set_option linter.unusedSimpArgs false
set_option linter.unusedVariables false


theorem sli1 {g : Nat} {H' : Hp} {a : Sli} (hr : RR H' (some ⟨g, 0, none⟩) [a.sv]) (ha : a.ok H') : BSS H' (some ⟨g, 0, none⟩) 1 1 [a] :=
  ⟨hr, rfl, Nat.le_refl _, fun p hp => by
    simp only [List.mem_cons, List.not_mem_nil, or_false] at hp
    subst hp
    exact ha⟩
theorem sli2 {g : Nat} {H' : Hp} {a b : Sli} (hr : RR H' (some ⟨g, 0, none⟩) [a.sv, b.sv]) (ha : a.ok H') (hb : b.ok H') : BSS H' (some ⟨g, 0, none⟩) 2 2 [a, b] :=
  ⟨hr, rfl, Nat.le_refl _, fun p hp => by
    simp only [List.mem_cons, List.not_mem_nil, or_false] at hp
    rcases hp with rfl | rfl
    · exact ha
    · exact hb⟩
theorem catB_2 (a b : Sli) : catB [a, b] = a.xs ++ b.xs := by simp [catB]
/-- two, one behind the other -/
theorem Join2_hc {H : Hp} {g n1 n2 c1 c2 : Nat} {A1 A2 : Option Addr} {xs ys : List UInt8} (hr : RR H (some ⟨g, 0, none⟩) [.sl A1 n1 c1, .sl A2 n2 c2]) (ha : BS H A1 n1 c1 xs) (hb : BS H A2 n2 c2 ys) (hl : n1 + n2 ≤ 1099511627776) :
    HC Try.prog 80 [.sl (some ⟨g, 0, none⟩) 2 2] [] H (fun r S' H' => ∃ A c, r = .sl A (xs ++ ys).length c ∧ S' = [.own A 5 ((xs ++ ys).map SV.u8) (c * 1)] ∧ (xs ++ ys).length ≤ c ∧ H' = H) := by
  have h1 := ha.len
  have h2 := hb.len
  have h := Join_hc (sli2 (a := ⟨A1, n1, c1, xs⟩) (b := ⟨A2, n2, c2, ys⟩) hr ha hb) (by rw [catB_2, List.length_append]; simp only; omega) (by decide)
  rw [catB_2] at h
  exact h
/-- a number of 128 bits -/
structure El where
  hi : UInt64
  lo : UInt64
deriving DecidableEq
instance : Inhabited El := ⟨⟨0, 0⟩⟩
def El.cells (e : El) : List SV := [.u64 e.hi, .u64 e.lo]
def El.add (a b : El) : El := ⟨a.hi ^^^ b.hi, a.lo ^^^ b.lo⟩
def El.shr1 (e : El) : El := ⟨shr_u64 e.hi 1, shr_u64 e.lo 1 ||| shl_u64 e.hi 63⟩
def El.next (e : El) : El := if e.lo &&& 1 = 1 then ⟨e.shr1.hi ^^^ 16212958658533785600, e.shr1.lo⟩ else e.shr1
def zpad (b : List UInt8) : List UInt8 := b.take 16 ++ List.replicate (16 - b.length) 0
theorem zpad_len (b : List UInt8) : (zpad b).length = 16 := by unfold zpad; rw [List.length_append, List.length_take, List.length_replicate]; omega
def El.of (b : List UInt8) : El := ⟨getN ((zpad b).take 8), getN ((zpad b).drop 8)⟩
def El.bytes (e : El) : List UInt8 := putN e.hi 8 ++ putN e.lo 8
def ecells (l : List El) : List SV := l.flatMap El.cells
theorem ecells_len (l : List El) : (ecells l).length = 2 * l.length := by
  induction l with
  | nil => rfl
  | cons x r ih => simp only [ecells, List.flatMap_cons, List.length_append, List.length_cons] at ih ⊢; rw [ih]; simp [El.cells]; omega
theorem ecells_part : ∀ (l : List El) {k j : Nat} {r : List SV}, k = 2 * j → j < l.length → part (ecells l ++ r) k 2 = (l.getD j default).cells
  | [], _, _, _, _, h => absurd h (by simp)
  | x :: l, k, 0, r, hk, _ => by subst hk; rfl
  | x :: l, k, j + 1, r, hk, h => by
    subst hk
    have := ecells_part l (k := 2 * j) (j := j) (r := r) rfl (by simpa using h)
    rw [← show part (ecells l ++ r) (2 * j) 2 = part (ecells (x :: l) ++ r) (2 * (j + 1)) 2 from by
      unfold part
      congr 1]
    rw [this]
    simp
theorem ecells_put : ∀ (l : List El) {k j : Nat} {r : List SV} {x : El}, k = 2 * j → j < l.length → putL (ecells l ++ r) k x.cells = ecells (l.set j x) ++ r
  | [], _, _, _, _, _, h => absurd h (by simp)
  | y :: l, k, 0, r, x, hk, _ => by
    subst hk
    show SV.u64 x.hi :: putL (SV.u64 y.lo :: (ecells l ++ r)) 0 [SV.u64 x.lo] = _
    cases hc : (ecells l ++ r) <;> simp [putL, ecells, El.cells] <;> simpa [ecells, El.cells] using hc.symm
  | y :: l, k, j + 1, r, x, hk, h => by
    subst hk
    have := ecells_put l (k := 2 * j) (j := j) (r := r) (x := x) rfl (by simpa using h)
    show SV.u64 y.hi :: SV.u64 y.lo :: putL (ecells l ++ r) (2 * j) x.cells = _
    rw [this]
    rfl
/-! the table -/
def nextK (e : El) : Nat → El
  | 0 => e
  | k + 1 => (nextK e k).next
def fov (i : Nat) : UInt64 := (nextK ⟨0, UInt64.ofNat i⟩ 4).hi
def z64 : Nat → UInt64 := fun _ => 0
def p4 (m : Nat) : Nat := 4 / 2 ^ m
def p2 (m : Nat) : Nat := 2 ^ (m + 1)
theorem p4_cases {m : Nat} (h : m ≤ 3) : (m = 0 ∧ p4 m = 4 ∧ p4 (m + 1) = 2) ∨ (m = 1 ∧ p4 m = 2 ∧ p4 (m + 1) = 1) ∨ (m = 2 ∧ p4 m = 1 ∧ p4 (m + 1) = 0) ∨ (m = 3 ∧ p4 m = 0) := by
  rcases (by omega : m = 0 ∨ m = 1 ∨ m = 2 ∨ m = 3) with rfl | rfl | rfl | rfl <;> decide
theorem p2_cases {m : Nat} (h : m ≤ 3) : (m = 0 ∧ p2 m = 2 ∧ p2 (m + 1) = 4) ∨ (m = 1 ∧ p2 m = 4 ∧ p2 (m + 1) = 8) ∨ (m = 2 ∧ p2 m = 8 ∧ p2 (m + 1) = 16) ∨ (m = 3 ∧ p2 m = 16) := by
  rcases (by omega : m = 0 ∨ m = 1 ∨ m = 2 ∨ m = 3) with rfl | rfl | rfl | rfl <;> decide
def L1 (e : El) : Nat → List El
  | 0 => (List.replicate 16 ⟨0, 0⟩).set 8 e
  | m + 1 => (L1 e m).set (p4 m) ((L1 e m).getD (2 * p4 m) default).next
def inn (L : List El) (i : Nat) : Nat → List El
  | 0 => L
  | q + 1 => (inn L i q).set (i + (q + 1)) (((inn L i q).getD i default).add ((inn L i q).getD (q + 1) default))
def L2 (e : El) : Nat → List El
  | 0 => L1 e 3
  | m + 1 => inn (L2 e m) (p2 m) (p2 m - 1)
def R16 : List SV := List.replicate 16 (.u64 0)
theorem R16_len : R16.length = 16 := rfl
theorem z48 : List.replicate 48 (SV.u64 0) = ecells (List.replicate 16 ⟨0, 0⟩) ++ R16 := rfl
theorem R16_pl : R16 = (pl fov z64 16 0).map SV.u64 := by rw [pl_zero]; rfl
theorem L1_len (e : El) (m : Nat) : (L1 e m).length = 16 := by
  induction m with
  | zero => rfl
  | succ m ih => rw [L1, List.length_set, ih]
theorem inn_len (L : List El) (i q : Nat) (h : L.length = 16) : (inn L i q).length = 16 := by
  induction q with
  | zero => exact h
  | succ q ih => rw [inn, List.length_set, ih]
theorem L2_len (e : El) (m : Nat) : (L2 e m).length = 16 := by
  induction m with
  | zero => exact L1_len e 3
  | succ m ih => exact inn_len _ _ _ ih
def tby (e : El) : List El := L2 e 3
def tov : List UInt64 := (List.range 16).map fov
def tabCells (e : El) : List SV := ecells (tby e) ++ tov.map SV.u64
def TabE (H : Hp) (g : Nat) (e : El) : Prop := RR H (some ⟨g, 0, none⟩) (tabCells e)
theorem TabE.mono {H H' : Hp} {g : Nat} {e : El} (h : TabE H g e) (hle : HLe H H') : TabE H' g e := RR.mono h hle
theorem tab_el {H : Hp} {g : Nat} {e : El} (h : TabE H g e) {k d : Nat} (hk : k = 2 * d) (hd : d < 16) : ∀ j sv, ((tby e).getD d default).cells[j]? = some sv → cellH H ((⟨g, k, none⟩ : Addr).add j) = some sv.val := by
  intro j sv hj
  have hr : RR H (some ⟨g, k, none⟩) (((tby e).getD d default).cells) := RR.from h (by
    have := ecells_part (tby e) (r := tov.map SV.u64) hk (by rw [tby, L2_len]; exact hd)
    exact this)
  have := hr.cell hj
  exact this
theorem tab_ov {H : Hp} {g : Nat} {e : El} (h : TabE H g e) {k d : Nat} (hk : k = 32 + d) (hd : d < 16) : cellH H ⟨g, k, none⟩ = some (SV.val (.u64 (tov.getD d 0))) :=
  h.at_ (nth_right (by rw [ecells_len, tby, L2_len]; exact hk) (by rw [nth_map SV.u64 tov 0 (by simp [tov]; exact hd)]))
theorem and15_lt (n : UInt64) : (n &&& 15).toNat < 16 := by
  rw [UInt64.toNat_and]
  exact Nat.lt_succ_of_le Nat.and_le_right
def hstep (h out : El) (d : UInt64) : El :=
  El.add ⟨shr_u64 out.hi 4 ^^^ tov.getD (out.lo &&& 15).toNat 0, shr_u64 out.lo 4 ||| shl_u64 out.hi 60⟩ ((tby h).getD (d &&& 15).toNat default)
def hst (h out : El) (w : UInt64) : Nat → El
  | 0 => out
  | q + 1 => hstep h (hst h out w q) (shr_u64 w (4 * q))
def wsel (e : El) (u : Nat) : UInt64 := if u = 0 then e.lo else e.hi
def tm (h e : El) : Nat → El
  | 0 => ⟨0, 0⟩
  | u + 1 => hst h (tm h e u) (wsel e u) 16
def El.times (h e : El) : El := tm h e 2
def hashK (h y : El) (b : List UInt8) : Nat → El
  | 0 => y
  | j + 1 => h.times ((hashK h y b j).add (El.of ((b.drop (16 * j)).take 16)))
def hashF (h y : El) (b : List UInt8) : El := hashK h y b ((b.length + 15) / 16)

theorem ElNext_hc {H : Hp} {e : El} :
  HC Try.prog 142 [.agg e.cells] [] H (fun r S' H' => r = .agg e.next.cells ∧ S' = [] ∧ H' = H) := by
 refine hc_intro (n := 24) Try.func142 rfl Try.ntmps142 rfl (fun B hB => ?_)
 refine ew_cut (e' := [(0, _)]) [0] rfl ?_
 refine ew_sub (e' := [(0, .agg [_, _])]) ⟨rfl, trivial⟩ ?_
 refine ew_seq ?_
 refine rg (.h 0 (.h 1 XT.done)) (by kernel_rfl) (by kernel_rfl) ?_
 refine h_boxS rfl rfl rfl ?_
 intro g1
 refine ⟨kp0, ?_⟩
 refine h_alloc (cs := [_, _]) Try.zeroValue187 rfl rfl (zc_187 Try.zeroValue187) ?_
 intro g2
 refine ⟨kp0, ?_⟩
 refine x_end ?_
 refine nk_cut (e' := [(0, _), (1, _), (2, _)]) [0, 1, 2] rfl ?_
 refine nk_seq ?_
 refine ew_seq ?_
 refine rg (.q 0 (.q 1 (.q 2 (.q 3 (.q 4 (.q 5 (.q 6 (.q 7 (.q 8 (.q 9 (.q 10 (.h 11 (.h 12 XT.done))))))))))))) (by kernel_rfl) (by kernel_rfl) ?_
 refine q_fa fa_187_0 rfl rfl rfl ?_
 refine q_ld 1 Try.isAgg156 rfl rfl rfl rfl rfl ?_
 refine q_shr_u64u rfl rfl rfl rfl ?_
 refine q_fa fa_187_1 rfl rfl rfl ?_
 refine q_ld 1 Try.isAgg156 rfl rfl rfl rfl rfl ?_
 refine q_shr_u64u rfl rfl rfl rfl ?_
 refine q_fa fa_187_0 rfl rfl rfl ?_
 refine q_ld 1 Try.isAgg156 rfl rfl rfl rfl rfl ?_
 refine q_shl_u64u rfl rfl rfl rfl ?_
 refine q_or_u64 rfl rfl rfl rfl ?_
 refine q_bld (cs := [_, _]) bf_187 rfl rfl rfl rfl ?_
 refine h_alloc (cs := [_, _]) Try.zeroValue187 rfl rfl (zc_187 Try.zeroValue187) ?_
 intro g3
 refine ⟨kp0, ?_⟩
 refine h_stS (cs' := [_, _]) (S' := [_, _, _]) 0 Try.sizeOf187 rfl rfl rfl rfl rfl (allOne rfl) rfl (leb rfl) rfl rfl kp0 ?_
 refine x_end ?_
 refine nk_cut (e' := [(0, _), (1, _), (2, _), (3, _)]) [0, 1, 2, 3] rfl ?_
 refine nk_seq ?_
 refine ew_seq ?_
 refine ew_seq ?_
 refine rg (.q 0 (.q 1 (.q 2 (.q 3 XT.done)))) (by kernel_rfl) (by kernel_rfl) ?_
 refine q_fa fa_187_1 rfl rfl rfl ?_
 refine q_ld 2 Try.isAgg156 rfl rfl rfl rfl rfl ?_
 refine q_and_u64 rfl rfl rfl rfl ?_
 refine q_eq_u64 rfl rfl rfl rfl ?_
 refine x_end ?_
 refine nk_cut (e' := [(0, _), (1, _), (2, _), (3, _), (18, _)]) [0, 1, 2, 3, 18] rfl ?_
 refine nk_seq ?_
 refine ew_cond rfl ?_ ?_
 ·intro hc18
  try simp only [decide_eq_true_eq, decide_eq_false_iff_not] at hc18
  refine rg (.q 0 (.q 1 (.q 2 (.q 3 (.h 4 XT.done))))) (by kernel_rfl) (by kernel_rfl) ?_
  refine q_fa fa_187_0 rfl rfl rfl ?_
  refine q_ld 0 Try.isAgg156 rfl rfl rfl rfl rfl ?_
  refine q_xor_u64 rfl rfl rfl rfl ?_
  refine q_fa fa_187_0 rfl rfl rfl ?_
  refine h_st (cs' := [_, _]) (S' := [_, _, _]) 0 Try.sizeOf156 rfl rfl rfl rfl rfl rfl (ltb rfl) rfl rfl kp0 ?_
  refine x_end ?_
  refine nk_cut (e' := [(0, _), (1, _), (2, _), (3, _), (18, _)]) [0, 1, 2, 3, 18] rfl ?_
  refine nk_seq ?_
  refine ew_seq ?_
  refine rg (.q 0 (.h 1 XT.done)) (by kernel_rfl) (by kernel_rfl) ?_
  refine q_ldS 0 Try.isAgg187 Try.sizeOf187 rfl rfl rfl rfl rfl ?_
  refine h_stS (cs' := [_, _]) (S' := [_, _, _]) 1 Try.sizeOf187 rfl rfl rfl rfl rfl (allOne rfl) rfl (leb rfl) rfl rfl kp0 ?_
  refine x_end ?_
  refine nk_cut (e' := [(0, _), (1, _), (2, _), (3, _), (18, _)]) [0, 1, 2, 3, 18] rfl ?_
  refine nk_seq ?_
  refine ew_retS rfl rfl (.cons (.agg 1 Try.isAgg187 Try.sizeOf187 rfl rfl rfl) .nil) ?_
  have hcc : e.lo &&& 1 = 1 := hc18
  exact ⟨congrArg SV.agg (by simp only [El.next]; rw [if_pos hcc]; rfl), rfl, rfl⟩
 ·intro hc18
  try simp only [decide_eq_true_eq, decide_eq_false_iff_not] at hc18
  refine ew_skip ?_
  refine nk_seq ?_
  refine ew_seq ?_
  refine rg (.q 0 (.h 1 XT.done)) (by kernel_rfl) (by kernel_rfl) ?_
  refine q_ldS 0 Try.isAgg187 Try.sizeOf187 rfl rfl rfl rfl rfl ?_
  refine h_stS (cs' := [_, _]) (S' := [_, _, _]) 1 Try.sizeOf187 rfl rfl rfl rfl rfl (allOne rfl) rfl (leb rfl) rfl rfl kp0 ?_
  refine x_end ?_
  refine nk_cut (e' := [(0, _), (1, _), (2, _), (3, _), (18, _)]) [0, 1, 2, 3, 18] rfl ?_
  refine nk_seq ?_
  refine ew_retS rfl rfl (.cons (.agg 1 Try.isAgg187 Try.sizeOf187 rfl rfl rfl) .nil) ?_
  have hcc : ¬ e.lo &&& 1 = 1 := hc18
  exact ⟨congrArg SV.agg (by simp only [El.next]; rw [if_neg hcc]; rfl), rfl, rfl⟩


theorem ElAdd_hc {H : Hp} {a b : El} :
  HC Try.prog 143 [.agg a.cells, .agg b.cells] [] H (fun r S' H' => r = .agg (a.add b).cells ∧ S' = [] ∧ H' = H) := by
 refine hc_intro (n := 16) Try.func143 rfl Try.ntmps143 rfl (fun B hB => ?_)
 refine ew_cut (e' := [(0, _), (1, _)]) [0, 1] rfl ?_
 refine ew_sub (e' := [(0, .agg [_, _]), (1, .agg [_, _])]) ⟨rfl, rfl, trivial⟩ ?_
 refine ew_seq ?_
 refine rg (.h 0 (.h 1 (.h 2 XT.done))) (by kernel_rfl) (by kernel_rfl) ?_
 refine h_boxS rfl rfl rfl ?_
 intro g1
 refine ⟨kp0, ?_⟩
 refine h_boxS rfl rfl rfl ?_
 intro g2
 refine ⟨kp0, ?_⟩
 refine h_alloc (cs := [_, _]) Try.zeroValue187 rfl rfl (zc_187 Try.zeroValue187) ?_
 intro g3
 refine ⟨kp0, ?_⟩
 refine x_end ?_
 refine nk_cut (e' := [(0, _), (1, _), (2, _), (3, _), (4, _)]) [0, 1, 2, 3, 4] rfl ?_
 refine nk_seq ?_
 refine ew_seq ?_
 refine rg (.q 0 (.q 1 (.q 2 (.q 3 (.q 4 (.q 5 (.q 6 (.q 7 (.q 8 (.q 9 (.q 10 (.h 11 XT.done)))))))))))) (by kernel_rfl) (by kernel_rfl) ?_
 refine q_fa fa_187_0 rfl rfl rfl ?_
 refine q_ld 2 Try.isAgg156 rfl rfl rfl rfl rfl ?_
 refine q_fa fa_187_0 rfl rfl rfl ?_
 refine q_ld 1 Try.isAgg156 rfl rfl rfl rfl rfl ?_
 refine q_xor_u64 rfl rfl rfl rfl ?_
 refine q_fa fa_187_1 rfl rfl rfl ?_
 refine q_ld 2 Try.isAgg156 rfl rfl rfl rfl rfl ?_
 refine q_fa fa_187_1 rfl rfl rfl ?_
 refine q_ld 1 Try.isAgg156 rfl rfl rfl rfl rfl ?_
 refine q_xor_u64 rfl rfl rfl rfl ?_
 refine q_bld (cs := [_, _]) bf_187 rfl rfl rfl rfl ?_
 refine h_stS (cs' := [_, _]) (S' := [_, _, _]) 0 Try.sizeOf187 rfl rfl rfl rfl rfl (allOne rfl) rfl (leb rfl) rfl rfl kp0 ?_
 refine x_end ?_
 refine nk_cut (e' := [(0, _), (1, _), (2, _), (3, _), (4, _)]) [0, 1, 2, 3, 4] rfl ?_
 refine nk_seq ?_
 refine ew_retS rfl rfl (.cons (.agg 0 Try.isAgg187 Try.sizeOf187 rfl rfl rfl) .nil) ?_
 exact ⟨rfl, rfl, rfl⟩


theorem zput (b : List UInt8) : putL (List.replicate 16 (SV.u8 0)) 0 ((b.take 16).map SV.u8) = (zpad b).map SV.u8 := by
  rw [putL_spec _ _ _ (by rw [List.length_map, List.length_take, List.length_replicate]; omega)]
  unfold zpad
  rw [List.map_append, List.map_replicate, List.length_map, List.length_take, List.drop_replicate, List.take_zero, List.nil_append]
  congr 2
  omega

theorem ElFrom_hc {H : Hp} {A : Option Addr} {n c : Nat} {b : List UInt8} (hb : BS H A n c b) :
  HC Try.prog 106 [.sl A n c] [] H (fun r S' H' => r = .agg (El.of b).cells ∧ S' = [] ∧ HLe H H') := by
 have hbl := hb.len
 have hzl := zpad_len b
 refine hc_intro (n := 12) Try.func106 rfl Try.ntmps106 rfl (fun B hB => ?_)
 refine ew_cut (e' := [(0, _)]) [0] rfl ?_
 refine ew_seq ?_
 refine rg (.h 0 XT.done) (by kernel_rfl) (by kernel_rfl) ?_
 refine h_alloc (cs := [_, _]) Try.zeroValue187 rfl rfl (zc_187 Try.zeroValue187) ?_
 intro g1
 refine ⟨kp0, ?_⟩
 refine x_end ?_
 refine nk_cut (e' := [(0, _), (2, _)]) [0, 2] rfl ?_
 refine nk_seq ?_
 refine ew_seq ?_
 refine rg (.h 0 XT.done) (by kernel_rfl) (by kernel_rfl) ?_
 refine h_alloc (cs := _) Try.zeroValue182 rfl rfl (zc_182 Try.zeroValue182) ?_
 intro g2
 refine ⟨kp0, ?_⟩
 refine x_end ?_
 refine nk_cut (e' := [(0, _), (2, _), (3, _)]) [0, 2, 3] rfl ?_
 refine nk_seq ?_
 refine ew_seq ?_
 refine rg (.q 0 (.q 1 (.h 2 XT.done))) (by kernel_rfl) (by kernel_rfl) ?_
 refine q_ar_a Try.underlying182 Try.sizeOf5 rfl rfl rfl  ?_
 refine q_mv rfl rfl rfl ?_
 refine h_cpB (cs' := ((zpad b).map SV.u8)) (S' := [_, _]) 0 Try.underlying26 info_5 rfl rfl rfl rfl rfl rfl (leb rfl) hb.rr (by rw [List.length_map, hbl]) (oneU8 _) (by rw [← List.map_take]; exact zput b) rfl kp0 ?_
 refine x_end ?_
 refine nk_cut (e' := [(0, _), (2, _), (3, _)]) [0, 2, 3] rfl ?_
 refine nk_seq ?_
 refine ew_seq ?_
 refine pubBE (S' := [_]) 0 rfl rfl ?_
 intro Hq1 hq1 hpb1
 replace hb := hb.mono hq1
 refine rd (by kernel_rfl) [0, 2, 4] [0, 1, 2, 3, 4] (.q 0 (.q 2 (.h 1 (.h 3 (.q 4 (.h 5 XT.done)))))) (by kernel_rfl) (by kernel_rfl) (keepL _ []) (keepL_sub _ _) ?_
 refine q_ar_h Try.underlying182 Try.sizeOf5 rfl rfl rfl rfl (by decide) (by decide) ?_
 refine q_ar_l Try.underlying182 Try.sizeOf5 rfl rfl rfl rfl (by decide) (by decide) ?_
 refine h_call0 Try.call130 rfl rfl rfl (Get_hc (BS.of (xs := (zpad b).take 8) (RR.from hpb1 (by unfold part; rw [List.length_map, List.length_take, hzl, ← List.map_drop, ← List.map_take]; rfl)) (by rw [List.length_take, hzl]; rfl) (by decide)) (by decide)) ?_
 rintro r_ S_ Hq1 hl1 ⟨rfl, rfl, rfl⟩
 refine ⟨(fun _ => ⟨by first | exact kpL [] rfl | simp [keepL, nth], HLe.refl _⟩), ?_⟩
 refine x_S (S' := [_]) rfl ?_
 refine h_call0 Try.call130 rfl rfl rfl (Get_hc (BS.of (xs := (zpad b).drop 8) (RR.from hpb1 (by unfold part; rw [List.length_map, List.length_drop, hzl, ← List.map_drop, ← List.map_take]; congr 1; rw [List.take_of_length_le (by rw [List.length_drop, hzl]; decide)]; rfl)) (by rw [List.length_drop, hzl]; rfl) (by decide)) (by decide)) ?_
 rintro r_ S_ Hq1 hl2 ⟨rfl, rfl, rfl⟩
 refine ⟨(fun _ => ⟨by first | exact kpL [] rfl | simp [keepL, nth], HLe.refl _⟩), ?_⟩
 refine x_S (S' := [_]) rfl ?_
 refine q_bld (cs := [_, _]) bf_187 rfl rfl rfl rfl ?_
 refine h_stS (cs' := [_, _]) (S' := [_]) 0 Try.sizeOf187 rfl rfl rfl rfl rfl (allOne rfl) rfl (leb rfl) rfl rfl (fun h => absurd h (by decide)) ?_
 refine x_end ?_
 refine nk_cut (e' := [(0, _), (2, _), (3, _)]) [0, 2, 3] rfl ?_
 refine nk_seq ?_
 refine ew_retS rfl rfl (.cons (.agg 0 Try.isAgg187 Try.sizeOf187 rfl rfl rfl) .nil) ?_
 exact ⟨rfl, rfl, hq1⟩


theorem ElBytes_hc {H : Hp} {e : El} :
  HC Try.prog 148 [.agg e.cells] [] H (fun r S' H' => ∃ A c, r = .sl A 16 c ∧ S' = [.own A 5 (e.bytes.map SV.u8) (c * 1)] ∧ 16 ≤ c ∧ HLe H H') := by
 refine hc_intro (n := 11) Try.func148 rfl Try.ntmps148 rfl (fun B hB => ?_)
 refine ew_cut (e' := [(0, _)]) [0] rfl ?_
 refine ew_sub (e' := [(0, .agg [_, _])]) ⟨rfl, trivial⟩ ?_
 refine ew_seq ?_
 refine rg (.h 0 (.q 1 XT.done)) (by kernel_rfl) (by kernel_rfl) ?_
 refine h_boxS rfl rfl rfl ?_
 intro g1
 refine ⟨kp0, ?_⟩
 refine q_as (sv := .sl none 0 0) rfl rfl rfl ?_
 refine x_end ?_
 refine nk_cut (e' := [(0, _), (1, _), (2, _)]) [0, 1, 2] rfl ?_
 refine nk_seq ?_
 refine ew_seq ?_
 refine rd (by kernel_rfl) [0, 1, 3, 4, 8] [0, 1, 2, 3, 4, 5, 6, 7, 8] (.q 0 (.q 1 (.q 3 (.q 4 (.h 2 (.h 5 (.h 6 (.h 7 (.q 8 XT.done))))))))) (by kernel_rfl) (by kernel_rfl) (keepL _ [0]) (keepL_sub _ _) ?_
 refine q_fa fa_187_0 rfl rfl rfl ?_
 refine q_ld 0 Try.isAgg156 rfl rfl rfl rfl rfl ?_
 refine q_fa fa_187_1 rfl rfl rfl ?_
 refine q_ld 0 Try.isAgg156 rfl rfl rfl rfl rfl ?_
 refine h_call0 Try.call84 rfl rfl rfl (Put_hc (by decide) (by decide)) ?_
 rintro r_ S_ H hl1 ⟨A1, c1, rfl, rfl, hcap1, rfl⟩
 refine ⟨(fun _ => ⟨by first | exact kpL [1] rfl | simp [keepL, nth], HLe.refl _⟩), ?_⟩
 refine x_S (S' := [_, _]) rfl ?_
 refine h_call0 Try.call84 rfl rfl rfl (Put_hc (by decide) (by decide)) ?_
 rintro r_ S_ H hl2 ⟨A2, c2, rfl, rfl, hcap2, rfl⟩
 refine ⟨(fun _ => ⟨by first | exact kpL [2] rfl | simp [keepL, nth], HLe.refl _⟩), ?_⟩
 refine x_S (S' := [_, _, _]) rfl ?_
 refine h_bs (cs := [_, _]) Try.underlying77 info_26 rfl rfl rfl rfl rfl rfl rfl rfl rfl (by decide) ?_
 intro g4
 refine ⟨(fun _ => ⟨by first | exact kpL [3] rfl | simp [keepL, nth], HLe.refl _⟩), ?_⟩
 refine pubX (S' := [_, _, _]) 2 rfl rfl ?_
 intro Hp1 hp1 hr1
 refine pubX (S' := [_, _]) 1 rfl rfl ?_
 intro Hp2 hp2 hr2
 replace hr1 := hr1.mono hp2
 refine pubX (S' := [_]) 0 rfl rfl ?_
 intro Hp3 hp3 hr3
 replace hr1 := hr1.mono hp3
 replace hr2 := hr2.mono hp3
 refine h_call0 Try.call80 rfl rfl rfl (Join2_hc hr3 ⟨hr1, putN_length _ _, (by assumption)⟩ ⟨hr2, putN_length _ _, (by assumption)⟩ (by decide)) ?_
 rintro r_ S_ Hp3 hl3 ⟨A3, c3, rfl, rfl, hcap3, rfl⟩
 refine ⟨(fun _ => ⟨by first | exact kpL [1] rfl | simp [keepL, nth], ((hp1.trans hp2).trans hp3)⟩), ?_⟩
 refine x_S (S' := [_, _]) rfl ?_
 refine q_as rfl rfl rfl ?_
 refine x_end ?_
 refine nk_cut (e' := [(0, _), (1, _), (2, _)]) [0, 1, 2] rfl ?_
 refine nk_seq ?_
 refine ew_retk 0 rfl rfl (.cons (.tmp rfl) .nil) rfl rfl ?_
 have h16 : (putN e.hi 8 ++ putN e.lo 8).length = 16 := by rw [List.length_append, putN_length, putN_length]
 exact ⟨A3, c3, congrArg (fun z => SV.sl _ z _) h16, rfl, (by have h := hcap3; have h3 : (putN e.hi (Int.toNat 8) ++ putN e.lo (Int.toNat 8)).length = 16 := h16; omega), ((hp1.trans hp2).trans hp3)⟩

end Go.GW
