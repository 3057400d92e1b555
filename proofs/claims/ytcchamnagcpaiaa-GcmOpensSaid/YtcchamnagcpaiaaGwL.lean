/- Own words, part L: bytes as strings; a row that bears a string's mark; append to a full public row. -/
import Derived.Test.YtcchamnagcpaiaaGwK
import Derived.Laws.IdiomStrings
import Derived.Laws.Strings
set_option linter.unusedVariables false
set_option linter.unusedSimpArgs false
namespace Go.GW
open Go

section
variable {P : Program} {n : Nat} {B : Base} {k : List Kont} {ops : List Oper} {C : Option (Res × Hp)} {need : Nat → Bool} {t : XT} {e : Env} {S : Res} {H : Hp}
variable {i d : Nat} {ty : TypeId} {pos : String} {af : Array Edge} {g : Option (Nat × Bool)} {T T2 : TypeId} {x y : Operand}

theorem run_mark {w : World} {el tt : TypeId} {gb l c : Nat} {arr : Array Value} (hT : P.underlying T = some (.slice el)) (he : P.underlying el = some (.int .u8)) (hh : w.heap[gb]? = some (.cells arr tt (0, 0))) :
    (convert T T (.slice (some ⟨gb, 0, none⟩) l c)).run P w = .ok (.slice (some ⟨gb, 0, none⟩) l c) (w.freeze ⟨gb, arr.size, none⟩ 1) := by
  have hsh : w.shape? gb = some (tt, arr.size) := by unfold World.shape?; rw [hh]
  simp [convert, run_underlying hT, run_underlying he, markStringish, hsh]

/-- a slice of bytes from an owned row, to its own type: the row is public, and bears the mark -/
theorem h_cvm {el tt : TypeId} {gb l c m : Nat} {cs : List SV} {S1 : Res} (kk : Nat) (hT : P.underlying T = some (.slice el)) (he8 : P.underlying el = some (.int .u8))
    (ho : nth ops i = some ⟨some d, .convert T T x, ty, pos, af, g⟩) (hg : gok ops e g = some true) (hx : opv e x = some (.sl (some ⟨gb, 0, none⟩) l c))
    (hb : nth S kk = some (.own (some ⟨gb, 0, none⟩) tt cs m)) (hS1 : S.eraseIdx kk = S1)
    (hk : ∀ H', HLe H H' → RR H' (some ⟨gb, 0, none⟩) cs → (need i = true → KP C S1 H') ∧ XD P n B ops C need k t ((d, .sl (some ⟨gb, 0, none⟩) l c) :: e) S1 H') : XD P n B ops C need k (.h i t) e S H :=
  hval ho hg fun a w he hw => by
    subst hS1
    obtain ⟨_, _, rest, h5, h6⟩ := hw.res _ (List.mem_of_getElem? (nth_get hb))
    have hr := run_mark (T := T) (l := l) (c := c) hT he8 h5
    have hw1 : (w.freeze ⟨gb, (SV.vals cs ++ rest).length, none⟩ 1).heap = w.heap.modify gb fun o => match o with
      | .cells c elem (lo, hi) => .cells c elem (if lo == hi then ((SV.vals cs ++ rest).length, (SV.vals cs ++ rest).length + 1) else (min lo (SV.vals cs ++ rest).length, max hi ((SV.vals cs ++ rest).length + 1)))
      | o => o := rfl
    have hat : (w.freeze ⟨gb, (SV.vals cs ++ rest).length, none⟩ 1).heap[gb]? = some (.cells ⟨SV.vals cs ++ rest⟩ tt ((SV.vals cs ++ rest).length, (SV.vals cs ++ rest).length + 1)) := by
      rw [hw1, Array.getElem?_modify, if_pos rfl, h5]
      rfl
    have hA := hw.set (d := .obj [(gb, .cells ⟨SV.vals cs ++ rest⟩ tt ((SV.vals cs ++ rest).length, (SV.vals cs ++ rest).length + 1))]) (w' := w.freeze ⟨gb, (SV.vals cs ++ rest).length, none⟩ 1) hb rfl ⟨rfl, rfl, rfl⟩ (by rw [hw1]; simp)
      (fun g hg => by
        rw [hw1, Array.getElem?_modify, if_neg]
        intro h
        exact hg (by simp [Chunk.dom, h])) (by
        intro p hp
        simp only [List.mem_singleton] at hp
        subst hp
        exact hat)
    have hn : H gb = none := hw.dis gb (List.mem_flatMap.2 ⟨_, List.mem_of_getElem? (nth_get hb), by simp [Chunk.dom]⟩)
    have hp0 : At B (Chunk.obj [(gb, .cells ⟨SV.vals cs ++ rest⟩ tt ((SV.vals cs ++ rest).length, (SV.vals cs ++ rest).length + 1))] :: S.eraseIdx kk) H (w.freeze ⟨gb, (SV.vals cs ++ rest).length, none⟩ 1) := hA.perm (putAt_perm hb)
    have hp := hp0.publish (k := 0) (g := gb) (o := .cells ⟨SV.vals cs ++ rest⟩ tt ((SV.vals cs ++ rest).length, (SV.vals cs ++ rest).length + 1)) rfl rfl hat
    have hle : HLe H (H.add gb (.cells ⟨SV.vals cs ++ rest⟩ tt ((SV.vals cs ++ rest).length, (SV.vals cs ++ rest).length + 1))) := fun g o ho => by
      unfold Hp.add
      split
      · rename_i hgb; subst hgb; rw [hn] at ho; cases ho
      · exact ho
    have hrr : RR (H.add gb (.cells ⟨SV.vals cs ++ rest⟩ tt ((SV.vals cs ++ rest).length, (SV.vals cs ++ rest).length + 1))) (some ⟨gb, 0, none⟩) cs := .inr ⟨_, rfl, fun j sv hj => by
      rw [add_lit, Nat.zero_add]
      have h8 : (SV.vals cs)[j]? = some sv.val := by rw [vals_get, hj]; rfl
      have hlt : j < (SV.vals cs).length := (List.getElem?_eq_some_iff.1 h8).1
      unfold cellH Hp.add
      simp [List.getElem?_append_left hlt, h8]⟩
    refine ⟨.sl (some ⟨gb, 0, none⟩) l c, _, _, _, ?_, hp, (hk _ hle hrr).1, (hk _ hle hrr).2⟩
    simp only [execOp, resolve]
    have hr' : (convert T T (.slice (some ⟨gb, 0, none⟩) l c)).run P w = .ok (.slice (some ⟨gb, 0, none⟩) l c) (w.freeze ⟨gb, (SV.vals cs ++ rest).length, none⟩ 1) := hr
    simp [he.opv hx, SV.val, hr']

/-- string(b): b's bytes are public -/
theorem h_cvs {el : TypeId} {A : Option Addr} {l c : Nat} {xs : List UInt8} (hT : P.underlying T = some (.slice el)) (he8 : P.underlying el = some (.int .u8)) (hT2 : P.underlying T2 = some .string)
    (ho : nth ops i = some ⟨some d, .convert T T2 x, ty, pos, af, g⟩) (hg : gok ops e g = some true) (hx : opv e x = some (.sl A l c)) (hb : BS H A l c xs) (hkp : need i = true → KP C S H)
    (hk : XD P n B ops C need k t ((d, .s ⟨xs.toArray⟩) :: e) S H) : XD P n B ops C need k (.h i t) e S H :=
  hval ho hg fun a w he hw => by
    refine ⟨.s ⟨xs.toArray⟩, S, H, w, ?_, hw, hkp, hk⟩
    have hr : (convert T T2 (.slice A l c)).run P w = .ok (.string ⟨xs.toArray⟩) w := by
      rcases Nat.eq_zero_or_pos l with hl | hl
      · have hx0 : xs = [] := List.eq_nil_of_length_eq_zero (by rw [hb.len]; exact hl)
        subst hx0 hl
        cases A with
        | none => rw [run_convert_bytes_string w T T2 el none 0 c hT he8 hT2]; simp [Conv.bytesToString]; rfl
        | some a0 =>
          exact run_convert_bytes_back w T T2 el a0 c [] hT he8 hT2 (fun j hj => absurd hj (by simp))
      · have hs := hb.ne hl
        obtain ⟨a0, rfl⟩ := Option.isSome_iff_exists.1 hs
        have := run_convert_bytes_back w T T2 el a0 c xs hT he8 hT2 (fun j hj => by
          have h3 := hb.rr.cell (j := j) (sv := .u8 xs[j]) (by simp [hj])
          exact cellH_spec hw.hp h3)
        rw [hb.len] at this
        exact this
    simp only [execOp, resolve]
    simp [he.opv hx, SV.val, hr]

/-- append(s, src...), s public and full, src public -/
theorem h_appF {el : TypeId} {inf : TypeInfo} {z : Value} {sz : Nat} {A A2 : Option Addr} {l l2 c2 : Nat} {cs news : List SV} (hT : P.underlying T = some (.slice el)) (hi : P.info? el = some inf) (hz : inf.zero = some z) (hzs : z.cells.size = inf.size) (hsz : inf.size = sz) (h0 : 0 < sz)
    (ho : nth ops i = some ⟨some d, .call ⟨.builtin .append, #[x, y], #[T, T]⟩, ty, pos, af, g⟩) (hg : gok ops e g = some true) (hx : opv e x = some (.sl A l l)) (hy : opv e y = some (.sl A2 l2 c2))
    (hrow : RR H A cs) (hl : cs.length = l * sz) (hl0 : 0 < l) (hsrc : RR H A2 news) (hl2 : news.length = l2 * sz) (hl20 : 0 < l2) (h1 : ∀ s ∈ news, s.one = true) (hby : (l + l2) * inf.bytes ≤ 140737488355328) (h63 : l + l2 ≤ 9223372036854775807)
    (hk : ∀ A' c', l + l2 ≤ c' → (need i = true → KP C (.own A' el (cs ++ news) (c' * sz) :: S) H) ∧ XD P n B ops C need k t ((d, .sl A' (l + l2) c') :: e) (.own A' el (cs ++ news) (c' * sz) :: S) H) : XD P n B ops C need k (.h i t) e S H :=
  hval ho hg fun a w he hw => by
    subst hsz
    obtain ⟨a0, rfl, hc0⟩ : ∃ a0, A = some a0 ∧ ∀ j sv, cs[j]? = some sv → cellH H (a0.add j) = some sv.val := by
      rcases hrow with h | ⟨a2, e, hc⟩
      · rw [h] at hl; simp at hl; have := Nat.mul_pos hl0 h0; omega
      · exact ⟨a2, e, hc⟩
    obtain ⟨a2, rfl, hc2⟩ : ∃ a2, A2 = some a2 ∧ ∀ j sv, news[j]? = some sv → cellH H (a2.add j) = some sv.val := by
      rcases hsrc with h | ⟨a2, e, hc⟩
      · rw [h] at hl2; simp at hl2; have := Nat.mul_pos hl20 h0; omega
      · exact ⟨a2, e, hc⟩
    have hget : ∀ {l : List SV} {a : Addr}, (∀ j sv, l[j]? = some sv → cellH H (a.add j) = some sv.val) → ∀ j v, (SV.vals l)[j]? = some v → w.cell? (a.add j) = some v := by
      intro l a hc j v hj
      rw [vals_get] at hj
      cases hq : l[j]? with
      | none => rw [hq] at hj; cases hj
      | some sv => rw [hq] at hj; simp only [Option.map_some, Option.some.injEq] at hj; rw [← hj]; exact cellH_spec hw.hp (hc j sv hq)
    have hns : Builtin.nextslicecap (l + l2) l * inf.bytes ≤ 281474976710656 := by
      have h6 := nextslicecap_le (need := l + l2) (old := l) (by omega)
      have h7 := Nat.mul_le_mul_right inf.bytes h6
      rw [Nat.mul_assoc] at h7
      omega
    have hr := run_append_grow (P := P) w T ty el inf z hT hi hz a0 l l (SV.vals cs) (by rw [vals_length]; exact hl) (hget hc0) a2 l2 c2 (SV.vals news) (by rw [vals_length]; exact hl2) (hget hc2) (by omega) (by omega) hns
    have hcapge : l + l2 ≤ grownCap w (l + l2) l el := by
      unfold grownCap Question.cut
      exact Nat.le_add_right _ _
    have hA : At B (.own (some ⟨w.heap.size, 0, none⟩) el (cs ++ news) (grownCap w (l + l2) l el * inf.size) :: S) H (w.drew.alloc (.cells (((SV.vals cs).toArray ++ (SV.vals news).toArray ++ Builtin.zeroCells z.cells (grownCap w (l + l2) l el - (l + l2)))) el)) := by
      refine hw.newOwn el (cs ++ news) (Builtin.zeroCells z.cells (grownCap w (l + l2) l el - (l + l2))).toList (grownCap w (l + l2) l el * inf.size) ?_ ?_ ⟨rfl, rfl, rfl⟩
      · rw [List.length_append, vals_length, List.length_append, hl, hl2, Array.length_toList, zeroCells_size, hzs, ← Nat.add_mul, ← Nat.add_mul]
        congr 1
        omega
      · show w.heap.push _ = _
        congr 2
        apply Array.ext'
        simp [vals_append]
    refine ⟨.sl (some ⟨w.heap.size, 0, none⟩) (l + l2) (grownCap w (l + l2) l el), _, _, _, ?_, hA, (hk _ _ hcapge).1, (hk _ _ hcapge).2⟩
    simp only [execOp, resolve]
    simp [he.opv hx, he.opv hy, SV.val, invoke, builtin, hr]

end

/-- a loop whose first round is shown by itself -/
theorem ew_loop1 {P : Program} {n : Nat} {B : Base} {k : List Kont} {e : Env} {S0 : Res} {H : Hp} {c : Code} {ι : Type} {Cn : Env} (V : ι → Env) (S : ι → Res) (G : ι → Hp → Prop) (μ : ι → Nat) (M : Nat) (_hC : Sub e Cn)
    (first : EW P n B c (.inv (fun a' w' => ∃ j, LoopI n B (mkE Cn V) S G j a' w' ∧ μ j < M) :: k) e S0 H)
    (round : ∀ i H, G i H → EW P n B c (.inv (fun a' w' => ∃ j, LoopI n B (mkE Cn V) S G j a' w' ∧ μ j < μ i) :: k) (mkE Cn V i) (S i) H) : EW P n B (.loop c) k e S0 H := by
  intro a w hh hw
  let J : Option ι → Act → World → Prop := fun o a w => match o with
    | none => Holds n e a ∧ At B S0 H w
    | some i => LoopI n B (mkE Cn V) S G i a w
  let ν : Option ι → Nat := fun o => match o with
    | none => M
    | some i => μ i
  refine loop_ghost J ν (fun o a w hJ => ?_) none a w ⟨hh, hw⟩
  cases o with
  | none =>
    have h := first a w hJ.1 hJ.2
    refine wp_mono h ?_
    intro ex a' w' hq
    cases ex <;> first | exact hq | (obtain ⟨j, h1, h2⟩ := hq; exact ⟨some j, h1, h2⟩)
  | some i =>
    obtain ⟨h1, H', h2, h3⟩ := hJ
    have h := round i H' h3 a w h1 h2
    refine wp_mono h ?_
    intro ex a' w' hq
    cases ex <;> first | exact hq | (obtain ⟨j, h1, h2⟩ := hq; exact ⟨some j, h1, h2⟩)

theorem nk_first {P : Program} {n : Nat} {B : Base} {k : List Kont} {e : Env} {S0 : Res} {H : Hp} {ι : Type} {E : ι → Env} {S : ι → Res} {G : ι → Hp → Prop} {μ : ι → Nat} {M : Nat} (j : ι)
    (he : Sub e (E j)) (hS : S0 = S j) (hG : G j H) (hμ : μ j < M) : NK P n B (.inv (fun a' w' => ∃ j, LoopI n B E S G j a' w' ∧ μ j < M) :: k) e S0 H :=
  nk_inv fun _ _ hh hw => ⟨j, ⟨hh.sub he, H, hS ▸ hw, hG⟩, hμ⟩

theorem ew_drop {P : Program} {n : Nat} {B : Base} {k : List Kont} {e : Env} {S S' : Res} {H : Hp} {c : Code} (h : EW P n B c k e S H) : EW P n B c k e (S ++ S') H := fun a w he hw => h a w he hw.drop

theorem str_eq {xs ys : List UInt8} : ((⟨xs.toArray⟩ : ByteArray).toList == (⟨ys.toArray⟩ : ByteArray).toList) = decide (xs = ys) := by
  rw [Go.ByteArray.toList_eq, Go.ByteArray.toList_eq]
  by_cases h : xs = ys <;> simp [h]

end Go.GW
