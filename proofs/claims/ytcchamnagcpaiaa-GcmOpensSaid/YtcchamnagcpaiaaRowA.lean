/- Own words: from a contract that returns true and leaves what was there as it was, to what a row asks of the law's function. -/
import Derived.Test.YtcchamnagcpaiaaRows
import Derived.ProofKit
import Derived.Carry
import Derived.Deep.Slices
import Derived.Test.YtcchamnagcpaiaaGwH
set_option linter.unusedVariables false
set_option linter.unusedSimpArgs false
namespace Go.GW
open Go Go.ChangeShapes Go.WideShapes Go.ChangeAt Go.RowKit

/-- all of a world's memory -/
def HW (w : World) : Hp := fun g => w.heap[g]?
theorem cellH_HW (w : World) (a : Addr) : cellH (HW w) a = w.cell? a := rfl
theorem atHW (w : World) : At (base w [] (HW w)) [] (HW w) w :=
  ⟨Same.refl w, Nat.le_refl _, fun _ _ _ => rfl, fun c hc => (nomatch hc), List.nodup_nil, fun _ _ h => h, fun g hg => (nomatch hg), fun g hg => (nomatch hg), fun _ _ h => h, fun _ _ h => .inl h⟩

theorem trodAll_below {H : Type} {enc : TypeId × Value → H} {P : Program} (hl : laidOutB P = true) {W W' : World} (hb : Below W.heap.size W W') : ∀ (ts : List TypeId) (vs : List Value) (ds : List (DataW H)) (ps : List MemPlace),
    (∀ t ∈ ts, P.readableRec t = true ∧ t < P.types.size) → DataW.TrodAll enc P W 0 (fun _ => true) true ts vs ds ps → (∀ x ∈ ps, x.block < W.heap.size) → DataW.TrodAll enc P W' 0 (fun b => decide (b < W.heap.size)) true ts vs ds ps
  | [], [], [], _, _, h, _ => h
  | [], [], _ :: _, _, _, h, _ => h.elim
  | [], _ :: _, _, _, _, h, _ => h.elim
  | _ :: _, [], _, _, _, h, _ => h.elim
  | _ :: _, _ :: _, [], _, _, h, _ => h.elim
  | t :: ts, v :: vs, d :: ds, ps, ht, h, hlt => by
    obtain ⟨p, q, h1, h2, rfl⟩ := h
    exact ⟨p, q, Below.trod hl (ht t (by simp)).1 (ht t (by simp)).2 h1 hb (fun x hx => hlt x (by simp [hx])), trodAll_below hl hb ts vs ds q (fun t' ht' => ht t' (by simp [ht'])) h2 (fun x hx => hlt x (by simp [hx])), rfl⟩

/-- a law's function that returns true and only makes new memory -/
theorem law_post {H : Type} {enc : TypeId × Value → H} {P : Program} (hl : laidOutB P = true) {f : FuncId} {fn : Func} {s : ChangeSpec} {W : World} {args : Array Value} {ds : List (DataW H)} {before : List MemPlace} {svs : List SV}
    (hv : s.vars = []) (hres : (s.fn H ds).results = [.lit (.bool true)]) (harg : (s.fn H ds).args = ds) (hvar : (s.fn H ds).vars = []) {tb : TypeId} (hrt : fn.resultTypes = #[tb]) (htb : P.underlying tb = some .bool)
    (hts : ∀ t ∈ fn.params.toList, P.readableRec t = true ∧ t < P.types.size)
    (hW : DataW.Whole enc P fn.params.toList s.vars false W args.toList ds [] before) (hargs : args = ⟨SV.vals svs⟩)
    (hc : HC P f svs [] (HW W) (fun r S' H' => r = .b true ∧ S' = [] ∧ HLe (HW W) H')) :
    Calls P f args W fun e W' => ∃ v, e = .returned v ∧ s.post enc P fn false true false false W args v W' := by
  subst hargs
  refine (hc W (atHW W)).mono fun e W' h => ?_
  obtain ⟨r, S', H', rfl, hA, rfl, rfl, _⟩ := h
  have hb : Below W.heap.size W W' := ⟨hA.same.os, hA.same.tape, hA.same.output, hA.size, fun k hk => hA.frame k hk (by intro h; cases h)⟩
  have hlt : ∀ x ∈ before, x.block < W.heap.size := fun x hx => by simpa using hW.lt x hx
  refine ⟨_, rfl, ds, [], before, [], before, [], hW, ?_, ?_, ?_, hb.frame _, fun h => by cases h⟩
  · rw [List.append_nil, hres, hrt]
    exact trodAll_mk1 (shut_bool htb true)
  · rw [List.append_nil, harg]
    obtain ⟨p, q, h1, h2, rfl, _, _⟩ := hW
    rw [hv] at h2
    have hq : q = [] := by
      cases h2
      rfl
    subst hq
    rw [List.append_nil] at hlt ⊢
    exact trodAll_below hl hb _ _ _ _ hts h1 hlt
  · rw [hv, List.append_nil, hvar]
    rfl

end Go.GW
