/- Own words, part C: what a run owns of memory (chunks), what all may read (a partial heap), the judgements over them, and the rules of the code that is no operation. -/
import Derived.Test.YtcchamnagcpaiaaGwB
set_option linter.unusedVariables false
set_option linter.unusedSimpArgs false
namespace Go.GW
open Go

abbrev Heap := Array Obj
abbrev Hp := Nat → Option Obj

inductive Chunk where
  | box (g : Nat) (t : TypeId) (cs : List SV)
  | own (A : Option Addr) (t : TypeId) (cs : List SV) (m : Nat)
  | obj (l : List (Nat × Obj))

def Chunk.dom : Chunk → List Nat
  | .box g _ _ => [g]
  | .own none _ _ _ => []
  | .own (some a) _ _ _ => [a.block]
  | .obj l => l.map (·.1)

def Chunk.holds (h : Heap) : Chunk → Prop
  | .box g t cs => h[g]? = some (.cells ⟨SV.vals cs⟩ t (0, 0))
  | .own none _ cs m => cs = [] ∧ m = 0
  | .own (some a) t cs m => a.off = 0 ∧ a.spot = none ∧ ∃ rest : List Value, h[a.block]? = some (.cells ⟨SV.vals cs ++ rest⟩ t (0, 0)) ∧ (SV.vals cs ++ rest).length = m
  | .obj l => ∀ p ∈ l, h[p.1]? = some p.2

abbrev Res := List Chunk
def Res.dom (S : Res) : List Nat := S.flatMap Chunk.dom

theorem Chunk.holds_congr {h h' : Heap} {c : Chunk} (hc : c.holds h) (he : ∀ g ∈ c.dom, h'[g]? = h[g]?) : c.holds h' := by
  cases c with
  | box g t cs => exact (he g (by simp [Chunk.dom])).trans hc
  | own A t cs m =>
    cases A with
    | none => exact hc
    | some a =>
      obtain ⟨h1, h2, rest, h3, h4⟩ := hc
      exact ⟨h1, h2, rest, (he a.block (by simp [Chunk.dom])).trans h3, h4⟩
  | obj l => exact fun p hp => (he p.1 (by simp only [Chunk.dom]; exact List.mem_map_of_mem hp)).trans (hc p hp)

theorem lt_of_get {h : Heap} {g : Nat} {o : Obj} (e : h[g]? = some o) : g < h.size := (Array.getElem?_eq_some_iff.1 e).1

theorem Chunk.dom_lt {h : Heap} {c : Chunk} (hc : c.holds h) : ∀ g ∈ c.dom, g < h.size := by
  intro g hg
  cases c with
  | box g' t cs => simp only [Chunk.dom, List.mem_singleton] at hg; subst hg; exact lt_of_get hc
  | own A t cs m =>
    cases A with
    | none => simp [Chunk.dom] at hg
    | some a => simp only [Chunk.dom, List.mem_singleton] at hg; subst hg; obtain ⟨_, _, _, h3, _⟩ := hc; exact lt_of_get h3
  | obj l =>
    simp only [Chunk.dom, List.mem_map] at hg
    obtain ⟨p, hp, rfl⟩ := hg
    exact lt_of_get (hc p hp)

structure Same (w0 w : World) : Prop where
  os : w.os = w0.os
  tape : w.tape = w0.tape
  output : w.output = w0.output

theorem Same.refl (w : World) : Same w w := ⟨rfl, rfl, rfl⟩
theorem Same.trans {a b c : World} (h : Same a b) (k : Same b c) : Same a c := ⟨k.os.trans h.os, k.tape.trans h.tape, k.output.trans h.output⟩

/-- where a run began: the world, the blocks that it was given, what all may read -/
structure Base where
  w : World
  F : List Nat
  H : Hp

structure At (B : Base) (S : Res) (H : Hp) (w : World) : Prop where
  same : Same B.w w
  size : B.w.heap.size ≤ w.heap.size
  frame : ∀ g, g < B.w.heap.size → g ∉ B.F → w.heap[g]? = B.w.heap[g]?
  res : ∀ c ∈ S, c.holds w.heap
  nd : S.dom.Nodup
  hp : ∀ g o, H g = some o → w.heap[g]? = some o
  dis : ∀ g ∈ S.dom, H g = none
  fresh : ∀ g ∈ S.dom, g ∈ B.F ∨ B.w.heap.size ≤ g
  le : ∀ g o, B.H g = some o → H g = some o
  hfresh : ∀ g o, H g = some o → B.H g = some o ∨ g ∈ B.F ∨ B.w.heap.size ≤ g

def base (w : World) (S : Res) (H : Hp) : Base := ⟨w, S.dom, H⟩

theorem At.dom_lt {B : Base} {S : Res} {H : Hp} {w : World} (h : At B S H w) {g : Nat} (hg : g ∈ S.dom) : g < w.heap.size := by
  obtain ⟨c, hc, hgc⟩ := List.mem_flatMap.1 hg
  exact c.dom_lt (h.res c hc) g hgc

theorem At.start {B : Base} {S : Res} {H : Hp} {w : World} (h : At B S H w) : At (base w S H) S H w :=
  ⟨Same.refl w, Nat.le_refl _, fun _ _ _ => rfl, h.res, h.nd, h.hp, h.dis, fun _ hg => .inl hg, fun _ _ e => e, fun _ _ e => .inl e⟩

/-- A run that was given S1 of S1 ++ S2: what it leaves, and the rest, is what the outer run has. -/
theorem At.comp {B : Base} {S1 S2 S1' : Res} {H H' : Hp} {w w' : World} (h : At B (S1 ++ S2) H w) (k : At (base w S1 H) S1' H' w') : At B (S1' ++ S2) H' w' := by
  have hd : (S1 ++ S2).dom = S1.dom ++ S2.dom := by simp [Res.dom]
  have hd' : (S1' ++ S2).dom = S1'.dom ++ S2.dom := by simp [Res.dom]
  have hnd := h.nd
  rw [hd] at hnd
  have hdisj : ∀ g, g ∈ S1.dom → g ∉ S2.dom := fun g h1 h2 => (List.nodup_append.1 hnd).2.2 g h1 g h2 rfl
  have h2lt : ∀ g ∈ S2.dom, g < w.heap.size := fun g hg => h.dom_lt (by rw [hd]; exact List.mem_append.2 (.inr hg))
  have keep : ∀ g, g < w.heap.size → g ∉ S1.dom → w'.heap[g]? = w.heap[g]? := fun g h1 h2 => k.frame g h1 h2
  have h12 : ∀ g ∈ S1'.dom, g ∉ S2.dom := by
    intro g hg h2
    rcases k.fresh g hg with h1 | h1
    · exact hdisj g h1 h2
    · have h3 := h2lt g h2
      have h4 : w.heap.size ≤ g := h1
      omega
  refine ⟨h.same.trans k.same, Nat.le_trans h.size k.size, ?_, ?_, ?_, k.hp, ?_, ?_, ?_, ?_⟩
  · intro g hg hF
    rw [keep g (Nat.lt_of_lt_of_le hg h.size) ?_]
    · exact h.frame g hg hF
    · intro h1
      rcases h.fresh g (by rw [hd]; exact List.mem_append.2 (.inl h1)) with h2 | h2
      · exact hF h2
      · omega
  · intro c hc
    rcases List.mem_append.1 hc with hc | hc
    · exact k.res c hc
    · refine Chunk.holds_congr (h.res c (List.mem_append.2 (.inr hc))) fun g hg => ?_
      have hg2 : g ∈ S2.dom := List.mem_flatMap.2 ⟨c, hc, hg⟩
      exact keep g (h2lt g hg2) fun h1 => hdisj g h1 hg2
  · rw [hd']
    exact List.nodup_append.2 ⟨k.nd, (List.nodup_append.1 hnd).2.1, fun a ha b hb e => by subst e; exact h12 a ha hb⟩
  · intro g hg
    rw [hd'] at hg
    rcases List.mem_append.1 hg with hg | hg
    · exact k.dis g hg
    · cases hH : H' g with
      | none => rfl
      | some o =>
        exfalso
        rcases k.hfresh g o hH with h1 | h1 | h1
        · have h2 := h.dis g (by rw [hd]; exact List.mem_append.2 (.inr hg))
          have h3 : H g = some o := h1
          rw [h2] at h3
          cases h3
        · exact hdisj g h1 hg
        · have h3 := h2lt g hg
          have h4 : w.heap.size ≤ g := h1
          omega
  · intro g hg
    rw [hd'] at hg
    rcases List.mem_append.1 hg with hg | hg
    · rcases k.fresh g hg with h1 | h1
      · exact h.fresh g (by rw [hd]; exact List.mem_append.2 (.inl h1))
      · right
        have h4 : w.heap.size ≤ g := h1
        have := h.size
        omega
    · exact h.fresh g (by rw [hd]; exact List.mem_append.2 (.inr hg))
  · exact fun g o e => k.le g o (h.le g o e)
  · intro g o e
    rcases k.hfresh g o e with h1 | h1 | h1
    · exact h.hfresh g o h1
    · rcases h.fresh g (by rw [hd]; exact List.mem_append.2 (.inl h1)) with h2 | h2
      · exact .inr (.inl h2)
      · exact .inr (.inr h2)
    · right; right
      have h4 : w.heap.size ≤ g := h1
      have := h.size
      omega

theorem At.perm {B : Base} {S S' : Res} {H : Hp} {w : World} (h : At B S H w) (hp : S.Perm S') : At B S' H w := by
  have hd : S.dom.Perm S'.dom := List.Perm.flatMap_right _ hp
  exact ⟨h.same, h.size, h.frame, fun c hc => h.res c (hp.mem_iff.2 hc), hd.nodup_iff.1 h.nd, h.hp, fun g hg => h.dis g (hd.mem_iff.2 hg), fun g hg => h.fresh g (hd.mem_iff.2 hg), h.le, h.hfresh⟩

/-- what is owned may be forgotten -/
theorem At.drop {B : Base} {S S' : Res} {H : Hp} {w : World} (h : At B (S ++ S') H w) : At B S H w := by
  have hd : (S ++ S').dom = S.dom ++ S'.dom := by simp [Res.dom]
  have hnd := h.nd
  rw [hd] at hnd
  exact ⟨h.same, h.size, h.frame, fun c hc => h.res c (List.mem_append.2 (.inl hc)), (List.nodup_append.1 hnd).1, h.hp,
    fun g hg => h.dis g (by rw [hd]; exact List.mem_append.2 (.inl hg)), fun g hg => h.fresh g (by rw [hd]; exact List.mem_append.2 (.inl hg)), h.le, h.hfresh⟩

theorem At.heap_eq {B : Base} {S : Res} {H : Hp} {w w' : World} (h : At B S H w) (e : w'.heap = w.heap) (s : Same w w') : At B S H w' :=
  ⟨h.same.trans s, by rw [e]; exact h.size, by rw [e]; exact h.frame, by rw [e]; exact h.res, h.nd, by rw [e]; exact h.hp, h.dis, h.fresh, h.le, h.hfresh⟩

/-! ### Contracts -/
def HC (P : Program) (f : FuncId) (args : List SV) (S : Res) (H : Hp) (R : SV → Res → Hp → Prop) : Prop :=
  ∀ w, At (base w S H) S H w → Calls P f ⟨SV.vals args⟩ w fun e w' => ∃ r S' H', e = .returned r.val ∧ At (base w S H) S' H' w' ∧ R r S' H'

theorem HC.mono {P : Program} {f : FuncId} {args : List SV} {S : Res} {H : Hp} {R R' : SV → Res → Hp → Prop} (h : HC P f args S H R) (hr : ∀ r S' H', R r S' H' → R' r S' H') : HC P f args S H R' :=
  fun w hw => (h w hw).mono fun _ _ ⟨r, S', H', he, ha, hR⟩ => ⟨r, S', H', he, ha, hr _ _ _ hR⟩

/-! ### Positions in the list of chunks -/
/-- the chunks at these positions, in this order -/
def pick (S : Res) : List Nat → Option Res
  | [] => some []
  | k :: r => match nth S k, pick S r with
    | some c, some cs => some (c :: cs)
    | _, _ => none

/-- the chunks at no such position -/
def rest (S : Res) (L : List Nat) : Nat → Res
  | k => match S with
    | [] => []
    | c :: r => if L.contains k then rest r L (k + 1) else c :: rest r L (k + 1)

/-- a chunk in the place of that at position k -/
def putAt (S : Res) : Nat → Chunk → Res
  | k, c => match S, k with
    | [], _ => []
    | _ :: r, 0 => c :: r
    | d :: r, k + 1 => d :: putAt r k c

theorem nth_split {α : Type} : ∀ {S : List α} {k : Nat} {c : α}, nth S k = some c → S.Perm (c :: S.eraseIdx k)
  | [], k, c, h => by simp [nth] at h
  | x :: r, 0, c, h => by simp only [nth, Option.some.injEq] at h; subst h; simp
  | x :: r, k + 1, c, h => by
    simp only [nth] at h
    have := nth_split h
    rw [List.eraseIdx_cons_succ]
    exact (List.Perm.cons x this).trans (List.Perm.swap _ _ _)

theorem putAt_perm : ∀ {S : Res} {k : Nat} {c d : Chunk}, nth S k = some c → (putAt S k d).Perm (d :: S.eraseIdx k)
  | [], k, c, d, h => by simp [nth] at h
  | x :: r, 0, c, d, h => by simp [putAt]
  | x :: r, k + 1, c, d, h => by
    simp only [nth] at h
    simp only [putAt]
    rw [List.eraseIdx_cons_succ]
    exact (List.Perm.cons x (putAt_perm h)).trans (List.Perm.swap _ _ _)

/-- replace one chunk by another of the same block -/
theorem At.set {B : Base} {S : Res} {H : Hp} {w w' : World} {k : Nat} {c d : Chunk} (h : At B S H w) (hk : nth S k = some c)
    (hdd : d.dom = c.dom) (hs : Same w w') (hsz : w'.heap.size = w.heap.size) (hoth : ∀ g, g ∉ c.dom → w'.heap[g]? = w.heap[g]?) (hd : d.holds w'.heap) : At B (putAt S k d) H w' := by
  have h1 : At B ([c] ++ S.eraseIdx k) H w := h.perm (nth_split hk)
  have hsub : ∀ g, g ∈ c.dom → g ∈ Res.dom [c] := fun g hg => by simpa [Res.dom] using hg
  have hcd : Res.dom [c] = c.dom := by simp [Res.dom]
  have hdd' : Res.dom [d] = c.dom := by simp [Res.dom, hdd]
  have hc : ∀ g ∈ c.dom, g ∈ Res.dom ([c] ++ S.eraseIdx k) := fun g hg => by simp only [Res.dom, List.flatMap_append]; exact List.mem_append.2 (.inl (hsub g hg))
  have h2 : At (base w [c] H) [d] H w' := by
    refine ⟨hs, by show w.heap.size ≤ _; omega, fun g hg hF => hoth g (fun hh => hF (hsub g hh)), ?_, ?_, ?_, ?_, ?_, fun _ _ e => e, fun _ _ e => .inl e⟩
    · intro x hx
      simp only [List.mem_singleton] at hx
      subst hx
      exact hd
    · rw [hdd', ← hcd]
      have hn := h1.nd
      simp only [Res.dom, List.flatMap_append] at hn
      exact (List.nodup_append.1 hn).1
    · intro g o e
      rw [hoth g]
      · exact h.hp g o e
      · intro hg
        have := h1.dis g (hc g hg)
        rw [this] at e
        cases e
    · intro g hg
      rw [hdd'] at hg
      exact h1.dis g (hc g hg)
    · intro g hg
      rw [hdd'] at hg
      exact .inl (hsub g hg)
  exact (h1.comp h2).perm (putAt_perm hk).symm

/-- a new block, owned -/
theorem At.new {B : Base} {S : Res} {H : Hp} {w w' : World} {o : Obj} {c : Chunk} (h : At B S H w) (hw : w'.heap = w.heap.push o) (hs : Same w w') (hdom : c.dom = [w.heap.size])
    (hc : c.holds w'.heap) : At B (c :: S) H w' := by
  have h1 : At B ([] ++ S) H w := h
  have hget : ∀ g, g < w.heap.size → w'.heap[g]? = w.heap[g]? := fun g hg => by rw [hw, Array.getElem?_push, if_neg (by omega)]
  have h2 : At (base w [] H) [c] H w' := by
    refine ⟨hs, by show w.heap.size ≤ _; rw [hw]; simp, fun g hg _ => hget g hg, ?_, ?_, ?_, ?_, ?_, fun _ _ e => e, fun _ _ e => .inl e⟩
    · intro x hx
      simp only [List.mem_singleton] at hx
      subst hx
      exact hc
    · simp [Res.dom, hdom]
    · intro g o e
      have := h.hp g o e
      rw [hget g (lt_of_get this)]
      exact this
    · intro g hg
      simp only [Res.dom, List.flatMap_cons, List.flatMap_nil, List.append_nil, hdom, List.mem_singleton] at hg
      subst hg
      cases hH : H w.heap.size with
      | none => rfl
      | some o => exact absurd (lt_of_get (h.hp _ _ hH)) (Nat.lt_irrefl _)
    · intro g hg
      simp only [Res.dom, List.flatMap_cons, List.flatMap_nil, List.append_nil, hdom, List.mem_singleton] at hg
      subst hg
      exact .inr (Nat.le_refl _)
  exact h1.comp h2

/-- a new block that nobody names -/
theorem At.leak {B : Base} {S : Res} {H : Hp} {w w' : World} {o : Obj} (h : At B S H w) (hw : w'.heap = w.heap.push o) (hs : Same w w') : At B S H w' := by
  have h1 : At B ([] ++ S) H w := h
  have hget : ∀ g, g < w.heap.size → w'.heap[g]? = w.heap[g]? := fun g hg => by rw [hw, Array.getElem?_push, if_neg (by omega)]
  refine h1.comp (S1' := []) ⟨hs, by show w.heap.size ≤ _; rw [hw]; simp, fun g hg _ => hget g hg, by simp, by simp [Res.dom], fun g o e => ?_, by simp [Res.dom], by simp [Res.dom], fun _ _ e => e, fun _ _ e => .inl e⟩
  have := h.hp g o e
  rw [hget g (lt_of_get this)]
  exact this

/-- the partial heap with one block more -/
def Hp.add (H : Hp) (g : Nat) (o : Obj) : Hp := fun x => if x = g then some o else H x

/-- what all may read grows by an owned block, that is owned no longer -/
theorem At.publish {B : Base} {S : Res} {H : Hp} {w : World} {k : Nat} {c : Chunk} {g : Nat} {o : Obj} (h : At B S H w) (hk : nth S k = some c) (hdom : c.dom = [g]) (ho : w.heap[g]? = some o) :
    At B (S.eraseIdx k) (H.add g o) w := by
  have h1 : At B ([c] ++ S.eraseIdx k) H w := h.perm (nth_split hk)
  have hcd : Res.dom [c] = [g] := by simp [Res.dom, hdom]
  have hH : H g = none := h1.dis g (by simp [Res.dom, hdom])
  have h2 : At (base w [c] H) [] (H.add g o) w := by
    refine ⟨Same.refl w, Nat.le_refl _, fun _ _ _ => rfl, by simp, by simp [Res.dom], ?_, by simp [Res.dom], by simp [Res.dom], ?_, ?_⟩
    · intro x y e
      unfold Hp.add at e
      split at e
      · rename_i hx; subst hx; simp only [Option.some.injEq] at e; subst e; exact ho
      · exact h.hp x y e
    · intro x y e
      unfold Hp.add
      split
      · rename_i hx; subst hx; have e' : H x = some y := e; rw [hH] at e'; cases e'
      · exact e
    · intro x y e
      unfold Hp.add at e
      split at e
      · rename_i hx; subst hx; right; left; show x ∈ Res.dom [c]; rw [hcd]; simp
      · exact .inl e
  exact h1.comp h2

/-! ### Continuations -/
inductive Kont where
  | seq (c : Code)
  | blk (id : Nat)
  | inv (I : Act → World → Prop)
  | fin (fn : Func) (R : Ending → World → Prop)

def interp (P : Program) : List Kont → Exit → Act → World → Prop
  | [] => fun _ _ _ => False
  | .seq c :: k => Exit.then (fun a w => c.wp P (interp P k) a w) (interp P k)
  | .blk id :: k => Exit.inBlock id (interp P k)
  | .inv I :: k => Exit.then I (interp P k)
  | .fin fn R :: _ => bodyPost P fn R

def popTo (id : Nat) : List Kont → Option (List Kont)
  | .blk i :: k => cond (Nat.beq id i) (some k) (popTo id k)
  | .seq _ :: k => popTo id k
  | .inv _ :: k => popTo id k
  | _ => none

def finOf : List Kont → Option (Func × (Ending → World → Prop))
  | .fin fn R :: _ => some (fn, R)
  | .blk _ :: k => finOf k
  | .seq _ :: k => finOf k
  | .inv _ :: k => finOf k
  | [] => none

theorem popTo_spec {P : Program} {id : Nat} : ∀ {k k' : List Kont}, popTo id k = some k' → ∀ a w, interp P k' .normal a w → interp P k (.exit id) a w
  | [], _, h => by simp [popTo] at h
  | .fin _ _ :: _, _, h => by simp [popTo] at h
  | .seq c :: k, k', h => fun a w hh => popTo_spec (k := k) h a w hh
  | .inv c :: k, k', h => fun a w hh => popTo_spec (k := k) h a w hh
  | .blk i :: k, k', h => fun a w hh => by
    simp only [popTo] at h
    show Exit.inBlock i (interp P k) (.exit id) a w
    simp only [Exit.inBlock]
    cases hb : Nat.beq id i with
    | true =>
      rw [hb] at h
      simp only [cond_true, Option.some.injEq] at h
      subst h
      rw [if_pos (Nat.eq_of_beq_eq_true hb)]
      exact hh
    | false =>
      rw [hb] at h
      rw [if_neg (fun e => by subst e; rw [Nat.beq_refl] at hb; cases hb)]
      exact popTo_spec (k := k) h a w hh

theorem finOf_spec {P : Program} {fn : Func} {R : Ending → World → Prop} : ∀ {k : List Kont}, finOf k = some (fn, R) → ∀ a w, bodyPost P fn R .ret a w → interp P k .ret a w
  | [], h => by simp [finOf] at h
  | .fin _ _ :: _, h => by simp only [finOf, Option.some.injEq, Prod.mk.injEq] at h; obtain ⟨rfl, rfl⟩ := h; exact fun _ _ hh => hh
  | .seq c :: k, h => fun a w hh => finOf_spec (k := k) h a w hh
  | .inv c :: k, h => fun a w hh => finOf_spec (k := k) h a w hh
  | .blk i :: k, h => fun a w hh => finOf_spec (k := k) h a w hh

/-! ### The judgements -/
/-- the code c, then k -/
def EW (P : Program) (n : Nat) (B : Base) (c : Code) (k : List Kont) (e : Env) (S : Res) (H : Hp) : Prop :=
  ∀ a w, Holds n e a → At B S H w → c.wp P (interp P k) a w

/-- k, behind a code that has come to its end -/
def NK (P : Program) (n : Nat) (B : Base) (k : List Kont) (e : Env) (S : Res) (H : Hp) : Prop :=
  ∀ a w, Holds n e a → At B S H w → interp P k .normal a w

/-- what a quiet operation may lean on -/
def CK (x : Res × Hp) (w : World) : Prop := (∀ c ∈ x.1, c.holds w.heap) ∧ ∀ g o, x.2 g = some o → w.heap[g]? = some o

/-- the operations of a region, in the tree t, then k -/
def XE (P : Program) (n : Nat) (B : Base) (ops : List Oper) (C : Option (Res × Hp)) (need : Nat → Bool) (k : List Kont) (t : XT) (e : Env) (S : Res) (H : Hp) : Prop :=
  ∀ a w, Holds n e a → At B S H w → XW P ops (C.map CK) need (interp P k .normal) t a w

section rules
variable {P : Program} {n : Nat} {B : Base} {k : List Kont} {e : Env} {S : Res} {H : Hp}

theorem ew_seq {x y : Code} (h : EW P n B x (.seq y :: k) e S H) : EW P n B (.seq x y) k e S H :=
  fun a w he hw => wp_seq (h a w he hw)

theorem nk_seq {y : Code} (h : EW P n B y k e S H) : NK P n B (.seq y :: k) e S H := fun a w he hw => h a w he hw

theorem ew_block {id : Nat} {c : Code} (h : EW P n B c (.blk id :: k) e S H) : EW P n B (.block id c) k e S H :=
  fun a w he hw => wp_block (h a w he hw)

theorem nk_blk {id : Nat} (h : NK P n B k e S H) : NK P n B (.blk id :: k) e S H := fun a w he hw => h a w he hw

theorem nk_inv {I : Act → World → Prop} (h : ∀ a w, Holds n e a → At B S H w → I a w) : NK P n B (.inv I :: k) e S H := fun a w he hw => h a w he hw

theorem ew_skip (h : NK P n B k e S H) : EW P n B .skip k e S H := fun a w he hw => wp_skip (h a w he hw)

theorem ew_exit {id : Nat} (k' : List Kont) (hk : popTo id k = some k') (h : NK P n B k' e S H) : EW P n B (.exit id) k e S H :=
  fun a w he hw => wp_exit (popTo_spec hk a w (h a w he hw))

theorem ew_cond {c : Operand} {x y : Code} {t : Bool} (hc : opv e c = some (.b t)) (h1 : t = true → EW P n B x k e S H) (h2 : t = false → EW P n B y k e S H) : EW P n B (.cond c x y) k e S H :=
  fun a w he hw => wp_cond_split (he.opv hc) (fun ht => h1 ht a w he hw) (fun ht => h2 ht a w he hw)

theorem ew_true {c : Operand} {x y : Code} (hc : opv e c = some (.b true)) (h : EW P n B x k e S H) : EW P n B (.cond c x y) k e S H :=
  fun a w he hw => wp_cond_true (he.opv hc) (h a w he hw)
theorem ew_false {c : Operand} {x y : Code} (hc : opv e c = some (.b false)) (h : EW P n B y k e S H) : EW P n B (.cond c x y) k e S H :=
  fun a w he hw => wp_cond_false (he.opv hc) (h a w he hw)

theorem nk_cut {e' : Env} (L : List Nat) (hc : cut e L = e') (h : NK P n B k e' S H) : NK P n B k e S H := fun a w he hw => h a w (he.cut L hc) hw
theorem ew_cut {c : Code} {e' : Env} (L : List Nat) (hc : cut e L = e') (h : EW P n B c k e' S H) : EW P n B c k e S H := fun a w he hw => h a w (he.cut L hc) hw
theorem nk_sub {e' : Env} (hc : Sub e e') (h : NK P n B k e' S H) : NK P n B k e S H := fun a w he hw => h a w (he.sub hc) hw
theorem ew_sub {c : Code} {e' : Env} (hc : Sub e e') (h : EW P n B c k e' S H) : EW P n B c k e S H := fun a w he hw => h a w (he.sub hc) hw

theorem ew_region {id : Nat} {ops : List Oper} (t : XT) (ht : lexT ops.length t 0 = true) (h : XE P n B ops none (fun _ => false) k t e S H) : EW P n B (.region id ops.toArray false) k e S H :=
  fun a w he hw => wp_lex t ht (h a w he hw)

theorem ew_draw {id : Nat} {ops : List Oper} (hm : P.follows .mixedOrders = true) (qs ns : List Nat) (t : XT) (hok : drawOk ops qs ns t = true) (C : Res × Hp) (hC1 : ∀ c ∈ C.1, c ∈ S) (hC2 : C.2 = H)
    (h : XE P n B ops (some C) (fun j => ns.contains j) k t e S H) : EW P n B (.region id ops.toArray true) k e S H := fun a w he hw => by
  have hw' : At B S H { w with drawn := w.drawn + 1 } := hw.heap_eq rfl ⟨rfl, rfl, rfl⟩
  refine wp_tree (c := CK C) hm qs ns t hok ⟨fun c hc => hw'.res c (hC1 c hc), fun g o ho => hw'.hp g o (hC2 ▸ ho)⟩ (h a _ he hw')

theorem xe_done {ops : List Oper} {C : Option (Res × Hp)} {need : Nat → Bool} (h : NK P n B k e S H) : XE P n B ops C need k .done e S H := fun a w he hw => h a w he hw

theorem ew_perm {c : Code} {S' : Res} (hp : S.Perm S') (h : EW P n B c k e S' H) : EW P n B c k e S H := fun a w he hw => h a w he (hw.perm hp)
theorem nk_perm {S' : Res} (hp : S.Perm S') (h : NK P n B k e S' H) : NK P n B k e S H := fun a w he hw => h a w he (hw.perm hp)
theorem nk_drop {S' : Res} (h : NK P n B k e S H) : NK P n B k e (S ++ S') H := fun a w he hw => h a w he hw.drop

/-- only the chunks at these positions are kept -/
def keepL (S : Res) : List Nat → Res
  | [] => []
  | j :: r => match nth S j with
    | some c => c :: keepL S r
    | none => keepL S r

end rules

/-! ### A loop -/
theorem loop_ghost {P : Program} {c : Code} {Q : Exit → Act → World → Prop} {ι : Type} (J : ι → Act → World → Prop) (μ : ι → Nat)
    (round : ∀ i a w, J i a w → c.wp P (Exit.then (fun a' w' => ∃ j, J j a' w' ∧ μ j < μ i) Q) a w) (i : ι) (a : Act) (w : World) (h0 : J i a w) : (Code.loop c).wp P Q a w := by
  intro b k cs
  have key : ∀ m i a w, μ i = m → J i a w →
      ∃ e a' w', Q e a' w' ∧ Arrives P (lone (b.at a (.code c :: .inLoop c :: k)) cs w) b k cs e a' w' := by
    intro m
    induction m using Nat.strongRecOn with
    | _ m ih =>
      intro i a w hn hI
      obtain ⟨e, a₁, w₁, hq, harr⟩ := round i a w hI b (.inLoop c :: k) cs
      cases e with
      | normal =>
        obtain ⟨j, hJ, hlt⟩ := hq
        obtain ⟨e₂, a₂, w₂, hq₂, harr₂⟩ := ih (μ j) (hn ▸ hlt) j a₁ w₁ rfl hJ
        exact ⟨e₂, a₂, w₂, hq₂, .of_steps (Steps.trans harr (.one step_inLoop)) harr₂⟩
      | exit id => exact ⟨_, a₁, w₁, hq, .pass (x := .inLoop c) rfl (fun _ _ => .inl (by simp)) harr⟩
      | goto l => exact ⟨_, a₁, w₁, hq, .pass (x := .inLoop c) rfl (fun _ _ => .inl (by simp)) harr⟩
      | ret => exact ⟨_, a₁, w₁, hq, .pass (x := .inLoop c) rfl (fun _ _ => .inl (by simp)) harr⟩
      | panic ch => exact ⟨_, a₁, w₁, hq, .pass (x := .inLoop c) rfl (fun _ _ => .inl (by simp)) harr⟩
      | outgrown => exact ⟨_, a₁, w₁, hq, .pass (x := .inLoop c) rfl (fun _ _ => .inl (by simp)) harr⟩
  obtain ⟨e, a', w', hq, harr⟩ := key _ i a w rfl h0
  exact ⟨e, a', w', hq, .of_steps (.one step_loop) harr⟩

/-- the state at a loop's head: the slots, what is owned, what all may read, as functions of what the rounds count, and what is known -/
def LoopI (n : Nat) (B : Base) {ι : Type} (E : ι → Env) (S : ι → Res) (G : ι → Hp → Prop) (i : ι) (a : Act) (w : World) : Prop :=
  Holds n (E i) a ∧ ∃ H, At B (S i) H w ∧ G i H

theorem ew_loop {P : Program} {n : Nat} {B : Base} {k : List Kont} {e : Env} {S0 : Res} {H : Hp} {c : Code} {ι : Type} (E : ι → Env) (S : ι → Res) (G : ι → Hp → Prop) (μ : ι → Nat) (i0 : ι)
    (he : Sub e (E i0)) (hS : S0 = S i0) (h0 : G i0 H)
    (round : ∀ i H, G i H → EW P n B c (.inv (fun a' w' => ∃ j, LoopI n B E S G j a' w' ∧ μ j < μ i) :: k) (E i) (S i) H) : EW P n B (.loop c) k e S0 H := by
  intro a w hh hw
  refine loop_ghost (LoopI n B E S G) μ (fun i a w hJ => ?_) i0 a w ⟨hh.sub he, H, hS ▸ hw, h0⟩
  obtain ⟨h1, H', h2, h3⟩ := hJ
  exact round i H' h3 a w h1 h2

theorem nk_round {P : Program} {n : Nat} {B : Base} {k : List Kont} {e : Env} {S0 : Res} {H : Hp} {ι : Type} {E : ι → Env} {S : ι → Res} {G : ι → Hp → Prop} {μ : ι → Nat} {i : ι} (j : ι)
    (he : Sub e (E j)) (hS : S0 = S j) (hG : G j H) (hμ : μ j < μ i) : NK P n B (.inv (fun a' w' => ∃ j, LoopI n B E S G j a' w' ∧ μ j < μ i) :: k) e S0 H :=
  nk_inv fun _ _ hh hw => ⟨j, ⟨hh.sub he, H, hS ▸ hw, hG⟩, hμ⟩

end Go.GW
