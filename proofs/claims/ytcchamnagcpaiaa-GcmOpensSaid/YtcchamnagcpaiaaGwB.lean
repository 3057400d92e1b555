/- Own words, part B: one tree of orders serves every order of a region that draws its order. -/
import Derived.Test.YtcchamnagcpaiaaGwA
set_option linter.unusedVariables false
set_option linter.unusedSimpArgs false
namespace Go.GW
open Go

section
variable {P : Program} {ops : List Oper} {c : World → Prop} {need : Nat → Bool} {Q : Act → World → Prop}

theorem getD_both {listed : Array Bool} {i : Nat} (h : listed.getD i true = false) : listed.getD i false = false := by
  rcases Nat.lt_or_ge i listed.size with h' | h'
  · simp [h'] at h ⊢; exact h
  · simp [Array.getElem?_eq_none h'] at h

theorem getD_replicate_false (m j : Nat) : (Array.replicate m false).getD j false = false := by
  rcases Nat.lt_or_ge j m with h | h
  · simp [h]
  · simp [h]

def opC (P : Program) (ops : List Oper) (i : Nat) (K : Act → World → Prop) (a : Act) (w : World) : Prop :=
  match ops.toArray[i]? with
  | none => K a w
  | some o => if want ops o a then hup P o a K ((execOp a.eval o).run P w) else K (a.put o.dst undef) w

def wpC (P : Program) (ops : List Oper) (c : World → Prop) (need : Nat → Bool) (Q : Act → World → Prop) : Nat → Array Bool → Act → World → Prop
  | 0, listed, a, w => Region.ready .any ops.toArray listed = [] ∧ Q a w
  | f + 1, listed, a, w =>
    (Region.ready .any ops.toArray listed = [] → Q a w) ∧
    ∀ i ∈ Region.ready .any ops.toArray listed, opC P ops i (fun a' w' => (need i = true → c w') ∧ wpC P ops c need Q f (listed.setIfInBounds i true) a' w') a w

theorem opC_mono {i : Nat} {K K' : Act → World → Prop} {a : Act} {w : World} (h : ∀ a w, K a w → K' a w) (hh : opC P ops i K a w) : opC P ops i K' a w := by
  unfold opC at *
  split
  · rename_i ho; simp only [ho] at hh; exact h _ _ hh
  · rename_i o ho
    simp only [ho] at hh
    split
    · rename_i hw; simp only [hw, if_true] at hh; exact hup_mono h hh
    · rename_i hw; simp only [hw] at hh; exact h _ _ hh

theorem wpOp_of_opC {i : Nat} {K : Act → World → Prop} {Q' : Exit → Act → World → Prop} {a : Act} {w : World} (hh : opC P ops i K a w) : wpOp P ops.toArray Q' i K a w := by
  unfold opC at hh
  unfold wpOp
  split
  · rename_i ho; simp only [ho] at hh; exact hh
  · rename_i o ho
    simp only [ho] at hh
    unfold want at hh
    split
    · rename_i hw; simp only [hw, if_true] at hh; exact .inl (wp_of_hup hh)
    · rename_i hw; simp only [hw] at hh; exact hh

theorem wpAny_of_wpC {Q' : Exit → Act → World → Prop} : ∀ (f : Nat) (listed : Array Bool) (a : Act) (w : World),
    wpC P ops c need (Q' .normal) f listed a w → wpAny P .any ops.toArray Q' f listed a w
  | 0, _, _, _, h => h
  | f + 1, _, _, _, h => ⟨h.1, fun i hi => wpOp_of_opC (opC_mono (fun a w hk => wpAny_of_wpC f _ a w hk.2) (h.2 i hi))⟩

/-! ### predecessors -/
def Closed (ops : List Oper) (listed : Array Bool) : Prop :=
  ∀ j oj, ops.toArray[j]? = some oj → listed.getD j false = true → ∀ e ∈ oj.after, Region.binds .any e = true → listed.getD e.on false = true

theorem closed_start : Closed ops (Array.replicate ops.length false) := by
  intro j oj _ hl
  rw [getD_replicate_false] at hl
  cases hl

theorem Closed.set {listed : Array Bool} {i : Nat} (h : Closed ops listed) (hi : i ∈ Region.ready .any ops.toArray listed) : Closed ops (listed.setIfInBounds i true) := by
  intro j oj hj hl e he hb
  obtain ⟨_, oi, hoi, hall⟩ := mem_ready.1 hi
  by_cases hij : i = j
  · subst hij
    have : oj = oi := Option.some.inj (hj.symm.trans hoi)
    subst this
    exact getD_set_true (hall e he hb)
  · rw [Go.getD_set_ne false hij] at hl
    exact getD_set_true (h j oj hj hl e he hb)

def predB (ops : List Oper) : Nat → Nat → Nat → Bool
  | 0, _, _ => false
  | f + 1, i, j => match ops.toArray[j]? with
    | none => false
    | some oj => oj.after.any fun e => Region.binds .any e && (Nat.beq e.on i || predB ops f i e.on)

theorem pred_listed {listed : Array Bool} (hc : Closed ops listed) {i : Nat} : ∀ (f j : Nat) (oj : Oper), ops.toArray[j]? = some oj → predB ops f i j = true →
    (∀ e ∈ oj.after, Region.binds .any e = true → listed.getD e.on false = true) → listed.getD i false = true
  | 0, _, _, _, h, _ => by simp [predB] at h
  | f + 1, j, oj, hj, h, hall => by
    simp only [predB, hj] at h
    obtain ⟨e, he, hb⟩ := Array.any_eq_true'.1 h
    simp only [Bool.and_eq_true, Bool.or_eq_true] at hb
    obtain ⟨hb, hp⟩ := hb
    have hl := hall e he hb
    rcases hp with hp | hp
    · rw [← Nat.eq_of_beq_eq_true hp]; exact hl
    · cases hk : ops.toArray[e.on]? with
      | none =>
        cases f with
        | zero => simp [predB] at hp
        | succ f => simp [predB, hk] at hp
      | some ok => exact pred_listed hc f e.on ok hk hp (fun e' he' hb' => hc e.on ok hk hl e' he' hb')

/-- which operations leave worlds in which a quiet one may still be asked -/
def needOk (ops : List Oper) (qs : List Nat) (need : Nat → Bool) : Bool :=
  (List.range ops.length).all fun j => need j || qs.all fun i => Nat.beq i j || predB ops ops.length i j

theorem needOk_spec {qs : List Nat} (h : needOk ops qs need = true) {listed : Array Bool} (hc : Closed ops listed) {i j : Nat} (hq : i ∈ qs) (hij : i ≠ j)
    (hj : j ∈ Region.ready .any ops.toArray listed) (hun : listed.getD i false = false) : need j = true := by
  obtain ⟨_, oj, hoj, hall⟩ := mem_ready.1 hj
  have hlt : j < ops.length := by simpa using (Array.getElem?_eq_some_iff.1 hoj).1
  have h1 := List.all_eq_true.1 h j (List.mem_range.2 hlt)
  simp only [Bool.or_eq_true] at h1
  rcases h1 with h1 | h1
  · exact h1
  · have h2 := List.all_eq_true.1 h1 i hq
    simp only [Bool.or_eq_true] at h2
    rcases h2 with h2 | h2
    · exact absurd (Nat.eq_of_beq_eq_true h2) hij
    · have := pred_listed hc _ j oj hoj h2 hall
      rw [hun] at this
      cases this

/-! ### a quiet operation may be taken first -/
def Yields (P : Program) (ops : List Oper) (c : World → Prop) (o : Oper) (v : Value) (a : Act) : Prop :=
  (want ops o a = true ∧ ∀ w, c w → (execOp a.eval o).run P w = .ok (.value v) w) ∨ (want ops o a = false ∧ v = undef)

theorem Yields.of_same {o : Oper} {v : Value} {a a' : Act} (hy : Yields P ops c o v a) (he : execOp a'.eval o = execOp a.eval o)
    (hw : want ops o a' = want ops o a) : Yields P ops c o v a' := by
  unfold Yields at *
  rw [he, hw]
  exact hy

theorem Yields.opC {i : Nat} {o : Oper} {v : Value} {a : Act} {w : World} {K : Act → World → Prop} (hi : ops.toArray[i]? = some o) (hy : Yields P ops c o v a) (hcw : c w) (h : K (a.put o.dst v) w) : opC P ops i K a w := by
  unfold GW.opC
  simp only [hi]
  rcases hy with ⟨hw, hv⟩ | ⟨hw, rfl⟩
  · simp only [hw, if_true, hv w hcw, hup]; exact h
  · simp only [hw, Bool.false_eq_true, if_false]; exact h

theorem opC_put {j : Nat} {oi oj : Oper} {v : Value} (hj : ops.toArray[j]? = some oj) (hap : oi.apart ops.toArray oj = true)
    (hsi : ∀ cs b, oi.op ≠ .select cs b) (hsj : ∀ cs b, oj.op ≠ .select cs b) {K : Act → World → Prop} {a : Act} {w : World}
    (hy : Yields P ops c oi v a) (h : opC P ops j K (a.put oi.dst v) w) :
    opC P ops j (fun a' w' => Yields P ops c oi v a' ∧ K (a'.put oi.dst v) w') a w := by
  obtain ⟨h1, h2, h3⟩ := Oper.apart_spec hap
  have keep : ∀ (a : Act), Yields P ops c oi v a → ∀ u, Yields P ops c oi v (a.put oj.dst u) := fun a hy u =>
    hy.of_same (execOp_put oi hsi a oj.dst u h3) (wanted_put oi a oj.dst u h3)
  unfold opC at *
  simp only [hj] at *
  have hwe : want ops oj (a.put oi.dst v) = want ops oj a := wanted_put oj a oi.dst v h1
  rw [hwe] at h
  split
  · rename_i hw
    simp only [hw, if_true] at h
    rw [execOp_put oj hsj a oi.dst v h1] at h
    generalize (execOp a.eval oj).run P w = r at *
    cases r with
    | ok n w' =>
      cases n <;> simp only [hup] at h ⊢
      case value u => exact ⟨keep a hy u, by rw [← Act.put_comm a v u h2]; exact h⟩
      case skip => exact ⟨keep a hy _, by rw [← Act.put_comm a v undef h2]; exact h⟩
      case enter f args => exact h.mono fun e w'' ⟨u, he, hk⟩ => ⟨u, he, keep a hy u, by rw [← Act.put_comm a v u h2]; exact hk⟩
    | halt x w' => exact h.elim
  · rename_i hw
    simp only [hw] at h
    exact ⟨keep a hy _, by rw [← Act.put_comm a v undef h2]; exact h⟩

theorem wpC_first {qs : List Nat} (hnd : needOk ops qs need = true) {i : Nat} {oi : Oper} {v : Value} (hiq : i ∈ qs) (hi : ops.toArray[i]? = some oi)
    (hsel : ∀ (j : Nat) (o : Oper) cs b, ops.toArray[j]? = some o → o.op ≠ .select cs b) :
    ∀ (f : Nat) (listed : Array Bool) (a : Act) (w : World), Closed ops listed → c w →
      (∀ j oj, ops.toArray[j]? = some oj → j ≠ i → listed.getD j true = false → (∀ e ∈ oj.after, Region.binds .any e = true → e.on ≠ i) → oi.apart ops.toArray oj = true) →
      i ∈ Region.ready .any ops.toArray listed → Yields P ops c oi v a →
      wpC P ops c need Q f (listed.setIfInBounds i true) (a.put oi.dst v) w → wpC P ops c need Q (f + 1) listed a w := by
  intro f
  induction f with
  | zero =>
    intro listed a w hcl hcw _ hr hy H
    refine ⟨fun h => (by rw [h] at hr; cases hr), fun j hj => ?_⟩
    by_cases hji : j = i
    · subst hji; exact hy.opC hi hcw ⟨fun _ => hcw, H⟩
    · have := ready_mono hj hji
      rw [H.1] at this
      cases this
  | succ f ih =>
    intro listed a w hcl hcw hfree hr hy H
    refine ⟨fun h => (by rw [h] at hr; cases hr), fun j hj => ?_⟩
    by_cases hji : j = i
    · subst hji; exact hy.opC hi hcw ⟨fun _ => hcw, H⟩
    · have h1 := H.2 j (ready_mono hj hji)
      obtain ⟨hjun, oj, hoj, hall⟩ := mem_ready.1 hj
      have hnot : ∀ e ∈ oj.after, Region.binds .any e = true → e.on ≠ i := fun e he hb heq => by
        have h1 := hall e he hb
        have h0 := (mem_ready.1 hr).1
        rw [heq] at h1
        rcases Nat.lt_or_ge i listed.size with h' | h'
        · simp [h'] at h0 h1; rw [h0] at h1; cases h1
        · simp [Array.getElem?_eq_none h'] at h1
      have hiun : listed.getD i false = false := getD_both (mem_ready.1 hr).1
      have hneed : need j = true := needOk_spec hnd hcl hiq (Ne.symm hji) hj hiun
      have h2 := opC_put hoj (hfree j oj hoj hji hjun hnot) (fun cs b => hsel i oi cs b hi) (fun cs b => hsel j oj cs b hoj) hy h1
      have hfree' : ∀ k ok, ops.toArray[k]? = some ok → k ≠ i → (listed.setIfInBounds j true).getD k true = false →
          (∀ e ∈ ok.after, Region.binds .any e = true → e.on ≠ i) → oi.apart ops.toArray ok = true := fun k ok hk hki hun hno => by
        refine hfree k ok hk hki ?_ hno
        by_cases hjk : j = k
        · subst hjk; exact hjun
        · rw [Go.getD_set_ne true hjk] at hun; exact hun
      refine opC_mono (fun a' w' h3 => ?_) h2
      have hcw' : c w' := h3.2.1 hneed
      refine ⟨fun _ => hcw', ih (listed.setIfInBounds j true) a' w' (hcl.set hj) hcw' hfree' (ready_mono hr (Ne.symm hji)) h3.1 ?_⟩
      rw [Array.setIfInBounds_comm _ _ hji]
      exact h3.2.2

/-! ### the tree is held against the edges -/
def okT (ops : List Oper) (qs : List Nat) (need : Nat → Bool) : Nat → Bool → XT → Array Bool → Bool
  | _, _, .done, listed => (Region.ready .any ops.toArray listed).isEmpty
  | f + 1, kc, .q i t, listed => kc && qs.contains i && (Region.ready .any ops.toArray listed).contains i && Region.free .any ops.toArray listed i && okT ops qs need f true t (listed.setIfInBounds i true)
  | f + 1, kc, .h i t, listed => (kc || !need i) && (Region.ready .any ops.toArray listed == [i]) && okT ops qs need f (need i) t (listed.setIfInBounds i true)
  | f + 1, kc, .br i t j u, listed => (kc || (!need i && !need j)) && (Region.ready .any ops.toArray listed == [i, j]) && okT ops qs need f (need i) t (listed.setIfInBounds i true) && okT ops qs need f (need j) u (listed.setIfInBounds j true)
  | 0, _, _, _ => false

theorem yields_of_xq {i : Nat} {K : Act → World → Prop} {a : Act} {w : World} (h : xq P ops (some c) i K a w) : ∃ o v, ops.toArray[i]? = some o ∧ Yields P ops c o v a ∧ K (a.put o.dst v) w := by
  obtain ⟨o, ho, h⟩ := h
  have ho' : ops.toArray[i]? = some o := by rw [nth_eq] at ho; simpa using ho
  rcases h with ⟨hw, v, hq, hK⟩ | ⟨hw, hK⟩
  · exact ⟨o, v, ho', .inl ⟨hw, fun w' hw' => hq w' hw'⟩, hK⟩
  · exact ⟨o, undef, ho', .inr ⟨hw, rfl⟩, hK⟩

theorem opC_of_xh {i : Nat} {K : Act → World → Prop} {a : Act} {w : World} (hcw : need i = true → c w) (h : xh P ops (some c) (need i) i K a w) : opC P ops i (fun a' w' => (need i = true → c w') ∧ K a' w') a w := by
  obtain ⟨o, ho, h⟩ := h
  have ho' : ops.toArray[i]? = some o := by rw [nth_eq] at ho; simpa using ho
  unfold opC
  simp only [ho']
  rcases h with ⟨hw, hK⟩ | ⟨hw, hK⟩
  · simp only [hw, if_true]; exact hK
  · simp only [hw, Bool.false_eq_true, if_false]; exact ⟨hcw, hK⟩

theorem tree_sound {qs : List Nat} (hnd : needOk ops qs need = true) (hs : Region.noSelect ops.toArray = true) : ∀ (t : XT) (f : Nat) (kc : Bool) (listed : Array Bool) (a : Act) (w : World),
    okT ops qs need f kc t listed = true → Closed ops listed → (kc = true → c w) → XW P ops (some c) need Q t a w → wpC P ops c need Q f listed a w
  | .done, f, kc, listed, a, w, hk, _, _, h => by
    have he : Region.ready .any ops.toArray listed = [] := by
      cases f <;> simpa [okT] using hk
    cases f with
    | zero => exact ⟨he, by simpa [XW] using h⟩
    | succ f => exact ⟨fun _ => by simpa [XW] using h, fun i hi => by rw [he] at hi; cases hi⟩
  | .q i t, 0, _, _, _, _, hk, _, _, _ => by simp [okT] at hk
  | .q i t, f + 1, kc, listed, a, w, hk, hcl, hcw, h => by
    simp only [okT, Bool.and_eq_true] at hk
    obtain ⟨⟨⟨⟨hkc, hq⟩, hr⟩, hf⟩, hk⟩ := hk
    have hr' : i ∈ Region.ready .any ops.toArray listed := by simpa using hr
    have hq' : i ∈ qs := by simpa using hq
    obtain ⟨o, v, ho, hy, hK⟩ := yields_of_xq h
    exact wpC_first hnd hq' ho (Region.noSelect_spec hs) f listed a w hcl (hcw hkc) (Region.free_spec ho hf) hr' hy
      (tree_sound hnd hs t f true _ _ _ hk (hcl.set hr') (fun _ => hcw hkc) hK)
  | .h i t, 0, _, _, _, _, hk, _, _, _ => by simp [okT] at hk
  | .h i t, f + 1, kc, listed, a, w, hk, hcl, hcw, h => by
    simp only [okT, Bool.and_eq_true, beq_iff_eq, Bool.or_eq_true, Bool.not_eq_true'] at hk
    obtain ⟨⟨hkn, hr⟩, hk⟩ := hk
    have hr' : i ∈ Region.ready .any ops.toArray listed := by rw [hr]; simp
    refine ⟨(fun h0 => by rw [h0] at hr; cases hr), fun j hj => ?_⟩
    rw [hr] at hj
    obtain rfl : j = i := by simpa using hj
    exact opC_mono (fun a' w' hk' => ⟨hk'.1, tree_sound hnd hs t f _ _ _ _ hk (hcl.set hr') hk'.1 hk'.2⟩)
      (opC_of_xh (fun hn => by rcases hkn with hkn | hkn; exact hcw hkn; rw [hn] at hkn; cases hkn) h)
  | .br i t j u, 0, _, _, _, _, hk, _, _, _ => by simp [okT] at hk
  | .br i t j u, f + 1, kc, listed, a, w, hk, hcl, hcw, h => by
    simp only [okT, Bool.and_eq_true, beq_iff_eq, Bool.or_eq_true, Bool.not_eq_true'] at hk
    obtain ⟨⟨⟨hkn, hr⟩, hk1⟩, hk2⟩ := hk
    obtain ⟨h1, h2⟩ : xh P ops (some c) (need i) i (XW P ops (some c) need Q t) a w ∧ xh P ops (some c) (need j) j (XW P ops (some c) need Q u) a w := h
    refine ⟨(fun h0 => by rw [h0] at hr; cases hr), fun k hkk => ?_⟩
    have hkr := hkk
    rw [hr] at hkk
    rcases (by simpa using hkk : k = i ∨ k = j) with e | e
    · subst e
      exact opC_mono (fun a' w' hk' => ⟨hk'.1, tree_sound hnd hs t f _ _ _ _ hk1 (hcl.set hkr) hk'.1 hk'.2⟩)
        (opC_of_xh (fun hn => by rcases hkn with hkn | hkn; exact hcw hkn; rw [hkn.1] at hn; cases hn) h1)
    · subst e
      exact opC_mono (fun a' w' hk' => ⟨hk'.1, tree_sound hnd hs u f _ _ _ _ hk2 (hcl.set hkr) hk'.1 hk'.2⟩)
        (opC_of_xh (fun hn => by rcases hkn with hkn | hkn; exact hcw hkn; rw [hkn.2] at hn; cases hn) h2)

/-- the check of a region's tree, in one Bool -/
def drawOk (ops : List Oper) (qs ns : List Nat) (t : XT) : Bool :=
  Region.noSelect ops.toArray && needOk ops qs (fun j => ns.contains j) && okT ops qs (fun j => ns.contains j) ops.length true t (Array.replicate ops.length false)

theorem wp_tree {id : Nat} {Q : Exit → Act → World → Prop} {a : Act} {w : World} (hm : P.follows .mixedOrders = true) (qs ns : List Nat) (t : XT) (hok : drawOk ops qs ns t = true)
    (hcw : c { w with drawn := w.drawn + 1 }) (h : XW P ops (some c) (fun j => ns.contains j) (Q .normal) t a { w with drawn := w.drawn + 1 }) : (Code.region id ops.toArray true).wp P Q a w := by
  simp only [drawOk, Bool.and_eq_true] at hok
  obtain ⟨⟨hs, hnd⟩, hok⟩ := hok
  refine wp_region_any hm ?_
  have := wpAny_of_wpC (Q' := Q) _ _ _ _ (tree_sound hnd hs t _ _ _ _ _ hok closed_start (fun _ => hcw) h)
  simpa using this

end
end Go.GW
