/- Own words, part H: calls, the way into a function and out of it. -/
import Derived.Test.YtcchamnagcpaiaaGwG
set_option linter.unusedVariables false
set_option linter.unusedSimpArgs false
namespace Go.GW
open Go

section
variable {P : Program} {n : Nat} {B : Base} {k : List Kont} {ops : List Oper} {C : Option (Res × Hp)} {need : Nat → Bool} {t : XT} {e : Env} {S : Res} {H : Hp}
variable {i d : Nat} {ty : TypeId} {pos : String} {af : Array Edge} {g : Option (Nat × Bool)} {T : TypeId} {x y : Operand}

theorem hcall {op : Op} {f : FuncId} {svs : List SV} {R : SV → Res → Hp → Prop} {S1 S2 : Res} (ho : nth ops i = some ⟨some d, op, ty, pos, af, g⟩) (hg : gok ops e g = some true)
    (hr : ∀ a w, Holds n e a → (execOp a.eval ⟨some d, op, ty, pos, af, g⟩).run P w = .ok (.enter f ⟨SV.vals svs⟩) w) (hp : S.Perm (S1 ++ S2)) (hc : HC P f svs S1 H R)
    (hk : ∀ r S1' H', HLe H H' → R r S1' H' → (need i = true → KP C (S1' ++ S2) H') ∧ XD P n B ops C need k t ((d, r) :: e) (S1' ++ S2) H') : XD P n B ops C need k (.h i t) e S H := by
  intro hdo a w he hw
  have hd : Nat.blt d n = true := by rw [Nat.blt_eq]; exact dstOk_spec hdo i _ d ho rfl
  refine ⟨_, ho, .inl ⟨gok_spec he (fun j b oj dj _ hj hdj => dstOk_spec hdo j oj dj hj hdj) hg _ _ _ _ _, ?_⟩⟩
  rw [hr a w he]
  have hw1 := hw.perm hp
  have hw2 : At (base w S1 H) S1 H w := hw1.drop.start
  refine (hc w hw2).mono fun en w' ⟨r, S1', H', hen, hA, hR⟩ => ⟨r.val, hen, ?_⟩
  have hA2 := hw1.comp hA
  obtain ⟨hkp, hx⟩ := hk r S1' H' hA.le hR
  exact ⟨fun hn => (hkp hn).keep hA2, hx hdo _ _ (he.put hd) hA2⟩

theorem run_callf {f : FuncId} {args : Array Operand} {tys : Array TypeId} {svs : List SV} (hf : ∀ (args : Array Value) (w : World), (callFunc f args).run P w = .ok (.enter f args) w) (ha : opvs e args.toList = some svs) (a : Act) (w : World) (he : Holds n e a) :
    (execOp a.eval ⟨some d, .call ⟨.value (.func f), args, tys⟩, ty, pos, af, g⟩).run P w = .ok (.enter f ⟨SV.vals svs⟩) w := by
  have h1 := he.opvs ha
  have h2 : args.map a.eval = ⟨SV.vals svs⟩ := by apply Array.ext'; simpa using h1
  simp only [execOp, resolve]
  simp [Act.eval, Deferred.ofValue, invoke, h2, hf]

/-- a call of a function, nothing of the owned handed over -/
theorem h_call0 {f : FuncId} {args : Array Operand} {tys : Array TypeId} {svs : List SV} {R : SV → Res → Hp → Prop} (hf : ∀ (args : Array Value) (w : World), (callFunc f args).run P w = .ok (.enter f args) w)
    (ho : nth ops i = some ⟨some d, .call ⟨.value (.func f), args, tys⟩, ty, pos, af, g⟩) (hg : gok ops e g = some true) (ha : opvs e args.toList = some svs) (hc : HC P f svs [] H R)
    (hk : ∀ r S1' H', HLe H H' → R r S1' H' → (need i = true → KP C (S1' ++ S) H') ∧ XD P n B ops C need k t ((d, r) :: e) (S1' ++ S) H') : XD P n B ops C need k (.h i t) e S H :=
  hcall (S1 := []) (S2 := S) ho hg (run_callf hf ha) (List.Perm.refl _) hc hk

/-- .. these chunks handed over -/
theorem h_call {f : FuncId} {args : Array Operand} {tys : Array TypeId} {svs : List SV} {R : SV → Res → Hp → Prop} {S1 S2 : Res} (hf : ∀ (args : Array Value) (w : World), (callFunc f args).run P w = .ok (.enter f args) w)
    (ho : nth ops i = some ⟨some d, .call ⟨.value (.func f), args, tys⟩, ty, pos, af, g⟩) (hg : gok ops e g = some true) (ha : opvs e args.toList = some svs) (hp : S.Perm (S1 ++ S2)) (hc : HC P f svs S1 H R)
    (hk : ∀ r S1' H', HLe H H' → R r S1' H' → (need i = true → KP C (S1' ++ S2) H') ∧ XD P n B ops C need k t ((d, r) :: e) (S1' ++ S2) H') : XD P n B ops C need k (.h i t) e S H :=
  hcall ho hg (run_callf hf ha) hp hc hk

/-- a call of a function value -/
theorem h_callv {f : FuncId} {args : Array Operand} {tys : Array TypeId} {svs cap all : List SV} {R : SV → Res → Hp → Prop} {S1 S2 : Res} (hf : ∀ (args : Array Value) (w : World), (callFunc f args).run P w = .ok (.enter f args) w)
    (ho : nth ops i = some ⟨some d, .call ⟨.value x, args, tys⟩, ty, pos, af, g⟩) (hg : gok ops e g = some true) (hx : opv e x = some (.fn f cap)) (ha : opvs e args.toList = some svs) (hall : svs ++ cap = all) (hp : S.Perm (S1 ++ S2)) (hc : HC P f all S1 H R)
    (hk : ∀ r S1' H', HLe H H' → R r S1' H' → (need i = true → KP C (S1' ++ S2) H') ∧ XD P n B ops C need k t ((d, r) :: e) (S1' ++ S2) H') : XD P n B ops C need k (.h i t) e S H :=
  hcall ho hg (fun a w he => by
    subst hall
    have h1 := he.opvs ha
    have h2 : args.map a.eval = ⟨SV.vals svs⟩ := by apply Array.ext'; simpa using h1
    simp only [execOp, resolve, he.opv hx, SV.val]
    simp [Deferred.ofValue, invoke, h2, hf, vals_append]) hp hc hk

/-! ### the way in and out -/
def FR (B : Base) (R : SV → Res → Hp → Prop) : Ending → World → Prop := fun e w' => ∃ r S' H', e = .returned (SV.val r) ∧ At B S' H' w' ∧ R r S' H'

def zipE : Nat → List SV → Env
  | _, [] => []
  | k, v :: r => (k, v) :: zipE (k + 1) r

theorem lk_zipE {t : Nat} {sv : SV} : ∀ (k : Nat) (l : List SV), lk (zipE k l) t = some sv → ∃ j, t = k + j ∧ l[j]? = some sv
  | _, [], h => by simp [zipE, lk] at h
  | k, v :: r, h => by
    simp only [zipE, lk] at h
    cases hb : Nat.beq k t with
    | true =>
      rw [hb] at h
      simp only [cond_true, Option.some.injEq] at h
      exact ⟨0, by have := Nat.eq_of_beq_eq_true hb; omega, by simpa using h⟩
    | false =>
      rw [hb] at h
      obtain ⟨j, h1, h2⟩ := lk_zipE (k + 1) r h
      exact ⟨j + 1, by omega, by simpa using h2⟩

theorem hc_intro {f : FuncId} {fn : Func} {c : Code} {args : List SV} {R : SV → Res → Hp → Prop} (hf : P.funcs[f]? = some fn) (hb : fn.body = some c) (hn : fn.ntmps = n) (hl : Nat.ble args.length n = true)
    (h : ∀ B, B.H = H → EW P n B c [.fin fn (FR B R)] (zipE 0 args) S H) : HC P f args S H R := by
  intro w hw
  refine calls_of_wp hf hb ?_
  refine h (base w S H) rfl _ w ?_ hw
  have hle : args.length ≤ n := by simpa [Nat.ble_eq] using hl
  refine ⟨rfl, by simp [vals_length, hn]; omega, fun t sv ht => ?_⟩
  obtain ⟨j, h1, h2⟩ := lk_zipE 0 args ht
  have h3 : (SV.vals args)[t]? = some sv.val := by rw [vals_get, show t = j by omega, h2]; rfl
  have hlt : t < (SV.vals args).length := (List.getElem?_eq_some_iff.1 h3).1
  simp only [Array.getD_eq_getD_getElem?]
  rw [Array.getElem?_append_left (by simpa using hlt)]
  simp [h3]

/-- what a result's slot holds at the end -/
inductive RV (P : Program) (e : Env) (S : Res) : ResultVar → SV → Prop where
  | tmp {s : Tmp} {v : SV} (h : lk e s = some v) : RV P e S (.tmp s) v
  | cell {a : Tmp} {T : TypeId} {gb off : Nat} {tt : TypeId} {cs : List SV} {v : SV} (kk : Nat) (hag : ∀ w, (isAgg T).run P w = .ok false w) (h : lk e a = some (.p ⟨gb, off, none⟩)) (hb : nth S kk = some (.box gb tt cs)) (hv : nth cs off = some v) : RV P e S (.cell a T) v
  | agg {a : Tmp} {T : TypeId} {gb m : Nat} {tt : TypeId} {cs : List SV} (kk : Nat) (hag : ∀ w, (isAgg T).run P w = .ok true w) (hs : ∀ w, (sizeOf T).run P w = .ok m w) (h : lk e a = some (.p ⟨gb, 0, none⟩)) (hb : nth S kk = some (.box gb tt cs)) (hm : cs.length = m) : RV P e S (.cell a T) (.agg cs)

inductive RVs (P : Program) (e : Env) (S : Res) : List ResultVar → List SV → Prop where
  | nil : RVs P e S [] []
  | cons {r : ResultVar} {v : SV} {rs : List ResultVar} {vs : List SV} (h : RV P e S r v) (ht : RVs P e S rs vs) : RVs P e S (r :: rs) (v :: vs)

def retv : List SV → SV
  | [v] => v
  | vs => .tup vs

def rvRun (tmps : Array Value) : ResultVar → Sem Value
  | .tmp t => pure (tmps.getD t undef)
  | .cell a t => do loadVar t (← asAddr (tmps.getD a undef))

theorem rv_run {a : Act} {w : World} (he : Holds n e a) (hw : At B S H w) {r : ResultVar} {v : SV} (h : RV P e S r v) : (rvRun a.tmps r).run P w = .ok v.val w := by
  cases h with
  | tmp h => simp [rvRun, he.at_ _ _ h]
  | cell kk hag h hb hv =>
    have h1 := hw.res _ (List.mem_of_getElem? (nth_get hb))
    have h2 := cell_box h1 (nth_get hv)
    simp [rvRun, he.at_ _ _ h, SV.val, asAddr, loadVar, hag w, run_load, h2]
  | agg kk hag hs h hb hm =>
    rename_i gb m tt cs
    have h1 := hw.res _ (List.mem_of_getElem? (nth_get hb))
    have h2 := run_loadCells_list (P := P) w ⟨gb, 0, none⟩ (SV.vals cs) (fun j v hj => by
      rw [add_lit, Nat.zero_add]
      rw [vals_get] at hj
      cases hq : cs[j]? with
      | none => rw [hq] at hj; cases hj
      | some sv => rw [hq] at hj; simp only [Option.map_some, Option.some.injEq] at hj; rw [← hj]; exact cell_box h1 hq)
    rw [vals_length, hm] at h2
    simp [rvRun, he.at_ _ _ h, SV.val, asAddr, loadVar, hag w, hs w, h2]

theorem rvs_run {a : Act} {w : World} (he : Holds n e a) (hw : At B S H w) {rs : List ResultVar} {vs : List SV} (h : RVs P e S rs vs) : (rs.mapM (rvRun a.tmps)).run P w = .ok (SV.vals vs) w := by
  induction h with
  | nil => simp [SV.vals]
  | cons h ht ih => simp [List.mapM_cons, rv_run he hw h, ih, SV.vals]

theorem results_rv {a : Act} {w : World} {fn : Func} (he : Holds n e a) (hw : At B S H w) {rs : List ResultVar} {vs : List SV} (hrs : fn.results = rs.toArray) (h : RVs P e S rs vs) : (results fn a.tmps).run P w = .ok (retv vs).val w := by
  have h1 := rvs_run he hw h
  have h2 : results fn a.tmps = (do let vs ← fn.results.mapM (rvRun a.tmps); pure (if h : vs.size = 1 then vs[0] else .tuple vs)) := by
    unfold results
    congr 1
  rw [h2, hrs, List.mapM_toArray]
  simp only [Sem.run_bind, Sem.run_map, h1]
  cases vs with
  | nil => rfl
  | cons v r =>
    cases r with
    | nil => rfl
    | cons u r => simp [retv, SV.val, SV.vals]

theorem ew_retp {fn : Func} {R : SV → Res → Hp → Prop} {rs : List ResultVar} {vs : List SV} {r : SV} {S' G : Res} (hk : finOf k = some (fn, FR B R)) (hrs : fn.results = rs.toArray) (hv : RVs P e S rs vs) (hr : retv vs = r) (hp : S.Perm (S' ++ G)) (hR : R r S' H) : EW P n B .ret k e S H := by
  intro a w he hw
  refine wp_ret (finOf_spec hk a w ⟨he.defers, (retv vs).val, results_rv he hw hrs hv, r, S', H, by rw [hr], (hw.perm hp).drop, hR⟩)

/-- a return that keeps nothing of what is owned -/
theorem ew_ret {fn : Func} {R : SV → Res → Hp → Prop} {rs : List ResultVar} {vs : List SV} {r : SV} (hk : finOf k = some (fn, FR B R)) (hrs : fn.results = rs.toArray) (hv : RVs P e S rs vs) (hr : retv vs = r) (hR : R r [] H) : EW P n B .ret k e S H :=
  ew_retp (S' := []) (G := S) hk hrs hv hr (List.Perm.refl _) hR

/-- a return that keeps one chunk -/
theorem ew_ret1 {fn : Func} {R : SV → Res → Hp → Prop} {rs : List ResultVar} {vs : List SV} {r : SV} {c : Chunk} (kk : Nat) (hk : finOf k = some (fn, FR B R)) (hrs : fn.results = rs.toArray) (hv : RVs P e S rs vs) (hr : retv vs = r) (hc : nth S kk = some c) (hR : R r [c] H) : EW P n B .ret k e S H :=
  ew_retp (S' := [c]) (G := S.eraseIdx kk) hk hrs hv hr (nth_split hc) hR

theorem nk_retp {fn : Func} {R : SV → Res → Hp → Prop} {rs : List ResultVar} {vs : List SV} {r : SV} {S' G : Res} (hrs : fn.results = rs.toArray) (hv : RVs P e S rs vs) (hr : retv vs = r) (hp : S.Perm (S' ++ G)) (hR : R r S' H) : NK P n B [.fin fn (FR B R)] e S H := by
  intro a w he hw
  exact ⟨he.defers, (retv vs).val, results_rv he hw hrs hv, r, S', H, by rw [hr], (hw.perm hp).drop, hR⟩
theorem nk_ret {fn : Func} {R : SV → Res → Hp → Prop} {rs : List ResultVar} {vs : List SV} {r : SV} (hrs : fn.results = rs.toArray) (hv : RVs P e S rs vs) (hr : retv vs = r) (hR : R r [] H) : NK P n B [.fin fn (FR B R)] e S H :=
  nk_retp (S' := []) (G := S) hrs hv hr (List.Perm.refl _) hR
theorem nk_ret1 {fn : Func} {R : SV → Res → Hp → Prop} {rs : List ResultVar} {vs : List SV} {r : SV} {c : Chunk} (kk : Nat) (hrs : fn.results = rs.toArray) (hv : RVs P e S rs vs) (hr : retv vs = r) (hc : nth S kk = some c) (hR : R r [c] H) : NK P n B [.fin fn (FR B R)] e S H :=
  nk_retp (S' := [c]) (G := S.eraseIdx kk) hrs hv hr (nth_split hc) hR

/-! all that is owned is handed back -/
theorem ew_retA {fn : Func} {R : SV → Res → Hp → Prop} {rs : List ResultVar} {v : SV} (hk : finOf k = some (fn, FR B R)) (hrs : fn.results = rs.toArray) (hv : RVs P e S rs [v]) (hR : R v S H) : EW P n B .ret k e S H :=
  ew_retp (G := []) hk hrs hv rfl (by simp) hR
theorem nk_retA {fn : Func} {R : SV → Res → Hp → Prop} {rs : List ResultVar} {v : SV} (hrs : fn.results = rs.toArray) (hv : RVs P e S rs [v]) (hR : R v S H) : NK P n B [.fin fn (FR B R)] e S H :=
  nk_retp (G := []) hrs hv rfl (by simp) hR
theorem ew_retAm {fn : Func} {R : SV → Res → Hp → Prop} {rs : List ResultVar} {vs : List SV} {r : SV} (hk : finOf k = some (fn, FR B R)) (hrs : fn.results = rs.toArray) (hv : RVs P e S rs vs) (hr : retv vs = r) (hR : R r S H) : EW P n B .ret k e S H :=
  ew_retp (G := []) hk hrs hv hr (by simp) hR
theorem nk_retAm {fn : Func} {R : SV → Res → Hp → Prop} {rs : List ResultVar} {vs : List SV} {r : SV} (hrs : fn.results = rs.toArray) (hv : RVs P e S rs vs) (hr : retv vs = r) (hR : R r S H) : NK P n B [.fin fn (FR B R)] e S H :=
  nk_retp (G := []) hrs hv hr (by simp) hR

/-! one result -/
theorem ew_retpS {fn : Func} {R : SV → Res → Hp → Prop} {rs : List ResultVar} {v : SV} {S' G : Res} (hk : finOf k = some (fn, FR B R)) (hrs : fn.results = rs.toArray) (hv : RVs P e S rs [v]) (hp : S.Perm (S' ++ G)) (hR : R v S' H) : EW P n B .ret k e S H :=
  ew_retp hk hrs hv rfl hp hR
theorem nk_retpS {fn : Func} {R : SV → Res → Hp → Prop} {rs : List ResultVar} {v : SV} {S' G : Res} (hrs : fn.results = rs.toArray) (hv : RVs P e S rs [v]) (hp : S.Perm (S' ++ G)) (hR : R v S' H) : NK P n B [.fin fn (FR B R)] e S H :=
  nk_retp hrs hv rfl hp hR

theorem ew_retS {fn : Func} {R : SV → Res → Hp → Prop} {rs : List ResultVar} {v : SV} (hk : finOf k = some (fn, FR B R)) (hrs : fn.results = rs.toArray) (hv : RVs P e S rs [v]) (hR : R v [] H) : EW P n B .ret k e S H :=
  ew_ret hk hrs hv rfl hR
theorem ew_retk {fn : Func} {R : SV → Res → Hp → Prop} {rs : List ResultVar} {v : SV} {c : Chunk} (kk : Nat) (hk : finOf k = some (fn, FR B R)) (hrs : fn.results = rs.toArray) (hv : RVs P e S rs [v]) (_h : True = True) (hc : nth S kk = some c) (hR : R v [c] H) : EW P n B .ret k e S H :=
  ew_ret1 kk hk hrs hv rfl hc hR
theorem nk_retS {fn : Func} {R : SV → Res → Hp → Prop} {rs : List ResultVar} {v : SV} (hrs : fn.results = rs.toArray) (hv : RVs P e S rs [v]) (hR : R v [] H) : NK P n B [.fin fn (FR B R)] e S H :=
  nk_ret hrs hv rfl hR
theorem nk_retk {fn : Func} {R : SV → Res → Hp → Prop} {rs : List ResultVar} {v : SV} {c : Chunk} (kk : Nat) (hrs : fn.results = rs.toArray) (hv : RVs P e S rs [v]) (_h : True = True) (hc : nth S kk = some c) (hR : R v [c] H) : NK P n B [.fin fn (FR B R)] e S H :=
  nk_ret1 kk hrs hv rfl hc hR

end
end Go.GW
