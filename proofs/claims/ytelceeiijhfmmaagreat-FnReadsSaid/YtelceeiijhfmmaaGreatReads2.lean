import Derived.Test.YtelceeiijhfmmaaGreatReads1
import Derived.Below
/- For every input the law FnReads of the given program returns true and leaves its argument as it was. -/
set_option linter.unusedVariables false
set_option linter.unusedSimpArgs false
namespace Go.Proofs.Fw
variable {P : Program} {Γ : SEnv} {S : PSt} {G : Gh} {w : World} {N : Nat} {a : Act} {gd : Option (Nat × Bool)} {gs : List (Nat × Bool)} {o : Oper} {bs : List (Nat × Nat)} {d : Nat} {sem : CSem} {us : List (Nat × Univ)} {Np : Nat}
def AOk (Γ : SEnv) (G : Gh) (v : Value) : PS → AOne → Prop
  | .v s ms, .v ls => v = asm1 s (fun j => ((ls[j]?).map (lsV G)).getD undef) ∧ ls.length = s.size ∧ ls.length = ms.length ∧ ∀ y ∈ ls, lsOk y
  | .p cin _, .p b off => v = .pointer (some ⟨(G.B b).1, (G.B b).2 + off, none⟩) ∧ ∃ n, (Γ (bm b)).sh = some (.bx n) ∧ off + cin.length ≤ n
  | .f fid caps, .f cl => v = .func (.func fid) #[] (cl.map (capV G)).toArray ∧ cl.length = caps.length ∧
      ∀ (k : Nat) (c : List PM) (x : Nat × Nat), caps[k]? = some c → cl[k]? = some x → ∃ n, (Γ (bm x.1)).sh = some (.bx n) ∧ x.2 + c.length ≤ n
  | _, _ => False
theorem aPs_ok (p : Pre Γ S G w N a gd gs) : ∀ {ps : List PS} {xs : List (Operand × TypeId)} {cs : List (Nat × Nat)} {as : List AOne}, (aPs P gs ps xs cs).run Γ = some as →
    as.length = ps.length ∧ xs.length + cs.length = ps.length ∧ ∀ (i : Nat) (q : PS) (x : AOne) (v : Value), ps[i]? = some q → as[i]? = some x → (xs.map (fun x => a.eval x.1) ++ cs.map (capV G))[i]? = some v → AOk Γ G v q x := by
  intro ps
  induction ps with
  | nil =>
    intro xs cs as h
    cases xs with
    | nil =>
      cases cs with
      | nil =>
        have h := run_ret h
        subst h
        exact ⟨rfl, rfl, by intro i q x v h; cases h⟩
      | cons _ _ => cases h
    | cons _ _ => cases h
  | cons q r ih =>
    intro xs cs as h
    have key : ∀ (x : AOne) (zs : List AOne) (xs' : List (Operand × TypeId)) (cs' : List (Nat × Nat)) (v0 : Value), as = x :: zs → (aPs P gs r xs' cs').run Γ = some zs →
        (xs.map (fun x => a.eval x.1) ++ cs.map (capV G)) = v0 :: (xs'.map (fun x => a.eval x.1) ++ cs'.map (capV G)) → xs.length + cs.length = xs'.length + cs'.length + 1 → AOk Γ G v0 q x →
        as.length = (q :: r).length ∧ xs.length + cs.length = (q :: r).length ∧ ∀ (i : Nat) (q' : PS) (x : AOne) (v : Value), (q :: r)[i]? = some q' → as[i]? = some x → (xs.map (fun x => a.eval x.1) ++ cs.map (capV G))[i]? = some v → AOk Γ G v q' x := by
      intro x zs xs' cs' v0 e h1 h2 h3 h4
      obtain ⟨i1, i2, i3⟩ := ih h1
      subst e
      refine ⟨by simp [i1], by simp only [List.length_cons]; omega, ?_⟩
      intro i q' y v hq hy hv
      rw [h2] at hv
      cases i with
      | zero =>
        simp only [List.getElem?_cons_zero, Option.some.injEq] at hq hy hv
        subst hq hy hv
        exact h4
      | succ i => exact i3 i q' y v (by simpa using hq) (by simpa using hy) (by simpa using hv)
    cases q with
    | v s ms =>
      cases xs with
      | nil => cases h
      | cons x xs =>
        obtain ⟨x, T⟩ := x
        simp only [aPs] at h
        obtain ⟨⟨s', ls⟩, h1, h⟩ := Rd.run_bind h
        obtain ⟨_, h2, h⟩ := Rd.run_bind h
        have h2 := Rd.run_must h2
        simp only [Bool.and_eq_true, decide_eq_true_eq] at h2
        obtain ⟨zs, h3, h⟩ := Rd.run_bind h
        have h := run_ret h
        obtain ⟨e1, e2, e3⟩ := opLeaves_ok p.T p.gs h1
        rw [← h2.1] at e1 e2
        exact key _ zs xs cs _ h.symm h3 rfl (by simp; omega) ⟨e1, e2, Nat.eq_of_beq_eq_true h2.2, e3⟩
    | p cin cout =>
      cases xs with
      | nil =>
        cases cs with
        | nil => cases h
        | cons c cs =>
          obtain ⟨b, off⟩ := c
          simp only [aPs, Rd.run] at h
          split at h
          case h_2 => cases h
          rename_i n hbn
          obtain ⟨_, h2, h⟩ := Rd.run_bind h
          have h2 := Nat.le_of_ble_eq_true (Rd.run_must h2)
          obtain ⟨zs, h3, h⟩ := Rd.run_bind h
          have h := run_ret h
          exact key _ zs [] cs _ h.symm h3 rfl (by simp) ⟨rfl, n, hbn, h2⟩
      | cons x xs =>
        obtain ⟨x, T⟩ := x
        simp only [aPs] at h
        obtain ⟨⟨m, tag⟩, h1, h⟩ := Rd.run_bind h
        simp only at h
        split at h
        case h_2 => cases h
        rename_i b off
        simp only [Rd.run] at h
        split at h
        case h_2 => cases h
        rename_i n hbn
        obtain ⟨_, h2, h⟩ := Rd.run_bind h
        have h2 := Nat.le_of_ble_eq_true (Rd.run_must h2)
        obtain ⟨zs, h3, h⟩ := Rd.run_bind h
        have h := run_ret h
        obtain ⟨e1, e2, _⟩ := ptrLeaf_ok p h1
        exact key _ zs xs cs _ h.symm h3 rfl (by simp; omega) ⟨e1.trans e2, n, hbn, h2⟩
    | f fid caps =>
      cases xs with
      | nil => cases h
      | cons x xs =>
        obtain ⟨x, T⟩ := x
        simp only [aPs] at h
        obtain ⟨⟨m, tag⟩, h1, h⟩ := Rd.run_bind h
        simp only at h
        split at h
        case h_2 => cases h
        rename_i f cl
        obtain ⟨_, h2, h⟩ := Rd.run_bind h
        have h2 := Rd.run_must h2
        simp only [Bool.and_eq_true] at h2
        obtain ⟨us, h4, h⟩ := Rd.run_bind h
        obtain ⟨zs, h3, h⟩ := Rd.run_bind h
        have h := run_ret h
        obtain ⟨e1, e2, _⟩ := ptrLeaf_ok p h1
        have hf := Nat.eq_of_beq_eq_true h2.1
        have hl := Nat.eq_of_beq_eq_true h2.2
        refine key _ zs xs cs _ h.symm h3 rfl (by simp; omega) ⟨by rw [← hf]; exact e1.trans e2, hl, ?_⟩
        intro k c y hc hy
        obtain ⟨m1, m2⟩ := mapRd_run h4
        obtain ⟨z, _, hz⟩ := m2 k (y, c) (by rw [List.getElem?_zip_eq_some]; exact ⟨hy, hc⟩)
        simp only [Rd.run] at hz
        split at hz
        case h_2 => cases hz
        rename_i n hn
        exact ⟨n, hn, Nat.le_of_ble_eq_true (Rd.run_must hz)⟩
theorem leafItems_mem {i : Nat} : ∀ {ms : List PM} {ls : List LS} {j0 : Nat}, (∀ j m x, ms[j]? = some m → ls[j]? = some x → (⟨lc i (j0 + j), m, x⟩ : AItem) ∈ leafItems i j0 ms ls) ∧
    ∀ it ∈ leafItems i j0 ms ls, ∃ j, ms[j]? = some it.m ∧ ls[j]? = some it.x ∧ it.l = lc i (j0 + j)
  | [], _, _ => ⟨by simp, by intro it h; simp [leafItems] at h⟩
  | m :: r, [], _ => ⟨by simp, by intro it h; simp [leafItems] at h⟩
  | m :: r, y :: s, j0 => by
    obtain ⟨i1, i2⟩ := leafItems_mem (i := i) (ms := r) (ls := s) (j0 := j0 + 1)
    refine ⟨?_, ?_⟩
    · intro j m' x h1 h2
      cases j with
      | zero => simp at h1 h2; subst h1 h2; exact List.mem_cons_self
      | succ j =>
        have := i1 j m' x (by simpa using h1) (by simpa using h2)
        rw [show j0 + 1 + j = j0 + (j + 1) by omega] at this
        exact List.mem_cons_of_mem _ this
    · intro it h
      rcases List.mem_cons.1 h with rfl | h
      · exact ⟨0, rfl, rfl, rfl⟩
      · obtain ⟨j, h1, h2, h3⟩ := i2 it h
        exact ⟨j + 1, by simpa using h1, by simpa using h2, by rw [h3, show j0 + 1 + j = j0 + (j + 1) by omega]⟩
theorem varItems_mem {i b off : Nat} : ∀ {ms : List PM} {j0 : Nat}, (∀ j m, ms[j]? = some m → (⟨shd i (j0 + j), m, .loc (bc b (off + (j0 + j)))⟩ : AItem) ∈ varItems i b off j0 ms) ∧
    ∀ it ∈ varItems i b off j0 ms, ∃ j, j < ms.length ∧ it.l = shd i (j0 + j) ∧ it.x = .loc (bc b (off + (j0 + j)))
  | [], _ => ⟨by simp, by intro it h; cases h⟩
  | m :: r, j0 => by
    obtain ⟨i1, i2⟩ := varItems_mem (i := i) (b := b) (off := off) (ms := r) (j0 := j0 + 1)
    refine ⟨?_, ?_⟩
    · intro j m' h1
      cases j with
      | zero => simp at h1; subst h1; exact List.mem_cons_self
      | succ j =>
        have := i1 j m' (by simpa using h1)
        rw [show j0 + 1 + j = j0 + (j + 1) by omega] at this
        exact List.mem_cons_of_mem _ this
    · intro it h
      rcases List.mem_cons.1 h with rfl | h
      · exact ⟨0, by simp, rfl, rfl⟩
      · obtain ⟨j, h1, h2, h3⟩ := i2 it h
        rw [show j0 + 1 + j = j0 + (j + 1) by omega] at h2 h3
        exact ⟨j + 1, by simpa using h1, h2, h3⟩
def Shp : PS → AOne → Prop
  | .v _ ms, .v ls => ls.length = ms.length
  | .p _ _, .p _ _ => True
  | .f _ caps, .f cl => cl.length = caps.length
  | _, _ => False
theorem AOk.shp {v : Value} {q : PS} {x : AOne} (h : AOk Γ G v q x) : Shp q x := by
  cases q <;> cases x <;> first | exact h.2.2.1 | trivial | exact h.2.1 | exact h.elim
def PIn (i0 : Nat) (ps : List PS) (as : List AOne) (items : List AItem) (vars : List AVar) (e : LE) : Prop :=
  (∃ it ∈ items, e.l = it.l ∧ e.tag = it.m.tag ∧ ∀ n, e.sh ≠ some (.bx n)) ∨
  (∃ v ∈ vars, ∃ j, j < v.n ∧ e = ⟨bc v.i j, .al (shd v.i j), none⟩) ∨
  (∃ v ∈ vars, e = ⟨bm v.i, .dead, some (.bx v.n)⟩) ∨
  (∃ i v, v ∈ vars ∧ v.i = i0 + i ∧ as[i]? = some (AOne.p v.b v.off) ∧ (∃ cin cout, ps[i]? = some (PS.p cin cout)) ∧ e = ⟨lc (i0 + i) 0, .ptr (i0 + i) 0, some (.one .leaf)⟩) ∨
  (∃ i fid caps cl, ps[i]? = some (PS.f fid caps) ∧ as[i]? = some (AOne.f cl) ∧ e = ⟨lc (i0 + i) 0, .clo fid ((List.range caps.length).map fun k => (capB (i0 + i) k, 0)), some (.one .leaf)⟩ ∧
    ∀ (k : Nat) (x : Nat × Nat), cl[k]? = some x → ∃ v ∈ vars, v.i = capB (i0 + i) k ∧ v.b = x.1 ∧ v.off = x.2)
theorem PIn.up {i0 : Nat} {q : PS} {x : AOne} {ps : List PS} {as : List AOne} {items items' : List AItem} {vars vars' : List AVar} {e : LE} (h : PIn (i0 + 1) ps as items vars e) (h1 : ∀ it ∈ items, it ∈ items') (h2 : ∀ v ∈ vars, v ∈ vars') :
    PIn i0 (q :: ps) (x :: as) items' vars' e := by
  rcases h with ⟨it, k1, k2⟩ | ⟨v, k1, k2⟩ | ⟨v, k1, k2⟩ | ⟨i, v, k1, k2, k3, k4, k5⟩ | ⟨i, fid, caps, cl, k1, k2, k3, k4⟩
  · exact .inl ⟨it, h1 _ k1, k2⟩
  · exact .inr (.inl ⟨v, h2 _ k1, k2⟩)
  · exact .inr (.inr (.inl ⟨v, h2 _ k1, k2⟩))
  · refine .inr (.inr (.inr (.inl ⟨i + 1, v, h2 _ k1, by omega, by simpa using k3, by simpa using k4, ?_⟩)))
    rw [show i0 + (i + 1) = i0 + 1 + i by omega]
    exact k5
  · refine .inr (.inr (.inr (.inr ⟨i + 1, fid, caps, cl, by simpa using k1, by simpa using k2, ?_, ?_⟩)))
    · rw [show i0 + (i + 1) = i0 + 1 + i by omega]
      exact k3
    · intro k y hy
      obtain ⟨v, q1, q2⟩ := k4 k y hy
      rw [show i0 + (i + 1) = i0 + 1 + i by omega]
      exact ⟨v, h2 _ q1, q2⟩
theorem cellsIn_pin {i b off : Nat} : ∀ {ms : List PM} {j0 : Nat} {e : LE}, e ∈ cellsIn i i j0 ms → (∃ it ∈ varItems i b off j0 ms, e.l = it.l ∧ e.tag = it.m.tag ∧ ∀ n, e.sh ≠ some (.bx n)) ∨
    ∃ j, j < ms.length ∧ e = ⟨bc i (j0 + j), .al (shd i (j0 + j)), none⟩
  | [], _, _, h => by cases h
  | m :: r, j0, e, h => by
    rcases List.mem_cons.1 h with rfl | h
    · exact .inr ⟨0, by simp, rfl⟩
    · rcases List.mem_cons.1 h with rfl | h
      · exact .inl ⟨_, List.mem_cons_self, rfl, rfl, by intro n h; cases h⟩
      · rcases cellsIn_pin (b := b) (off := off) h with ⟨it, h1, h2⟩ | ⟨j, h1, h2⟩
        · exact .inl ⟨it, List.mem_cons_of_mem _ h1, h2⟩
        · exact .inr ⟨j + 1, by simpa using h1, by rw [h2, show j0 + (j + 1) = j0 + 1 + j by omega]⟩
theorem capsIn_pin {i : Nat} : ∀ {caps : List (List PM)} {cl : List (Nat × Nat)} {k0 : Nat} {e : LE}, cl.length = caps.length → e ∈ capsIn i k0 caps →
    (∃ it ∈ cloItems i k0 caps cl, e.l = it.l ∧ e.tag = it.m.tag ∧ ∀ n, e.sh ≠ some (.bx n)) ∨ (∃ v ∈ cloVars i k0 caps cl, ∃ j, j < v.n ∧ e = ⟨bc v.i j, .al (shd v.i j), none⟩) ∨ (∃ v ∈ cloVars i k0 caps cl, e = ⟨bm v.i, .dead, some (.bx v.n)⟩)
  | [], _, _, _, _, h => by cases h
  | c :: r, [], _, _, hl, _ => by cases hl
  | c :: r, x :: s, k0, e, hl, h => by
    rcases List.mem_cons.1 h with rfl | h
    · exact .inr (.inr ⟨_, List.mem_cons_self, rfl⟩)
    · rcases List.mem_append.1 h with h | h
      · rcases cellsIn_pin (b := x.1) (off := x.2) h with ⟨it, h1, h2⟩ | ⟨j, h1, h2⟩
        · exact .inl ⟨it, List.mem_append_left _ h1, h2⟩
        · refine .inr (.inl ⟨_, List.mem_cons_self, j, h1, ?_⟩)
          rw [h2, Nat.zero_add]
      · rcases capsIn_pin (by simpa using hl) h with ⟨it, h1, h2⟩ | ⟨v, h1, h2⟩ | ⟨v, h1, h2⟩
        · exact .inl ⟨it, List.mem_append_right _ h1, h2⟩
        · exact .inr (.inl ⟨v, List.mem_cons_of_mem _ h1, h2⟩)
        · exact .inr (.inr ⟨v, List.mem_cons_of_mem _ h1, h2⟩)
theorem cloVars_get {i : Nat} : ∀ {caps : List (List PM)} {cl : List (Nat × Nat)} {k0 k : Nat} {x : Nat × Nat}, cl.length = caps.length → cl[k]? = some x → ∃ v ∈ cloVars i k0 caps cl, v.i = capB i (k0 + k) ∧ v.b = x.1 ∧ v.off = x.2
  | [], [], _, _, _, _, h => by cases h
  | [], _ :: _, _, _, _, hl, _ => by cases hl
  | c :: r, [], _, _, _, hl, _ => by cases hl
  | c :: r, y :: s, k0, k, x, hl, h => by
    cases k with
    | zero =>
      simp at h
      subst h
      exact ⟨_, List.mem_cons_self, rfl, rfl, rfl⟩
    | succ k =>
      obtain ⟨v, h1, h2, h3⟩ := cloVars_get (i := i) (caps := r) (cl := s) (k0 := k0 + 1) (k := k) (by simpa using hl) (by simpa using h)
      exact ⟨v, List.mem_cons_of_mem _ h1, by rw [h2, show k0 + 1 + k = k0 + (k + 1) by omega], h3⟩
theorem psIn_pin : ∀ {ps : List PS} {as : List AOne} {i0 : Nat} {e : LE}, as.length = ps.length → (∀ (i : Nat) (q : PS) (x : AOne), ps[i]? = some q → as[i]? = some x → Shp q x) → e ∈ psIn i0 ps → PIn i0 ps as (itemsOf i0 ps as) (varsOf i0 ps as) e
  | [], _, _, _, _, _, h => by cases h
  | q :: r, [], _, _, hl, _, _ => by cases hl
  | q :: r, x :: s, i0, e, hl, hs, h => by
    have h0 := hs 0 q x rfl rfl
    have hs' : ∀ (i : Nat) (q : PS) (x : AOne), r[i]? = some q → s[i]? = some x → Shp q x := fun i q x h1 h2 => hs (i + 1) q x (by simpa using h1) (by simpa using h2)
    have hl' : s.length = r.length := by simpa using hl
    cases q with
    | v sh ms =>
      cases x with
      | v ls =>
        rcases List.mem_append.1 h with h | h
        · obtain ⟨j, m, h1, h2⟩ := mem_leavesIn h
          have h0 : ls.length = ms.length := h0
          have hj : j < ls.length := by rw [h0]; exact (List.getElem?_eq_some_iff.1 h1).1
          have := (leafItems_mem (i := i0) (ms := ms) (ls := ls) (j0 := 0)).1 j m _ h1 (List.getElem?_eq_getElem hj)
          refine .inl ⟨_, List.mem_append_left _ this, by rw [h2], by rw [h2], ?_⟩
          intro n hn
          rw [h2] at hn
          simp only at hn
          split at hn
          · injection hn with hn; cases hn
          · cases hn
        · exact (psIn_pin hl' hs' h).up (fun it hit => List.mem_append_right _ hit) (fun v hv => hv)
      | _ => exact h0.elim
    | p cin cout =>
      cases x with
      | p b off =>
        rcases List.mem_cons.1 h with rfl | h
        · exact .inr (.inr (.inr (.inl ⟨0, ⟨i0, b, off, cin.length⟩, List.mem_cons_self, rfl, rfl, ⟨cin, cout, rfl⟩, rfl⟩)))
        · rcases List.mem_cons.1 h with rfl | h
          · exact .inr (.inr (.inl ⟨_, List.mem_cons_self, rfl⟩))
          · rcases List.mem_append.1 h with h | h
            · rcases cellsIn_pin (b := b) (off := off) h with ⟨it, h1, h2⟩ | ⟨j, h1, h2⟩
              · exact .inl ⟨it, List.mem_append_left _ h1, h2⟩
              · refine .inr (.inl ⟨_, List.mem_cons_self, j, h1, ?_⟩)
                rw [h2, Nat.zero_add]
            · exact (psIn_pin hl' hs' h).up (fun it hit => List.mem_append_right _ hit) (fun v hv => List.mem_cons_of_mem _ hv)
      | _ => exact h0.elim
    | f fid caps =>
      cases x with
      | f cl =>
        have h0 : cl.length = caps.length := h0
        rcases List.mem_cons.1 h with rfl | h
        · refine .inr (.inr (.inr (.inr ⟨0, fid, caps, cl, rfl, rfl, rfl, ?_⟩)))
          intro k y hy
          obtain ⟨v, q1, q2, q3⟩ := cloVars_get (i := i0) (k0 := 0) h0 hy
          exact ⟨v, List.mem_append_left _ q1, by rw [q2, Nat.zero_add]; rfl, q3⟩
        · rcases List.mem_append.1 h with h | h
          · rcases capsIn_pin h0 h with ⟨it, h1, h2⟩ | ⟨v, h1, h2⟩ | ⟨v, h1, h2⟩
            · exact .inl ⟨it, List.mem_append_left _ h1, h2⟩
            · exact .inr (.inl ⟨v, List.mem_append_left _ h1, h2⟩)
            · exact .inr (.inr (.inl ⟨v, List.mem_append_left _ h1, h2⟩))
          · exact (psIn_pin hl' hs' h).up (fun it hit => List.mem_append_right _ hit) (fun v hv => List.mem_append_right _ hv)
      | _ => exact h0.elim
def ItIn (i0 : Nat) (ps : List PS) (as : List AOne) (vars : List AVar) (it : AItem) : Prop :=
  (∃ i s ms ls j, ps[i]? = some (PS.v s ms) ∧ as[i]? = some (AOne.v ls) ∧ ls[j]? = some it.x ∧ it.l = lc (i0 + i) j) ∨
  ∃ v ∈ vars, ∃ j, j < v.n ∧ it.l = shd v.i j ∧ it.x = .loc (bc v.b (v.off + j))
theorem cloItems_in {i : Nat} : ∀ {caps : List (List PM)} {cl : List (Nat × Nat)} {k0 : Nat} {it : AItem}, it ∈ cloItems i k0 caps cl → ∃ v ∈ cloVars i k0 caps cl, ∃ j, j < v.n ∧ it.l = shd v.i j ∧ it.x = .loc (bc v.b (v.off + j))
  | [], _, _, _, h => by simp [cloItems] at h
  | c :: r, [], _, _, h => by simp [cloItems] at h
  | c :: r, x :: s, k0, it, h => by
    rcases List.mem_append.1 h with h | h
    · obtain ⟨j, h1, h2, h3⟩ := (varItems_mem (i := capB i k0) (b := x.1) (off := x.2) (ms := c) (j0 := 0)).2 it h
      rw [Nat.zero_add] at h2 h3
      exact ⟨_, List.mem_cons_self, j, h1, h2, h3⟩
    · obtain ⟨v, h1, h2⟩ := cloItems_in h
      exact ⟨v, List.mem_cons_of_mem _ h1, h2⟩
theorem itemsOf_in : ∀ {ps : List PS} {as : List AOne} {i0 : Nat} {it : AItem}, it ∈ itemsOf i0 ps as → ItIn i0 ps as (varsOf i0 ps as) it
  | [], _, _, _, h => by simp [itemsOf] at h
  | q :: r, [], _, _, h => by cases q <;> simp [itemsOf] at h
  | q :: r, x :: s, i0, it, h => by
    have up : it ∈ itemsOf (i0 + 1) r s → (∀ v ∈ varsOf (i0 + 1) r s, v ∈ varsOf i0 (q :: r) (x :: s)) → ItIn i0 (q :: r) (x :: s) (varsOf i0 (q :: r) (x :: s)) it := by
      intro h hs
      rcases itemsOf_in h with ⟨i, sh, ms, ls, j, h1, h2, h3, h4⟩ | ⟨v, h1, h2⟩
      · exact .inl ⟨i + 1, sh, ms, ls, j, by simpa using h1, by simpa using h2, h3, by rw [h4, show i0 + 1 + i = i0 + (i + 1) by omega]⟩
      · exact .inr ⟨v, hs _ h1, h2⟩
    cases q <;> cases x <;> try (simp [itemsOf] at h; done)
    · rcases List.mem_append.1 h with h | h
      · obtain ⟨j, h1, h2, h3⟩ := leafItems_mem.2 it h
        rw [Nat.zero_add] at h3
        exact .inl ⟨0, _, _, _, j, rfl, rfl, h2, h3⟩
      · exact up h (fun v hv => hv)
    · rcases List.mem_append.1 h with h | h
      · obtain ⟨j, h1, h2, h3⟩ := varItems_mem.2 it h
        rw [Nat.zero_add] at h2 h3
        exact .inr ⟨_, List.mem_cons_self, j, h1, h2, h3⟩
      · exact up h (fun v hv => List.mem_cons_of_mem _ hv)
    · rcases List.mem_append.1 h with h | h
      · obtain ⟨v, h1, h2⟩ := cloItems_in h
        exact .inr ⟨v, List.mem_append_left _ h1, h2⟩
      · exact up h (fun v hv => List.mem_append_right _ hv)
theorem varsOf_ok : ∀ {ps : List PS} {as : List AOne} {i0 : Nat}, (∀ (i : Nat) (q : PS) (x : AOne), ps[i]? = some q → as[i]? = some x → ∃ v, AOk Γ G v q x) → ∀ v ∈ varsOf i0 ps as, ∃ n, (Γ (bm v.b)).sh = some (.bx n) ∧ v.off + v.n ≤ n
  | [], _, _, _, v, h => by simp [varsOf] at h
  | q :: r, [], _, _, v, h => by cases q <;> simp [varsOf] at h
  | q :: r, x :: s, i0, hall, v, h => by
    obtain ⟨val, h0⟩ := hall 0 q x rfl rfl
    have up := varsOf_ok (ps := r) (as := s) (i0 := i0 + 1) (fun i q x h1 h2 => hall (i + 1) q x (by simpa using h1) (by simpa using h2))
    cases q <;> cases x <;> try (simp [varsOf] at h; done)
    · exact up v h
    · rcases List.mem_cons.1 h with rfl | h
      · obtain ⟨_, n, h1, h2⟩ := h0
        exact ⟨n, h1, h2⟩
      · exact up v h
    · rename_i fid caps cl
      rcases List.mem_append.1 h with h | h
      · obtain ⟨_, hl, h1⟩ := h0
        clear up
        revert h
        have key : ∀ (caps : List (List PM)) (cl : List (Nat × Nat)) (k0 : Nat), (∀ (k : Nat) (c : List PM) (x : Nat × Nat), caps[k]? = some c → cl[k]? = some x → ∃ n, (Γ (bm x.1)).sh = some (.bx n) ∧ x.2 + c.length ≤ n) → v ∈ cloVars i0 k0 caps cl → ∃ n, (Γ (bm v.b)).sh = some (.bx n) ∧ v.off + v.n ≤ n := by
          intro caps
          induction caps with
          | nil => intro cl k0 _ h; simp [cloVars] at h
          | cons c r ih =>
            intro cl k0 hh h
            cases cl with
            | nil => simp [cloVars] at h
            | cons x s =>
              rcases List.mem_cons.1 h with rfl | h
              · exact hh 0 c x rfl rfl
              · exact ih s (k0 + 1) (fun k c x h1 h2 => hh (k + 1) c x (by simpa using h1) (by simpa using h2)) h
        exact key caps cl 0 h1
      · exact up v h
end Go.Proofs.Fw
set_option linter.unusedVariables false
set_option linter.unusedSimpArgs false
namespace Go.Proofs.Fw
variable {P : Program} {Γ : SEnv} {S : PSt} {G : Gh} {w : World} {N : Nat} {a : Act} {gd : Option (Nat × Bool)} {gs : List (Nat × Bool)} {o : Oper} {bs : List (Nat × Nat)} {d : Nat} {sem : CSem} {us : List (Nat × Univ)} {Np : Nat}
def AP (w : World) (G : Gh) (sf : List Wr1) (src : Src) (tgt : Nat) : PM → Value → Univ → Prop
  | .rd, v, u => RdV w G.Ow v u ∨ ∃ m t xs, src = .loc m ∧ u = ⟨.sl t, xs⟩ ∧ OwnV w G.Ow m v t xs
  | .val, v, u => FZ w G sf v u
  | .own, v, u => ∃ t xs, u = ⟨.sl t, xs⟩ ∧ ((v = .slice none 0 0 ∧ xs = []) ∨ ∃ m, Wr1.soft m (.al tgt) ∈ sf ∧ OwnV w G.Ow m v t xs)
theorem aIt_ok (R : HRel Γ S G w) (hg : GHs gs S) {m : PM} {tgt : Nat} {x : LS} (hl : lsOk x) {src : Src} {sf : List Wr1} (h : (aIt gs m tgt x).run Γ = some (src, sf)) : AP w G sf src tgt m (lsV G x) (src.get S) := by
  cases m with
  | rd =>
    simp only [aIt] at h
    obtain ⟨s, h1, h⟩ := Rd.run_bind h
    have h := run_ret h
    injection h with h2 h3
    subst h2 h3
    cases x with
    | con v u t =>
      simp only [rdLeaf] at h1
      cases t with
      | val =>
        have h1 := run_ret h1
        subst h1
        exact .inl (hl w G.Ow).rdv
      | own =>
        have h1 := run_ret h1
        subst h1
        obtain ⟨rfl, t, rfl⟩ := hl
        exact .inl (Rep.rdv (.nil _ _ _))
      | _ => cases h1
    | loc l =>
      simp only [rdLeaf] at h1
      obtain ⟨⟨m, t⟩, h2, h3⟩ := Rd.run_bind h1
      obtain ⟨hV, _, _, hL, _⟩ := res_ok R hg h2
      cases t with
      | val =>
        have h3 := run_ret h3
        subst h3
        left
        show RdV w G.Ow (G.V l) (S m)
        rw [hV]
        exact Rep.rdv hL
      | rd =>
        have h3 := run_ret h3
        subst h3
        left
        show RdV w G.Ow (G.V l) (S m)
        rw [hV]
        exact hL
      | own =>
        have h3 := run_ret h3
        subst h3
        obtain ⟨t, xs, q1, q2⟩ := hL
        refine .inr ⟨m, t, xs, rfl, q1, ?_⟩
        show OwnV w G.Ow m (G.V l) t xs
        rw [hV]
        exact q2
      | _ => cases h3
  | val => exact (fzLeaf_ok R hg hl h).1
  | own =>
    simp only [aIt] at h
    cases x with
    | con v u t =>
      cases t with
      | own =>
        have h := run_ret h
        injection h with h1 h2
        subst h1 h2
        obtain ⟨rfl, t, rfl⟩ := hl
        exact ⟨t, [], rfl, .inl ⟨rfl, rfl⟩⟩
      | _ => cases h
    | loc l =>
      obtain ⟨⟨m, t⟩, h1, h2⟩ := Rd.run_bind h
      obtain ⟨hV, _, _, hL, _⟩ := res_ok R hg h1
      cases t with
      | own =>
        have h2 := run_ret h2
        injection h2 with h3 h4
        subst h3 h4
        obtain ⟨t, xs, q1, q2⟩ := hL
        refine ⟨t, xs, q1, .inr ⟨m, List.mem_singleton.2 rfl, ?_⟩⟩
        show OwnV w G.Ow m (G.V l) t xs
        rw [hV]
        exact q2
      | _ => cases h2
theorem aIt_form {m : PM} {tgt : Nat} {x : LS} {src : Src} {sf : List Wr1} (h : (aIt gs m tgt x).run Γ = some (src, sf)) : ∀ z ∈ sf, ∃ l, z = Wr1.soft l .val ∨ z = Wr1.soft l (.al tgt) := by
  intro z hz
  cases m with
  | rd =>
    simp only [aIt] at h
    obtain ⟨s, h1, h⟩ := Rd.run_bind h
    have h := run_ret h
    injection h with h2 h3
    subst h3
    cases hz
  | val =>
    simp only [aIt] at h
    unfold fzLeaf at h
    cases x with
    | con v u t =>
      cases t <;> first | (have h := run_ret h; injection h with h1 h2; subst h2; cases hz; done) | (cases h; done)
    | loc l =>
      obtain ⟨⟨m, t⟩, _, h2⟩ := Rd.run_bind h
      cases t <;> first | (have h2 := run_ret h2; injection h2 with h3 h4; subst h4; first | (cases hz; done) | exact ⟨m, .inl (List.mem_singleton.1 hz)⟩) | (cases h2; done)
  | own =>
    simp only [aIt] at h
    cases x with
    | con v u t =>
      cases t <;> first | (have h := run_ret h; injection h with h1 h2; subst h2; cases hz; done) | (cases h; done)
    | loc l =>
      obtain ⟨⟨m, t⟩, _, h2⟩ := Rd.run_bind h
      cases t <;> first | (have h2 := run_ret h2; injection h2 with h3 h4; subst h4; exact ⟨m, .inr (List.mem_singleton.1 hz)⟩) | (cases h2; done)
theorem rdsOf_mem : ∀ {items : List AItem} {ys : List (Src × List Wr1)} {k : Nat} {it : AItem} {y : Src × List Wr1} {m : Nat}, items[k]? = some it → ys[k]? = some y → it.m = .rd → y.1 = .loc m → m ∈ rdsOf items ys
  | [], _, _, _, _, _, h, _, _, _ => by cases h
  | it0 :: r, [], _, _, _, _, _, h, _, _ => by cases h
  | it0 :: r, y0 :: s, k, it, y, m, h1, h2, h3, h4 => by
    cases k with
    | zero =>
      simp at h1 h2
      subst h1 h2
      simp [rdsOf, h3, h4]
    | succ k =>
      have := rdsOf_mem (items := r) (ys := s) (k := k) (by simpa using h1) (by simpa using h2) h3 h4
      simp only [rdsOf]
      split
      · exact List.mem_cons_of_mem _ this
      · exact this
theorem findU {α : Type} {f : α → Nat} : ∀ {l : List α}, (l.map f).Nodup → ∀ {x : α}, x ∈ l → l.find? (fun y => Nat.beq (f y) (f x)) = some x
  | [], _, x, h => by cases h
  | y :: r, hn, x, h => by
    rw [List.map_cons, List.nodup_cons] at hn
    rw [List.find?_cons]
    rcases List.mem_cons.1 h with h | h
    · subst h; simp
    · have hne : f y ≠ f x := fun e => hn.1 (List.mem_map.2 ⟨x, h, e.symm⟩)
      have : Nat.beq (f y) (f x) = false := by
        cases e : Nat.beq (f y) (f x) with
        | false => rfl
        | true => exact absurd (Nat.eq_of_beq_eq_true e) hne
      rw [this]
      exact findU hn.2 h
theorem itemsOf_v : ∀ {ps : List PS} {as : List AOne} {i0 i : Nat} {s : Sh1} {ms : List PM} {ls : List LS} {j : Nat} {m : PM} {x : LS}, (∀ (i : Nat) (q : PS) (x : AOne), ps[i]? = some q → as[i]? = some x → Shp q x) → ps[i]? = some (PS.v s ms) → as[i]? = some (AOne.v ls) → ms[j]? = some m → ls[j]? = some x →
    (⟨lc (i0 + i) j, m, x⟩ : AItem) ∈ itemsOf i0 ps as
  | [], _, _, _, _, _, _, _, _, _, _, h, _, _, _ => by cases h
  | q :: r, [], _, _, _, _, _, _, _, _, _, _, h, _, _ => by cases h
  | q :: r, y :: s, i0, i, sh, ms, ls, j, m, x, hs, h1, h2, h3, h4 => by
    cases i with
    | zero =>
      simp at h1 h2
      subst h1 h2
      have := (leafItems_mem (i := i0) (j0 := 0)).1 j m x h3 h4
      rw [Nat.zero_add] at this
      exact List.mem_append_left _ this
    | succ i =>
      have h0 := hs 0 q y rfl rfl
      have := itemsOf_v (i0 := i0 + 1) (fun i q x h1 h2 => hs (i + 1) q x (by simpa using h1) (by simpa using h2)) (by simpa using h1) (by simpa using h2) h3 h4 (ps := r) (as := s) (i := i)
      rw [show i0 + 1 + i = i0 + (i + 1) by omega] at this
      cases q <;> cases y <;> first | exact List.mem_append_right _ this | exact h0.elim
theorem cloVars_items {i : Nat} : ∀ {caps : List (List PM)} {cl : List (Nat × Nat)} {k0 : Nat}, ∀ v ∈ cloVars i k0 caps cl, ∀ j, j < v.n → ∃ it ∈ cloItems i k0 caps cl, it.l = shd v.i j ∧ it.x = .loc (bc v.b (v.off + j))
  | [], _, _, v, h => by simp [cloVars] at h
  | c :: r, [], _, v, h => by simp [cloVars] at h
  | c :: r, x :: s, k0, v, h => by
    intro j hj
    rcases List.mem_cons.1 h with rfl | h
    · have hj : j < c.length := hj
      have := (varItems_mem (i := capB i k0) (b := x.1) (off := x.2) (ms := c) (j0 := 0)).1 j _ (List.getElem?_eq_getElem hj)
      rw [Nat.zero_add] at this
      exact ⟨_, List.mem_append_left _ this, rfl, rfl⟩
    · obtain ⟨it, h1, h2⟩ := cloVars_items v h j hj
      exact ⟨it, List.mem_append_right _ h1, h2⟩
theorem varsOf_items : ∀ {ps : List PS} {as : List AOne} {i0 : Nat}, ∀ v ∈ varsOf i0 ps as, ∀ j, j < v.n → ∃ it ∈ itemsOf i0 ps as, it.l = shd v.i j ∧ it.x = .loc (bc v.b (v.off + j))
  | [], _, _, v, h => by simp [varsOf] at h
  | q :: r, [], _, v, h => by cases q <;> simp [varsOf] at h
  | q :: r, x :: s, i0, v, h => by
    intro j hj
    have up : v ∈ varsOf (i0 + 1) r s → ∃ it ∈ itemsOf (i0 + 1) r s, it.l = shd v.i j ∧ it.x = .loc (bc v.b (v.off + j)) := fun h => varsOf_items v h j hj
    cases q <;> cases x <;> try (simp [varsOf] at h; done)
    · obtain ⟨it, h1, h2⟩ := up h
      exact ⟨it, List.mem_append_right _ h1, h2⟩
    · rename_i cin cout b off
      rcases List.mem_cons.1 h with rfl | h
      · have hj : j < cin.length := hj
        have := (varItems_mem (i := i0) (b := b) (off := off) (ms := cin) (j0 := 0)).1 j _ (List.getElem?_eq_getElem hj)
        rw [Nat.zero_add] at this
        exact ⟨_, List.mem_append_left _ this, rfl, rfl⟩
      · obtain ⟨it, h1, h2⟩ := up h
        exact ⟨it, List.mem_append_right _ h1, h2⟩
    · rcases List.mem_append.1 h with h | h
      · obtain ⟨it, h1, h2⟩ := cloVars_items v h j hj
        exact ⟨it, List.mem_append_left _ h1, h2⟩
      · obtain ⟨it, h1, h2⟩ := up h
        exact ⟨it, List.mem_append_right _ h1, h2⟩
theorem cloVars_bs {i : Nat} : ∀ {caps : List (List PM)} {cl : List (Nat × Nat)} {k0 : Nat}, cl.length = caps.length → (∀ v ∈ cloVars i k0 caps cl, (v.i, v.n) ∈ capsBs i k0 caps) ∧ ∀ x ∈ capsBs i k0 caps, ∃ v ∈ cloVars i k0 caps cl, v.i = x.1 ∧ v.n = x.2
  | [], [], _, _ => ⟨(by intro v h; cases h), (by intro x h; cases h)⟩
  | [], _ :: _, _, hl => by cases hl
  | c :: r, [], _, hl => by cases hl
  | c :: r, y :: s, k0, hl => by
    obtain ⟨i1, i2⟩ := cloVars_bs (i := i) (caps := r) (cl := s) (k0 := k0 + 1) (by simpa using hl)
    refine ⟨?_, ?_⟩
    · intro v h
      rcases List.mem_cons.1 h with rfl | h
      · exact List.mem_cons_self
      · exact List.mem_cons_of_mem _ (i1 v h)
    · intro x h
      rcases List.mem_cons.1 h with rfl | h
      · exact ⟨_, List.mem_cons_self, rfl, rfl⟩
      · obtain ⟨v, h1, h2⟩ := i2 x h
        exact ⟨v, List.mem_cons_of_mem _ h1, h2⟩
theorem varsOf_bs : ∀ {ps : List PS} {as : List AOne} {i0 : Nat}, as.length = ps.length → (∀ (i : Nat) (q : PS) (x : AOne), ps[i]? = some q → as[i]? = some x → Shp q x) →
    (∀ v ∈ varsOf i0 ps as, (v.i, v.n) ∈ psBs i0 ps) ∧ ∀ x ∈ psBs i0 ps, ∃ v ∈ varsOf i0 ps as, v.i = x.1 ∧ v.n = x.2
  | [], [], _, _, _ => ⟨(by intro v h; simp [varsOf] at h), (by intro x h; cases h)⟩
  | [], _ :: _, _, hl, _ => by cases hl
  | q :: r, [], _, hl, _ => by cases hl
  | q :: r, x :: s, i0, hl, hs => by
    have h0 := hs 0 q x rfl rfl
    obtain ⟨i1, i2⟩ := varsOf_bs (ps := r) (as := s) (i0 := i0 + 1) (by simpa using hl) (fun i q x h1 h2 => hs (i + 1) q x (by simpa using h1) (by simpa using h2))
    cases q <;> cases x <;> try exact h0.elim
    · exact ⟨i1, i2⟩
    · refine ⟨?_, ?_⟩
      · intro v h
        rcases List.mem_cons.1 h with rfl | h
        · exact List.mem_cons_self
        · exact List.mem_cons_of_mem _ (i1 v h)
      · intro x h
        rcases List.mem_cons.1 h with rfl | h
        · exact ⟨_, List.mem_cons_self, rfl, rfl⟩
        · obtain ⟨v, h1, h2⟩ := i2 x h
          exact ⟨v, List.mem_cons_of_mem _ h1, h2⟩
    · obtain ⟨c1, c2⟩ := cloVars_bs (i := i0) (k0 := 0) (show _ = _ from h0)
      refine ⟨?_, ?_⟩
      · intro v h
        rcases List.mem_append.1 h with h | h
        · exact List.mem_append_left _ (c1 v h)
        · exact List.mem_append_right _ (i1 v h)
      · intro x h
        rcases List.mem_append.1 h with h | h
        · obtain ⟨v, h1, h2⟩ := c2 x h
          exact ⟨v, List.mem_append_left _ h1, h2⟩
        · obtain ⟨v, h1, h2⟩ := i2 x h
          exact ⟨v, List.mem_append_right _ h1, h2⟩
def rhoC (sf : List Wr1) (rds : List Nat) (m : Nat) : Owner := match sfind sf m with
  | some .val => .imm
  | some (.al l) => .loc l
  | _ => if m ∈ rds then .rd else .foreign
def callOw (G : Gh) (sf : List Wr1) (rds : List Nat) (vars : List AVar) (k : Nat) : Owner := match G.Ow k with
  | .imm => .imm
  | .rd => .rd
  | .foreign => .foreign
  | .loc m => rhoC sf rds m
  | .box b => match vars.find? (fun v => Nat.beq v.b b) with
    | some v => if k = (G.B b).1 then .box v.i else .foreign
    | none => .foreign
def callV (G : Gh) (items : List AItem) (args : Array Value) (l : Nat) : Value := match items.find? (fun x => Nat.beq x.l l) with
  | some it => lsV G it.x
  | none => if 128000 ≤ l ∧ l < 256000 then (match items.find? (fun x => Nat.beq x.l (l + 128000)) with | some it => lsV G it.x | none => undef) else args.getD (l / 64) undef
def callB (G : Gh) (vars : List AVar) (i : Nat) : Nat × Nat := match vars.find? (fun v => Nat.beq v.i i) with
  | some v => ((G.B v.b).1, (G.B v.b).2 + v.off)
  | none => (0, 0)
def callG (G : Gh) (items : List AItem) (args : Array Value) (sf : List Wr1) (rds : List Nat) (vars : List AVar) : Gh := ⟨callV G items args, callOw G sf rds vars, callB G vars⟩
structure CallPre (Γ : SEnv) (S : PSt) (G : Gh) (w : World) (gs : List (Nat × Bool)) (e : Entry) (as : List AOne) (ys : List (Src × List Wr1)) (args : Array Value) : Prop where
  R : HRel Γ S G w
  ghs : GHs gs S
  ps : psOk e.ps = true
  len : as.length = e.ps.length
  size : args.size = e.ps.length
  aok : ∀ (i : Nat) (q : PS) (x : AOne) (v : Value), e.ps[i]? = some q → as[i]? = some x → args[i]? = some v → AOk Γ G v q x
  run : (mapRd (fun x : AItem => aIt gs x.m x.l x.x) (itemsOf 0 e.ps as)).run Γ = some ys
  chk : callChk e (itemsOf 0 e.ps as) (varsOf 0 e.ps as) (chOf 0 e.ps as) (ys.flatMap fun y => y.2) (rdsOf (itemsOf 0 e.ps as) ys) = true
section
variable {e : Entry} {as : List AOne} {ys : List (Src × List Wr1)} {args : Array Value}
theorem CallPre.args_get (c : CallPre Γ S G w gs e as ys args) {i : Nat} {q : PS} {x : AOne} (h1 : e.ps[i]? = some q) (h2 : as[i]? = some x) : ∃ v, args[i]? = some v ∧ AOk Γ G v q x := by
  have hi : i < args.size := by rw [c.size]; exact (List.getElem?_eq_some_iff.1 h1).1
  exact ⟨args[i], Array.getElem?_eq_getElem hi, c.aok i q x _ h1 h2 (Array.getElem?_eq_getElem hi)⟩
theorem CallPre.shp (c : CallPre Γ S G w gs e as ys args) : ∀ (i : Nat) (q : PS) (x : AOne), e.ps[i]? = some q → as[i]? = some x → Shp q x := by
  intro i q x h1 h2
  obtain ⟨v, _, h⟩ := c.args_get h1 h2
  exact h.shp
structure ChkOk (e : Entry) (items : List AItem) (vars : List AVar) (ch : List ACh) (sf : List Wr1) (rds : List Nat) : Prop where
  so : (softLocs sf).Nodup
  vin : items.map (fun x => x.l) = psVin 0 e.ps
  nvin : (items.map fun x => x.l).Nodup
  nb : (vars.map fun x => x.b).Nodup
  ni : (vars.map fun x => x.i).Nodup
  out : ch.map (fun x => x.l) = psOut 0 e.ps
  npost : (postLocs e).Nodup
  nes : ((postEs e).map fun x => x.l).Nodup
  rd : ∀ m ∈ rds, m ∉ softOwn sf
theorem callChk_ok {items : List AItem} {vars : List AVar} {ch : List ACh} {sf : List Wr1} {rds : List Nat} (h : callChk e items vars ch sf rds = true) : ChkOk e items vars ch sf rds := by
  simp only [callChk, Bool.and_eq_true, decide_eq_true_eq, List.all_eq_true, Bool.not_eq_true'] at h
  obtain ⟨⟨⟨⟨⟨⟨⟨⟨h1, h2⟩, h3⟩, h4⟩, h5⟩, h6⟩, h7⟩, h8⟩, h9⟩ := h
  refine ⟨nodupN_nodup h1, h2, by rw [h2]; exact nodupN_nodup h3, nodupN_nodup h4, nodupN_nodup h5, h6, nodupN_nodup h7, nodupN_nodup h8, ?_⟩
  intro m hm hs
  have := h9 m hm
  rw [anyBeq.2 hs] at this
  cases this
theorem CallPre.itemLt (c : CallPre Γ S G w gs e as ys args) : ∀ it ∈ itemsOf 0 e.ps as, (∃ i s ms ls j, e.ps[i]? = some (PS.v s ms) ∧ as[i]? = some (AOne.v ls) ∧ ls[j]? = some it.x ∧ it.l = lc i j ∧ i < 80 ∧ j < 64) ∨
    ∃ v ∈ varsOf 0 e.ps as, ∃ j, j < v.n ∧ it.l = shd v.i j ∧ it.x = .loc (bc v.b (v.off + j)) := by
  intro it hit
  obtain ⟨p1, p2, _⟩ := psOk_spec c.ps
  rcases itemsOf_in hit with ⟨i, s, ms, ls, j, h1, h2, h3, h4⟩ | h
  · rw [Nat.zero_add] at h4
    obtain ⟨v, _, _, q2, q3, _⟩ := c.args_get h1 h2
    have hi := (List.getElem?_eq_some_iff.1 h1).1
    have hj := (List.getElem?_eq_some_iff.1 h3).1
    have := p2 _ (List.mem_of_getElem? h1)
    simp only [psOk1, Bool.and_eq_true] at this
    have h64 := Nat.le_of_ble_eq_true this.1
    exact .inl ⟨i, s, ms, ls, j, h1, h2, h3, h4, by omega, by omega⟩
  · exact .inr h
theorem CallPre.varLt (c : CallPre Γ S G w gs e as ys args) : ∀ v ∈ varsOf 0 e.ps as, PB e.ps.length v.i ∧ (v.i, v.n) ∈ psBs 0 e.ps ∧ ∃ n, (Γ (bm v.b)).sh = some (.bx n) ∧ v.off + v.n ≤ n ∧ n ≤ 64 ∧ v.b < 2000 := by
  intro v hv
  obtain ⟨p1, p2, _⟩ := psOk_spec c.ps
  have h1 := (varsOf_bs (i0 := 0) c.len c.shp).1 v hv
  refine ⟨mem_psBs p1 (i0 := 0) (by omega) p2 h1, h1, ?_⟩
  obtain ⟨n, h2, h3⟩ := varsOf_ok (i0 := 0) (fun i q x h1 h2 => by obtain ⟨v, _, h⟩ := c.args_get h1 h2; exact ⟨v, h⟩) v hv
  obtain ⟨h4, h5⟩ := c.R.bsm v.b n h2
  exact ⟨n, h2, h3, h4, h5⟩
theorem CallPre.V_item (c : CallPre Γ S G w gs e as ys args) : ∀ it ∈ itemsOf 0 e.ps as, callV G (itemsOf 0 e.ps as) args it.l = lsV G it.x := by
  intro it hit
  unfold callV
  rw [findU (f := fun x : AItem => x.l) (callChk_ok c.chk).nvin hit]
theorem find_none {α : Type} {f : α → Nat} {l : List α} {n : Nat} (h : ∀ x ∈ l, f x ≠ n) : l.find? (fun y => Nat.beq (f y) n) = none := by
  rw [List.find?_eq_none]
  intro x hx e
  exact h x hx (Nat.eq_of_beq_eq_true e)
theorem CallPre.V_cell (c : CallPre Γ S G w gs e as ys args) : ∀ v ∈ varsOf 0 e.ps as, ∀ j, j < v.n → callV G (itemsOf 0 e.ps as) args (bc v.i j) = G.V (bc v.b (v.off + j)) := by
  intro v hv j hj
  obtain ⟨h1, _, n, h2, h3, h4, h5⟩ := c.varLt v hv
  have hvi := h1.1
  unfold callV
  rw [find_none (f := fun x : AItem => x.l)]
  · rw [if_pos (by simp only [bc]; omega)]
    obtain ⟨it, q1, q2, q3⟩ := varsOf_items v hv j hj
    have e1 : bc v.i j + 128000 = it.l := by rw [q2]; simp only [bc, shd]; omega
    rw [e1, findU (f := fun x : AItem => x.l) (callChk_ok c.chk).nvin q1]
    simp only
    rw [q3]
    rfl
  · intro it hit he
    rcases c.itemLt it hit with ⟨i, s, ms, ls, j', _, _, _, h6, h7, h8⟩ | ⟨v', hv', j', _, h6, _⟩
    · rw [h6] at he; simp only [lc, bc] at he; omega
    · rw [h6] at he; simp only [shd, bc] at he; omega
theorem CallPre.V_arg (c : CallPre Γ S G w gs e as ys args) {i : Nat} {q : PS} (hq : e.ps[i]? = some q) (hv : ∀ s ms, q ≠ PS.v s ms) : callV G (itemsOf 0 e.ps as) args (lc i 0) = args.getD i undef := by
  obtain ⟨p1, _, _⟩ := psOk_spec c.ps
  have hi := (List.getElem?_eq_some_iff.1 hq).1
  unfold callV
  rw [find_none (f := fun x : AItem => x.l)]
  · simp only
    rw [if_neg (by simp only [lc]; omega)]
    congr 1
    simp only [lc]
    omega
  · intro it hit he
    rcases c.itemLt it hit with ⟨i', s, ms, ls, j', h3, _, _, h6, h7, h8⟩ | ⟨v', hv', j', _, h6, _⟩
    · rw [h6] at he
      have : i' = i := by simp only [lc] at he; omega
      subst this
      rw [hq] at h3
      injection h3 with h3
      exact hv _ _ h3
    · rw [h6] at he; simp only [shd, lc] at he; omega
theorem CallPre.B_var (c : CallPre Γ S G w gs e as ys args) : ∀ v ∈ varsOf 0 e.ps as, callB G (varsOf 0 e.ps as) v.i = ((G.B v.b).1, (G.B v.b).2 + v.off) := by
  intro v hv
  unfold callB
  rw [findU (f := fun x : AVar => x.i) (callChk_ok c.chk).ni hv]
theorem CallPre.Ow_var (c : CallPre Γ S G w gs e as ys args) (rds : List Nat) (sf : List Wr1) : ∀ v ∈ varsOf 0 e.ps as, G.Ow (G.B v.b).1 = .box v.b → callOw G sf rds (varsOf 0 e.ps as) (G.B v.b).1 = .box v.i := by
  intro v hv h
  unfold callOw
  rw [h]
  simp only
  rw [findU (f := fun x : AVar => x.b) (callChk_ok c.chk).nb hv]
  simp
theorem callOw_imm {sf : List Wr1} {rds : List Nat} {vars : List AVar} {k : Nat} (h : G.Ow k = .imm) : callOw G sf rds vars k = .imm := by unfold callOw; rw [h]
theorem callOw_rd {sf : List Wr1} {rds : List Nat} {vars : List AVar} {k : Nat} (h : G.Ow k = .rd) : callOw G sf rds vars k = .rd := by unfold callOw; rw [h]
theorem callOw_foreign {sf : List Wr1} {rds : List Nat} {vars : List AVar} {k : Nat} (h : G.Ow k = .foreign) : callOw G sf rds vars k = .foreign := by unfold callOw; rw [h]
theorem callOw_loc {sf : List Wr1} {rds : List Nat} {vars : List AVar} {k m : Nat} (h : G.Ow k = .loc m) : callOw G sf rds vars k = rhoC sf rds m := by unfold callOw; rw [h]
theorem CallPre.start (c : CallPre Γ S G w gs e as ys args) :
    HRel (envOf (psIn 0 e.ps)) (mkS (psVin 0 e.ps) (ys.map fun y => y.1.get S)) (callG G (itemsOf 0 e.ps as) args (ys.flatMap fun y => y.2) (rdsOf (itemsOf 0 e.ps as) ys) (varsOf 0 e.ps as)) w ∧
      ArgsOk (callG G (itemsOf 0 e.ps as) args (ys.flatMap fun y => y.2) (rdsOf (itemsOf 0 e.ps as) ys) (varsOf 0 e.ps as)) e.ps args := by
  have k := callChk_ok c.chk
  obtain ⟨hlen, hget⟩ := mapRd_run c.run
  obtain ⟨p1, p2, _⟩ := psOk_spec c.ps
  generalize hsf : (ys.flatMap fun y => y.2) = sf at *
  have hrds : ∀ m ∈ rdsOf (itemsOf 0 e.ps as) ys, m ∉ softOwn sf := k.rd
  generalize hrd : rdsOf (itemsOf 0 e.ps as) ys = rds at *
  have hstill : Still w G.Ow w (callOw G sf rds (varsOf 0 e.ps as)) := fun b hb => ⟨rfl, callOw_imm hb⟩
  have hitem : ∀ it ∈ itemsOf 0 e.ps as, LOk w (callG G (itemsOf 0 e.ps as) args sf rds (varsOf 0 e.ps as)) (mkS (psVin 0 e.ps) (ys.map fun y => y.1.get S)) it.l it.m.tag := by
    intro it hit
    have hV := c.V_item it hit
    obtain ⟨n, hn⟩ := List.getElem?_of_mem hit
    obtain ⟨y, hy, hr⟩ := hget n it hn
    have hlo : lsOk it.x := by
      rcases c.itemLt it hit with ⟨i, s, ms, ls, j', h1, h2, h3, _⟩ | ⟨v', _, j', _, _, h6⟩
      · obtain ⟨v, _, h4⟩ := c.args_get h1 h2
        exact h4.2.2.2 _ (List.mem_of_getElem? h3)
      · rw [h6]; trivial
    have hS : mkS (psVin 0 e.ps) (ys.map fun y => y.1.get S) it.l = y.1.get S := by
      rw [← k.vin]
      refine upds_zip (by simp [hlen]) (List.mem_map.2 ⟨it, hit, rfl⟩) ?_
      intro i hi
      have hik : i = n := by
        simp only [List.getElem?_map, Option.map_eq_some_iff] at hi
        obtain ⟨it2, hi2, he⟩ := hi
        exact nodup_idx k.nvin hi2 hn he
      subst hik
      simp [hy]
    have hsub : ∀ z ∈ y.2, z ∈ sf := fun z hz => by rw [← hsf]; exact List.mem_flatMap.2 ⟨y, List.mem_of_getElem? hy, hz⟩
    have hone := aIt_ok c.R c.ghs hlo (src := y.1) (sf := y.2) hr
    cases hm : it.m with
    | rd =>
      rw [hm] at hone
      show RdV w (callOw G sf rds (varsOf 0 e.ps as)) (callV G (itemsOf 0 e.ps as) args it.l) _
      rw [hV, hS]
      rcases hone with h | ⟨m, t, xs, h1, h2, h3⟩
      · exact RdV.still hstill (fun b hb => ⟨rfl, callOw_rd hb⟩) h
      · rw [h2]
        have hmr : m ∈ rds := by rw [← hrd]; exact rdsOf_mem hn hy hm h1
        have hns := hrds m hmr
        have key : ∀ b, G.Ow b = .loc m → w.heap[b]? = w.heap[b]? ∧ (callOw G sf rds (varsOf 0 e.ps as) b = .imm ∨ callOw G sf rds (varsOf 0 e.ps as) b = .rd) := by
          intro b hb
          refine ⟨rfl, ?_⟩
          rw [callOw_loc hb]
          unfold rhoC
          split
          · exact .inl rfl
          · rename_i l hl
            exact absurd (softOwn_mem (sfind_some hl)) hns
          · rw [if_pos hmr]; exact .inr rfl
        exact SlV.still (p := fun b => G.Ow b = .loc m) (q := fun b => callOw G sf rds (varsOf 0 e.ps as) b = .imm ∨ callOw G sf rds (varsOf 0 e.ps as) b = .rd) hstill key (h3.slv fun b hb => hb)
    | val =>
      rw [hm] at hone
      show Rep w (callOw G sf rds (varsOf 0 e.ps as)) (callV G (itemsOf 0 e.ps as) args it.l) _
      rw [hV, hS]
      refine FZ.rep hone hstill ?_
      intro m hm b hb
      refine ⟨rfl, ?_⟩
      rw [callOw_loc hb]
      simp [rhoC, sfind_of_mem k.so (hsub _ hm)]
    | own =>
      rw [hm] at hone
      obtain ⟨t, xs, q1, q2⟩ := hone
      refine ⟨t, xs, hS.trans q1, ?_⟩
      show OwnV w (callOw G sf rds (varsOf 0 e.ps as)) it.l (callV G (itemsOf 0 e.ps as) args it.l) t xs
      rw [hV]
      rcases q2 with q2 | ⟨m, q2, q3⟩
      · exact .inl q2
      · refine q3.still hstill fun b hb => ⟨rfl, ?_⟩
        rw [callOw_loc hb]
        simp [rhoC, sfind_of_mem k.so (hsub _ q2)]
  have hpin : ∀ e' ∈ psIn 0 e.ps, PIn 0 e.ps as (itemsOf 0 e.ps as) (varsOf 0 e.ps as) e' := fun e' h => psIn_pin c.len c.shp h
  refine ⟨⟨?_, ?_, ?_, ?_⟩, c.size, ?_⟩
  · intro l _
    rcases envOf_cases (psIn 0 e.ps) l with h | ⟨e', he, rfl, h⟩
    · rw [h]; trivial
    · rw [h]
      simp only
      rcases hpin e' he with ⟨it, k1, k2, k3, _⟩ | ⟨v, k1, j, k2, rfl⟩ | ⟨v, k1, rfl⟩ | ⟨i, v, k1, k2, k3, ⟨cin, cout, k4⟩, rfl⟩ | ⟨i, fid, caps, cl, k1, k2, rfl, k4⟩
      · rw [k2, k3]; exact hitem it k1
      · show callV G _ args (bc v.i j) = callV G _ args (shd v.i j)
        rw [c.V_cell v k1 j k2]
        obtain ⟨it, q1, q2, q3⟩ := varsOf_items v k1 j k2
        rw [← q2, c.V_item it q1, q3]
        rfl
      · trivial
      · rw [Nat.zero_add]
        rw [Nat.zero_add] at k2
        show callV G _ args (lc i 0) = .pointer (some ⟨(callB G _ i).1, (callB G _ i).2 + 0, none⟩)
        rw [c.V_arg k4 (by intro s ms h; cases h), ← k2, c.B_var v k1]
        obtain ⟨x, q1, q2⟩ := c.args_get k4 k3
        rw [k2, Array.getD_eq_getD_getElem?, q1]
        exact q2.1
      · rw [Nat.zero_add]
        show callV G _ args (lc i 0) = .func (.func fid) #[] (((List.range caps.length).map fun k => (capB i k, 0)).map (capV (callG G (itemsOf 0 e.ps as) args sf rds (varsOf 0 e.ps as)))).toArray
        rw [c.V_arg k1 (by intro s ms h; cases h)]
        obtain ⟨x, q1, q2, q3, q4⟩ := c.args_get k1 k2
        rw [Array.getD_eq_getD_getElem?, q1]
        simp only [Option.getD_some]
        rw [q2]
        congr 2
        rw [List.map_map]
        refine List.ext_getElem (by simp [q3]) ?_
        intro n h1 h2
        simp only [List.length_map] at h1
        obtain ⟨v, r1, r2, r3, r4⟩ := k4 n cl[n] (List.getElem?_eq_getElem h1)
        rw [Nat.zero_add] at r2
        simp only [List.getElem_map, List.getElem_range, Function.comp_apply, capV, callG]
        rw [← r2, c.B_var v r1, r3, r4]
        rfl
  · intro b n hn
    rcases envOf_cases (psIn 0 e.ps) (bm b) with h | ⟨e', he, hl, h⟩
    · rw [h] at hn; cases hn
    · rw [h] at hn
      simp only at hn
      rcases hpin e' he with ⟨it, k1, k2, k3, k5⟩ | ⟨v, k1, j, k2, rfl⟩ | ⟨v, k1, rfl⟩ | ⟨i, v, k1, k2, k3, ⟨cin, cout, k4⟩, rfl⟩ | ⟨i, fid, caps, cl, k1, k2, rfl, k4⟩
      · exact absurd hn (k5 n)
      · cases hn
      · injection hn with hn
        injection hn with hn
        subst hn
        have := bm_inj hl
        subst this
        obtain ⟨h1, _, n', h2, h3, h4, h5⟩ := c.varLt v k1
        obtain ⟨x1, x2⟩ := c.R.box v.b n' h2
        show callOw G _ _ _ (callB G _ v.i).1 = _ ∧ ∀ j, j < v.n → w.cell? ⟨(callB G _ v.i).1, (callB G _ v.i).2 + j, none⟩ = some (callV G _ args (bc v.i j)) ∧ w.frozen? ⟨(callB G _ v.i).1, (callB G _ v.i).2 + j, none⟩ = false
        rw [c.B_var v k1]
        refine ⟨c.Ow_var rds sf v k1 x1, ?_⟩
        intro j hj
        rw [c.V_cell v k1 j hj]
        have := x2 (v.off + j) (by omega)
        rw [← Nat.add_assoc] at this
        exact this
      · injection hn with hn; cases hn
      · injection hn with hn; cases hn
  · intro n hn
    exact callOw_foreign (c.R.new n hn)
  · intro b n hn
    rcases envOf_cases (psIn 0 e.ps) (bm b) with h | ⟨e', he, hl, h⟩
    · rw [h] at hn; cases hn
    · rw [h] at hn
      simp only at hn
      rcases hpin e' he with ⟨it, k1, k2, k3, k5⟩ | ⟨v, k1, j, k2, rfl⟩ | ⟨v, k1, rfl⟩ | ⟨i, v, k1, k2, k3, ⟨cin, cout, k4⟩, rfl⟩ | ⟨i, fid, caps, cl, k1, k2, rfl, k4⟩
      · exact absurd hn (k5 n)
      · cases hn
      · injection hn with hn
        injection hn with hn
        subst hn
        have := bm_inj hl
        subst this
        obtain ⟨h1, _, n', h2, h3, h4, h5⟩ := c.varLt v k1
        have := h1.1
        exact ⟨by omega, by omega⟩
      · injection hn with hn; cases hn
      · injection hn with hn; cases hn
  · intro i q hq
    have hi : i < as.length := by rw [c.len]; exact (List.getElem?_eq_some_iff.1 hq).1
    obtain ⟨v, h1, h2⟩ := c.args_get hq (List.getElem?_eq_getElem hi)
    rw [h1]
    congr 1
    have hx := List.getElem?_eq_getElem hi
    generalize as[i] = x at h2 hx
    have harg : (∀ s ms, q ≠ PS.v s ms) → v = callV G (itemsOf 0 e.ps as) args (lc i 0) := by
      intro hv
      rw [c.V_arg hq hv, Array.getD_eq_getD_getElem?, h1]
      rfl
    cases q with
    | v s ms =>
      cases x with
      | v ls =>
        obtain ⟨q1, q2, q3, q4⟩ := h2
        rw [q1]
        refine asm1_congr fun j hj => ?_
        have hj1 : j < ls.length := by omega
        have hj2 : j < ms.length := by omega
        have hit := itemsOf_v (i0 := 0) c.shp hq hx (List.getElem?_eq_getElem hj2) (List.getElem?_eq_getElem hj1)
        rw [Nat.zero_add] at hit
        have := c.V_item _ hit
        show _ = callV G _ args (lc i j)
        rw [this, List.getElem?_eq_getElem hj1]
        rfl
      | _ => exact h2.elim
    | p cin cout => exact harg (by intro s ms h; cases h)
    | f fid caps => exact harg (by intro s ms h; cases h)
end
end Go.Proofs.Fw
set_option linter.unusedVariables false
set_option linter.unusedSimpArgs false
namespace Go.Proofs.Fw
variable {P : Program} {Γ : SEnv} {S : PSt} {G : Gh} {w : World} {N : Nat} {a : Act} {gd : Option (Nat × Bool)} {gs : List (Nat × Bool)} {o : Oper} {bs : List (Nat × Nat)} {d : Nat} {sem : CSem} {us : List (Nat × Univ)} {Np : Nat}
def ownTag (b : Bool) : LTag := match b with | true => .own | false => .val
theorem outCh_get {i b off : Nat} : ∀ {cout : List OM} {j0 j : Nat}, j < cout.length → ((⟨bc i (j0 + j), .al (shd i (j0 + j)), none⟩ : LE) ∈ cellsOut i i j0 cout) ∨
    ∃ c ∈ outCh i b off j0 cout, c.l = bc i (j0 + j) ∧ c.m = bc b (off + (j0 + j))
  | [], _, _, h => by cases h
  | x :: r, j0, j, h => by
    cases j with
    | zero => cases x <;> first | exact .inl List.mem_cons_self | exact .inr ⟨_, List.mem_cons_self, rfl, rfl⟩
    | succ j =>
      have := outCh_get (i := i) (b := b) (off := off) (cout := r) (j0 := j0 + 1) (j := j) (by simpa using h)
      rw [show j0 + 1 + j = j0 + (j + 1) by omega] at this
      rcases this with h5 | ⟨c, h1, h2⟩
      · left; clear h; cases x <;> exact List.mem_cons_of_mem _ h5
      · right; clear h; cases x <;> first | exact ⟨c, h1, h2⟩ | exact ⟨c, List.mem_cons_of_mem _ h1, h2⟩
theorem outCh_in {i b off : Nat} : ∀ {cout : List OM} {j0 : Nat} {c : ACh}, c ∈ outCh i b off j0 cout → ∃ j, j < cout.length ∧ c.l = bc i (j0 + j) ∧ c.m = bc b (off + (j0 + j)) ∧ (⟨c.l, ownTag c.own, none⟩ : LE) ∈ cellsOut i i j0 cout
  | [], _, _, h => by cases h
  | x :: r, j0, c, h => by
    have up : c ∈ outCh i b off (j0 + 1) r → ∃ j, j < (x :: r).length ∧ c.l = bc i (j0 + j) ∧ c.m = bc b (off + (j0 + j)) ∧ (⟨c.l, ownTag c.own, none⟩ : LE) ∈ cellsOut i i j0 (x :: r) := by
      intro h
      obtain ⟨j, h1, h2, h3, h4⟩ := outCh_in h
      rw [show j0 + 1 + j = j0 + (j + 1) by omega] at h2 h3
      exact ⟨j + 1, by simpa using h1, h2, h3, by cases x <;> exact List.mem_cons_of_mem _ h4⟩
    cases x with
    | same => exact up h
    | val =>
      rcases List.mem_cons.1 h with rfl | h
      · exact ⟨0, by simp, rfl, rfl, List.mem_cons_self⟩
      · exact up h
    | own =>
      rcases List.mem_cons.1 h with rfl | h
      · exact ⟨0, by simp, rfl, rfl, List.mem_cons_self⟩
      · exact up h
theorem cellsOut_same {i : Nat} : ∀ {c : List PM} {j0 j : Nat}, j < c.length → (⟨bc i (j0 + j), .al (shd i (j0 + j)), none⟩ : LE) ∈ cellsOut i i j0 (c.map fun _ => OM.same)
  | [], _, _, h => by cases h
  | x :: r, j0, j, h => by
    cases j with
    | zero => exact List.mem_cons_self
    | succ j =>
      have := cellsOut_same (i := i) (c := r) (j0 := j0 + 1) (j := j) (by simpa using h)
      rw [show j0 + 1 + j = j0 + (j + 1) by omega] at this
      exact List.mem_cons_of_mem _ this
theorem cloVars_out {i : Nat} : ∀ {caps : List (List PM)} {cl : List (Nat × Nat)} {k0 : Nat}, ∀ v ∈ cloVars i k0 caps cl, (⟨bm v.i, .dead, some (.bx v.n)⟩ : LE) ∈ capsOut i k0 caps ∧ ∀ j, j < v.n → (⟨bc v.i j, .al (shd v.i j), none⟩ : LE) ∈ capsOut i k0 caps
  | [], _, _, v, h => by simp [cloVars] at h
  | c :: r, [], _, v, h => by simp [cloVars] at h
  | c :: r, x :: s, k0, v, h => by
    rcases List.mem_cons.1 h with rfl | h
    · refine ⟨List.mem_cons_self, ?_⟩
      intro j hj
      have := cellsOut_same (i := capB i k0) (c := c) (j0 := 0) (j := j) hj
      rw [Nat.zero_add] at this
      exact List.mem_cons_of_mem _ (List.mem_append_left _ this)
    · obtain ⟨h1, h2⟩ := cloVars_out v h
      exact ⟨List.mem_cons_of_mem _ (List.mem_append_right _ h1), fun j hj => List.mem_cons_of_mem _ (List.mem_append_right _ (h2 j hj))⟩
theorem varsOf_out : ∀ {ps : List PS} {as : List AOne} {i0 : Nat}, (∀ p ∈ ps, psOk1 p = true) → (∀ (i : Nat) (q : PS) (x : AOne), ps[i]? = some q → as[i]? = some x → Shp q x) →
    (∀ v ∈ varsOf i0 ps as, (⟨bm v.i, .dead, some (.bx v.n)⟩ : LE) ∈ psEs i0 ps ∧ ∀ j, j < v.n → ((⟨bc v.i j, .al (shd v.i j), none⟩ : LE) ∈ psEs i0 ps ∨ ∃ c ∈ chOf i0 ps as, c.l = bc v.i j ∧ c.m = bc v.b (v.off + j))) ∧
    ∀ c ∈ chOf i0 ps as, ∃ v ∈ varsOf i0 ps as, ∃ j, j < v.n ∧ c.l = bc v.i j ∧ c.m = bc v.b (v.off + j) ∧ (⟨c.l, ownTag c.own, none⟩ : LE) ∈ psEs i0 ps
  | [], as, _, _, _ => ⟨(by intro v h; simp [varsOf] at h), (by intro c h; simp [chOf] at h)⟩
  | q :: r, [], _, _, _ => ⟨(by intro v h; cases q <;> simp [varsOf] at h), (by intro c h; cases q <;> simp [chOf] at h)⟩
  | q :: r, x :: s, i0, hok, hs => by
    have h0 := hs 0 q x rfl rfl
    have hok1 := hok q List.mem_cons_self
    obtain ⟨i1, i2⟩ := varsOf_out (ps := r) (as := s) (i0 := i0 + 1) (fun p hp => hok p (List.mem_cons_of_mem _ hp)) (fun i q x h1 h2 => hs (i + 1) q x (by simpa using h1) (by simpa using h2))
    cases q <;> cases x <;> try exact h0.elim
    · exact ⟨i1, i2⟩
    · rename_i cin cout b off
      obtain ⟨_, hl⟩ := psOk1_p hok1
      refine ⟨?_, ?_⟩
      · intro v h
        rcases List.mem_cons.1 h with rfl | h
        · refine ⟨List.mem_cons_self, ?_⟩
          intro j hj
          have hj : j < cout.length := by rw [hl]; exact hj
          rcases outCh_get (i := i0) (b := b) (off := off) (j0 := 0) hj with h | ⟨c, h1, h2, h3⟩
          · rw [Nat.zero_add] at h
            exact .inl (List.mem_cons_of_mem _ (List.mem_append_left _ h))
          · rw [Nat.zero_add] at h2 h3
            exact .inr ⟨c, List.mem_append_left _ h1, h2, h3⟩
        · obtain ⟨k1, k2⟩ := i1 v h
          refine ⟨List.mem_cons_of_mem _ (List.mem_append_right _ k1), fun j hj => ?_⟩
          rcases k2 j hj with k | ⟨c, k3, k4⟩
          · exact .inl (List.mem_cons_of_mem _ (List.mem_append_right _ k))
          · exact .inr ⟨c, List.mem_append_right _ k3, k4⟩
      · intro c h
        rcases List.mem_append.1 h with h | h
        · obtain ⟨j, h1, h2, h3, h4⟩ := outCh_in h
          rw [Nat.zero_add] at h2 h3
          exact ⟨_, List.mem_cons_self, j, by rw [hl] at h1; exact h1, h2, h3, List.mem_cons_of_mem _ (List.mem_append_left _ h4)⟩
        · obtain ⟨v, k1, j, k2, k3, k4, k5⟩ := i2 c h
          exact ⟨v, List.mem_cons_of_mem _ k1, j, k2, k3, k4, List.mem_cons_of_mem _ (List.mem_append_right _ k5)⟩
    · refine ⟨?_, ?_⟩
      · intro v h
        rcases List.mem_append.1 h with h | h
        · obtain ⟨k1, k2⟩ := cloVars_out v h
          exact ⟨List.mem_append_left _ k1, fun j hj => .inl (List.mem_append_left _ (k2 j hj))⟩
        · obtain ⟨k1, k2⟩ := i1 v h
          refine ⟨List.mem_append_right _ k1, fun j hj => ?_⟩
          rcases k2 j hj with k | ⟨c, k3, k4⟩
          · exact .inl (List.mem_append_right _ k)
          · exact .inr ⟨c, k3, k4⟩
      · intro c h
        obtain ⟨v, k1, j, k2, k3, k4, k5⟩ := i2 c h
        exact ⟨v, List.mem_append_right _ k1, j, k2, k3, k4, List.mem_append_right _ k5⟩
theorem cellsNew_get : ∀ {cells : List PM} {k0 k : Nat} {m : PM}, cells[k]? = some m → (⟨bc NB (k0 + k), ownTag (pmOwn m), none⟩ : LE) ∈ cellsNew k0 cells
  | [], _, _, _, h => by cases h
  | x :: r, k0, k, m, h => by
    cases k with
    | zero => simp at h; subst h; exact List.mem_cons_self
    | succ k =>
      have := cellsNew_get (k0 := k0 + 1) (k := k) (by simpa using h) (cells := r)
      rw [show k0 + 1 + k = k0 + (k + 1) by omega] at this
      exact List.mem_cons_of_mem _ this
def rtOwn : RT → Bool
  | .own => true
  | _ => false
theorem resEs_get : ∀ {rts : List RT} {j0 j : Nat} {rt : RT}, rts[j]? = some rt → match rt with
    | .nb cells => (⟨rl (j0 + j), .ptr NB 0, none⟩ : LE) ∈ resEs j0 rts ∧ (⟨bm NB, .dead, some (.bx cells.length)⟩ : LE) ∈ resEs j0 rts ∧ ∀ e ∈ cellsNew 0 cells, e ∈ resEs j0 rts
    | rt => (⟨rl (j0 + j), ownTag (rtOwn rt), none⟩ : LE) ∈ resEs j0 rts
  | [], _, _, _, h => by cases h
  | x :: r, j0, j, rt, h => by
    cases j with
    | zero =>
      simp at h
      subst h
      cases x with
      | val => exact List.mem_cons_self
      | own => exact List.mem_cons_self
      | nb cells => exact ⟨List.mem_cons_self, List.mem_cons_of_mem _ List.mem_cons_self, fun e he => List.mem_cons_of_mem _ (List.mem_cons_of_mem _ (List.mem_append_left _ he))⟩
    | succ j =>
      have up : ∀ e, e ∈ resEs (j0 + 1) r → e ∈ resEs j0 (x :: r) := by
        intro e he
        cases x with
        | val => exact List.mem_cons_of_mem _ he
        | own => exact List.mem_cons_of_mem _ he
        | nb cells => exact List.mem_cons_of_mem _ (List.mem_cons_of_mem _ (List.mem_append_right _ he))
      have := resEs_get (j0 := j0 + 1) (j := j) (by simpa using h) (rts := r)
      rw [show j0 + 1 + j = j0 + (j + 1) by omega] at this
      cases rt with
      | val => exact up _ this
      | own => exact up _ this
      | nb cells => exact ⟨up _ this.1, up _ this.2.1, fun e he => up _ (this.2.2 e he)⟩
theorem zip_res (d : Nat) : ∀ (rts : List RT) (j0 : Nat), (resLocs j0 rts).length = (rtLocs d j0 rts).length ∧ ∀ (j : Nat) (rt : RT), rts[j]? = some rt → (∀ c, rt ≠ .nb c) → (rl (j0 + j), lc d (j0 + j)) ∈ (resLocs j0 rts).zip (rtLocs d j0 rts)
  | [], _ => ⟨rfl, by intro j rt h; cases h⟩
  | x :: r, j0 => by
    obtain ⟨i1, i2⟩ := zip_res d r (j0 + 1)
    have up : ∀ (j : Nat) (rt : RT), (x :: r)[j + 1]? = some rt → (∀ c, rt ≠ .nb c) → (rl (j0 + (j + 1)), lc d (j0 + (j + 1))) ∈ (resLocs (j0 + 1) r).zip (rtLocs d (j0 + 1) r) := by
      intro j rt h1 h2
      have := i2 j rt (by simpa using h1) h2
      rw [show j0 + 1 + j = j0 + (j + 1) by omega] at this
      exact this
    cases x with
    | nb c =>
      refine ⟨i1, ?_⟩
      intro j rt h1 h2
      cases j with
      | zero => simp at h1; exact absurd h1.symm (h2 c)
      | succ j => exact up j rt h1 h2
    | val =>
      refine ⟨by simp [resLocs, rtLocs, i1], ?_⟩
      intro j rt h1 h2
      cases j with
      | zero => exact List.mem_cons_self
      | succ j => exact List.mem_cons_of_mem _ (up j rt h1 h2)
    | own =>
      refine ⟨by simp [resLocs, rtLocs, i1], ?_⟩
      intro j rt h1 h2
      cases j with
      | zero => exact List.mem_cons_self
      | succ j => exact List.mem_cons_of_mem _ (up j rt h1 h2)
theorem zip_new (d : Nat) : ∀ (rts : List RT), (newLocs rts).length = (rtNewLocs d rts).length ∧ ∀ (j : Nat) (cells : List PM), rts[j]? = some (RT.nb cells) → ∀ k, k < cells.length → (bc NB k, bc d k) ∈ (newLocs rts).zip (rtNewLocs d rts)
  | [] => ⟨rfl, by intro j c h; cases h⟩
  | x :: r => by
    obtain ⟨i1, i2⟩ := zip_new d r
    cases x with
    | nb c =>
      refine ⟨by simp [newLocs, rtNewLocs, i1, rangeL], ?_⟩
      intro j cells h k hk
      have e : (newLocs (.nb c :: r)).zip (rtNewLocs d (.nb c :: r)) = (rangeL (bc NB 0) c.length).zip (rangeL (bc d 0) c.length) ++ (newLocs r).zip (rtNewLocs d r) := by
        simp only [newLocs, rtNewLocs]
        exact List.zip_append (by simp [rangeL])
      rw [e]
      cases j with
      | zero =>
        simp at h
        subst h
        refine List.mem_append_left _ (List.mem_iff_getElem?.2 ⟨k, ?_⟩)
        rw [List.getElem?_zip_eq_some]
        simp [rangeL, hk, bc]
      | succ j => exact List.mem_append_right _ (i2 j cells (by simpa using h) k hk)
    | val =>
      refine ⟨i1, ?_⟩
      intro j cells h k hk
      cases j with
      | zero => simp at h
      | succ j => exact i2 j cells (by simpa using h) k hk
    | own =>
      refine ⟨i1, ?_⟩
      intro j cells h k hk
      cases j with
      | zero => simp at h
      | succ j => exact i2 j cells (by simpa using h) k hk
theorem rtTags_get {d : Nat} : ∀ {rts : List RT} {j : Nat} {t : LTag}, (rtTags d rts)[j]? = some t → ∃ rt, rts[j]? = some rt ∧ t = match rt with | .nb _ => .ptr d 0 | rt => ownTag (rtOwn rt)
  | [], _, _, h => by cases h
  | x :: r, j, t, h => by
    cases j with
    | zero => cases x <;> (simp [rtTags] at h; subst h; exact ⟨_, rfl, rfl⟩)
    | succ j =>
      have h2 : (rtTags d r)[j]? = some t := by cases x <;> simpa [rtTags] using h
      obtain ⟨rt, h3, h4⟩ := rtTags_get h2
      exact ⟨rt, by simpa using h3, h4⟩
theorem rtTags_length (d : Nat) : ∀ (rts : List RT), (rtTags d rts).length = rts.length
  | [] => rfl
  | x :: r => by cases x <;> simp [rtTags, rtTags_length d r]
theorem mem_hardB2 {b : Nat} : ∀ {tags : List LTag} {j0 : Nat} {x : Wr1}, x ∈ hardB b j0 tags → ∃ j t, tags[j]? = some t ∧ x = .hard (bc b (j0 + j)) ⟨t, none, none⟩
  | [], _, _, h => by cases h
  | t :: r, j0, x, h => by
    rcases List.mem_cons.1 h with h | h
    · exact ⟨0, t, rfl, h⟩
    · obtain ⟨j, t', h1, h2⟩ := mem_hardB2 h
      exact ⟨j + 1, t', by simpa using h1, by rw [h2, show j0 + 1 + j = j0 + (j + 1) by omega]⟩
theorem mem_rtNew {d : Nat} : ∀ {rts : List RT} {x : Wr1}, x ∈ rtNew d rts → ∃ (j : Nat) (cells : List PM), rts[j]? = some (RT.nb cells) ∧ (x = .hard (bm d) ⟨.dead, some (.bx cells.length), none⟩ ∨ ∃ k m, cells[k]? = some m ∧ x = .hard (bc d k) ⟨ownTag (pmOwn m), none, none⟩)
  | [], _, h => by cases h
  | y :: r, x, h => by
    have up : x ∈ rtNew d r → ∃ (j : Nat) (cells : List PM), (y :: r)[j]? = some (RT.nb cells) ∧ (x = .hard (bm d) ⟨.dead, some (.bx cells.length), none⟩ ∨ ∃ k m, cells[k]? = some m ∧ x = .hard (bc d k) ⟨ownTag (pmOwn m), none, none⟩) := by
      intro h
      obtain ⟨j, cells, h1, h2⟩ := mem_rtNew h
      exact ⟨j + 1, cells, by simpa using h1, h2⟩
    cases y with
    | val => exact up h
    | own => exact up h
    | nb cells =>
      rcases List.mem_cons.1 h with h | h
      · exact ⟨0, cells, rfl, .inl h⟩
      · rcases List.mem_append.1 h with h | h
        · obtain ⟨k, t, h1, h2⟩ := mem_hardB2 h
          rw [Nat.zero_add] at h2
          simp only [List.getElem?_map, Option.map_eq_some_iff] at h1
          obtain ⟨m, h3, h4⟩ := h1
          exact ⟨0, cells, rfl, .inr ⟨k, m, h3, by rw [h2, ← h4]; rfl⟩⟩
        · exact up h
theorem rtNew_has {d : Nat} : ∀ {rts : List RT} {j : Nat} {cells : List PM}, rts[j]? = some (RT.nb cells) → ∃ e, Wr1.hard (bm d) e ∈ rtNew d rts
  | [], _, _, h => by cases h
  | y :: r, j, cells, h => by
    cases j with
    | zero => simp at h; subst h; exact ⟨_, List.mem_cons_self⟩
    | succ j =>
      obtain ⟨e, he⟩ := rtNew_has (d := d) (rts := r) (j := j) (by simpa using h)
      refine ⟨e, ?_⟩
      cases y with
      | val => exact he
      | own => exact he
      | nb c => exact List.mem_cons_of_mem _ (List.mem_append_right _ he)
theorem noNew_false : ∀ {rts : List RT}, noNew rts = true → ∀ (j : Nat) (cells : List PM), rts[j]? ≠ some (RT.nb cells)
  | [], _, j, c, h => by cases h
  | y :: r, hn, j, c, h => by
    cases y with
    | nb _ => cases hn
    | val => cases j with
      | zero => simp at h
      | succ j => exact noNew_false (rts := r) hn j c (by simpa using h)
    | own => cases j with
      | zero => simp at h
      | succ j => exact noNew_false (rts := r) hn j c (by simpa using h)
theorem mem_behind {ch : List Nat} : ∀ {sf : List Wr1} {x : Wr1}, x ∈ behind ch sf → ∃ m t, Wr1.soft m t ∈ sf ∧ m ∉ ch ∧ x = .soft m (match t with | .val => .val | _ => .dead)
  | [], _, h => by cases h
  | .hard _ _ :: r, x, h => by
    obtain ⟨m, t, h1, h2⟩ := mem_behind (sf := r) h
    exact ⟨m, t, List.mem_cons_of_mem _ h1, h2⟩
  | .soft m t :: r, x, h => by
    simp only [behind] at h
    split at h
    · obtain ⟨m', t', h1, h2⟩ := mem_behind (sf := r) h
      exact ⟨m', t', List.mem_cons_of_mem _ h1, h2⟩
    · rename_i hc
      rcases List.mem_cons.1 h with h | h
      · refine ⟨m, t, List.mem_cons_self, ?_, h⟩
        intro hm
        rw [anyBeq.2 hm] at hc
        cases hc
      · obtain ⟨m', t', h1, h2⟩ := mem_behind (sf := r) h
        exact ⟨m', t', List.mem_cons_of_mem _ h1, h2⟩
theorem behind_mem {ch : List Nat} : ∀ {sf : List Wr1} {m : Nat} {t : LTag}, Wr1.soft m t ∈ sf → m ∉ ch → Wr1.soft m (match t with | .val => .val | _ => .dead) ∈ behind ch sf
  | [], _, _, h, _ => by cases h
  | .hard _ _ :: r, m, t, h, hm => by
    rcases List.mem_cons.1 h with h | h
    · cases h
    · exact behind_mem (sf := r) h hm
  | .soft m' t' :: r, m, t, h, hm => by
    simp only [behind]
    rcases List.mem_cons.1 h with h | h
    · injection h with h1 h2
      subst h1 h2
      have : ch.any (Nat.beq m) = false := by
        cases e : ch.any (Nat.beq m) with
        | false => rfl
        | true => exact absurd (anyBeq.1 e) hm
      rw [this]
      exact List.mem_cons_self
    · have := behind_mem (sf := r) h hm
      split
      · exact this
      · exact List.mem_cons_of_mem _ this
theorem envOf_mem {es : List LE} (hn : (es.map fun x => x.l).Nodup) {e : LE} (h : e ∈ es) : envOf es e.l = ⟨e.tag, e.sh, none⟩ := by
  unfold envOf
  rw [findU (f := fun x : LE => x.l) hn h]
end Go.Proofs.Fw
set_option linter.unusedVariables false
set_option linter.unusedSimpArgs false
namespace Go.Proofs.Fw
variable {P : Program} {Γ : SEnv} {S : PSt} {G : Gh} {w : World} {N : Nat} {a : Act} {gd : Option (Nat × Bool)} {gs : List (Nat × Bool)} {o : Oper} {bs : List (Nat × Nat)} {d : Nat} {sem : CSem} {us : List (Nat × Univ)} {Np : Nat}
def handed (G : Gh) (sf : List Wr1) (k : Nat) : Bool := match G.Ow k with
  | .loc m => match sfind sf m with
    | some (.al _) => true
    | _ => false
  | _ => false
def keepOw (G : Gh) (sf : List Wr1) (k : Nat) : Owner := match G.Ow k with
  | .loc m => match sfind sf m with
    | some .val => .imm
    | _ => .loc m
  | x => x
def newOw (G2 : Gh) (tau : Nat → Option Nat) (dst : Option Nat) (k : Nat) : Owner := match G2.Ow k with
  | .imm => .imm
  | .loc l => match tau l with
    | some l' => .loc l'
    | none => .foreign
  | .box b => if b = NB then (match dst with | some d => .box d | none => .foreign) else .foreign
  | _ => .foreign
def aftOw (G G2 : Gh) (w : World) (sf : List Wr1) (tau : Nat → Option Nat) (dst : Option Nat) (k : Nat) : Owner :=
  if k < w.heap.size ∧ handed G sf k = false then keepOw G sf k else newOw G2 tau dst k
section
variable {e : Entry} {as : List AOne} {ys : List (Src × List Wr1)} {args : Array Value} {w' : World} {G2 : Gh}
theorem CallPre.cls (c : CallPre Γ S G w gs e as ys args) {sf : List Wr1} {rds : List Nat} {k : Nat} (hk : handed G sf k = false) :
    (callOw G sf rds (varsOf 0 e.ps as) k = .imm ∨ callOw G sf rds (varsOf 0 e.ps as) k = .rd ∨ callOw G sf rds (varsOf 0 e.ps as) k = .foreign) ∨
    ∃ v ∈ varsOf 0 e.ps as, callOw G sf rds (varsOf 0 e.ps as) k = .box v.i ∧ k = (G.B v.b).1 ∧ G.Ow k = .box v.b := by
  unfold handed at hk
  cases h : G.Ow k with
  | imm => exact .inl (.inl (callOw_imm h))
  | rd => exact .inl (.inr (.inl (callOw_rd h)))
  | foreign => exact .inl (.inr (.inr (callOw_foreign h)))
  | loc m =>
    rw [h] at hk
    simp only at hk
    rw [callOw_loc h]
    unfold rhoC
    split
    · exact .inl (.inl rfl)
    · rename_i l hl
      rw [hl] at hk
      cases hk
    · split
      · exact .inl (.inr (.inl rfl))
      · exact .inl (.inr (.inr rfl))
  | box b =>
    unfold callOw
    rw [h]
    simp only
    split
    · rename_i v hv
      have hvm := List.mem_of_find?_eq_some hv
      have hvb := List.find?_some hv
      have hvb : v.b = b := Nat.eq_of_beq_eq_true hvb
      split
      · rename_i hkb
        subst hvb
        exact .inr ⟨v, hvm, rfl, hkb, rfl⟩
      · exact .inl (.inr (.inr rfl))
    · exact .inl (.inr (.inr rfl))
theorem CallPre.kept (c : CallPre Γ S G w gs e as ys args) {sf : List Wr1} {rds : List Nat} {Gc : Gh} (hGo : Gc.Ow = callOw G sf rds (varsOf 0 e.ps as)) (hGB : Gc.B = callB G (varsOf 0 e.ps as)) (F : Fr (psBs 0 e.ps) Gc w G2 w') {k : Nat} (hlt : k < w.heap.size) (hk : handed G sf k = false) :
    (w'.heap[k]? = w.heap[k]? ∧ G2.Ow k = Gc.Ow k ∧ (Gc.Ow k = .imm ∨ Gc.Ow k = .rd ∨ Gc.Ow k = .foreign)) ∨ ∃ v ∈ varsOf 0 e.ps as, G2.Ow k = .box v.i ∧ k = (G.B v.b).1 ∧ G.Ow k = .box v.b := by
  rcases c.cls (rds := rds) hk with h | ⟨v, hv, h1, h2, h3⟩
  · rw [← hGo] at h
    obtain ⟨q1, q2⟩ := F.keep k hlt h
    exact .inl ⟨q1, q2, h⟩
  · refine .inr ⟨v, hv, ?_, h2, h3⟩
    obtain ⟨_, q2, _⟩ := c.varLt v hv
    obtain ⟨q3, q4⟩ := F.bx _ q2
    simp only at q3 q4
    have hB : Gc.B v.i = ((G.B v.b).1, (G.B v.b).2 + v.off) := by rw [hGB]; exact c.B_var v hv
    rw [hB] at q4
    simp only at q4
    rw [h2]
    refine (q4 ?_).1
    rw [← h2, hGo]
    exact h1
theorem CallPre.aft_imm (c : CallPre Γ S G w gs e as ys args) {sf : List Wr1} {rds : List Nat} {Gc : Gh} (hGo : Gc.Ow = callOw G sf rds (varsOf 0 e.ps as)) (hGB : Gc.B = callB G (varsOf 0 e.ps as)) (F : Fr (psBs 0 e.ps) Gc w G2 w') {tau : Nat → Option Nat} {dst : Option Nat} {k : Nat}
    (h : G2.Ow k = .imm) : aftOw G G2 w sf tau dst k = .imm := by
  unfold aftOw
  split
  · rename_i hk
    rcases c.kept hGo hGB F hk.1 hk.2 with ⟨_, h1, _⟩ | ⟨v, _, h1, _⟩
    · rw [h, hGo] at h1
      have hk2 := hk.2
      unfold keepOw
      cases ho : G.Ow k with
      | imm => rfl
      | rd => rw [callOw_rd ho] at h1; cases h1
      | foreign => rw [callOw_foreign ho] at h1; cases h1
      | loc m =>
        rw [callOw_loc ho] at h1
        unfold rhoC at h1
        simp only
        split at h1
        · rename_i hs; rw [hs]
        · cases h1
        · split at h1 <;> cases h1
      | box b =>
        exfalso
        unfold callOw at h1
        rw [ho] at h1
        simp only at h1
        split at h1
        · split at h1 <;> cases h1
        · cases h1
    · rw [h] at h1; cases h1
  · unfold newOw; rw [h]
theorem CallPre.aft_loc (c : CallPre Γ S G w gs e as ys args) {sf : List Wr1} {rds : List Nat} {Gc : Gh} (hGo : Gc.Ow = callOw G sf rds (varsOf 0 e.ps as)) (hGB : Gc.B = callB G (varsOf 0 e.ps as)) (F : Fr (psBs 0 e.ps) Gc w G2 w') {tau : Nat → Option Nat} {dst : Option Nat} {k l l' : Nat}
    (h : G2.Ow k = .loc l) (ht : tau l = some l') : aftOw G G2 w sf tau dst k = .loc l' := by
  unfold aftOw
  split
  · rename_i hk
    exfalso
    rcases c.kept hGo hGB F hk.1 hk.2 with ⟨_, h1, h2⟩ | ⟨v, _, h1, _⟩
    · rw [h] at h1
      rw [← h1] at h2
      rcases h2 with h2 | h2 | h2 <;> cases h2
    · rw [h] at h1; cases h1
  · unfold newOw; rw [h]; simp only; rw [ht]
theorem CallPre.aft_nb (c : CallPre Γ S G w gs e as ys args) {sf : List Wr1} {rds : List Nat} {Gc : Gh} (hGo : Gc.Ow = callOw G sf rds (varsOf 0 e.ps as)) (hGB : Gc.B = callB G (varsOf 0 e.ps as)) (F : Fr (psBs 0 e.ps) Gc w G2 w') {tau : Nat → Option Nat} {d k : Nat}
    (h : G2.Ow k = .box NB) : aftOw G G2 w sf tau (some d) k = .box d := by
  unfold aftOw
  split
  · rename_i hk
    exfalso
    rcases c.kept hGo hGB F hk.1 hk.2 with ⟨_, h1, h2⟩ | ⟨v, hv, h1, _⟩
    · rw [h] at h1
      rw [← h1] at h2
      rcases h2 with h2 | h2 | h2 <;> cases h2
    · rw [h] at h1
      injection h1 with h1
      have := (c.varLt v hv).1.1
      rw [← h1] at this
      simp only [NB] at this
      omega
  · unfold newOw; rw [h]; simp
theorem aftOw_keep {sf : List Wr1} {tau : Nat → Option Nat} {dst : Option Nat} {k : Nat} (h1 : k < w.heap.size) (h2 : handed G sf k = false) : aftOw G G2 w sf tau dst k = keepOw G sf k := if_pos ⟨h1, h2⟩
def headW (dst : Option Nat) (gd : Option (Nat × Bool)) (e : Entry) : List Wr1 := match dst with
  | some d => hardT d e.rsh gd (rtTags d e.rts)
  | none => []
def newW (dst : Option Nat) (e : Entry) : List Wr1 := match dst with
  | some d => rtNew d e.rts
  | none => []
def headL (dst : Option Nat) (e : Entry) : List Nat := match dst with
  | some d => rtLocs d 0 e.rts ++ rtNewLocs d e.rts
  | none => []
def callWs (dst : Option Nat) (gd : Option (Nat × Bool)) (e : Entry) (ch : List ACh) (sf : List Wr1) : List Wr1 := headW dst gd e ++ (newW dst e ++ (chW ch ++ behind (ch.map fun x => x.m) sf))
def callDs (dst : Option Nat) (e : Entry) (ch : List ACh) : List Nat := headL dst e ++ ch.map fun x => x.m
def rtTag (d : Nat) : RT → LTag
  | .nb _ => .ptr d 0
  | rt => ownTag (rtOwn rt)
inductive Wh (dst : Option Nat) (gd : Option (Nat × Bool)) (e : Entry) (ch : List ACh) (l : Nat) (x : GC) : Prop
  | res (d j : Nat) (rt : RT) (hd : dst = some d) (hr : e.rts[j]? = some rt) (hl : l = lc d j) (ht : x.tag = rtTag d rt) (hs : ∀ n, x.sh ≠ some (.bx n))
  | none (d j : Nat) (hd : dst = some d) (hl : l = lc d j) (hj : j < 64) (ht : x.tag = .dead) (hs : ∀ n, x.sh ≠ some (.bx n))
  | nbm (d j : Nat) (cells : List PM) (hd : dst = some d) (hr : e.rts[j]? = some (RT.nb cells)) (hl : l = bm d) (hx : x = ⟨.dead, some (.bx cells.length), .none⟩)
  | nbc (d j k : Nat) (cells : List PM) (m : PM) (hd : dst = some d) (hr : e.rts[j]? = some (RT.nb cells)) (hk : cells[k]? = some m) (hl : l = bc d k) (hx : x = ⟨ownTag (pmOwn m), .none, .none⟩)
  | ch (c : ACh) (hc : c ∈ ch) (hl : l = c.m) (hx : x = ⟨ownTag c.own, .none, .none⟩)
theorem callWs_hard {dst : Option Nat} {ch : List ACh} {sf : List Wr1} (hb : ∀ d, dst = some d → ∀ n, e.rsh ≠ .bx n) {l : Nat} {x : GC} (h : Wr1.hard l x ∈ callWs dst gd e ch sf) : Wh dst gd e ch l x := by
  rcases List.mem_append.1 h with h | h
  · cases dst with
    | none => cases h
    | some d =>
      obtain ⟨j, x', h1, h2, h3, h4⟩ := mem_hardT h
      injection h1 with h5 h6
      subst h6
      have hs : ∀ n, x.sh ≠ some (.bx n) := by
        intro n hn
        rcases h4 with h4 | ⟨_, h4⟩
        · rw [h4] at hn; cases hn
        · rw [h4] at hn; injection hn with hn; exact hb d rfl n hn
      rcases h3 with h3 | ⟨_, h3, h6⟩
      · obtain ⟨rt, q1, q2⟩ := rtTags_get h3
        exact .res d j rt rfl q1 h5 (by cases rt <;> exact q2) hs
      · exact .none d j rfl h5 (by omega) h6 hs
  · rcases List.mem_append.1 h with h | h
    · cases dst with
      | none => cases h
      | some d =>
        obtain ⟨j, cells, h1, h2⟩ := mem_rtNew h
        rcases h2 with h2 | ⟨k, m, h2, h3⟩
        · injection h2 with h3 h4
          exact .nbm d j cells rfl h1 h3 h4
        · injection h3 with h4 h5
          exact .nbc d j k cells m rfl h1 h2 h4 h5
    · rcases List.mem_append.1 h with h | h
      · obtain ⟨c, hc, h1⟩ := List.mem_map.1 h
        injection h1 with h2 h3
        refine .ch c hc h2.symm ?_
        rw [← h3]
        rfl
      · obtain ⟨m, t, _, _, h1⟩ := mem_behind h
        cases h1
theorem callWs_soft {dst : Option Nat} {ch : List ACh} {sf : List Wr1} {l : Nat} {t : LTag} (h : Wr1.soft l t ∈ callWs dst gd e ch sf) : ∃ t0, Wr1.soft l t0 ∈ sf ∧ (t = .dead ∨ (t = .val ∧ t0 = .val)) := by
  rcases List.mem_append.1 h with h | h
  · cases dst with
    | none => cases h
    | some d =>
      obtain ⟨j, x', h1, _⟩ := mem_hardT h
      cases h1
  · rcases List.mem_append.1 h with h | h
    · cases dst with
      | none => cases h
      | some d =>
        obtain ⟨j, cells, h1, h2⟩ := mem_rtNew h
        rcases h2 with h2 | ⟨k, m, h2, h3⟩
        · cases h2
        · cases h3
    · rcases List.mem_append.1 h with h | h
      · obtain ⟨c, hc, h1⟩ := List.mem_map.1 h
        cases h1
      · obtain ⟨m, t0, h1, _, h2⟩ := mem_behind h
        injection h2 with h3 h4
        subst h3
        refine ⟨t0, h1, ?_⟩
        rw [h4]
        split
        · exact .inr ⟨rfl, rfl⟩
        · exact .inl rfl
theorem callWs_ch {dst : Option Nat} {ch : List ACh} {sf : List Wr1} {c : ACh} (h : c ∈ ch) : isHard (callWs dst gd e ch sf) c.m = true :=
  hfind_isSome (e := ⟨match c.own with | true => .own | false => .val, none, none⟩) (List.mem_append_right _ (List.mem_append_right _ (List.mem_append_left _ (List.mem_map.2 ⟨c, h, rfl⟩))))
theorem callWs_behind {dst : Option Nat} {ch : List ACh} {sf : List Wr1} (hso : softsOk (callWs dst gd e ch sf) = true) {m : Nat} {t : LTag} (h : Wr1.soft m t ∈ sf) : isDom (callWs dst gd e ch sf) m = true := by
  by_cases hm : m ∈ ch.map fun x => x.m
  · obtain ⟨c, hc, rfl⟩ := List.mem_map.1 hm
    simp [isDom, callWs_ch hc]
  · exact isDom_of_soft hso (List.mem_append_right _ (List.mem_append_right _ (List.mem_append_right _ (behind_mem h hm))))
theorem callDs_hard {dst : Option Nat} {ch : List ACh} {sf : List Wr1} {l : Nat} (h : l ∈ callDs dst e ch) : isHard (callWs dst gd e ch sf) l = true := by
  rcases List.mem_append.1 h with h | h
  · cases dst with
    | none => cases h
    | some d =>
      rcases List.mem_append.1 h with h | h
      · have key : ∀ (rts : List RT) (j0 : Nat), l ∈ rtLocs d j0 rts → ∃ j, j < rts.length ∧ l = lc d (j0 + j) := by
          intro rts
          induction rts with
          | nil => intro j0 h; cases h
          | cons y r ih =>
            intro j0 h
            have up : l ∈ rtLocs d (j0 + 1) r → ∃ j, j < (y :: r).length ∧ l = lc d (j0 + j) := by
              intro h
              obtain ⟨j, h1, h2⟩ := ih (j0 + 1) h
              exact ⟨j + 1, by simpa using h1, by rw [h2, show j0 + 1 + j = j0 + (j + 1) by omega]⟩
            cases y with
            | nb _ => exact up h
            | val =>
              rcases List.mem_cons.1 h with h | h
              · exact ⟨0, by simp, h⟩
              · exact up h
            | own =>
              rcases List.mem_cons.1 h with h | h
              · exact ⟨0, by simp, h⟩
              · exact up h
        obtain ⟨j, h1, h2⟩ := key e.rts 0 h
        rw [Nat.zero_add] at h2
        obtain ⟨x, hx⟩ := hardT_mem d e.rsh gd (rtTags d e.rts) j (by rw [rtTags_length]; exact h1)
        rw [h2]
        exact hfind_isSome (List.mem_append_left _ hx)
      · have key : ∀ (rts : List RT), l ∈ rtNewLocs d rts → ∃ x, Wr1.hard l x ∈ rtNew d rts := by
          intro rts
          induction rts with
          | nil => intro h; cases h
          | cons y r ih =>
            intro h
            cases y with
            | val => exact ih h
            | own => exact ih h
            | nb cells =>
              rcases List.mem_append.1 h with h | h
              · simp only [rangeL, List.mem_map, List.mem_range] at h
                obtain ⟨k, hk, rfl⟩ := h
                have key2 : ∀ (tags : List LTag) (j0 k : Nat), k < tags.length → ∃ x, Wr1.hard (bc d (j0 + k)) x ∈ hardB d j0 tags := by
                  intro tags
                  induction tags with
                  | nil => intro j0 k h; cases h
                  | cons t r ih =>
                    intro j0 k h
                    cases k with
                    | zero => exact ⟨_, List.mem_cons_self⟩
                    | succ k =>
                      obtain ⟨x, hx⟩ := ih (j0 + 1) k (by simpa using h)
                      rw [show j0 + 1 + k = j0 + (k + 1) by omega] at hx
                      exact ⟨x, List.mem_cons_of_mem _ hx⟩
                obtain ⟨x, hx⟩ := key2 (cells.map fun m => match pmOwn m with | true => .own | false => .val) 0 k (by simpa using hk)
                rw [Nat.zero_add] at hx
                refine ⟨x, ?_⟩
                have : bc d 0 + k = bc d k := by simp only [bc]; omega
                rw [this]
                exact List.mem_cons_of_mem _ (List.mem_append_left _ hx)
              · obtain ⟨x, hx⟩ := ih h
                exact ⟨x, List.mem_cons_of_mem _ (List.mem_append_right _ hx)⟩
        obtain ⟨x, hx⟩ := key e.rts h
        exact hfind_isSome (List.mem_append_right _ (List.mem_append_left _ hx))
  · obtain ⟨c, hc, rfl⟩ := List.mem_map.1 h
    exact callWs_ch hc
theorem aIt_frz (R : HRel Γ S G w) (hg : GHs gs S) {m : PM} {tgt : Nat} {x : LS} (hl : lsOk x) {src : Src} {sf : List Wr1} (h : (aIt gs m tgt x).run Γ = some (src, sf)) {n : Nat} (hn : Wr1.soft n .val ∈ sf) : LOk w G S n .own := by
  cases m with
  | rd =>
    simp only [aIt] at h
    obtain ⟨s, h1, h⟩ := Rd.run_bind h
    have h := run_ret h
    injection h with h2 h3
    subst h3
    cases hn
  | val =>
    obtain ⟨m, h1, h2⟩ := (fzLeaf_ok R hg hl h).2 _ hn
    injection h1 with h1
    subst h1
    exact h2
  | own =>
    obtain ⟨l, h1 | h1⟩ := aIt_form h _ hn
    · simp only [aIt] at h
      cases x with
      | con v u t => cases t <;> first | (have h := run_ret h; injection h with h1 h2; subst h2; cases hn; done) | (cases h; done)
      | loc l =>
        obtain ⟨⟨m, t⟩, _, h2⟩ := Rd.run_bind h
        cases t <;> first | (have h2 := run_ret h2; injection h2 with h3 h4; subst h4; have := List.mem_singleton.1 hn; cases this; done) | (cases h2; done)
    · cases h1
theorem CallPre.frz (c : CallPre Γ S G w gs e as ys args) {n : Nat} (hn : Wr1.soft n .val ∈ ys.flatMap fun y => y.2) : LOk w G S n .own := by
  obtain ⟨y, hy, hzy⟩ := List.mem_flatMap.1 hn
  obtain ⟨k, hk⟩ := List.getElem?_of_mem hy
  obtain ⟨h1, h2⟩ := mapRd_run c.run
  have hkl : k < (itemsOf 0 e.ps as).length := by rw [← h1]; exact (List.getElem?_eq_some_iff.1 hk).1
  obtain ⟨y', hy', hr⟩ := h2 k _ (List.getElem?_eq_getElem hkl)
  rw [hk] at hy'
  injection hy' with hy'
  subst hy'
  have hit := List.getElem_mem hkl
  have hlo : lsOk (itemsOf 0 e.ps as)[k].x := by
    rcases c.itemLt _ hit with ⟨i, s, ms, ls, j', h1, h2, h3, _⟩ | ⟨v', _, j', _, _, h6⟩
    · obtain ⟨v, _, h4⟩ := c.args_get h1 h2
      exact h4.2.2.2 _ (List.mem_of_getElem? h3)
    · rw [h6]; trivial
  exact aIt_frz c.R c.ghs hlo (src := y.1) (sf := y.2) hr hzy
theorem upds_pair {ls ds : List Nat} {rs : List Univ} (hd : ds.Nodup) (hl : ls.Nodup) (h1 : rs.length = ds.length) (h2 : rs.length = ls.length) {l l' : Nat} (h : (l, l') ∈ ls.zip ds) : upds S (ds.zip rs) l' = mkS ls rs l := by
  obtain ⟨k, hk⟩ := List.getElem?_of_mem h
  rw [List.getElem?_zip_eq_some] at hk
  obtain ⟨k1, k2⟩ := hk
  simp only at k1 k2
  have hkr : k < rs.length := by rw [h2]; exact (List.getElem?_eq_some_iff.1 k1).1
  have e1 : upds S (ds.zip rs) l' = rs[k] := by
    refine upds_mem ?_ ?_
    · rw [List.map_fst_zip (by omega)]; exact hd
    · exact List.mem_iff_getElem?.2 ⟨k, by rw [List.getElem?_zip_eq_some]; exact ⟨k2, List.getElem?_eq_getElem hkr⟩⟩
  have e2 : mkS ls rs l = rs[k] := by
    refine upds_zip (by omega) (List.mem_of_getElem? k1) ?_
    intro i hi
    have : i = k := nodup_idx (f := fun x : Nat => x) (by simpa using hl) hi k1 rfl
    subst this
    exact List.getElem?_eq_getElem hkr
  rw [e1, e2]
def tauOf (ls ds : List Nat) (l : Nat) : Option Nat := ((ls.zip ds).find? fun x => Nat.beq x.1 l).map fun x => x.2
theorem tauOf_get {ls ds : List Nat} (hl : ls.Nodup) (hlen : ls.length = ds.length) {l l' : Nat} (h : (l, l') ∈ ls.zip ds) : tauOf ls ds l = some l' := by
  unfold tauOf
  have hn : ((ls.zip ds).map fun x => x.1).Nodup := by rw [List.map_fst_zip (by omega)]; exact hl
  have := findU (f := fun x : Nat × Nat => x.1) hn h
  simp only at this
  rw [this]
  rfl
theorem pair_lists (c : CallPre Γ S G w gs e as ys args) (dst : Option Nat) (hnone : dst = none → e.rts = []) :
    (postLocs e).length = (callDs dst e (chOf 0 e.ps as)).length ∧
    (∀ d, dst = some d → (∀ (j : Nat) (rt : RT), e.rts[j]? = some rt → (∀ x, rt ≠ .nb x) → (rl j, lc d j) ∈ (postLocs e).zip (callDs dst e (chOf 0 e.ps as))) ∧
      ∀ (j : Nat) (cells : List PM), e.rts[j]? = some (RT.nb cells) → ∀ k, k < cells.length → (bc NB k, bc d k) ∈ (postLocs e).zip (callDs dst e (chOf 0 e.ps as))) ∧
    ∀ x ∈ chOf 0 e.ps as, (x.l, x.m) ∈ (postLocs e).zip (callDs dst e (chOf 0 e.ps as)) := by
  have hout := (callChk_ok c.chk).out
  cases dst with
  | none =>
    have hr := hnone rfl
    have e1 : postLocs e = (chOf 0 e.ps as).map fun x => x.l := by
      unfold postLocs
      rw [hr, hout]
      rfl
    have e2 : callDs none e (chOf 0 e.ps as) = (chOf 0 e.ps as).map fun x => x.m := rfl
    rw [e1, e2]
    refine ⟨(by simp), (by intro d h; cases h), ?_⟩
    intro x hx
    obtain ⟨k, hk⟩ := List.getElem?_of_mem hx
    refine List.mem_iff_getElem?.2 ⟨k, ?_⟩
    rw [List.getElem?_zip_eq_some]
    simp [hk]
  | some d =>
    obtain ⟨a1, a2⟩ := zip_res d e.rts 0
    obtain ⟨b1, b2⟩ := zip_new d e.rts
    have e3 : (postLocs e).zip (callDs (some d) e (chOf 0 e.ps as)) = (resLocs 0 e.rts).zip (rtLocs d 0 e.rts) ++ (newLocs e.rts).zip (rtNewLocs d e.rts) ++ ((chOf 0 e.ps as).map fun x => x.l).zip ((chOf 0 e.ps as).map fun x => x.m) := by
      unfold postLocs callDs headL
      rw [← hout]
      simp only
      rw [List.zip_append (by simp [a1, b1]), List.zip_append a1]
    refine ⟨?_, ?_, ?_⟩
    · unfold postLocs callDs headL
      rw [← hout]
      simp [a1, b1]
    · intro d' h
      injection h with h
      subst h
      rw [e3]
      refine ⟨?_, ?_⟩
      · intro j rt h1 h2
        have := a2 j rt h1 h2
        rw [Nat.zero_add] at this
        exact List.mem_append_left _ (List.mem_append_left _ this)
      · intro j cells h1 k hk
        exact List.mem_append_left _ (List.mem_append_right _ (b2 j cells h1 k hk))
    · intro x hx
      rw [e3]
      refine List.mem_append_right _ ?_
      obtain ⟨k, hk⟩ := List.getElem?_of_mem hx
      refine List.mem_iff_getElem?.2 ⟨k, ?_⟩
      rw [List.getElem?_zip_eq_some]
      simp [hk]
end
end Go.Proofs.Fw
set_option linter.unusedVariables false
set_option linter.unusedSimpArgs false
namespace Go.Proofs.Fw
variable {P : Program} {Γ : SEnv} {S : PSt} {G : Gh} {w : World} {N : Nat} {a : Act} {gd : Option (Nat × Bool)} {gs : List (Nat × Bool)} {o : Oper} {bs : List (Nat × Nat)} {d : Nat} {sem : CSem} {us : List (Nat × Univ)} {Np : Nat}
theorem noNew_has : ∀ {rts : List RT}, noNew rts = false → ∃ (j : Nat) (cells : List PM), rts[j]? = some (RT.nb cells)
  | [], h => by cases h
  | .nb cells :: r, _ => ⟨0, cells, rfl⟩
  | .val :: r, h => by
    obtain ⟨j, cells, h⟩ := noNew_has (rts := r) h
    exact ⟨j + 1, cells, by simpa using h⟩
  | .own :: r, h => by
    obtain ⟨j, cells, h⟩ := noNew_has (rts := r) h
    exact ⟨j + 1, cells, by simpa using h⟩
def chV (G G2 : Gh) (ch : List ACh) (l : Nat) : Value := match ch.find? (fun x => Nat.beq x.m l) with
  | some x => G2.V x.l
  | none => G.V l
def aftV (G G2 : Gh) (ws : List Wr1) (dst : Option Nat) (nn : Bool) (ch : List ACh) (l : Nat) : Value :=
  if isHard ws l = true then (match dst with
    | some d => if 64 * d ≤ l ∧ l < 64 * d + 64 then G2.V (rl (l - 64 * d)) else if nn = false ∧ bc d 0 ≤ l ∧ l < bc d 0 + 64 then G2.V (bc NB (l - bc d 0)) else chV G G2 ch l
    | none => chV G G2 ch l) else G.V l
def aftB (G G2 : Gh) (dst : Option Nat) (nn : Bool) (b : Nat) : Nat × Nat := if dst = some b ∧ nn = false then G2.B NB else G.B b
section
variable {e : Entry} {as : List AOne} {ys : List (Src × List Wr1)} {args : Array Value} {w' : World}
theorem CallPre.after (c : CallPre Γ S G w gs e as ys args) (T : TRel Γ S G N a) (hb : BsOk Np bs Γ) (hgd : ∀ c b, gd = some (c, b) → S c = uB b) {dst : Option Nat} {ws : List Wr1} {ds : List Nat} {srcs : List Src} {ix : Nat}
    (hws : ws = callWs dst gd e (chOf 0 e.ps as) (ys.flatMap fun y => y.2)) (hds : ds = callDs dst e (chOf 0 e.ps as))
    (hok : effOk N gd dst ⟨.call ix srcs ds, ws⟩ = true) (hso : softsOk ws = true) (hvo : varsOk Np ws = true) (hnone : dst = none → e.rts = []) (hcnt : countNew e.rts ≤ 1)
    (hrsh : ∀ d, dst = some d → e.rsh.size = e.rts.length) (hvd : ∀ d, dst = some d → noNew e.rts = true ∨ ∀ v ∈ varsOf 0 e.ps as, v.b ≠ d) {rs : List Univ} (hrs : rs.length = ds.length) {v : Value}
    (hp : Post e (psBs 0 e.ps) (callG G (itemsOf 0 e.ps as) args (ys.flatMap fun y => y.2) (rdsOf (itemsOf 0 e.ps as) ys) (varsOf 0 e.ps as)) w rs v w') :
    ∃ G', HRel (app ws Γ) (upds S (ds.zip rs)) G' w' ∧ TRel (app ws Γ) (upds S (ds.zip rs)) G' N (a.put dst v) ∧ Fr bs G w G' w' := by
  obtain ⟨G2, hv, hrl, R2, F⟩ := hp
  have k := callChk_ok c.chk
  have hfrz : ∀ n, Wr1.soft n .val ∈ (ys.flatMap fun y => y.2) → LOk w G S n .own := fun n hn => c.frz hn
  have kso := k.so
  generalize (ys.flatMap fun y => y.2) = sf at hws F kso hfrz
  generalize hrds : rdsOf (itemsOf 0 e.ps as) ys = rds at F
  generalize hGc : callG G (itemsOf 0 e.ps as) args sf rds (varsOf 0 e.ps as) = Gc at F
  have hGo : Gc.Ow = callOw G sf rds (varsOf 0 e.ps as) := by rw [← hGc]; rfl
  have hGB : Gc.B = callB G (varsOf 0 e.ps as) := by rw [← hGc]; rfl
  have hGV : Gc.V = callV G (itemsOf 0 e.ps as) args := by rw [← hGc]; rfl
  have hok0 := hok
  simp only [effOk, Bool.and_eq_true, Bool.not_eq_true'] at hok
  obtain ⟨⟨⟨⟨hwr, hdn⟩, hin⟩, hgk⟩, hdst⟩ := hok
  have hdsn : ds.Nodup := nodupN_nodup hdn
  obtain ⟨p1, p2, _⟩ := psOk_spec c.ps
  have hd2 : ∀ d, dst = some d → d < N ∧ d < 2000 ∧ (∃ e0, hfind ws (lc d 0) = some e0 ∧ e0.sh = some e.rsh ∧ e0.gd = gd) ∧ e.rsh.size ≤ 64 ∧ ∀ n, e.rsh ≠ .bx n := by
    intro d hd
    subst hd
    simp only [Bool.and_eq_true] at hdst
    obtain ⟨⟨⟨h1, h2⟩, h3⟩, _⟩ := hdst
    obtain ⟨e0, q1, q2, q3⟩ := hardT_head d e.rsh gd (rtTags d e.rts) (newW (some d) e ++ (chW (chOf 0 e.ps as) ++ behind ((chOf 0 e.ps as).map fun x => x.m) sf))
    have q1 : hfind ws (lc d 0) = some e0 := by rw [hws]; exact q1
    refine ⟨blt_lt h1, blt_lt h2, ⟨e0, q1, q2, q3⟩, ?_⟩
    unfold shOk at h3
    rw [q1] at h3
    simp only at h3
    rw [q2] at h3
    cases hsh : e.rsh with
    | one s => rw [hsh] at h3; exact ⟨Nat.le_of_ble_eq_true h3, by intro n h; cases h⟩
    | tup l => rw [hsh] at h3; exact ⟨Nat.le_of_ble_eq_true h3, by intro n h; cases h⟩
    | bx n => rw [hsh] at h3; cases h3
  have hrb : ∀ d, dst = some d → ∀ n, e.rsh ≠ .bx n := fun d hd => (hd2 d hd).2.2.2.2
  have hwh : ∀ l x, Wr1.hard l x ∈ ws → Wh dst gd e (chOf 0 e.ps as) l x := by
    intro l x hx
    rw [hws] at hx
    exact callWs_hard hrb hx
  obtain ⟨plen, pres, pch⟩ := pair_lists c dst hnone
  rw [← hds] at plen pres pch
  obtain ⟨vout, cin⟩ := varsOf_out (i0 := 0) p2 c.shp
  have hes : ∀ e' ∈ postEs e, envOf (postEs e) e'.l = ⟨e'.tag, e'.sh, none⟩ := fun e' h => envOf_mem k.nes h
  have hlok : ∀ e' ∈ postEs e, LOk w' G2 (mkS (postLocs e) rs) e'.l e'.tag := by
    intro e' h
    have := R2.lok e'.l (by rw [hes e' h]; intro c b hc; cases hc)
    rw [hes e' h] at this
    exact this
  have hres : ∀ e' ∈ resEs 0 e.rts, e' ∈ postEs e := fun e' h => List.mem_append_left _ h
  have hpse : ∀ e' ∈ psEs 0 e.ps, e' ∈ postEs e := fun e' h => List.mem_append_right _ h
  have hchm : ∀ x ∈ chOf 0 e.ps as, ∃ v ∈ varsOf 0 e.ps as, ∃ j, j < v.n ∧ x.l = bc v.i j ∧ x.m = bc v.b (v.off + j) ∧ v.off + j < 64 ∧ v.b < 2000 := by
    intro x hx
    obtain ⟨v, q1, j, q2, q3, q4, _⟩ := cin x hx
    obtain ⟨_, _, n, r1, r2, r3, r4⟩ := c.varLt v q1
    exact ⟨v, q1, j, q2, q3, q4, by omega, r4⟩
  have hchn : ((chOf 0 e.ps as).map fun x => x.m).Nodup := by
    rw [hds] at hdsn
    exact (List.pairwise_append.1 hdsn).2.1
  have hchd : ∀ x ∈ chOf 0 e.ps as, isHard ws x.m = true := fun x hx => by rw [hws]; exact callWs_ch hx
  have hcl : ∀ (j : Nat) (cells : List PM), e.rts[j]? = some (RT.nb cells) → cells.length ≤ 64 ∧ noNew e.rts = false := by
    intro j cells h
    have hm := (resEs_get (j0 := 0) h).2.1
    have := hes _ (hres _ hm)
    refine ⟨(R2.bsm NB cells.length (by rw [this])).1, ?_⟩
    cases hn : noNew e.rts with
    | false => rfl
    | true => exact absurd h (noNew_false hn j cells)
  have W1 : ∀ d j, dst = some d → j < 64 → isHard ws (lc d j) = true → aftV G G2 ws dst (noNew e.rts) (chOf 0 e.ps as) (lc d j) = G2.V (rl j) := by
    intro d j hd hj hh
    subst hd
    unfold aftV
    rw [if_pos hh]
    simp only
    rw [if_pos (by simp only [lc]; omega)]
    have : lc d j - 64 * d = j := by simp only [lc]; omega
    rw [this]
  have W2 : ∀ d j, dst = some d → noNew e.rts = false → j < 64 → isHard ws (bc d j) = true → aftV G G2 ws dst (noNew e.rts) (chOf 0 e.ps as) (bc d j) = G2.V (bc NB j) := by
    intro d j hd hn hj hh
    have := (hd2 d hd).2.1
    subst hd
    unfold aftV
    rw [if_pos hh]
    simp only
    rw [if_neg (by simp only [bc]; omega), if_pos ⟨hn, by simp only [bc]; omega, by simp only [bc]; omega⟩]
    have : bc d j - bc d 0 = j := by simp only [bc]; omega
    rw [this]
  have W3 : ∀ x ∈ chOf 0 e.ps as, aftV G G2 ws dst (noNew e.rts) (chOf 0 e.ps as) x.m = G2.V x.l := by
    intro x hx
    obtain ⟨v, q1, j, q2, q3, q4, q5, q6⟩ := hchm x hx
    have hfc : chV G G2 (chOf 0 e.ps as) x.m = G2.V x.l := by
      unfold chV
      rw [findU (f := fun x : ACh => x.m) hchn hx]
    unfold aftV
    rw [if_pos (hchd x hx)]
    cases hd : dst with
    | none => exact hfc
    | some d =>
      simp only
      have hd3 := (hd2 d hd).2.1
      rw [if_neg (by rw [q4]; simp only [bc]; omega), if_neg]
      · exact hfc
      · rintro ⟨h1, h2, h3⟩
        rcases hvd d hd with h4 | h4
        · rw [h4] at h1; cases h1
        · refine h4 v q1 ?_
          rw [q4] at h2 h3
          simp only [bc] at h2 h3
          omega
  have W4 : ∀ l, isHard ws l = false → aftV G G2 ws dst (noNew e.rts) (chOf 0 e.ps as) l = G.V l := by
    intro l hl
    unfold aftV
    rw [if_neg (by rw [hl]; simp)]
  obtain ⟨G', hG'⟩ : ∃ G' : Gh, G' = ⟨aftV G G2 ws dst (noNew e.rts) (chOf 0 e.ps as), aftOw G G2 w sf (tauOf (postLocs e) ds) dst, aftB G G2 dst (noNew e.rts)⟩ := ⟨_, rfl⟩
  have gV : G'.V = aftV G G2 ws dst (noNew e.rts) (chOf 0 e.ps as) := by rw [hG']
  have gO : G'.Ow = aftOw G G2 w sf (tauOf (postLocs e) ds) dst := by rw [hG']
  have gB : G'.B = aftB G G2 dst (noNew e.rts) := by rw [hG']
  have still2 : Still w' G2.Ow w' G'.Ow := fun b hb => ⟨rfl, by rw [gO]; exact c.aft_imm hGo hGB F hb⟩
  have LT : ∀ l l' b, (l, l') ∈ (postLocs e).zip ds → LOk w' G2 (mkS (postLocs e) rs) l (ownTag b) → G'.V l' = G2.V l → LOk w' G' (upds S (ds.zip rs)) l' (ownTag b) := by
    intro l l' b hpair hl hVl
    have hS := upds_pair (S := S) hdsn k.npost hrs (by omega) hpair
    cases b with
    | false =>
      show Rep w' G'.Ow (G'.V l') _
      rw [hVl, hS]
      exact Rep.still still2 hl
    | true =>
      obtain ⟨t, xs, q1, q2⟩ := hl
      refine ⟨t, xs, hS.trans q1, ?_⟩
      rw [hVl]
      refine q2.still still2 fun b hb => ⟨rfl, ?_⟩
      rw [gO]
      exact c.aft_loc hGo hGB F hb (tauOf_get k.npost plen hpair)
  have hlt : ∀ b, G.Ow b ≠ .foreign → b < w.heap.size := by
    intro b hb
    apply Nat.lt_of_not_le
    intro h
    exact hb (c.R.new b h)
  have keep1 : ∀ b, G.Ow b = .imm ∨ G.Ow b = .rd ∨ (G.Ow b = .foreign ∧ b < w.heap.size) → w'.heap[b]? = w.heap[b]? ∧ G'.Ow b = G.Ow b := by
    intro b hb
    have hlb : b < w.heap.size := by
      rcases hb with h | h | h
      · exact hlt b (by rw [h]; simp)
      · exact hlt b (by rw [h]; simp)
      · exact h.2
    have hh : handed G sf b = false := by
      unfold handed
      rcases hb with h | h | ⟨h, _⟩ <;> rw [h]
    rw [gO, aftOw_keep hlb hh]
    refine ⟨?_, ?_⟩
    · rcases c.kept hGo hGB F hlb hh with ⟨h1, _⟩ | ⟨v, _, _, _, h1⟩
      · exact h1
      · rw [h1] at hb
        rcases hb with h | h | ⟨h, _⟩ <;> cases h
    · unfold keepOw
      rcases hb with h | h | ⟨h, _⟩ <;> rw [h]
  have boxKeep : ∀ b, G.Ow (G.B b).1 = .box b → (G.B b).1 < w.heap.size ∧ handed G sf (G.B b).1 = false ∧ G'.Ow (G.B b).1 = .box b := by
    intro b hb
    have h1 := hlt _ (by rw [hb]; simp)
    have h2 : handed G sf (G.B b).1 = false := by unfold handed; rw [hb]
    refine ⟨h1, h2, ?_⟩
    rw [gO, aftOw_keep h1 h2]
    unfold keepOw
    rw [hb]
  have hV : ∀ l, isHard ws l = false → G'.V l = G.V l := fun l hl => by rw [gV]; exact W4 l hl
  have hdh : ∀ l, l ∈ ds → isHard ws l = true := fun l hl => by rw [hws]; rw [hds] at hl; exact callDs_hard hl
  have hSh : ∀ l, isHard ws l = false → upds S (ds.zip rs) l = S l := by
    intro l hl
    refine upds_not ?_
    intro h
    obtain ⟨x, hx, rfl⟩ := List.mem_map.1 h
    rw [hdh _ (List.of_mem_zip hx).1] at hl
    cases hl
  have hS : ∀ l, isDom ws l = false → upds S (ds.zip rs) l = S l := by
    intro l hl
    refine hSh l ?_
    cases h : isHard ws l with
    | false => rfl
    | true => simp [isDom, h] at hl
  have hnbm : ∀ d, dst = some d → noNew e.rts = false → isHard ws (bm d) = true := by
    intro d hd hn
    obtain ⟨j, cells, h⟩ := noNew_has hn
    obtain ⟨x, hx⟩ := rtNew_has (d := d) h
    refine hfind_isSome (e := x) ?_
    rw [hws, hd]
    exact List.mem_append_right _ (List.mem_append_left _ hx)
  have hB : ∀ b, isHard ws (bm b) = false → G'.B b = G.B b := by
    intro b hb
    rw [gB]
    unfold aftB
    rw [if_neg]
    rintro ⟨h1, h2⟩
    rw [hnbm b h1 h2] at hb
    cases hb
  have hBd : ∀ d, dst = some d → noNew e.rts = false → G'.B d = G2.B NB := by
    intro d hd hn
    rw [gB]
    unfold aftB
    rw [if_pos ⟨hd, hn⟩]
  have hcell : ∀ b j, b < 2000 → j < 64 → isHard ws (bm b) = false → isHard ws (bc b j) = true → ∃ x ∈ chOf 0 e.ps as, x.m = bc b j := by
    intro b j hb2 hj hbm hh
    obtain ⟨x, hx⟩ := isHard_mem hh
    cases hwh _ x hx with
    | res d' j' rt hd hr hl ht hs =>
      exfalso
      have := (hd2 d' hd)
      have hj' : j' < e.rts.length := (List.getElem?_eq_some_iff.1 hr).1
      rw [← hrsh d' hd] at hj'
      have := this.2.1
      have := (hd2 d' hd).2.2.2.1
      simp only [bc, lc] at hl
      omega
    | none d' j' hd hl hj' ht hs =>
      exfalso
      have := (hd2 d' hd).2.1
      simp only [bc, lc] at hl
      omega
    | nbm d' j' cells hd hr hl hx' => exfalso; simp only [bc, bm] at hl; omega
    | nbc d' j' k' cells m hd hr hk hl hx' =>
      exfalso
      obtain ⟨q1, q2⟩ := hcl j' cells hr
      have hk' : k' < cells.length := (List.getElem?_eq_some_iff.1 hk).1
      have hbd : b = d' := by simp only [bc] at hl; omega
      subst hbd
      rw [hnbm b hd q2] at hbm
      cases hbm
    | ch x hc hl hx' => exact ⟨x, hc, hl.symm⟩
  refine ⟨G', ?_, ?_, ?_⟩
  · refine HRel.step c.R hV hS hB ?_ ?_ ?_ ?_ ?_ ?_ ?_ ?_ ?_
    · intro b hb
      obtain ⟨h1, h2⟩ := keep1 b (.inl hb)
      exact ⟨h1, h2.trans hb⟩
    · intro b hb
      obtain ⟨h1, h2⟩ := keep1 b (.inr (.inl hb))
      exact ⟨h1, h2.trans hb⟩
    · intro l hl b hb
      have hns : ∀ t, Wr1.soft l t ∉ sf := by
        intro t ht
        have := callWs_behind (gd := gd) (e := e) (dst := dst) (ch := chOf 0 e.ps as) (sf := sf) (by rw [← hws]; exact hso) ht
        rw [← hws, hl] at this
        cases this
      have hsn : sfind sf l = none := by
        cases h : sfind sf l with
        | none => rfl
        | some t => exact absurd (sfind_some h) (hns t)
      have hlb := hlt b (by rw [hb]; simp)
      have hh : handed G sf b = false := by unfold handed; rw [hb]; simp only; rw [hsn]
      refine ⟨?_, ?_⟩
      · rcases c.kept hGo hGB F hlb hh with ⟨h1, _⟩ | ⟨v, _, _, _, h1⟩
        · exact h1
        · rw [hb] at h1; cases h1
      · rw [gO, aftOw_keep hlb hh]
        unfold keepOw
        rw [hb]
        simp only
        rw [hsn]
    · intro b n hn hbm
      obtain ⟨x1, x2⟩ := c.R.box b n hn
      obtain ⟨y1, y2, y3⟩ := boxKeep b x1
      obtain ⟨z1, z2⟩ := c.R.bsm b n hn
      refine ⟨y3, ?_⟩
      intro j hj
      by_cases hvar : ∃ v ∈ varsOf 0 e.ps as, v.b = b
      · obtain ⟨v, hv1, hv2⟩ := hvar
        subst hv2
        obtain ⟨q1, q2, n', q3, q4, q5, q6⟩ := c.varLt v hv1
        obtain ⟨f1, f2⟩ := F.bx _ q2
        simp only at f1 f2
        have hBv : Gc.B v.i = ((G.B v.b).1, (G.B v.b).2 + v.off) := by rw [hGB]; exact c.B_var v hv1
        rw [hBv] at f1 f2
        simp only at f2
        obtain ⟨f3, f4, f5⟩ := f2 (by rw [hGo]; exact c.Ow_var rds sf v hv1 x1)
        have hfr : w'.frozen? ⟨(G.B v.b).1, (G.B v.b).2 + j, none⟩ = false := by rw [f5]; exact (x2 j hj).2
        refine ⟨?_, hfr⟩
        by_cases hr : v.off ≤ j ∧ j < v.off + v.n
        · obtain ⟨e1, e2⟩ := vout v hv1
          have hbx := hes _ (hpse _ e1)
          obtain ⟨g1, g2⟩ := R2.box v.i v.n (by rw [hbx])
          have hj' := (g2 (j - v.off) (by omega)).1
          rw [f1] at hj'
          simp only at hj'
          have ea : (G.B v.b).2 + v.off + (j - v.off) = (G.B v.b).2 + j := by omega
          rw [ea] at hj'
          rw [hj']
          congr 1
          rcases e2 (j - v.off) (by omega) with h | ⟨x, h1, h2, h3⟩
          · have hal := hlok _ (hpse _ h)
            have hal : G2.V (bc v.i (j - v.off)) = G2.V (shd v.i (j - v.off)) := hal
            have hvi := q1.1
            rw [hal, F.shd _ (by simp only [shd]; omega) (by simp only [shd]; omega), hGV]
            obtain ⟨it, i1, i2, i3⟩ := varsOf_items v hv1 (j - v.off) (by omega)
            rw [← i2, c.V_item it i1, i3]
            have eb : v.off + (j - v.off) = j := by omega
            rw [eb]
            refine (hV _ ?_).symm
            cases hh : isHard ws (bc v.b j) with
            | false => rfl
            | true =>
              exfalso
              obtain ⟨x, hx1, hx2⟩ := hcell v.b j z2 (by omega) hbm hh
              obtain ⟨v', u1, j', u2, u3, u4, u5, u6⟩ := hchm x hx1
              have hbb : v'.b = v.b := by rw [u4] at hx2; simp only [bc] at hx2; omega
              have hvv := inj_of_nodup_map k.nb u1 hv1 hbb
              subst hvv
              have hjj : j' = j - v'.off := by rw [u4] at hx2; simp only [bc] at hx2; omega
              obtain ⟨_, _, _, _, _, _, u7⟩ := cin x hx1
              have hx3 := hes _ (hpse _ u7)
              have hx4 := hes _ (hpse _ h)
              simp only at hx3 hx4
              rw [u3, hjj, hx4] at hx3
              injection hx3 with hx3
              generalize x.own = ow at hx3
              cases ow <;> (simp only [ownTag] at hx3; cases hx3)
          · have hxm : x.m = bc v.b j := by rw [h3]; congr 1; omega
            rw [gV, ← hxm, W3 x h1, h2]
        · rw [f4 _ (by omega), (x2 j hj).1]
          congr 1
          refine (hV _ ?_).symm
          cases hh : isHard ws (bc v.b j) with
          | false => rfl
          | true =>
            exfalso
            obtain ⟨x, hx1, hx2⟩ := hcell v.b j z2 (by omega) hbm hh
            obtain ⟨v', u1, j', u2, u3, u4, u5, u6⟩ := hchm x hx1
            have hbb : v'.b = v.b := by rw [u4] at hx2; simp only [bc] at hx2; omega
            have hvv := inj_of_nodup_map k.nb u1 hv1 hbb
            subst hvv
            rw [u4] at hx2
            simp only [bc] at hx2
            omega
      · have hk2 : w'.heap[(G.B b).1]? = w.heap[(G.B b).1]? := by
          rcases c.kept hGo hGB F y1 y2 with ⟨h1, _⟩ | ⟨v, hv1, _, _, h1⟩
          · exact h1
          · rw [x1] at h1
            injection h1 with h1
            exact absurd ⟨v, hv1, h1.symm⟩ hvar
        rw [cell?_eq_of_heap hk2, frozen?_eq_of_heap hk2]
        refine ⟨?_, (x2 j hj).2⟩
        rw [(x2 j hj).1]
        congr 1
        refine (hV _ ?_).symm
        cases hh : isHard ws (bc b j) with
        | false => rfl
        | true =>
          exfalso
          obtain ⟨x, hx1, hx2⟩ := hcell b j z2 (by omega) hbm hh
          obtain ⟨v', u1, j', u2, u3, u4, u5, u6⟩ := hchm x hx1
          refine hvar ⟨v', u1, ?_⟩
          rw [u4] at hx2
          simp only [bc] at hx2
          omega
    · intro l x hx hlive
      have hh : isHard ws l = true := hfind_isSome hx
      cases hwh l x hx with
      | res d' j rt hd hr hl ht hs =>
        subst hl
        have hj : j < 64 := by
          have h1 : j < e.rts.length := (List.getElem?_eq_some_iff.1 hr).1
          rw [← hrsh d' hd] at h1
          have := (hd2 d' hd).2.2.2.1
          omega
        have hw1 := W1 d' j hd hj hh
        rw [← gV] at hw1
        rw [ht]
        have hm := resEs_get (j0 := 0) hr
        cases rt with
        | val =>
          simp only [Nat.zero_add] at hm
          exact LT _ _ false ((pres d' hd).1 j _ hr (by intro x h; cases h)) (hlok _ (hres _ hm)) hw1
        | own =>
          simp only [Nat.zero_add] at hm
          exact LT _ _ true ((pres d' hd).1 j _ hr (by intro x h; cases h)) (hlok _ (hres _ hm)) hw1
        | nb cells =>
          simp only [Nat.zero_add] at hm
          have hl := hlok _ (hres _ hm.1)
          show G'.V (lc d' j) = .pointer (some ⟨(G'.B d').1, (G'.B d').2 + 0, none⟩)
          rw [hw1, hBd d' hd (hcl j cells hr).2]
          exact hl
      | none d' j hd hl hj ht hs => rw [ht]; trivial
      | nbm d' j cells hd hr hl hx' => rw [hx']; trivial
      | nbc d' j k' cells m hd hr hk hl hx' =>
        subst hl
        obtain ⟨q1, q2⟩ := hcl j cells hr
        have hk' : k' < cells.length := (List.getElem?_eq_some_iff.1 hk).1
        rw [hx']
        have hm := (resEs_get (j0 := 0) hr).2.2 _ (cellsNew_get (k0 := 0) hk)
        have hl := hlok _ (hres _ hm)
        simp only [Nat.zero_add] at hl
        refine LT _ _ _ ((pres d' hd).2 j cells hr k' hk') hl ?_
        rw [gV]
        exact W2 d' k' hd q2 (by omega) hh
      | ch x hc hl hx' =>
        subst hl
        rw [hx']
        obtain ⟨v, u1, j', u2, u3, u4, u5⟩ := cin x hc
        refine LT _ _ _ (pch x hc) (hlok _ (hpse _ u5)) ?_
        rw [gV]
        exact W3 x hc
    · intro b x n hx hn
      cases hwh _ x hx with
      | res d' j rt hd hr hl ht hs => exact absurd hn (hs n)
      | none d' j hd hl hj ht hs => exact absurd hn (hs n)
      | nbm d' j cells hd hr hl hx' =>
        have := bm_inj hl
        subst this
        rw [hx'] at hn
        injection hn with hn
        injection hn with hn
        subst hn
        obtain ⟨q1, q2⟩ := hcl j cells hr
        have hm := (resEs_get (j0 := 0) hr).2.1
        have hbx := hes _ (hres _ hm)
        obtain ⟨g1, g2⟩ := R2.box NB cells.length (by rw [hbx])
        rw [hBd b hd q2]
        refine ⟨?_, ?_⟩
        · rw [gO, hd]
          exact c.aft_nb hGo hGB F g1
        · intro j' hj'
          have hhc : isHard ws (bc b j') = true := by
            refine hdh _ ?_
            exact (List.of_mem_zip ((pres b hd).2 j cells hr j' hj')).2
          rw [gV, W2 b j' hd q2 (by omega) hhc]
          exact g2 j' hj'
      | nbc d' j k' cells m hd hr hk hl hx' => rw [hx'] at hn; cases hn
      | ch x hc hl hx' => rw [hx'] at hn; cases hn
    · intro l t ht hlive
      rw [hws] at ht
      obtain ⟨t0, h1, h2⟩ := callWs_soft ht
      rw [← hws] at ht
      rcases h2 with rfl | ⟨rfl, rfl⟩
      · trivial
      · obtain ⟨t1, xs, q1, q2⟩ := hfrz l h1
        obtain ⟨hnh, _⟩ := softsOk_spec hso l _ ht
        show Rep w' G'.Ow (G'.V l) _
        rw [hV l hnh, hSh l hnh, q1]
        refine q2.frz ?_ ?_
        · intro b hb
          obtain ⟨h3, h4⟩ := keep1 b (.inl hb)
          exact ⟨h3, h4.trans hb⟩
        · intro b hb
          have hlb := hlt b (by rw [hb]; simp)
          have hsf := sfind_of_mem kso h1
          have hh : handed G sf b = false := by unfold handed; rw [hb]; simp only; rw [hsf]
          refine ⟨?_, ?_⟩
          · rcases c.kept hGo hGB F hlb hh with ⟨h5, _⟩ | ⟨v, _, _, _, h5⟩
            · exact h5
            · rw [hb] at h5; cases h5
          · rw [gO, aftOw_keep hlb hh]
            unfold keepOw
            rw [hb]
            simp only
            rw [hsf]
    · intro n hn
      rw [gO]
      unfold aftOw
      rw [if_neg (by rintro ⟨h, _⟩; have := F.size; omega)]
      unfold newOw
      rw [R2.new n hn]
    · intro b x n hx hn
      cases hwh _ x hx with
      | res d' j rt hd hr hl ht hs => exact absurd hn (hs n)
      | none d' j hd hl hj ht hs => exact absurd hn (hs n)
      | nbm d' j cells hd hr hl hx' =>
        have := bm_inj hl
        subst this
        rw [hx'] at hn
        injection hn with hn
        injection hn with hn
        subst hn
        exact ⟨(hcl j cells hr).1, (hd2 b hd).2.1⟩
      | nbc d' j k' cells m hd hr hk hl hx' => rw [hx'] at hn; cases hn
      | ch x hc hl hx' => rw [hx'] at hn; cases hn
  · refine TRel.step2 T hin hV hS ?_ ?_
    · intro t ht htd
      left
      refine hSh _ ?_
      cases h : isHard ws (lc t 0) with
      | false => rfl
      | true =>
        exfalso
        rcases hardsIn_spec hin h with h1 | ⟨d', hd', h1, h2⟩
        · simp only [lc] at h1; omega
        · apply htd
          rw [hd']
          congr 1
          simp only [lc] at h1 h2
          omega
    · intro d hd
      obtain ⟨h1, h2, ⟨e0, h3, h4, h5⟩, h6, _⟩ := hd2 d hd
      refine ⟨h1, h2, e0, e.rsh, h3, h4, h6, ?_, ?_⟩
      · intro _
        rw [hv]
        refine asm_congr fun j hj => ?_
        rw [gV]
        refine (W1 d j hd (by omega) ?_).symm
        obtain ⟨x, hx⟩ := hardT_mem d e.rsh gd (rtTags d e.rts) j (by rw [rtTags_length, ← hrsh d hd]; exact hj)
        refine hfind_isSome (e := x) ?_
        rw [hws, hd]
        exact List.mem_append_left _ hx
      · intro cc b hcb hne
        exfalso
        rw [h5] at hcb
        exact hne (gd_kept hgk hgd hS cc b hcb)
  · refine ⟨F.os, F.tape, F.output, F.size, ?_, ?_, ?_⟩
    · intro b hlb ho
      exact keep1 b (ho.imp id (Or.imp id fun h => ⟨h, hlb⟩))
    · intro l h1 h2
      refine hV l ?_
      cases h : isHard ws l with
      | false => rfl
      | true =>
        exfalso
        rcases hardsIn_spec hin h with h3 | ⟨d', hd', h3, h4⟩
        · omega
        · have := (hd2 d' hd').2.1
          omega
    · intro p hp
      obtain ⟨q1, q2, q3⟩ := hb p hp
      refine ⟨?_, fun ho => ?_⟩
      · rw [gB]
        unfold aftB
        rw [if_neg]
        rintro ⟨h1, h2⟩
        have := varsOk_bm hvo (hnbm p.1 h1 h2)
        rw [q1] at this
        cases this
      · obtain ⟨y1, y2, y3⟩ := boxKeep p.1 ho
        refine ⟨y3, ?_⟩
        rcases c.kept hGo hGB F y1 y2 with ⟨h1, _⟩ | ⟨v, hv1, _, h1, h2⟩
        · exact ⟨fun o _ => cell?_eq_of_heap h1 o, fun o => frozen?_eq_of_heap h1 o⟩
        · rw [ho] at h2
          injection h2 with h2
          obtain ⟨r1, r2, n', r3, r4, r5, r6⟩ := c.varLt v hv1
          obtain ⟨f1, f2⟩ := F.bx _ r2
          simp only at f1 f2
          have hBv : Gc.B v.i = ((G.B v.b).1, (G.B v.b).2 + v.off) := by rw [hGB]; exact c.B_var v hv1
          rw [hBv] at f1 f2
          simp only at f2
          rw [← h2] at f2 r3
          obtain ⟨f3, f4, f5⟩ := f2 (by rw [hGo, h2]; exact c.Ow_var rds sf v hv1 (by rw [← h2]; exact ho))
          have hn := q3 n' r3
          exact ⟨fun o ho => f4 o (by omega), f5⟩
end
end Go.Proofs.Fw
set_option linter.unusedVariables false
set_option linter.unusedSimpArgs false
namespace Go.Proofs.Fw
variable {P : Program} {Γ : SEnv} {S : PSt} {G : Gh} {w : World} {N : Nat} {a : Act} {gd : Option (Nat × Bool)} {gs : List (Nat × Bool)} {o : Oper} {bs : List (Nat × Nat)} {d : Nat} {sem : CSem} {us : List (Nat × Univ)} {Np : Nat}
def NoNum (P : Program) : Prop := ∀ (f : Nat) (fn : Func), P.funcs[f]? = some fn → (fn.name == "runtime.NumGoroutine") = false
def Good (P : Program) (sem : CSem) (ix : Nat) (e : Entry) : Prop := Contract P sem ix e ∧ psOk e.ps = true ∧ ∃ fn, P.funcs[e.fid]? = some fn ∧ fn.body.isNone = false
theorem callFunc_run (hn : NoNum P) {f : FuncId} {fn : Func} (h : P.funcs[f]? = some fn) (hb : fn.body.isNone = false) (args : Array Value) : (callFunc f args).run P w = .ok (.enter f args) w := by
  unfold callFunc
  have h1 : ¬ fn.name = "runtime.NumGoroutine" := by simpa using hn f fn h
  have h2 : ¬ fn.body = none := by intro e; rw [e] at hb; cases hb
  simp [h, h1, h2]
theorem callStep0_ok {c : Call} {f : Nat} {caps : List (Nat × Nat)} {x : Eff} : ∀ {es : List Entry} {i : Nat}, (callStep0 P Np gd gs o c f caps i es).run Γ = some x → ∃ ix e, es[ix]? = some e ∧ e.fid = f ∧ (callStep1 P Np gd gs o c caps (i + ix) e).run Γ = some x
  | [], _, h => by cases h
  | e :: r, i, h => by
    have up : (callStep0 P Np gd gs o c f caps (i + 1) r).run Γ = some x → ∃ ix e', (e :: r)[ix]? = some e' ∧ e'.fid = f ∧ (callStep1 P Np gd gs o c caps (i + ix) e').run Γ = some x := by
      intro h
      obtain ⟨ix, e', h1, h2, h3⟩ := callStep0_ok h
      exact ⟨ix + 1, e', by simpa using h1, h2, by rw [show i + (ix + 1) = i + 1 + ix by omega]; exact h3⟩
    simp only [callStep0] at h
    split at h
    · rename_i hf
      rcases Rd.run_or h with h | h
      · exact ⟨0, e, rfl, Nat.eq_of_beq_eq_true hf, h⟩
      · exact up h
    · exact up h
theorem call1_ok (hnn : NoNum P) {ix : Nat} {e : Entry} (hg : Good P sem ix e) (p : Pre Γ S G w N a gd gs) (hb : BsOk Np bs Γ) {c : Call} {caps : List (Nat × Nat)} {x : Eff} (h : (callStep1 P Np gd gs o c caps ix e).run Γ = some x)
    (hok : effOk N gd o.dst x = true) (hso : softsOk x.ws = true) (hvo : varsOk Np x.ws = true) (hus : x.pop.eval sem S = some us)
    (hx : (execOp a.eval o).run P w = (callFunc e.fid (c.args.map a.eval ++ (caps.map (capV G)).toArray)).run P w) : OutW P o a w bs (app x.ws Γ) (upds S us) N G := by
  obtain ⟨hc, hps, fn, hfn, hbody⟩ := hg
  unfold callStep1 at h
  obtain ⟨as, h1, h⟩ := Rd.run_bind h
  obtain ⟨ys, h2, h⟩ := Rd.run_bind h
  obtain ⟨_, h3, h⟩ := Rd.run_bind h
  have h3 := Rd.run_must h3
  simp only [Bool.and_eq_true] at h3
  obtain ⟨a1, a2, a3⟩ := aPs_ok p h1
  have hsz := Nat.eq_of_beq_eq_true h3.2
  have hxs : (c.args.toList.zip c.argTypes.toList).map (fun x => a.eval x.1) = c.args.toList.map a.eval := by
    have : (c.args.toList.zip c.argTypes.toList).map (fun x => a.eval x.1) = ((c.args.toList.zip c.argTypes.toList).map fun x => x.1).map a.eval := by rw [List.map_map]; rfl
    rw [this, List.map_fst_zip (by simp [hsz])]
  have hargs : ∀ i : Nat, (c.args.map a.eval ++ (caps.map (capV G)).toArray)[i]? = ((c.args.toList.zip c.argTypes.toList).map (fun x => a.eval x.1) ++ caps.map (capV G))[i]? := by
    intro i
    rw [hxs, ← Array.getElem?_toList]
    simp
  have cp : CallPre Γ S G w gs e as ys (c.args.map a.eval ++ (caps.map (capV G)).toArray) := by
    refine ⟨p.R, p.gs, hps, a1, ?_, ?_, h2, h3.1⟩
    · have : (c.args.toList.zip c.argTypes.toList).length = c.args.size := by simp [hsz]
      simp only [Array.size_append, Array.size_map, List.size_toArray, List.length_map]
      omega
    · intro i q y v q1 q2 q3
      exact a3 i q y v q1 q2 (by rw [← hargs]; exact q3)
  have key : ∀ (srcs : List Src) (ds : List Nat) (ws : List Wr1), x = ⟨.call ix srcs ds, ws⟩ → srcs = ys.map (fun y => y.1) → ws = callWs o.dst gd e (chOf 0 e.ps as) (ys.flatMap fun y => y.2) → ds = callDs o.dst e (chOf 0 e.ps as) →
      (o.dst = none → e.rts = []) → countNew e.rts ≤ 1 → (∀ d, o.dst = some d → e.rsh.size = e.rts.length) → (∀ d, o.dst = some d → noNew e.rts = true ∨ ∀ v ∈ varsOf 0 e.ps as, v.b ≠ d) → OutW P o a w bs (app x.ws Γ) (upds S us) N G := by
    intro srcs ds ws e1 e2 e3 e4 e5 e6 e7 e8
    subst e1
    have hk : (sem.k ix (srcs.map fun s => s.get S) (some : List Univ → Option (List Univ))).bind (fun rs => match decide (rs.length = ds.length) with | true => some (ds.zip rs) | false => none) = some us := by
      rw [sem.nat]
      exact hus
    cases hr : sem.k ix (srcs.map fun s => s.get S) (some : List Univ → Option (List Univ)) with
    | none => rw [hr] at hk; cases hk
    | some rs =>
      rw [hr] at hk
      simp only [Option.bind_some] at hk
      split at hk
      case h_2 => cases hk
      rename_i hlen
      have hlen := of_decide_eq_true hlen
      have hk := Option.some.inj hk
      subst hk
      obtain ⟨s1, s2⟩ := cp.start
      have hmap : (srcs.map fun s => s.get S) = ys.map fun y => y.1.get S := by rw [e2, List.map_map]; rfl
      rw [hmap] at hr
      have hvin := (callChk_ok cp.chk).vin
      have hylen := (mapRd_run cp.run).1
      have hl2 : (ys.map fun y => y.1.get S).length = (psVin 0 e.ps).length := by
        rw [← hvin]
        simp [hylen]
      have hcall := hc _ w _ _ rs hl2 s1 s2 hr
      intro K Q hK
      unfold Oper.wp
      rw [hx, callFunc_run hnn hfn hbody, Oper.upon_enter]
      refine hcall.mono ?_
      rintro en w' ⟨v, rfl, hp⟩
      obtain ⟨G', r1, r2, r3⟩ := cp.after p.T hb p.gd e3 e4 hok hso hvo e5 e6 e7 e8 hlen hp
      exact hK v w' G' r1 r2 r3
  cases hd : o.dst with
  | some d =>
    rw [hd] at h
    obtain ⟨_, h4, h⟩ := Rd.run_bind h
    have h4 := Rd.run_must h4
    simp only [Bool.and_eq_true, Bool.or_eq_true, decide_eq_true_eq, List.all_eq_true, Bool.not_eq_true'] at h4
    obtain ⟨⟨⟨h5, h6⟩, h7⟩, h8⟩ := h4
    have h := run_ret h
    refine key _ _ _ h.symm rfl (by rw [hd]; rfl) (by rw [hd]; rfl) (by intro h; rw [hd] at h; cases h) (Nat.le_of_ble_eq_true h6) (by intro d' _; exact h7) ?_
    intro d' hd'
    rw [hd] at hd'
    injection hd' with hd'
    subst hd'
    refine h8.imp id fun h9 v hv e => ?_
    have := h9 v hv
    rw [e] at this
    simp at this
  | none =>
    rw [hd] at h
    obtain ⟨_, h4, h⟩ := Rd.run_bind h
    have h4 := Rd.run_must h4
    simp only [Bool.and_eq_true, List.isEmpty_iff] at h4
    have h := run_ret h
    refine key _ _ _ h.symm rfl (by rw [hd]; rfl) (by rw [hd]; rfl) (fun _ => h4.2) (by rw [h4.2]; exact Nat.zero_le _) (by intro d' h; rw [hd] at h; cases h) (by intro d' h; rw [hd] at h; cases h)
theorem callOk_of {I : FInfo} (hnn : NoNum I.P) (hg : ∀ (ix : Nat) (e : Entry), I.es[ix]? = some e → Good I.P sem ix e) : CallOk I sem := by
  intro Γ S G w a gd gs bs o c x us hcall p hb h hok hso hvo hus
  unfold isCall at hcall
  split at hcall
  case h_2 => cases hcall
  rename_i c' hop
  split at hcall
  case h_2 => cases hcall
  rename_i f0 hce
  have hcall := Option.some.inj hcall
  subst hcall
  unfold callStep at h
  rw [hce] at h
  have fin : ∀ (f : Nat) (caps : List (Nat × Nat)), a.eval f0 = .func (.func f) #[] (caps.map (capV G)).toArray → (callStep0 I.P I.Np gd gs o c' f caps 0 I.es).run Γ = some x → OutW I.P o a w bs (app x.ws Γ) (upds S us) I.N G := by
    intro f caps hv h
    obtain ⟨ix, e, h1, h2, h3⟩ := callStep0_ok h
    rw [Nat.zero_add] at h3
    refine call1_ok hnn (hg ix e h1) p hb h3 hok hso hvo hus ?_
    simp [execOp, hop, resolve, hce, hv, Deferred.ofValue, invoke, h2]
  cases f0 with
  | func f => exact fin f [] (by simp [Act.eval]) h
  | tmp t =>
    simp only at h
    obtain ⟨⟨m, tag⟩, h1, h⟩ := Rd.run_bind h
    simp only at h
    split at h
    case h_2 => cases h
    rename_i f caps
    obtain ⟨e1, e2, _⟩ := ptrLeaf_ok p h1
    exact fin f caps (e1.trans e2) h
  | _ => cases h
def Upto (P : Program) (tab : List CEnt) (es : List Entry) (n : Nat) : Prop := ∀ (ix : Nat) (e : Entry), ix < n → es[ix]? = some e → Good P (semOf tab) ix e
theorem Upto.zero {tab : List CEnt} {es : List Entry} : Upto P tab es 0 := fun ix e h => by omega
def entOk (P : Program) (e : Entry) : Bool := psOk e.ps && match P.funcs[e.fid]? with
  | some fn => fn.body.isSome
  | none => false
theorem entOk_spec {e : Entry} (h : entOk P e = true) : psOk e.ps = true ∧ ∃ fn, P.funcs[e.fid]? = some fn ∧ fn.body.isNone = false := by
  simp only [entOk, Bool.and_eq_true] at h
  refine ⟨h.1, ?_⟩
  have h2 := h.2
  split at h2
  · rename_i fn hfn
    exact ⟨fn, hfn, by cases hb : fn.body with | none => rw [hb] at h2; cases h2 | some _ => rfl⟩
  · cases h2
theorem Upto.hand {tab : List CEnt} {es : List Entry} {n : Nat} (h : Upto P tab es n) (hg : ∀ e, es[n]? = some e → Good P (semOf tab) n e) : Upto P tab es (n + 1) := by
  intro ix e hix he
  by_cases hn : ix = n
  · subst hn; exact hg e he
  · exact h ix e (by omega) he
theorem Upto.step {K : Nat} {tab : List CEnt} {es : List Entry} {n : Nat} {hs : List Hint} {e : Entry} {c : CEnt} (h : Upto P tab es n) (hnn : NoNum P) (he : es[n]? = some e) (ht : tab[n]? = some c) (hok : entOk P e = true)
    (hd : ∀ x, denF K P tab (es.take n) hs e c.pt c.rt x = c.f x) : Upto P tab es (n + 1) := by
  refine h.hand fun e' he' => ?_
  rw [he] at he'
  injection he' with he'
  subst he'
  obtain ⟨q1, q2⟩ := entOk_spec hok
  refine ⟨contract_of_gen (K := K) ?_ ht hd, q1, q2⟩
  intro I hI
  have hI2 := hI
  unfold mkInfo at hI2
  split at hI2
  case h_2 => cases hI2
  have hI2 := Option.some.inj hI2
  subst hI2
  refine callOk_of hnn ?_
  intro ix e2 h2
  have hlt : ix < n := by
    have := (List.getElem?_eq_some_iff.1 h2).1
    simp only [List.length_take] at this
    omega
  refine h ix e2 hlt ?_
  rw [List.getElem?_take_of_lt hlt] at h2
  exact h2
end Go.Proofs.Fw
set_option linter.unusedVariables false
set_option linter.unusedSimpArgs false
namespace Go.Proofs.Fw
open Go.RowKit
variable {P : Program}
theorem entOk_all {es : List Entry} (h : (es.all (entOk P)) = true) {n : Nat} {e : Entry} (he : es[n]? = some e) : entOk P e = true :=
  List.all_eq_true.1 h e (List.mem_of_getElem? he)
theorem noNum_of (h : ((List.range P.funcs.size).all fun f => match P.funcs[f]? with | some fn => !(fn.name == "runtime.NumGoroutine") | none => true) = true) : NoNum P := by
  intro f fn hf
  have hlt : f < P.funcs.size := (Array.getElem?_eq_some_iff.1 hf).1
  have := List.all_eq_true.1 h f (List.mem_range.2 hlt)
  rw [hf] at this
  simpa using this
def lawG (W : World) (vs : List Value) : Gh := ⟨fun l => vs.getD (l / 64) undef, fun b => if b < W.heap.size then .imm else .foreign, fun _ => (0, 0)⟩
theorem law_below {W W' : World} {vs : List Value} {bs : List (Nat × Nat)} {G' : Gh} (F : Fr bs (lawG W vs) W G' W') : Below W.heap.size W W' :=
  ⟨F.os, F.tape, F.output, F.size, fun k hk => (F.keep k hk (.inl (if_pos hk))).1⟩
theorem law_bytes {tab : List CEnt} {n fid : Nat} {m : PM} (hm : m ≠ .own) (hg : Good P (semOf tab) n ⟨fid, [.v .leaf [m]], .one .leaf, [.val]⟩) {F : List Int → Option (Bool × Unit)}
    (ht : tab[n]? = some ⟨[.sl (.int .u8)], [.bool], fun x => F x.1⟩) {W : World} {v : Value} (zs : List Int)
    (hv : (v = .slice none 0 0 ∧ zs = []) ∨ ∃ a cap, v = .slice (some a) zs.length cap ∧ zs.length ≤ cap ∧ ∀ i, i < zs.length → W.cell? (a.add i) = some (.int .u8 (zs.getD i 0))) (hF : F zs = some (true, ())) :
    Calls P fid #[v] W fun e W' => e = .returned (.bool true) ∧ Below W.heap.size W W' := by
  have hrep : Rep W (lawG W [v]).Ow v ⟨.sl (.int .u8), zs⟩ := by
    rcases hv with ⟨rfl, rfl⟩ | ⟨a, cap, rfl, hcap, hcell⟩
    · exact .nil _ _ _
    · by_cases hz : zs = []
      · subst hz; exact .nil _ _ _
      · have h0 : 0 < zs.length := by cases zs with | nil => exact absurd rfl hz | cons _ _ => simp
        obtain ⟨b, off, spot⟩ := a
        have hspot : spot = none := by simpa [Addr.add] using World.cell?_spot (hcell 0 h0)
        subst hspot
        have hb : b < W.heap.size := by
          have := World.block_lt_of_cell? _ _ (hcell 0 h0)
          simpa [Addr.add] using this
        refine .sl (.int .u8) zs ⟨b, off, none⟩ _ cap (fun i _ => .int .u8 (zs.getD i 0)) rfl hcap (if_pos hb) rfl ?_ ?_
        · intro i j hi hj
          have hj : j = 0 := by simp only [Ty.size] at hj; omega
          subst hj
          have := hcell i hi
          rw [add_eq rfl] at this
          simp only [Ty.size, Nat.mul_one, Nat.add_zero]
          exact this
        · intro i j x u hx hu
          simp only [leaves] at hu
          cases j with
          | zero =>
            simp only [List.getElem?_cons_zero, Option.some.injEq] at hu
            subst hu
            have : zs.getD i 0 = x := by rw [List.getD_eq_getElem?_getD, hx]; rfl
            rw [this]
            exact .int _ _
          | succ j => simp at hu
  have hk : (semOf tab).k n [⟨.sl (.int .u8), zs⟩] (some : List Univ → Option (List Univ)) = some [⟨.bool, true⟩] := by
    show (match tab[n]? with | some c => HT.of c.pt [⟨.sl (.int .u8), zs⟩] fun x => bnd (c.f x) fun y => some (HT.list c.rt y) | none => none) = _
    rw [ht]
    show bnd (Univ.cast (.sl (.int .u8)) ⟨.sl (.int .u8), zs⟩) _ = _
    rw [Univ.cast_mk]
    show bnd (F zs) _ = _
    rw [hF]
    rfl
  refine (hg.1 (lawG W [v]) W #[v] [⟨.sl (.int .u8), zs⟩] [⟨.bool, true⟩] rfl ?_ ?_ hk).mono ?_
  · have hes : psIn 0 [PS.v .leaf [m]] = [⟨lc 0 0, m.tag, some (.one .leaf)⟩] := rfl
    refine ⟨?_, ?_, ?_, ?_⟩
    · intro l _
      rcases envOf_cases (psIn 0 [PS.v .leaf [m]]) l with h | ⟨e, he, hl, h⟩
      · rw [h]; trivial
      · rw [hes] at he
        have he := List.mem_singleton.1 he
        subst he
        rw [h]
        subst hl
        cases m with
        | rd => exact hrep.rdv
        | val => exact hrep
        | own => exact absurd rfl hm
    · intro b n hn
      rcases envOf_cases (psIn 0 [PS.v .leaf [m]]) (bm b) with h | ⟨e, he, hl, h⟩
      · rw [h] at hn; cases hn
      · rw [hes] at he
        have he := List.mem_singleton.1 he
        subst he
        simp only [lc, bm] at hl
        omega
    · intro k hk
      show (if k < W.heap.size then Owner.imm else .foreign) = _
      rw [if_neg (by omega)]
    · intro b n hn
      rcases envOf_cases (psIn 0 [PS.v .leaf [m]]) (bm b) with h | ⟨e, he, hl, h⟩
      · rw [h] at hn; cases hn
      · rw [hes] at he
        have he := List.mem_singleton.1 he
        subst he
        simp only [lc, bm] at hl
        omega
  · refine ⟨rfl, ?_⟩
    intro i p hp
    cases i with
    | zero =>
      simp only [List.getElem?_cons_zero, Option.some.injEq] at hp
      subst hp
      rfl
    | succ i => simp at hp
  · rintro e W' ⟨v', rfl, G', h1, _, hR, F⟩
    have := hR.lok (rl 0) (by intro c b h; cases h)
    have : Rep W' G'.Ow (G'.V (rl 0)) ⟨.bool, true⟩ := this
    have hb : G'.V (rl 0) = .bool true := by
      generalize G'.V (rl 0) = x at this
      cases this
      rfl
    refine ⟨?_, law_below F⟩
    rw [h1]
    show Ending.returned (G'.V (rl 0)) = _
    rw [hb]
end Go.Proofs.Fw
