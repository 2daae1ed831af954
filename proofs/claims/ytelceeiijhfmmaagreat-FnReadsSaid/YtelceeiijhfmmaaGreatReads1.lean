import Derived.Test.YtelceeiijhfmmaaGreatReads0
import Derived.Laws.IdiomStrings
import Derived.Laws.MakeOwn
import Derived.Great.BuildSlice
import Derived.Deep.Upon
/- For every input the law FnReads of the given program returns true and leaves its argument as it was. -/
set_option linter.unusedVariables false
set_option linter.unusedSimpArgs false
namespace Go.Proofs.Fw
variable {P : Program} {Γ : SEnv} {S : PSt} {G : Gh} {w : World} {N : Nat} {a : Act} {gd : Option (Nat × Bool)} {gs : List (Nat × Bool)} {o : Oper} {bs : List (Nat × Nat)} {d : Nat} {sem : CSem} {us : List (Nat × Univ)} {Np : Nat}
def FZ (w : World) (G : Gh) (ws : List Wr1) (v : Value) (u : Univ) : Prop :=
  Rep w G.Ow v u ∨ ∃ m t xs, Wr1.soft m .val ∈ ws ∧ u = ⟨.sl t, xs⟩ ∧ OwnV w G.Ow m v t xs
theorem FZ.one {ws : List Wr1} {v : Value} {u : Univ} (h : FZ w G ws v u) : v.oneCell' = true := by
  rcases h with h | ⟨m, t, xs, _, _, h⟩
  · exact h.one
  · exact h.any.one
theorem FZ.mono {ws ws' : List Wr1} {v : Value} {u : Univ} (h : FZ w G ws v u) (hs : ∀ x ∈ ws, x ∈ ws') : FZ w G ws' v u := by
  rcases h with h | ⟨m, t, xs, h1, h2⟩
  · exact .inl h
  · exact .inr ⟨m, t, xs, hs _ h1, h2⟩
theorem FZ.rep {ws : List Wr1} {v : Value} {u : Univ} {w' : World} {Ow' : Nat → Owner} (h : FZ w G ws v u) (hs : Still w G.Ow w' Ow')
    (hi : ∀ m, Wr1.soft m .val ∈ ws → ∀ b, G.Ow b = .loc m → w'.heap[b]? = w.heap[b]? ∧ Ow' b = .imm) : Rep w' Ow' v u := by
  rcases h with h | ⟨m, t, xs, h1, rfl, h2⟩
  · exact h.still hs
  · exact h2.frz hs (hi m h1)
theorem fzLeaf_ok (R : HRel Γ S G w) (hg : GHs gs S) {x : LS} (hl : lsOk x) {src : Src} {sf : List Wr1} (h : (fzLeaf gs x).run Γ = some (src, sf)) :
    FZ w G sf (lsV G x) (src.get S) ∧ ∀ z ∈ sf, ∃ m, z = .soft m .val ∧ LOk w G S m .own := by
  cases x with
  | con v u t =>
    simp only [fzLeaf] at h
    cases t with
    | val =>
      simp only [Rd.run, Option.some.injEq, Prod.mk.injEq] at h
      obtain ⟨rfl, rfl⟩ := h
      exact ⟨.inl (hl w G.Ow), by simp⟩
    | own =>
      simp only [Rd.run, Option.some.injEq, Prod.mk.injEq] at h
      obtain ⟨rfl, rfl⟩ := h
      obtain ⟨rfl, t, rfl⟩ := hl
      exact ⟨.inl (.nil _ _ _), by simp⟩
    | _ => cases h
  | loc l =>
    simp only [fzLeaf] at h
    obtain ⟨⟨m, tg⟩, h1, h2⟩ := Rd.run_bind h
    obtain ⟨hV, _, _, hL, _⟩ := res_ok R hg h1
    simp only [lsV, hV]
    cases tg with
    | val =>
      simp only [Rd.run, Option.some.injEq, Prod.mk.injEq] at h2
      obtain ⟨rfl, rfl⟩ := h2
      exact ⟨.inl hL, by simp⟩
    | own =>
      simp only [Rd.run, Option.some.injEq, Prod.mk.injEq] at h2
      obtain ⟨rfl, rfl⟩ := h2
      obtain ⟨t, xs, h3, h4⟩ := hL
      refine ⟨.inr ⟨m, t, xs, List.mem_singleton.2 rfl, h3, h4⟩, ?_⟩
      intro z hz
      exact ⟨m, List.mem_singleton.1 hz, t, xs, h3, h4⟩
    | _ => cases h2
theorem fz_all (R : HRel Γ S G w) (hg : GHs gs S) {ls : List LS} {ys : List (Src × List Wr1)} (h : (mapRd (fzLeaf gs) ls).run Γ = some ys) (hls : ∀ y ∈ ls, lsOk y) :
    ys.length = ls.length ∧ (∀ (j : Nat) (x : LS) (y : Src × List Wr1), ls[j]? = some x → ys[j]? = some y → FZ w G (ys.flatMap fun y => y.2) (lsV G x) (y.1.get S)) ∧
      ∀ z ∈ ys.flatMap (fun y => y.2), ∃ m, z = .soft m .val ∧ LOk w G S m .own := by
  obtain ⟨h1, h2⟩ := mapRd_run h
  refine ⟨h1, ?_, ?_⟩
  · intro j x y hx hy
    obtain ⟨y', hy', hr⟩ := h2 j x hx
    rw [hy] at hy'
    injection hy' with hy'
    subst hy'
    exact (fzLeaf_ok R hg (hls x (List.mem_of_getElem? hx)) hr).1.mono fun z hz => List.mem_flatMap.2 ⟨y, List.mem_of_getElem? hy, hz⟩
  · intro z hz
    obtain ⟨y, hy, hzy⟩ := List.mem_flatMap.1 hz
    obtain ⟨j, hj⟩ := List.getElem?_of_mem hy
    have hjl : j < ls.length := by have := (List.getElem?_eq_some_iff.1 hj).1; omega
    obtain ⟨y', hy', hr⟩ := h2 j _ (List.getElem?_eq_getElem hjl)
    rw [hj] at hy'
    injection hy' with hy'
    subst hy'
    exact (fzLeaf_ok R hg (hls _ (List.getElem_mem hjl)) hr).2 z hzy
theorem splice_get : ∀ (l : List Univ) (n : Nat) (us : List Univ) (j : Nat), n + us.length ≤ l.length → (splice l n us)[j]? = if n ≤ j ∧ j < n + us.length then us[j - n]? else l[j]?
  | l, 0, us, j, h => by
    have e : splice l 0 us = us ++ l.drop us.length := by cases l <;> rfl
    rw [e, List.getElem?_append]
    by_cases hj : j < us.length
    · rw [if_pos hj, if_pos (by omega)]; rfl
    · rw [if_neg hj, if_neg (by omega), List.getElem?_drop]; congr 1; omega
  | [], n + 1, us, j, h => by simp at h
  | x :: r, n + 1, us, 0, h => by
    rw [if_neg (by omega)]; rfl
  | x :: r, n + 1, us, j + 1, h => by
    have := splice_get r n us j (by simp at h; omega)
    show (splice r n us)[j]? = _
    rw [this]
    by_cases hj : n ≤ j ∧ j < n + us.length
    · rw [if_pos hj, if_pos (by omega)]; congr 1; omega
    · rw [if_neg hj, if_neg (by omega)]; rfl
theorem isSome_setCells (b : Nat) : ∀ (vs : List Value) (o : Nat) (w : World) (x : Addr), (w.cell? x).isSome = true → ((w.setCells b o vs).cell? x).isSome = true
  | [], _, _, _, h => h
  | v :: r, o, w, x, h => by
    rw [World.setCells]
    refine isSome_setCells b r (o + 1) _ x ?_
    by_cases hx : (⟨b, o, none⟩ : Addr) = x
    · subst hx
      obtain ⟨u, hu⟩ := Option.isSome_iff_exists.1 h
      rw [World.cell?_setCell_same _ _ _ hu]; rfl
    · rw [World.cell?_setCell_other _ _ _ _ hx]; exact h
theorem row_place {s i i' j off n : Nat} (hj : j < s) (hn : off + n ≤ s) (h1 : i * s + off ≤ i' * s + j) (h2 : i' * s + j < i * s + off + n) : i' = i ∧ off ≤ j ∧ j < off + n := by
  rcases Nat.lt_trichotomy i' i with h | h | h
  · have : (i' + 1) * s ≤ i * s := Nat.mul_le_mul_right s h
    rw [Nat.add_mul] at this
    omega
  · subst h; omega
  · have : (i + 1) * s ≤ i' * s := Nat.mul_le_mul_right s h
    rw [Nat.add_mul] at this
    omega
theorem row_in {s i n c k : Nat} (hi : i < n) (hc : n ≤ c) (hk : k < s) : i * s + k < c * s := by
  have h1 : (i + 1) * s ≤ c * s := Nat.mul_le_mul_right s (by omega)
  rw [Nat.add_mul] at h1
  omega
theorem op_store_ep (p : Pre Γ S G w N a none gs) (hb : BsOk Np bs Γ) (hd : o.dst = none) {T T1 : TypeId} {x y : Operand} (ho : o.op = .store T x y) {s : Sh1} (hs : sh1Of P T = some s) {pl m m' off : Nat} {t : Ty}
    (hx : (ptrLeaf P gs x).run Γ = some (pl, .ep m off t)) (hm : (res gs 6 m).run Γ = some (m', .own)) (hn : off + s.size ≤ t.size) {ls : List LS} {ys : List (Src × List Wr1)}
    (hy : (opLeaves P gs T1 y).run Γ = some (s, ls)) (hz : (mapRd (fzLeaf gs) ls).run Γ = some ys) {ws : List Wr1}
    (hws : ws = ys.flatMap (fun y => y.2) ++ [.soft m' .own])
    (hok : effOk N none none ⟨.setE m' pl off t (ys.map fun y => y.1), ws⟩ = true) (hso : softsOk ws = true) (hvo : varsOk Np ws = true)
    (hus : (POp.setE m' pl off t (ys.map fun y => y.1)).eval sem S = some us) : Outc P o a w bs (app ws Γ) (upds S us) N G := by
  obtain ⟨xs, e1, hus⟩ := bnd_some (show bnd _ _ = some us from hus)
  obtain ⟨i, e2, hus⟩ := bnd_some hus
  obtain ⟨e, hlen, hls⟩ := opLeaves_ok p.T p.gs hy
  obtain ⟨hylen, hfz, hsf⟩ := fz_all p.R p.gs hz hls
  rw [show (ys.map fun y => y.1).length = s.size by simp [hylen, hlen], decide_eq_true hn] at hus
  obtain ⟨h0, hus⟩ := chk_some (show chk _ _ = some us from hus)
  obtain ⟨row, e3, hus⟩ := bnd_some hus
  obtain ⟨y0, e4, hus⟩ := bnd_some hus
  have hus := Option.some.inj hus
  simp only [effOk, Bool.and_eq_true] at hok
  obtain ⟨⟨⟨_, hin⟩, _⟩, _⟩ := hok
  obtain ⟨ev, hL, _, _⟩ := ptrLeaf_ok p hx
  obtain ⟨ad, n, c, i', g1, g2, g3, g4, g5, g6⟩ := hL
  obtain ⟨hV0, _, _, hL', _⟩ := res_ok p.R p.gs hm
  have hi : i' = i := by
    rw [g2] at e2
    have := Univ.cast_some e2
    simpa using this
  subst hi
  have hO : OwnV w G.Ow m' (G.V m') t xs := by
    obtain ⟨t', xs', h3, h4⟩ := hL'
    rw [Univ.cast_some e1] at h3
    cases h3
    exact h4
  rw [← hV0, g1] at hO
  rcases hO with ⟨h, _⟩ | ⟨b, ob, c', h, hc, hown0, hcells, val, hcell, hrep⟩
  · injection h with h; cases h
  injection h with h5 h6 h7
  injection h5 with h5
  subst h5 h6 h7
  simp only at g6
  have hlt : i'.toNat < xs.length := (List.getElem?_eq_some_iff.1 e3).1
  have hnh : ∀ l, isHard ws l = false := by
    intro l
    cases h : isHard ws l with
    | false => rfl
    | true =>
      exfalso
      obtain ⟨e', he'⟩ := isHard_mem h
      rw [hws] at he'
      rcases List.mem_append.1 he' with h | h
      · obtain ⟨m1, h, _⟩ := hsf _ h; cases h
      · simp at h
  have hm'in : Wr1.soft m' .own ∈ ws := by rw [hws]; simp
  have hsfd : ∀ l t', Wr1.soft l t' ∈ ws → (t' = .val ∧ l ≠ m' ∧ LOk w G S l .own) ∨ (t' = .own ∧ l = m') := by
    intro l t' h
    have h0 := (softsOk_spec hso l t' h).2
    rw [hws] at h
    rcases List.mem_append.1 h with h | h
    · obtain ⟨m1, h, hL1⟩ := hsf _ h
      injection h with h8 h9
      subst h8 h9
      refine .inl ⟨rfl, ?_, hL1⟩
      rintro rfl
      rw [(softsOk_spec hso _ _ hm'in).2] at h0
      cases h0
    · simp only [List.mem_singleton, Wr1.soft.injEq] at h
      exact .inr ⟨h.2, h.1⟩
  have hρm : rhoOf ws m' = none := by simp [rhoOf, (softsOk_spec hso _ _ hm'in).2]
  have hρv : ∀ l, Wr1.soft l .val ∈ ws → rhoOf ws l = some .imm := by
    intro l h
    simp [rhoOf, (softsOk_spec hso _ _ h).2]
  generalize hvs : ls.map (lsV G) = vs
  have hvl : vs.length = s.size := by rw [← hvs]; simpa using hlen
  generalize hw' : w.setCells b (ob + (i'.toNat * t.size + off)) vs = w'
  let G' : Gh := { V := G.V, Ow := fun b => ren (rhoOf ws) (G.Ow b), B := G.B }
  have hS : ∀ l, l ≠ m' → upds S us l = S l := by
    intro l hl
    apply upds_not
    rw [← hus]
    simpa using hl
  have hSm : upds S us m' = ⟨.sl t, xs.set i'.toNat y0⟩ := by
    rw [← hus]
    exact upds_mem (by simp) (List.mem_singleton.2 rfl)
  have hdom : isDom ws m' = true := by simp [isDom, (softsOk_spec hso _ _ hm'in).2]
  have hS' : ∀ l, isDom ws l = false → upds S us l = S l := by
    intro l hl
    exact hS l (fun e => by subst e; rw [hdom] at hl; cases hl)
  have hsz : w'.heap.size = w.heap.size := by rw [← hw']; exact size_setCells _ _ _ _
  have hh : ∀ c, c < w.heap.size → c ≠ b → w'.heap[c]? = w.heap[c]? ∧ G'.Ow c = ren (rhoOf ws) (G.Ow c) := by
    intro c _ hne
    exact ⟨by rw [← hw']; exact heap_setCells _ _ _ _ _ hne, rfl⟩
  have hown : ∀ c x, G.Ow c = x → x ≠ .foreign → x ≠ .loc m' → w'.heap[c]? = w.heap[c]? ∧ G'.Ow c = ren (rhoOf ws) x := by
    intro c x hc hx hx2
    obtain ⟨h5, h6⟩ := hh c (lt_of_own p.R hc hx) (fun e => by subst e; rw [hown0] at hc; exact hx2 hc.symm)
    exact ⟨h5, by rw [h6, hc]⟩
  have still : Still w G.Ow w' G'.Ow := by
    intro c hc
    obtain ⟨h5, h6⟩ := hown c _ hc (by simp) (by simp)
    exact ⟨h5, h6⟩
  have hfi : ∀ m1, Wr1.soft m1 .val ∈ ws → ∀ b, G.Ow b = .loc m1 → w'.heap[b]? = w.heap[b]? ∧ G'.Ow b = .imm := by
    intro m1 h1 b1 hb1
    have hne : m1 ≠ m' := by
      rcases hsfd m1 _ h1 with h | h
      · exact h.2.1
      · cases h.1
    obtain ⟨h5, h6⟩ := hown b1 _ hb1 (by simp) (by simp [hne])
    refine ⟨h5, ?_⟩
    rw [h6]
    simp [ren, hρv m1 h1]
  have hfro : ∀ q, w'.frozen? q = w.frozen? q := by
    intro q
    rw [← hw']
    exact World.frozen?_setCells _ _ _ _ _
  have hone : ∀ v ∈ vs, v.oneCell' = true := by
    intro v hv
    rw [← hvs] at hv
    simp only [List.mem_map] at hv
    obtain ⟨x', hx', rfl⟩ := hv
    obtain ⟨j, hj⟩ := List.getElem?_of_mem hx'
    have hjl : j < ys.length := by rw [hylen]; exact (List.getElem?_eq_some_iff.1 hj).1
    exact (hfz j x' _ hj (List.getElem?_eq_getElem hjl)).one
  have hcc : ∀ j, j < vs.length → (w.cell? ⟨b, ob + (i'.toNat * t.size + off) + j, none⟩).isSome = true ∧ w.frozen? ⟨b, ob + (i'.toNat * t.size + off) + j, none⟩ = false := by
    intro j hj
    have := hcells (i'.toNat * t.size + (off + j)) (row_in hlt hc (by omega))
    rwa [show ob + (i'.toNat * t.size + (off + j)) = ob + (i'.toNat * t.size + off) + j by omega] at this
  have hrows : Rows w' G'.Ow b ob t (xs.set i'.toNat y0) := by
    refine ⟨fun i j => if i = i'.toNat ∧ off ≤ j ∧ j < off + vs.length then (vs[j - off]?).getD undef else val i j, ?_, ?_⟩
    · intro i j hi hj
      simp only [List.length_set] at hi
      by_cases hc1 : i = i'.toNat ∧ off ≤ j ∧ j < off + vs.length
      · simp only [if_pos hc1]
        obtain ⟨rfl, h8, h9⟩ := hc1
        have hj' : j - off < vs.length := by omega
        have := World.cell?_setCells_in b vs (ob + (i'.toNat * t.size + off)) w (fun k hk => (hcc k hk).1) (j - off) hj'
        rw [hw', show ob + (i'.toNat * t.size + off) + (j - off) = ob + (i'.toNat * t.size + j) by omega] at this
        rw [this, List.getElem?_eq_getElem hj']
        rfl
      · simp only [if_neg hc1]
        rw [← hw', World.cell?_setCells_out]
        · exact hcell i j hi hj
        · intro _ _
          simp only
          apply Classical.byContradiction
          intro hcon
          exact hc1 (row_place hj (n := vs.length) (by omega) (by omega) (by omega))
    · intro i j r u hr hu
      by_cases hii : i = i'.toNat
      · subst hii
        rw [List.getElem?_set_self (by simpa using hlt)] at hr
        injection hr with hr
        subst hr
        rw [leaves_mk? e4, splice_get _ _ _ _ (by simp [hylen, hlen, leaves_length]; omega)] at hu
        by_cases hc1 : off ≤ j ∧ j < off + vs.length
        · simp only [true_and, if_pos hc1]
          rw [if_pos (by simp only [List.length_map, hylen]; omega)] at hu
          have hj1 : j - off < ls.length := by omega
          have hj2 : j - off < ys.length := by omega
          simp only [List.getElem?_map, List.getElem?_eq_getElem hj2, Option.map_some, Option.some.injEq] at hu
          subst hu
          have := (hfz (j - off) _ _ (List.getElem?_eq_getElem hj1) (List.getElem?_eq_getElem hj2)).mono (ws' := ws) (fun z hz => by rw [hws]; exact List.mem_append_left _ hz)
          have := this.rep still hfi
          rw [← hvs]
          simpa [List.getElem?_eq_getElem hj1] using this
        · simp only [true_and, if_neg hc1]
          rw [if_neg (by simp only [List.length_map, hylen]; omega)] at hu
          exact (hrep _ j row u e3 hu).still still
      · rw [List.getElem?_set_ne (Ne.symm hii)] at hr
        have hng : ¬ (i = i'.toNat ∧ off ≤ j ∧ j < off + vs.length) := fun h => hii h.1
        simp only [if_neg hng]
        exact (hrep i j r u hr hu).still still
  have hR : HRel (app ws Γ) (upds S us) G' w' := by
    refine HRel.mod (ρ := rhoOf ws) p.R b (fun _ _ => rfl) hS' (fun _ _ => rfl) hh (fun m o' h => rhoOf_isDom hso h) (by rw [hown0]; simp) (by rw [hown0]; simp) ?_ (by rw [hown0]; simp) (fun _ _ _ _ _ _ _ => hnh _) ?_ ?_ ?_ ?_ ?_
    · intro m1 h1
      rw [hown0] at h1
      injection h1 with h1
      subst h1
      exact hdom
    · intro l e' he'
      have := hfind_isSome he'
      rw [hnh l] at this
      cases this
    · intro l e' n' he'
      have := hfind_isSome he'
      rw [hnh] at this
      cases this
    · intro l e' n' he'
      have := hfind_isSome he'
      rw [hnh] at this
      cases this
    · intro l t' ht' _
      rcases hsfd l t' ht' with ⟨rfl, hne, t1, xs1, h8, h9⟩ | ⟨rfl, rfl⟩
      · show Rep w' G'.Ow (G.V l) (upds S us l)
        rw [hS l hne, h8]
        exact h9.frz still (hfi l ht')
      · refine ⟨t, _, hSm, ?_⟩
        show OwnV w' G'.Ow l (G.V l) t _
        rw [← hV0, g1]
        refine .inr ⟨b, ob, c, by rw [List.length_set], by rw [List.length_set]; exact hc, ?_, ?_, hrows⟩
        · show ren _ (G.Ow b) = _
          rw [hown0]
          simp [ren, hρm]
        · intro k hk
          obtain ⟨h8, h9⟩ := hcells k hk
          refine ⟨?_, by rw [hfro]; exact h9⟩
          rw [← hw']
          exact isSome_setCells _ _ _ _ _ h8
    · intro k hk
      rw [hsz] at hk
      show ren _ (G.Ow k) = _
      rw [p.R.new k hk]
      rfl
  refine ⟨undef, w', G', .inr ⟨?_, rfl⟩, hR, ?_, ?_⟩
  · have hvc : (a.eval y).cells = vs.toArray := by
      rw [e, ← hvs]
      refine asm1_cells hlen fun x' hx' => hone _ ?_
      rw [← hvs]
      exact List.mem_map_of_mem hx'
    have hst := storeVar_run (P := P) (w := w) (b0 := b) (o0 := ob + (i'.toNat * t.size + off)) (v := a.eval y) (vs := vs) hs hvc hvl hcc hone
    rw [hw'] at hst
    simp only [execOp, ho, Instr.storeAt, ev, g6, Instr.sureAddr, Sem.run_bind, Sem.run_pure, Result.andThen_ok, hst]
  · rw [hd]
    refine TRel.step p.T hin (fun _ _ => rfl) hS' ?_ (by intro d' h; cases h)
    intro t1 ht1 _
    by_cases he : lc t1 0 = m'
    · right
      intro z hz
      rw [he, hSm] at hz
      cases hz
    · left
      exact hS _ he
  · obtain ⟨r1, r2, r3⟩ := rest_setCells b vs (ob + (i'.toNat * t.size + off)) w
    rw [hw'] at r1 r2 r3
    exact Fr.mod (ρ := rhoOf ws) p.R hb b hin (fun d' hd' => by cases hd') hvo (fun _ _ => rfl) (fun _ _ => rfl) hh r1 r2 r3 (by rw [hsz]; exact Nat.le_refl _) (by rw [hown0]; simp) (by rw [hown0]; simp) (fun _ => by rw [hown0]; simp) (fun q _ _ h => by rw [hown0] at h; cases h)
end Go.Proofs.Fw
set_option linter.unusedVariables false
set_option linter.unusedSimpArgs false
namespace Go.Proofs.Fw
variable {P : Program} {Γ : SEnv} {S : PSt} {G : Gh} {w : World} {N : Nat} {a : Act} {gd : Option (Nat × Bool)} {gs : List (Nat × Bool)} {o : Oper} {bs : List (Nat × Nat)} {d : Nat} {sem : CSem} {us : List (Nat × Univ)} {Np : Nat}
theorem isDom_of_soft {ws : List Wr1} (hso : softsOk ws = true) {l : Nat} {t : LTag} (h : Wr1.soft l t ∈ ws) : isDom ws l = true := by
  simp [isDom, (softsOk_spec hso l t h).2]
theorem gd_kept {ws : List Wr1} {S' : PSt} (hk : gdKilled ws gd = false) (hgd : ∀ c b, gd = some (c, b) → S c = uB b) (hS : ∀ l, isDom ws l = false → S' l = S l) : ∀ c b, gd = some (c, b) → S' c = uB b := by
  intro c b h
  rw [hS c (by rw [h] at hk; exact hk)]
  exact hgd c b h
theorem op_newslice (p : Pre Γ S G w N a gd gs) (hb : BsOk Np bs Γ) (hd : o.dst = some d) {tag : LTag} (htag : tag = .own ∨ tag = .val) {t : Ty} {xs : List t.T} {c : Nat} {w' : World}
    (hx : (execOp a.eval o).run P w = .ok (.value (.slice (some ⟨w.heap.size, 0, none⟩) xs.length c)) w')
    (hheap : ∀ b, b < w.heap.size → w'.heap[b]? = w.heap[b]?) (hsz : w'.heap.size = w.heap.size + 1) (hos : w'.os = w.os) (htape : w'.tape = w.tape) (hout : w'.output = w.output)
    (hc : xs.length ≤ c) (hcells : tag = .own → ∀ k, k < c * t.size → (w'.cell? ⟨w.heap.size, k, none⟩).isSome = true ∧ w'.frozen? ⟨w.heap.size, k, none⟩ = false)
    (val : Nat → Nat → Value) (hcell : ∀ i j, i < xs.length → j < t.size → w'.cell? ⟨w.heap.size, i * t.size + j, none⟩ = some (val i j)) {ws sf : List Wr1}
    (hrep : ∀ i j x u, xs[i]? = some x → (leaves t x)[j]? = some u → FZ w G ws (val i j) u)
    (hws : ws = hardT d (.one .leaf) gd [tag] ++ sf) (hsf : ∀ z ∈ sf, ∃ m, (z = .soft m .val ∧ LOk w G S m .own) ∨ z = .soft m .dead) {pop : POp}
    (hok : effOk N gd (some d) ⟨pop, ws⟩ = true) (hso : softsOk ws = true) (hvo : varsOk Np ws = true) (hus : us = [(lc d 0, ⟨.sl t, xs⟩)]) : Outc P o a w bs (app ws Γ) (upds S us) N G := by
  simp only [effOk, Bool.and_eq_true, Bool.not_eq_true'] at hok
  obtain ⟨⟨⟨_, hin⟩, hgk⟩, ⟨⟨hdN, hd2⟩, _⟩, _⟩ := hok
  have hdN := blt_lt hdN
  have hd2 := blt_lt hd2
  have hlcin : Wr1.hard (lc d 0) ⟨tag, some (.one .leaf), gd⟩ ∈ ws := by rw [hws]; simp [hardT]
  have hmem : ∀ l e, Wr1.hard l e ∈ ws → l = lc d 0 ∧ e = ⟨tag, some (.one .leaf), gd⟩ := by
    intro l e h
    rw [hws] at h
    rcases List.mem_append.1 h with h | h
    · simp only [hardT, hardAt, List.mem_singleton, Wr1.hard.injEq] at h
      exact h
    · obtain ⟨m, h | h⟩ := hsf _ h
      · cases h.1
      · cases h
  have hlch : isHard ws (lc d 0) = true := hfind_isSome hlcin
  have hcase : ∀ l, isHard ws l = true → l = lc d 0 := by
    intro l hl
    obtain ⟨e, he⟩ := isHard_mem hl
    exact (hmem l e he).1
  have hsfd : ∀ l t', Wr1.soft l t' ∈ ws → (t' = .val ∧ LOk w G S l .own) ∨ t' = .dead := by
    intro l t' h
    rw [hws] at h
    rcases List.mem_append.1 h with h | h
    · simp [hardT, hardAt] at h
    · obtain ⟨m, h | h⟩ := hsf _ h
      · obtain ⟨h1, h2⟩ := h
        injection h1 with h1 h3
        subst h1 h3
        exact .inl ⟨rfl, h2⟩
      · injection h with h1 h3
        exact .inr h3
  let G' : Gh := { V := fun l => if isHard ws l = true then .slice (some ⟨w.heap.size, 0, none⟩) xs.length c else G.V l
                   Ow := fun b => if b = w.heap.size then (if tag = .own then .loc (lc d 0) else .imm) else ren (rhoOf ws) (G.Ow b)
                   B := G.B }
  have hV : ∀ l, isHard ws l = false → G'.V l = G.V l := by
    intro l hl
    show (if isHard ws l = true then _ else _) = _
    rw [if_neg (by rw [hl]; simp)]
  have hVd : G'.V (lc d 0) = .slice (some ⟨w.heap.size, 0, none⟩) xs.length c := if_pos hlch
  have hSne : ∀ l, l ≠ lc d 0 → upds S us l = S l := by
    intro l hl
    apply upds_not
    rw [hus]
    simpa using hl
  have hSd : upds S us (lc d 0) = ⟨.sl t, xs⟩ := by
    rw [hus]
    exact upds_mem (by simp) (List.mem_singleton.2 rfl)
  have hS : ∀ l, isDom ws l = false → upds S us l = S l := by
    intro l hl
    refine hSne l fun e => ?_
    subst e
    simp only [isDom, hlch, Bool.true_or] at hl
    cases hl
  have hbmh : ∀ b, isHard ws (bm b) = false := by
    intro b
    cases h : isHard ws (bm b) with
    | false => rfl
    | true =>
      have := hcase _ h
      simp only [bm, lc] at this
      omega
  have hh : ∀ b, b < w.heap.size → b ≠ w.heap.size → w'.heap[b]? = w.heap[b]? ∧ G'.Ow b = ren (rhoOf ws) (G.Ow b) := by
    intro b hb hne
    refine ⟨hheap b hb, ?_⟩
    show (if b = w.heap.size then _ else _) = _
    rw [if_neg hne]
  have hof : G.Ow w.heap.size = .foreign := p.R.new _ (Nat.le_refl _)
  have hown : ∀ b x, G.Ow b = x → x ≠ .foreign → w'.heap[b]? = w.heap[b]? ∧ G'.Ow b = ren (rhoOf ws) x := by
    intro b x hb hx
    have hlt := lt_of_own p.R hb hx
    obtain ⟨h5, h6⟩ := hh b hlt (Nat.ne_of_lt hlt)
    exact ⟨h5, by rw [h6, hb]⟩
  have still : Still w G.Ow w' G'.Ow := by
    intro b hb
    obtain ⟨h5, h6⟩ := hown b _ hb (by simp)
    exact ⟨h5, h6⟩
  have hfi : ∀ m1, Wr1.soft m1 .val ∈ ws → ∀ b, G.Ow b = .loc m1 → w'.heap[b]? = w.heap[b]? ∧ G'.Ow b = .imm := by
    intro m1 h1 b1 hb1
    obtain ⟨h5, h6⟩ := hown b1 _ hb1 (by simp)
    refine ⟨h5, ?_⟩
    rw [h6]
    simp [ren, rhoOf, (softsOk_spec hso _ _ h1).2]
  have hrows : Rows w' G'.Ow w.heap.size 0 t xs :=
    ⟨val, fun i j hi hj => by rw [Nat.zero_add]; exact hcell i j hi hj, fun i j x u hx' hu => (hrep i j x u hx' hu).rep still hfi⟩
  have hR : HRel (app ws Γ) (upds S us) G' w' := by
    refine HRel.mod (ρ := rhoOf ws) p.R w.heap.size hV hS (fun _ _ => rfl) hh (fun m o' h => rhoOf_isDom hso h) (by rw [hof]; simp) (by rw [hof]; simp) (by rw [hof]; simp) (by rw [hof]; simp) ?_ ?_ ?_ ?_ ?_ ?_
    · intro b n j hbs _ _ hj
      cases h : isHard ws (bc b j) with
      | false => rfl
      | true =>
        have := hcase _ h
        simp only [bc, lc] at this
        omega
    · intro l e he _
      obtain ⟨rfl, rfl⟩ := hmem l e he
      rcases htag with rfl | rfl
      · refine ⟨t, xs, hSd, ?_⟩
        rw [hVd]
        refine .inr ⟨w.heap.size, 0, c, rfl, hc, ?_, ?_, hrows⟩
        · show (if w.heap.size = w.heap.size then _ else _) = _
          rw [if_pos rfl, if_pos rfl]
        · intro k hk
          rw [Nat.zero_add]
          exact hcells rfl k hk
      · show Rep w' G'.Ow (G'.V (lc d 0)) (upds S us (lc d 0))
        rw [hVd, hSd]
        refine rep_sl.2 (.inr ⟨⟨w.heap.size, 0, none⟩, c, rfl, hc, ?_, rfl, hrows⟩)
        show (if w.heap.size = w.heap.size then _ else _) = _
        rw [if_pos rfl, if_neg (by simp)]
    · intro b e n he
      have := hfind_isSome he
      rw [hbmh] at this
      cases this
    · intro b e n he
      have := hfind_isSome he
      rw [hbmh] at this
      cases this
    · intro l t' ht' _
      rcases hsfd l t' ht' with ⟨rfl, t1, xs1, h8, h9⟩ | rfl
      · show Rep w' G'.Ow (G'.V l) (upds S us l)
        have hne := (softsOk_spec hso _ _ ht').1
        rw [hSne l (fun e => by subst e; rw [hlch] at hne; cases hne), h8, hV l hne]
        exact h9.frz still (hfi l ht')
      · trivial
    · intro k hk
      rw [hsz] at hk
      show (if k = w.heap.size then _ else _) = _
      rw [if_neg (by omega), p.R.new k (by omega)]
      rfl
  refine ⟨_, w', G', .inl hx, hR, ?_, ?_⟩
  · rw [hd]
    refine TRel.step p.T hin hV hS ?_ ?_
    · intro t1 ht1 htd
      left
      refine hSne _ fun e => htd ?_
      have : d = t1 := by simp only [lc] at e; omega
      rw [this]
    · rintro d' hd'
      injection hd' with hd'
      subst hd'
      exact ⟨hdN, hd2, ⟨tag, some (.one .leaf), gd⟩, .one .leaf, by rw [hws]; simp [hardT, hfind], rfl, by simp [Shape.size, Sh1.size], hVd.symm, gd_kept hgk p.gd hS⟩
  · exact Fr.mod (ρ := rhoOf ws) p.R hb w.heap.size hin (fun d' hd' => by injection hd' with hd'; omega) hvo hV (fun _ _ => rfl) hh hos htape hout (by rw [hsz]; omega) (by rw [hof]; simp) (by rw [hof]; simp) (fun h => absurd h (Nat.lt_irrefl _)) (fun p' _ _ h => by rw [hof] at h; cases h)
theorem op_s2b (p : Pre Γ S G w N a gd gs) (hb : BsOk Np bs Γ) (hd : o.dst = some d) {src dst e T1 : TypeId} {x : Operand} (ho : o.op = .convert src dst x) (h1 : P.underlying src = some .string) (h2 : P.underlying dst = some (.slice e))
    (h3 : P.underlying e = some (.int .u8)) {sa : Src} (ha : (rd1 P gs T1 x).run Γ = some sa)
    (hok : effOk N gd (some d) ⟨.s2b (lc d 0) sa, hardT d (.one .leaf) gd [.val]⟩ = true) (hso : softsOk (hardT d (.one .leaf) gd [.val]) = true) (hvo : varsOk Np (hardT d (.one .leaf) gd [.val]) = true)
    (hus : (POp.s2b (lc d 0) sa).eval sem S = some us) :
    Outc P o a w bs (app (hardT d (.one .leaf) gd [.val]) Γ) (upds S us) N G := by
  obtain ⟨s', e1, hus⟩ := bnd_some (show bnd _ _ = some us from hus)
  obtain ⟨_, hus⟩ := chk_some hus
  have hus := Option.some.inj hus
  have ha := rd1_ok p.R p.T p.gs ha
  rw [Univ.cast_some e1] at ha
  obtain ⟨s, hv, rfl⟩ := any_str ha
  have hlen : (bytesOf s).length = s.size := bytesOf_length s
  have hge := grownCap_ge w s.size 0 e
  have hrun : (execOp a.eval o).run P w = .ok (.value (.slice (some ⟨w.heap.size, 0, none⟩) (bytesOf s).length (grownCap w s.size 0 e)))
      (w.drew.alloc (.cells (bytesRow s (grownCap w s.size 0 e)) e ((bytesRow s (grownCap w s.size 0 e)).size, (bytesRow s (grownCap w s.size 0 e)).size + 1))) := by
    rw [hlen]
    simp only [execOp, ho, hv, Sem.run_bind, run_bytes_of_string w src dst e s h1 h2 h3, Result.andThen_ok, Sem.run_pure]
  refine op_newslice (t := .int .u8) (xs := bytesOf s) (tag := .val) p hb hd (.inr rfl) hrun (fun b hb => alloc_heap w.drew _ b hb) ?_ rfl rfl rfl (by rw [hlen]; exact hge) (by intro h; cases h)
    (fun i j => (bytesRow s (grownCap w s.size 0 e))[i]?.getD undef) ?_ (sf := []) ?_ (List.append_nil _).symm (by simp) hok hso hvo hus.symm
  · exact World.size_alloc _ _
  · intro i j hi hj
    rw [hlen] at hi
    have hj : j = 0 := by simp [Ty.size] at hj; omega
    subst hj
    have hsize : i < (bytesRow s (grownCap w s.size 0 e)).size := by
      simp [bytesRow]
      have : s.data.size = s.size := rfl
      omega
    show World.cell? _ ⟨w.heap.size, i * 1 + 0, none⟩ = _
    rw [Nat.mul_one, Nat.add_zero]
    have hh : (w.drew.alloc (.cells (bytesRow s (grownCap w s.size 0 e)) e ((bytesRow s (grownCap w s.size 0 e)).size, (bytesRow s (grownCap w s.size 0 e)).size + 1))).heap[w.heap.size]? = some (.cells (bytesRow s (grownCap w s.size 0 e)) e ((bytesRow s (grownCap w s.size 0 e)).size, (bytesRow s (grownCap w s.size 0 e)).size + 1)) := by
      show (w.heap.push _)[w.heap.size]? = _
      simp
    unfold World.cell?
    simp only [hh]
    simp [hsize]
  · intro i j y u hy hu
    left
    have hj : j = 0 ∧ u = ⟨.int .u8, y⟩ := by
      cases j with
      | zero => simp [leaves] at hu; exact ⟨rfl, hu.symm⟩
      | succ j => simp [leaves] at hu
    obtain ⟨rfl, rfl⟩ := hj
    simp only [bytesOf, List.getElem?_map, Option.map_eq_some_iff] at hy
    obtain ⟨b, hb1, rfl⟩ := hy
    have hi : i < s.data.size := by
      have := (List.getElem?_eq_some_iff.1 hb1).1
      simpa using this
    have : (bytesRow s (grownCap w s.size 0 e))[i]? = some (.int .u8 b.toNat) := by
      unfold bytesRow
      rw [Array.getElem?_append, if_pos (by simpa using hi)]
      rw [Array.getElem?_toList] at hb1
      simp [hb1]
    rw [this]
    exact .int _ _
theorem op_b2s (p : Pre Γ S G w N a gd gs) (hd : o.dst = some d) {src dst e T1 : TypeId} {x : Operand} (ho : o.op = .convert src dst x) (h1 : P.underlying src = some (.slice e)) (h2 : P.underlying dst = some .string)
    (h3 : P.underlying e = some (.int .u8)) {sa : Src} (ha : (rd1 P gs T1 x).run Γ = some sa)
    (hok : effOk N gd (some d) ⟨.b2s (lc d 0) sa, hardT d (.one .leaf) gd [.val]⟩ = true)
    (hus : (POp.b2s (lc d 0) sa).eval sem S = some us) :
    Outc P o a w bs (app (hardT d (.one .leaf) gd [.val]) Γ) (upds S us) N G := by
  obtain ⟨xs, e1, hus⟩ := bnd_some (show bnd _ _ = some us from hus)
  have hus := Option.some.inj hus
  have ha := rd1_ok p.R p.T p.gs ha
  rw [Univ.cast_some e1] at ha
  have ha : SlV (fun _ => True) w G.Ow (a.eval x) (.int .u8) xs := ha
  have fold : ∀ (l : List Int) (r : ByteArray), bytesOf (l.foldl (fun r n => r.push (UInt8.ofNat n.toNat)) r) = bytesOf r ++ l.map normB := by
    intro l
    induction l with
    | nil => intro r; simp
    | cons n l ih =>
      intro r
      simp only [List.foldl_cons, List.map_cons]
      rw [ih]
      simp [bytesOf, normB]
  rcases ha with ⟨rfl, A, c, hv⟩ | ⟨ad, c, hv, hc, _, hsp, val, hcell, hrep⟩
  · refine op_one p hd (v := .string .empty) ?_ hok hus.symm (.str .empty)
    simp only [execOp, ho, hv, Sem.run_bind, run_convert_bytes_string w src dst e A 0 c h1 h3 h2]
    cases A with
    | none => simp [Conv.bytesToString]
    | some ad =>
      have := run_bytesToString (P := P) w ad 0 c [] (by simp [loadCells, loadCellsFrom])
      rw [this]
      simp
  · refine op_one p hd (v := .string (xs.foldl (fun r n => r.push (UInt8.ofNat n.toNat)) ByteArray.empty)) ?_ hok hus.symm ?_
    · have hl : (loadCells ad xs.length).run P w = .ok (xs.map (Value.int .u8)).toArray w := by
        have := run_loadCells_list (P := P) w ad (xs.map (Value.int .u8)) (by
          intro j v hj
          simp only [List.getElem?_map, Option.map_eq_some_iff] at hj
          obtain ⟨n, hn, rfl⟩ := hj
          have hjl := (List.getElem?_eq_some_iff.1 hn).1
          have h8 := hcell j 0 hjl (by simp [Ty.size])
          have h9 := hrep j 0 n ⟨.int .u8, n⟩ hn rfl
          generalize val j 0 = v0 at h8 h9
          cases h9
          rw [add_eq hsp]
          simpa [Ty.size] using h8)
        simpa using this
      simp only [execOp, ho, hv, Sem.run_bind, run_convert_bytes_string w src dst e (some ad) xs.length c h1 h3 h2, run_bytesToString w ad xs.length c xs hl, Result.andThen_ok, Sem.run_pure]
    · have := fold xs .empty
      have e0 : bytesOf ByteArray.empty = [] := rfl
      rw [e0, List.nil_append] at this
      rw [← this]
      exact .str _
end Go.Proofs.Fw
set_option linter.unusedVariables false
set_option linter.unusedSimpArgs false
namespace Go.Proofs.Fw
variable {P : Program} {Γ : SEnv} {S : PSt} {G : Gh} {w : World} {N : Nat} {a : Act} {gd : Option (Nat × Bool)} {gs : List (Nat × Bool)} {o : Oper} {bs : List (Nat × Nat)} {d : Nat} {sem : CSem} {us : List (Nat × Univ)} {Np : Nat}
theorem valIs_rep {v : Value} {u : Univ} (h : valIs v u = true) (w : World) (Ow : Nat → Owner) : Rep w Ow v u := by
  unfold valIs at h
  split at h
  · simp only [Bool.and_eq_true, decide_eq_true_eq] at h
    obtain ⟨rfl, rfl⟩ := h
    exact .int _ _
  · simp only [beq_iff_eq] at h
    subst h
    exact .bool _
  · simp only [decide_eq_true_eq] at h
    subst h
    exact .str _
  · exact .nil _ _ _
  · cases h
theorem valsAre_ok : ∀ {l : List Value} {m : List Univ}, valsAre l m = true → l.length = m.length ∧ ∀ (j : Nat) (v : Value) (u : Univ), l[j]? = some v → m[j]? = some u → ∀ w Ow, Rep w Ow v u
  | [], [], _ => ⟨rfl, by intro j v u h; simp at h⟩
  | [], _ :: _, h => by cases h
  | _ :: _, [], h => by cases h
  | x :: r, y :: s, h => by
    simp only [valsAre, Bool.and_eq_true] at h
    obtain ⟨h1, h2⟩ := valsAre_ok h.2
    refine ⟨by simp [h1], ?_⟩
    intro j v u hv hu
    cases j with
    | zero =>
      simp only [List.getElem?_cons_zero, Option.some.injEq] at hv hu
      subst hv hu
      exact valIs_rep h.1
    | succ j => exact h2 j v u (by simpa using hv) (by simpa using hu)
theorem zeroFits_ok {e : TypeId} {t : Ty} (h : zeroFits P e t = true) : ∃ i z, P.info? e = some i ∧ i.zero = some z ∧ z.cells.size = t.size ∧ ∀ (j : Nat) (v : Value) (u : Univ), z.cells[j]? = some v → (leaves t (zeroT t))[j]? = some u → ∀ w Ow, Rep w Ow v u := by
  unfold zeroFits at h
  split at h
  · rename_i i hi
    split at h
    · rename_i z hz
      obtain ⟨h1, h2⟩ := valsAre_ok h
      refine ⟨i, z, hi, hz, by rw [← leaves_length t (zeroT t), ← h1]; rfl, fun j v u hv hu => h2 j v u (by rw [Array.getElem?_toList]; exact hv) hu⟩
    · cases h
  · cases h
theorem sameOpd_eval {x y : Operand} (h : sameOpd x y = true) : a.eval x = a.eval y := by
  unfold sameOpd at h
  split at h
  · simp only [beq_iff_eq] at h; rw [h]
  · simp only [Bool.and_eq_true, decide_eq_true_eq] at h; rw [h.1, h.2]
  · cases h
theorem op_makeSlice (p : Pre Γ S G w N a gd gs) (hb : BsOk Np bs Γ) (hd : o.dst = some d) {T T1 e : TypeId} {t : Ty} {len cap : Operand} (ho : o.op = .makeSlice T len cap) (hsame : sameOpd len cap = true) (hT : elTy P T = some (e, t))
    (hz : zeroFits P e t = true) (hby : (match P.info? e with | some i => decide (i.bytes ≤ 2048) | none => false) = true) {sn : Src} (hn : (rd1 P gs T1 len).run Γ = some sn)
    (hok : effOk N gd (some d) ⟨.makeS (lc d 0) t sn, hardT d (.one .leaf) gd [.own]⟩ = true) (hso : softsOk (hardT d (.one .leaf) gd [.own]) = true) (hvo : varsOk Np (hardT d (.one .leaf) gd [.own]) = true)
    (hus : (POp.makeS (lc d 0) t sn).eval sem S = some us) :
    Outc P o a w bs (app (hardT d (.one .leaf) gd [.own]) Γ) (upds S us) N G := by
  obtain ⟨n, e1, hus⟩ := bnd_some (show bnd _ _ = some us from hus)
  obtain ⟨h0, hus⟩ := chk_some (show chk _ _ = some us from hus)
  obtain ⟨h1, hus⟩ := chk_some hus
  have hus := Option.some.inj hus
  simp only [decide_eq_true_eq] at h0 h1
  have hv := rd1_ok p.R p.T p.gs hn
  rw [Univ.cast_some e1] at hv
  have hv := any_int hv
  obtain ⟨hu, hsz⟩ := elTy_ok hT
  obtain ⟨i, z, hi, hzz, hzs, hzr⟩ := zeroFits_ok hz
  have hsi : i.size = t.size := by
    unfold sizeT at hsz
    rw [hi] at hsz
    simpa using hsz
  rw [hi] at hby
  simp only [decide_eq_true_eq] at hby
  have hLe : (LIM : Int) = 68719476736 := rfl
  have hlim := h1
  rw [hLe] at hlim
  have hbytes : (i.bytes : Int) * n ≤ 281474976710656 := by
    have hb3 : (i.bytes : Int) ≤ 2048 := by omega
    have h2 : (i.bytes : Int) * n ≤ 2048 * n := Int.mul_le_mul_of_nonneg_right hb3 h0
    omega
  have hr := run_make (P := P) w T e i z hu hi hzz .i64 .i64 n n h0 (Int.le_refl _) hbytes (by omega)
  rw [hsi] at hr
  have hmc : ∀ k, k < n.toNat * t.size → (madeCells z.cells (n.toNat * t.size))[k]? = some (z.cells[k % t.size]!) := by
    intro k hk
    simp [madeCells, hk, hzs]
  refine op_newslice (t := t) (xs := List.replicate n.toNat (zeroT t)) (tag := .own) (c := n.toNat) p hb hd (.inl rfl) (w' := w.alloc (.cells (madeCells z.cells (n.toNat * t.size)) e)) ?_ (fun b hb => alloc_heap w _ b hb) (World.size_alloc _ _) rfl rfl rfl (by simp)
    ?_ (fun _ j => z.cells[j]!) ?_ (sf := []) ?_ (List.append_nil _).symm (by simp) hok hso hvo hus.symm
  · have e2 : a.eval cap = .int .i64 n := by rw [← sameOpd_eval hsame]; exact hv
    simp only [execOp, ho, hv, e2, Sem.run_bind, hr, Result.andThen_ok, Sem.run_pure, List.length_replicate]
  · intro _ k hk
    rw [World.cell?_alloc_new, World.frozen?_alloc_new, hmc k hk]
    exact ⟨rfl, rfl⟩
  · intro i' j hi' hj
    rw [List.length_replicate] at hi'
    rw [World.cell?_alloc_new, hmc _ (row_in hi' (Nat.le_refl _) hj)]
    congr 2
    rw [Nat.mul_comm, Nat.mul_add_mod, Nat.mod_eq_of_lt hj]
  · intro i' j x u hx hu
    left
    have hx' : x = zeroT t := by
      rw [List.getElem?_replicate] at hx
      split at hx
      · injection hx with hx; exact hx.symm
      · cases hx
    subst hx'
    have hj : j < z.cells.size := by
      rw [hzs, ← leaves_length t (zeroT t)]
      exact (List.getElem?_eq_some_iff.1 hu).1
    have e3 : z.cells[j]! = z.cells[j] := by rw [getElem!_pos z.cells j hj]
    rw [e3]
    exact hzr j _ u (Array.getElem?_eq_getElem hj) hu w G.Ow
theorem softs_map (sf : List Wr1) : ∀ z ∈ sf.map (fun x => Wr1.soft x.l .dead), ∃ m, z = Wr1.soft m .dead ∧ ∃ x ∈ sf, x.l = m := by
  intro z hz
  simp only [List.mem_map] at hz
  obtain ⟨x, hx, rfl⟩ := hz
  exact ⟨x.l, rfl, x, hx, rfl⟩
theorem op_append (p : Pre Γ S G w N a none gs) (hb : BsOk Np bs Γ) (hd : o.dst = some d) {T T' T1 ty e : TypeId} {t : Ty} {x : Operand} {vy : Value} {i : TypeInfo}
    (hrun : ∀ v w', (Builtin.append_ #[T, T'] ty #[a.eval x, vy]).run P w = .ok v w' → (execOp a.eval o).run P w = .ok (.value v) w')
    (hT : elTy P T = some (e, t)) (hi : P.info? e = some i) (hby : i.bytes ≤ 2048) (hz : zeroFits P e t = true) {lx : LS} {s : Sh1} {src : Src} {sf : List Wr1}
    (hx : (opLeaves P gs T1 x).run Γ = some (.leaf, [lx])) (hm : (mvLeaf gs (lc d 0) lx).run Γ = some (.own, some src, sf)) {xs ys : List t.T} (hxs : src.get S = ⟨.sl t, xs⟩) (hlim : xs.length + ys.length ≤ LIM)
    {news : List Value} (hsrc : Go.Src P i.size T' vy ys.length news w) (nv : Nat → Nat → Value) (hnews : ∀ k j, k < ys.length → j < t.size → news[k * t.size + j]? = some (nv k j))
    (hnrep : ∀ k j x u, ys[k]? = some x → (leaves t x)[j]? = some u → Rep w G.Ow (nv k j) u) {ws : List Wr1}
    (hws : ws = hardT d (.one .leaf) none [.own] ++ sf.map fun x => .soft x.l .dead) {pop : POp}
    (hok : effOk N none (some d) ⟨pop, ws⟩ = true) (hso : softsOk ws = true) (hvo : varsOk Np ws = true) (hus : us = [(lc d 0, ⟨.sl t, xs ++ ys⟩)]) : Outc P o a w bs (app ws Γ) (upds S us) N G := by
  obtain ⟨hu, hsz⟩ := elTy_ok hT
  obtain ⟨i', z, hi', hzz, hzs, _⟩ := zeroFits_ok hz
  rw [hi] at hi'
  injection hi' with hi'
  subst hi'
  have hsi : i.size = t.size := by
    unfold sizeT at hsz
    rw [hi] at hsz
    simpa using hsz
  obtain ⟨ev, _, hls⟩ := opLeaves_ok p.T p.gs hx
  have ev : a.eval x = lsV G lx := by rw [ev]; simp [asm1]
  have hlx := hls lx (List.mem_singleton.2 rfl)
  have hnl : news.length = ys.length * t.size := by rw [hsrc.newsLen, hsi]
  have hgrow : ∀ (base : Option Addr) (c : Nat) (val : Nat → Nat → Value), a.eval x = .slice base xs.length c → xs.length ≤ c → c < xs.length + ys.length → (xs.length ≠ 0 → ∃ ad, base = some ad ∧ ad.spot = none ∧ ∀ i j, i < xs.length → j < t.size → w.cell? ⟨ad.block, ad.off + (i * t.size + j), none⟩ = some (val i j)) →
      (∀ i j x u, xs[i]? = some x → (leaves t x)[j]? = some u → Rep w G.Ow (val i j) u) → Outc P o a w bs (app ws Γ) (upds S us) N G := by
    intro base c val hv hc hg hbase hval
    generalize holds : ((List.range (xs.length * t.size)).map fun k => val (k / t.size) (k % t.size)) = olds
    have holdl : olds.length = xs.length * t.size := by rw [← holds]; simp
    have holdg : ∀ i j, i < xs.length → j < t.size → olds[i * t.size + j]? = some (val i j) := by
      intro i j hi hj
      have hlt := row_in hi (Nat.le_refl xs.length) hj
      rw [← holds]
      simp only [List.getElem?_map, List.getElem?_range hlt, Option.map_some]
      rw [show i * t.size + j = j + t.size * i by rw [Nat.mul_comm]; omega, Nat.add_mul_div_left _ _ (by omega), Nat.div_eq_of_lt hj, Nat.add_mul_mod_self_left, Nat.mod_eq_of_lt hj, Nat.zero_add]
    have hold : (Builtin.firstCells i.size xs.length (.slice base xs.length c)).run P w.drew = .ok olds.toArray w.drew := by
      by_cases h0 : xs.length = 0
      · have : olds = [] := List.eq_nil_of_length_eq_zero (by rw [holdl, h0]; simp)
        subst this
        rw [h0]
        cases base with
        | none => exact run_firstCells_none _ _ _ _ _
        | some ad => exact run_firstCells_some _ _ _ _ _ _ _ (by simp) (by simp)
      · obtain ⟨ad, rfl, hsp, hcell⟩ := hbase h0
        refine run_firstCells_some _ _ _ _ _ _ _ (by rw [holdl, hsi]) ?_
        intro j v hj
        have hjl : j < xs.length * t.size := by rw [← holdl]; exact (List.getElem?_eq_some_iff.1 hj).1
        have hpos : 0 < t.size := by
          rcases Nat.eq_zero_or_pos t.size with h | h
          · rw [h] at hjl; omega
          · exact h
        have hq := Nat.div_lt_of_lt_mul (by rw [Nat.mul_comm]; exact hjl : j < t.size * xs.length)
        have h8 := hcell (j / t.size) (j % t.size) hq (Nat.mod_lt _ hpos)
        have h9 := holdg (j / t.size) (j % t.size) hq (Nat.mod_lt _ hpos)
        have e8 : j / t.size * t.size + j % t.size = j := by rw [Nat.mul_comm]; exact Nat.div_add_mod j t.size
        rw [e8] at h8 h9
        rw [hj] at h9
        rw [add_eq hsp, World.cell?_drew, h8, ← h9]
    have hL : xs.length + ys.length ≤ 68719476736 := hlim
    have hfit : Builtin.nextslicecap (xs.length + ys.length) c * i.bytes ≤ 281474976710656 := by
      refine growslice_fits hg ?_
      calc (xs.length + ys.length) * i.bytes ≤ 68719476736 * 2048 := Nat.mul_le_mul hL hby
        _ = 140737488355328 := rfl
    have hr := run_append_grow_src (P := P) w T T' ty e i z hu hi hzz base xs.length c olds hold vy ys.length news hsrc hg (by omega) hfit
    rw [← hv] at hr
    have hge := grownCap_ge w (xs.length + ys.length) c e
    generalize hcap : grownCap w (xs.length + ys.length) c e = cap at *
    generalize hcs : (olds ++ news).toArray ++ Builtin.zeroCells z.cells (cap - (xs.length + ys.length)) = cells at *
    have hcsz : cells.size = cap * t.size := by
      rw [← hcs, Array.size_append, size_zeroCells, hzs]
      simp only [List.size_toArray, List.length_append, holdl, hnl]
      rw [← Nat.add_mul, ← Nat.add_mul]
      congr 1
      omega
    have hxl : (xs ++ ys).length = xs.length + ys.length := List.length_append
    refine op_newslice (t := t) (xs := xs ++ ys) (tag := .own) (c := cap) p hb hd (.inl rfl) (w' := w.drew.alloc (.cells cells e)) (by rw [hxl]; exact hrun _ _ hr) (fun b hb => alloc_heap w.drew _ b hb) (World.size_alloc _ _) rfl rfl rfl (by rw [hxl]; exact hge)
      ?_ (fun i j => if i < xs.length then val i j else nv (i - xs.length) j) ?_ (sf := sf.map fun x => .soft x.l .dead) ?_ hws (fun z hz => by obtain ⟨m, h1, _⟩ := softs_map sf z hz; exact ⟨m, .inr h1⟩) hok hso hvo hus
    · intro _ k hk
      have e7 : (w.drew.alloc (.cells cells e)).cell? ⟨w.heap.size, k, none⟩ = cells[k]? := World.cell?_alloc_new w.drew cells e k
      have e8 : (w.drew.alloc (.cells cells e)).frozen? ⟨w.heap.size, k, none⟩ = false := World.frozen?_alloc_new w.drew cells e k
      rw [e7, e8]
      exact ⟨by simp [hcsz, hk], rfl⟩
    · intro i j hi hj
      rw [hxl] at hi
      show World.cell? _ ⟨w.drew.heap.size, i * t.size + j, none⟩ = _
      rw [World.cell?_alloc_new, ← hcs, Array.getElem?_append, if_pos (by
        simp only [List.size_toArray, List.length_append, holdl, hnl]
        rw [← Nat.add_mul]
        exact row_in hi (Nat.le_refl _) hj)]
      rw [List.getElem?_toArray]
      by_cases hix : i < xs.length
      · rw [if_pos hix, List.getElem?_append_left (by rw [holdl]; exact row_in hix (Nat.le_refl _) hj)]
        exact holdg i j hix hj
      · rw [if_neg hix, List.getElem?_append_right (by rw [holdl]; exact Nat.le_trans (Nat.mul_le_mul_right _ (Nat.le_of_not_lt hix)) (Nat.le_add_right _ _)), holdl]
        have e9 : i * t.size + j - xs.length * t.size = (i - xs.length) * t.size + j := by
          have := Nat.mul_le_mul_right t.size (Nat.le_of_not_lt hix)
          rw [Nat.sub_mul]
          omega
        rw [e9]
        exact hnews _ _ (by omega) hj
    · intro i j y u hy hu'
      left
      by_cases hix : i < xs.length
      · rw [if_pos hix]
        rw [List.getElem?_append_left hix] at hy
        exact hval i j y u hy hu'
      · rw [if_neg hix]
        rw [List.getElem?_append_right (Nat.le_of_not_lt hix)] at hy
        exact hnrep _ j y u hy hu'
  have hnil : a.eval x = .slice none 0 0 → xs = [] → Outc P o a w bs (app ws Γ) (upds S us) N G := by
    intro hv hx0
    subst hx0
    by_cases hy : ys.length = 0
    · have hy0 : ys = [] := List.eq_nil_of_length_eq_zero hy
      subst hy0
      have hn0 : news = [] := List.eq_nil_of_length_eq_zero (by rw [hnl]; simp)
      subst hn0
      have hr := run_append_nothing (P := P) w T T' ty e i hu hi none 0 0 (Nat.le_refl _) vy hsrc
      rw [← hv] at hr
      subst hws
      have hlch : isHard (hardT d (.one .leaf) none [.own] ++ sf.map fun x => Wr1.soft x.l .dead) (lc d 0) = true := hfind_isSome (e := ⟨.own, some (.one .leaf), none⟩) (by simp [hardT])
      have hok2 := hok
      simp only [effOk, Bool.and_eq_true] at hok2
      have hd2 := blt_lt hok2.2.1.1.2
      have key := stepA (us := us) (vals := fun _ => .slice none 0 0) (ρ := fun _ => none) (v := .slice none 0 0) p.R p.T hok p.gd ?_ rfl rfl ?_ (by simp) ?_ ?_
      · exact outc_val hd (v := .slice none 0 0) (by rw [hrun _ _ hr, hv]) ⟨_, key.1, key.2, Fr.stepG hd2⟩
      · intro l e' h
        obtain ⟨m, h1, _⟩ := softs_map sf _ h
        cases h1
      · intro l hl
        apply upds_not
        rw [hus]
        simp only [List.map_cons, List.map_nil, List.mem_singleton]
        rintro rfl
        rw [hlch] at hl
        cases hl
      · intro j t' ht'
        cases j with
        | succ j => simp at ht'
        | zero =>
          simp only [List.getElem?_cons_zero, Option.some.injEq] at ht'
          subst ht'
          refine ⟨t, [], by rw [hus]; exact upds_mem (by simp) (by simp), .inl ⟨?_, rfl⟩⟩
          simp only [Fw.stepG]
          rw [if_pos ⟨hlch, by simp only [lc]; omega⟩]
      · intro l t' h _
        obtain ⟨m, h1, _⟩ := softs_map sf _ h
        injection h1 with _ h1
        subst h1
        trivial
    · exact hgrow none 0 (fun _ _ => undef) hv (Nat.zero_le _) (by simp only [List.length_nil, Nat.zero_add]; omega) (by simp) (by intro i j x u h; simp at h)
  have hcase : (a.eval x = .slice none 0 0 ∧ xs = []) ∨ ∃ m, OwnV w G.Ow m (a.eval x) t xs ∧ (m = lc d 0 ∨ Wr1.soft m .dead ∈ ws) := by
    rw [ev]
    cases lx with
    | con v u' t' =>
      simp only [mvLeaf, Rd.run, Option.some.injEq, Prod.mk.injEq] at hm
      obtain ⟨rfl, rfl, _⟩ := hm
      obtain ⟨rfl, t2, rfl⟩ := hlx
      have hxs : (⟨.sl t2, []⟩ : Univ) = ⟨.sl t, xs⟩ := hxs
      cases hxs
      exact .inl ⟨rfl, rfl⟩
    | loc l =>
      simp only [mvLeaf] at hm
      obtain ⟨⟨m, tg⟩, h1, h2⟩ := Rd.run_bind hm
      obtain ⟨hV, _, _, hL, hna, _⟩ := res_ok p.R p.gs h1
      cases tg with
      | own =>
        simp only [Rd.run, Option.some.injEq, Prod.mk.injEq, true_and] at h2
        obtain ⟨rfl, hsf⟩ := h2
        obtain ⟨t2, xs2, h3, h4⟩ := hL
        have hxs : S m = ⟨.sl t, xs⟩ := hxs
        rw [hxs] at h3
        cases h3
        refine .inr ⟨m, by show OwnV _ _ _ (G.V l) _ _; rw [hV]; exact h4, ?_⟩
        by_cases hmd : m = lc d 0
        · exact .inl hmd
        · right
          rw [if_neg hmd] at hsf
          rw [hws, ← hsf]
          simp [Wr1.l]
      | al y => cases h2
      | _ =>
        simp only [Rd.run, Option.some.injEq, Prod.mk.injEq] at h2
        cases h2.1
  rcases hcase with ⟨h1, h2⟩ | ⟨m, hO, hmd⟩
  · exact hnil h1 h2
  rcases hO with ⟨h1, h2⟩ | ⟨b, ob, c, hv, hc, hown0, hcells, val, hcell, hrep⟩
  · exact hnil h1 h2
  by_cases hroom : xs.length + ys.length ≤ c
  case neg =>
    exact hgrow (some ⟨b, ob, none⟩) c val hv hc (by omega) (fun _ => ⟨_, rfl, rfl, hcell⟩) hrep
  simp only [effOk, Bool.and_eq_true, Bool.not_eq_true'] at hok
  obtain ⟨⟨⟨_, hin⟩, hgk⟩, ⟨⟨hdN, hd2⟩, _⟩, _⟩ := hok
  have hdN := blt_lt hdN
  have hd2 := blt_lt hd2
  have hlch : isHard ws (lc d 0) = true := hfind_isSome (e := ⟨.own, some (.one .leaf), none⟩) (by rw [hws]; simp [hardT])
  have hmem : ∀ l e, Wr1.hard l e ∈ ws → l = lc d 0 ∧ e = ⟨.own, some (.one .leaf), none⟩ := by
    intro l e h
    rw [hws] at h
    rcases List.mem_append.1 h with h | h
    · simp only [hardT, hardAt, List.mem_singleton, Wr1.hard.injEq] at h
      exact h
    · obtain ⟨m, h1, _⟩ := softs_map sf _ h
      cases h1
  have hdead : ∀ l t', Wr1.soft l t' ∈ ws → t' = .dead := by
    intro l t' h
    rw [hws] at h
    rcases List.mem_append.1 h with h | h
    · simp [hardT, hardAt] at h
    · obtain ⟨m, h1, _⟩ := softs_map sf _ h
      injection h1
  have hcase : ∀ l, isHard ws l = true → l = lc d 0 := by
    intro l hl
    obtain ⟨e, he⟩ := isHard_mem hl
    exact (hmem l e he).1
  have hbmh : ∀ b, isHard ws (bm b) = false := by
    intro b
    cases h : isHard ws (bm b) with
    | false => rfl
    | true =>
      have := hcase _ h
      simp only [bm, lc] at this
      omega
  have hmdom : isDom ws m = true := by
    rcases hmd with rfl | h
    · simp only [isDom, hlch, Bool.true_or]
    · exact isDom_of_soft hso h
  have hcc : ∀ j, j < news.length → (w.cell? ⟨b, ob + xs.length * i.size + j, none⟩).isSome = true ∧ w.frozen? ⟨b, ob + xs.length * i.size + j, none⟩ = false := by
    intro j hj
    have := hcells (xs.length * t.size + j) (by
      have h1 := Nat.mul_le_mul_right t.size hroom
      rw [Nat.add_mul] at h1
      omega)
    rw [hsi, Nat.add_assoc]
    exact this
  have hr := run_append_room_src (P := P) w T T' ty e i hu hi b ob xs.length c vy ys.length news hsrc hroom (fun j hj => (hcc j hj).1) (fun j hj => (hcc j hj).2)
  rw [← hv] at hr
  generalize hw' : w.setCells b (ob + xs.length * i.size) news = w' at hr
  let ρ : Nat → Option Owner := fun l => if l = m then some (.loc (lc d 0)) else none
  let G' : Gh := { V := fun l => if isHard ws l = true then .slice (some ⟨b, ob, none⟩) (xs.length + ys.length) c else G.V l
                   Ow := fun b => ren ρ (G.Ow b)
                   B := G.B }
  have hV : ∀ l, isHard ws l = false → G'.V l = G.V l := by
    intro l hl
    show (if isHard ws l = true then _ else _) = _
    rw [if_neg (by rw [hl]; simp)]
  have hVd : G'.V (lc d 0) = .slice (some ⟨b, ob, none⟩) (xs.length + ys.length) c := if_pos hlch
  have hSne : ∀ l, l ≠ lc d 0 → upds S us l = S l := by
    intro l hl
    apply upds_not
    rw [hus]
    simpa using hl
  have hSd : upds S us (lc d 0) = ⟨.sl t, xs ++ ys⟩ := by
    rw [hus]
    exact upds_mem (by simp) (List.mem_singleton.2 rfl)
  have hS : ∀ l, isDom ws l = false → upds S us l = S l := by
    intro l hl
    refine hSne l fun e => ?_
    subst e
    simp only [isDom, hlch, Bool.true_or] at hl
    cases hl
  have hsz' : w'.heap.size = w.heap.size := by rw [← hw']; exact size_setCells _ _ _ _
  have hh : ∀ c, c < w.heap.size → c ≠ b → w'.heap[c]? = w.heap[c]? ∧ G'.Ow c = ren ρ (G.Ow c) := by
    intro c _ hne
    exact ⟨by rw [← hw']; exact heap_setCells _ _ _ _ _ hne, rfl⟩
  have still : Still w G.Ow w' G'.Ow := by
    intro c hc
    obtain ⟨h5, h6⟩ := hh c (lt_of_own p.R hc (by simp)) (fun e => by subst e; rw [hown0] at hc; cases hc)
    exact ⟨h5, by rw [h6, hc]; rfl⟩
  have hfro : ∀ q, w'.frozen? q = w.frozen? q := by
    intro q
    rw [← hw']
    exact World.frozen?_setCells _ _ _ _ _
  have hR : HRel (app ws Γ) (upds S us) G' w' := by
    refine HRel.mod (ρ := ρ) p.R b hV hS (fun _ _ => rfl) hh ?_ (by rw [hown0]; simp) (by rw [hown0]; simp) ?_ (by rw [hown0]; simp) ?_ ?_ ?_ ?_ ?_ ?_
    · intro l o' hl
      have : l = m := by
        apply Classical.byContradiction
        intro hne
        have : ρ l = none := if_neg hne
        rw [this] at hl
        cases hl
      rw [this]
      exact hmdom
    · intro l hl
      rw [hown0] at hl
      injection hl with hl
      rw [← hl]
      exact hmdom
    · intro b n j hbs _ _ hj
      cases h : isHard ws (bc b j) with
      | false => rfl
      | true =>
        have := hcase _ h
        simp only [bc, lc] at this
        omega
    · intro l e he _
      obtain ⟨rfl, rfl⟩ := hmem l e he
      refine ⟨t, xs ++ ys, hSd, ?_⟩
      rw [hVd]
      refine .inr ⟨b, ob, c, by rw [List.length_append], by rw [List.length_append]; exact hroom, ?_, ?_, fun i j => if i < xs.length then val i j else nv (i - xs.length) j, ?_, ?_⟩
      · show ren ρ (G.Ow b) = _
        rw [hown0]
        show (ρ m).getD _ = _
        have : ρ m = some (.loc (lc d 0)) := if_pos rfl
        rw [this]
        rfl
      · intro k hk
        obtain ⟨h8, h9⟩ := hcells k hk
        refine ⟨?_, by rw [hfro]; exact h9⟩
        rw [← hw']
        exact isSome_setCells _ _ _ _ _ h8
      · intro i2 j hi2 hj
        rw [List.length_append] at hi2
        by_cases hix : i2 < xs.length
        · simp only [if_pos hix]
          rw [← hw', World.cell?_setCells_out]
          · exact hcell i2 j hix hj
          · intro _ _
            left
            simp only [hsi]
            have := row_in hix (Nat.le_refl _) hj
            omega
        · simp only [if_neg hix]
          have hk : (i2 - xs.length) * t.size + j < news.length := by
            rw [hnl]
            exact row_in (by omega) (Nat.le_refl _) hj
          have h8 := World.cell?_setCells_in b news (ob + xs.length * i.size) w (fun k hk => (hcc k hk).1) _ hk
          have e9 : ob + xs.length * i.size + ((i2 - xs.length) * t.size + j) = ob + (i2 * t.size + j) := by
            have := Nat.mul_le_mul_right t.size (Nat.le_of_not_lt hix)
            rw [Nat.sub_mul, hsi]
            omega
          rw [hw', e9] at h8
          rw [h8, ← List.getElem?_eq_getElem hk]
          exact hnews _ _ (by omega) hj
      · intro i2 j y u hy hu'
        by_cases hix : i2 < xs.length
        · simp only [if_pos hix]
          rw [List.getElem?_append_left hix] at hy
          exact (hrep i2 j y u hy hu').still still
        · simp only [if_neg hix]
          rw [List.getElem?_append_right (Nat.le_of_not_lt hix)] at hy
          exact (hnrep _ j y u hy hu').still still
    · intro b e n he
      have := hfind_isSome he
      rw [hbmh] at this
      cases this
    · intro b e n he
      have := hfind_isSome he
      rw [hbmh] at this
      cases this
    · intro l t' ht' _
      rw [hdead l t' ht']
      trivial
    · intro k hk
      rw [hsz'] at hk
      show ren _ (G.Ow k) = _
      rw [p.R.new k hk]
      rfl
  refine ⟨_, w', G', .inl (hrun _ _ hr), hR, ?_, ?_⟩
  · rw [hd]
    refine TRel.step p.T hin hV hS ?_ ?_
    · intro t1 ht1 htd
      left
      refine hSne _ fun e => htd ?_
      have : d = t1 := by simp only [lc] at e; omega
      rw [this]
    · rintro d' hd'
      injection hd' with hd'
      subst hd'
      exact ⟨hdN, hd2, ⟨.own, some (.one .leaf), none⟩, .one .leaf, by rw [hws]; simp [hardT, hfind], rfl, by simp [Shape.size, Sh1.size], hVd.symm, by intro c b h; cases h⟩
  · obtain ⟨r1, r2, r3⟩ := rest_setCells b news (ob + xs.length * i.size) w
    rw [hw'] at r1 r2 r3
    exact Fr.mod (ρ := ρ) p.R hb b hin (fun d' hd' => by injection hd' with hd'; omega) hvo hV (fun _ _ => rfl) hh r1 r2 r3 (by rw [hsz']; exact Nat.le_refl _) (by rw [hown0]; simp) (by rw [hown0]; simp) (fun _ => by rw [hown0]; simp) (fun q _ _ h => by rw [hown0] at h; cases h)
end Go.Proofs.Fw
set_option linter.unusedVariables false
set_option linter.unusedSimpArgs false
namespace Go.Proofs.Fw
variable {P : Program} {Γ : SEnv} {S : PSt} {G : Gh} {w : World} {N : Nat} {a : Act} {gd : Option (Nat × Bool)} {gs : List (Nat × Bool)} {o : Oper} {bs : List (Nat × Nat)} {d : Nat} {sem : CSem} {us : List (Nat × Univ)} {Np : Nat}
def flat (val : Nat → Nat → Value) (n s : Nat) : List Value := (List.range (n * s)).map fun k => val (k / s) (k % s)
theorem flat_length (val : Nat → Nat → Value) (n s : Nat) : (flat val n s).length = n * s := by simp [flat]
theorem flat_get (val : Nat → Nat → Value) {n s i j : Nat} (hi : i < n) (hj : j < s) : (flat val n s)[i * s + j]? = some (val i j) := by
  have hlt := row_in hi (Nat.le_refl n) hj
  unfold flat
  simp only [List.getElem?_map, List.getElem?_range hlt, Option.map_some]
  rw [show i * s + j = j + s * i by rw [Nat.mul_comm]; omega, Nat.add_mul_div_left _ _ (by omega), Nat.div_eq_of_lt hj, Nat.add_mul_mod_self_left, Nat.mod_eq_of_lt hj, Nat.zero_add]
theorem flat_place {n s k : Nat} (hk : k < n * s) : k / s < n ∧ k % s < s ∧ k / s * s + k % s = k := by
  have hpos : 0 < s := by
    rcases Nat.eq_zero_or_pos s with h | h
    · rw [h] at hk; omega
    · exact h
  exact ⟨Nat.div_lt_of_lt_mul (by rw [Nat.mul_comm]; exact hk), Nat.mod_lt _ hpos, by rw [Nat.mul_comm]; exact Nat.div_add_mod k s⟩
theorem leaf_at {t : Ty} {xs : List t.T} {i j : Nat} (hi : i < xs.length) (hj : j < t.size) : ∃ x u, xs[i]? = some x ∧ (leaves t x)[j]? = some u :=
  ⟨xs[i], (leaves t xs[i])[j]'(by rw [leaves_length]; exact hj), List.getElem?_eq_getElem hi, List.getElem?_eq_getElem _⟩
theorem src_of_slv {q : Nat → Prop} {Ow : Nat → Owner} {v : Value} {t : Ty} {ys : List t.T} {T' e' : TypeId} (hk : P.underlying T' = some (.slice e')) (h : SlV q w Ow v t ys) :
    ∃ (news : List Value) (nv : Nat → Nat → Value), Go.Src P t.size T' v ys.length news w ∧ (∀ k j, k < ys.length → j < t.size → news[k * t.size + j]? = some (nv k j)) ∧ ∀ k j x u, ys[k]? = some x → (leaves t x)[j]? = some u → Rep w Ow (nv k j) u := by
  rcases h with ⟨rfl, A, c, rfl⟩ | ⟨ad, c, rfl, hc, _, hsp, val, hcell, hrep⟩
  · refine ⟨[], fun _ _ => undef, ?_, by intro k j h; simp at h, by intro k j x u h; simp at h⟩
    cases A with
    | none => exact Go.Src.ofNil w hk c
    | some ad => exact Go.Src.ofSlice w hk ad 0 c [] (by simp) (by simp) (by simp)
  · refine ⟨flat val ys.length t.size, val, ?_, fun k j hk hj => flat_get val hk hj, hrep⟩
    refine Go.Src.ofSlice w hk ad ys.length c _ (flat_length _ _ _) ?_ ?_
    · intro j u hj
      have hjl : j < ys.length * t.size := by rw [← flat_length val]; exact (List.getElem?_eq_some_iff.1 hj).1
      obtain ⟨h1, h2, h3⟩ := flat_place hjl
      have h4 := flat_get val h1 h2
      rw [h3, hj] at h4
      rw [add_eq hsp, h4, ← hcell _ _ h1 h2, h3]
    · intro u hu
      obtain ⟨j, hj⟩ := List.getElem?_of_mem hu
      have hjl : j < ys.length * t.size := by rw [← flat_length val]; exact (List.getElem?_eq_some_iff.1 hj).1
      obtain ⟨h1, h2, h3⟩ := flat_place hjl
      have h4 := flat_get val h1 h2
      rw [h3, hj] at h4
      injection h4 with h4
      subst h4
      obtain ⟨x, u, hx, hu⟩ := leaf_at h1 h2
      exact (hrep _ _ x u hx hu).one
theorem exec_append {c : Call} {x y : Operand} {T T' : TypeId} (ho : o.op = .call c) (hc : c.callee = .builtin .append) (hx : c.args = #[x, y]) (hT : c.argTypes = #[T, T']) {v : Value} {w' : World}
    (h : (Builtin.append_ #[T, T'] o.type #[a.eval x, a.eval y]).run P w = .ok v w') : (execOp a.eval o).run P w = .ok (.value v) w' := by
  simp [execOp, ho, resolve, hc, hx, hT, invoke, builtin, h]
theorem op_app (p : Pre Γ S G w N a none gs) (hb : BsOk Np bs Γ) (hd : o.dst = some d) {c : Call} {x y : Operand} {T T' T1 T2 e e' : TypeId} {t : Ty} (ho : o.op = .call c) (hc : c.callee = .builtin .append) (hx : c.args = #[x, y]) (hcT : c.argTypes = #[T, T'])
    (hT : elTy P T = some (e, t)) (hT' : P.underlying T' = some (.slice e')) (hby : (match P.info? e with | some i => decide (i.bytes ≤ 2048) | none => false) = true) (hz : zeroFits P e t = true) {lx : LS} {s : Sh1} {src sb : Src} {sf : List Wr1}
    (hlx : (opLeaves P gs T1 x).run Γ = some (.leaf, [lx])) (hm : (mvLeaf gs (lc d 0) lx).run Γ = some (.own, some src, sf)) (hy : (rd1 P gs T2 y).run Γ = some sb) {ws : List Wr1}
    (hws : ws = hardT d (.one .leaf) none [.own] ++ sf.map fun x => .soft x.l .dead)
    (hok : effOk N none (some d) ⟨.app (lc d 0) t src sb, ws⟩ = true) (hso : softsOk ws = true) (hvo : varsOk Np ws = true) (hus : (POp.app (lc d 0) t src sb).eval sem S = some us) : Outc P o a w bs (app ws Γ) (upds S us) N G := by
  obtain ⟨xs, e1, hus⟩ := bnd_some (show bnd _ _ = some us from hus)
  obtain ⟨ys, e2, hus⟩ := bnd_some hus
  obtain ⟨hlim, hus⟩ := chk_some (show chk _ _ = some us from hus)
  have hus := Option.some.inj hus
  simp only [decide_eq_true_eq] at hlim
  have hyv := rd1_ok p.R p.T p.gs hy
  rw [Univ.cast_some e2] at hyv
  obtain ⟨i, z, hi, _⟩ := zeroFits_ok hz
  rw [hi] at hby
  simp only [decide_eq_true_eq] at hby
  have hsi : i.size = t.size := by
    have := (elTy_ok hT).2
    unfold sizeT at this
    rw [hi] at this
    simpa using this
  obtain ⟨news, nv, h1, h2, h3⟩ := src_of_slv (P := P) (q := fun _ => True) hT' hyv
  rw [← hsi] at h1
  exact op_append (s := s) p hb hd (fun v w' h => exec_append ho hc hx hcT h) hT hi hby hz hlx hm (Univ.cast_some e1) hlim h1 nv h2 h3 hws hok hso hvo hus.symm
theorem op_appS (p : Pre Γ S G w N a none gs) (hb : BsOk Np bs Γ) (hd : o.dst = some d) {c : Call} {x y : Operand} {T T' T1 T2 e : TypeId} (ho : o.op = .call c) (hc : c.callee = .builtin .append) (hx : c.args = #[x, y]) (hcT : c.argTypes = #[T, T'])
    (hT : elTy P T = some (e, .int .u8)) (hT' : P.underlying T' = some .string) (hby : (match P.info? e with | some i => decide (i.bytes ≤ 2048) | none => false) = true) (hz : zeroFits P e (.int .u8) = true) {lx : LS} {s : Sh1} {src sb : Src} {sf : List Wr1}
    (hlx : (opLeaves P gs T1 x).run Γ = some (.leaf, [lx])) (hm : (mvLeaf gs (lc d 0) lx).run Γ = some (.own, some src, sf)) (hy : (rd1 P gs T2 y).run Γ = some sb) {ws : List Wr1}
    (hws : ws = hardT d (.one .leaf) none [.own] ++ sf.map fun x => .soft x.l .dead)
    (hok : effOk N none (some d) ⟨.appS (lc d 0) src sb, ws⟩ = true) (hso : softsOk ws = true) (hvo : varsOk Np ws = true) (hus : (POp.appS (lc d 0) src sb).eval sem S = some us) : Outc P o a w bs (app ws Γ) (upds S us) N G := by
  obtain ⟨xs, e1, hus⟩ := bnd_some (show bnd _ _ = some us from hus)
  obtain ⟨ys, e2, hus⟩ := bnd_some hus
  obtain ⟨hlim, hus⟩ := chk_some (show chk _ _ = some us from hus)
  have hus := Option.some.inj hus
  simp only [decide_eq_true_eq] at hlim
  have hyv := rd1_ok p.R p.T p.gs hy
  rw [Univ.cast_some e2] at hyv
  obtain ⟨sy, hv, rfl⟩ := any_str hyv
  obtain ⟨i, z, hi, _⟩ := zeroFits_ok hz
  rw [hi] at hby
  simp only [decide_eq_true_eq] at hby
  have hsi : i.size = 1 := by
    have := (elTy_ok hT).2
    unfold sizeT at this
    rw [hi] at this
    simpa [Ty.size] using this
  have h1 := Go.Src.ofString (P := P) w hT' sy
  have hbl : (bytesOf sy).length = sy.size := bytesOf_length sy
  rw [← hsi, ← hbl, ← hv] at h1
  refine op_append (t := .int .u8) (ys := bytesOf sy) (s := s) p hb hd (fun v w' h => exec_append ho hc hx hcT h) hT hi hby hz hlx hm (Univ.cast_some e1) hlim h1 (fun k _ => (byteCells sy)[k]?.getD undef) ?_ ?_ hws hok hso hvo hus.symm
  · intro k j hk hj
    have hj : j = 0 := by simp [Ty.size] at hj; omega
    subst hj
    have hk' : k < (byteCells sy).length := by rw [byteCells_length, ← hbl]; exact hk
    show (byteCells sy)[k * 1 + 0]? = _
    rw [Nat.mul_one, Nat.add_zero, List.getElem?_eq_getElem hk']
    rfl
  · intro k j y u hy hu
    cases j with
    | succ j => simp [leaves] at hu
    | zero =>
      simp only [leaves, List.getElem?_cons_zero, Option.some.injEq] at hu
      subst hu
      unfold bytesOf at hy
      simp only [List.getElem?_map, Option.map_eq_some_iff] at hy
      obtain ⟨b, hb1, rfl⟩ := hy
      simp only [byteCells, List.getElem?_map, hb1, Option.map_some, Option.getD_some]
      exact .int _ _
theorem op_sub_own (p : Pre Γ S G w N a gd gs) (hd : o.dst = some d) {T : TypeId} {x : Operand} {lo hi mx : Option Operand} (ho : o.op = .slice T x lo hi mx) (hmx : mx.isNone = true) {e : TypeId} {t : Ty} (hT : elTy P T = some (e, t))
    {T1 T2 : TypeId} {l h : Option Src} (hl : (optOp P gs T1 lo).run Γ = some l) (hh : (optOp P gs T2 hi).run Γ = some h) {lx m : Nat} {ty : TypeId}
    (hx : (opLeaves P gs ty x).run Γ = some (.leaf, [.loc lx])) (hm : (res gs 6 lx).run Γ = some (m, .own))
    (hok : effOk N gd (some d) ⟨.sub (lc d 0) t (.loc m) l h, hardT d (.one .leaf) gd [.val] ++ [.soft m .val]⟩ = true) (hso : softsOk (hardT d (.one .leaf) gd [.val] ++ [.soft m .val]) = true)
    (hus : (POp.sub (lc d 0) t (.loc m) l h).eval sem S = some us) :
    Outc P o a w bs (app (hardT d (.one .leaf) gd [.val] ++ [.soft m .val]) Γ) (upds S us) N G := by
  obtain ⟨xs, e1, hus⟩ := bnd_some (show bnd _ _ = some us from hus)
  obtain ⟨i, e2, hus⟩ := bnd_some hus
  obtain ⟨j, e3, hus⟩ := bnd_some hus
  obtain ⟨h0, h1, h2, hus⟩ := subK_some hus
  have hus2 := Option.some.inj hus
  have b1 := optOp_ok p hl e2
  obtain ⟨ev, _, _⟩ := opLeaves_ok p.T p.gs hx
  obtain ⟨hV, _, _, hL, _⟩ := res_ok p.R p.gs hm
  have ev : a.eval x = G.V m := by rw [ev, ← hV]; rfl
  have hS : S m = ⟨.sl t, xs⟩ := Univ.cast_some e1
  have hmx : mx = none := by cases mx with | none => rfl | some _ => cases hmx
  obtain ⟨A, c, hv, hc⟩ := slv_len (slTag_any (tag := .own) hL rfl hS)
  have b2 : BndIs (hi.map a.eval) (xs.length : Int) j := optOp_ok p hh e3
  have hok2 := hok
  simp only [effOk, Bool.and_eq_true] at hok2
  have hd2 := blt_lt hok2.2.1.1.2
  have hsin : Wr1.soft m .val ∈ hardT d (.one .leaf) gd [.val] ++ [.soft m .val] := by simp
  have hms := softsOk_spec hso _ _ hsin
  have hlch : isHard (hardT d (.one .leaf) gd [.val] ++ [.soft m .val]) (lc d 0) = true := hfind_isSome (e := ⟨.val, some (.one .leaf), gd⟩) (by simp [hardT])
  have hne : m ≠ lc d 0 := by
    rintro rfl
    rw [hlch] at hms
    cases hms.1
  let ρ : Nat → Option Owner := fun l => if l = m then some .imm else none
  have hO : OwnV w G.Ow m (G.V m) t xs := by
    obtain ⟨t', xs', h3, h4⟩ := hL
    rw [hS] at h3
    cases h3
    exact h4
  have hρm : ρ m = some .imm := if_pos rfl
  have hOw : ∀ b, G.Ow b = .loc m → (stepG G d (hardT d (.one .leaf) gd [.val] ++ [.soft m .val]) (fun _ => .slice (if c = i.toNat then A else A.map (·.add (i.toNat * t.size))) (j.toNat - i.toNat) (c - i.toNat)) ρ).Ow b = .imm := by
    intro b hb
    simp only [Fw.stepG, hb, ren, hρm]
    rfl
  have hrep0 : Rep w (stepG G d (hardT d (.one .leaf) gd [.val] ++ [.soft m .val]) (fun _ => .slice (if c = i.toNat then A else A.map (·.add (i.toNat * t.size))) (j.toNat - i.toNat) (c - i.toNat)) ρ).Ow (G.V m) ⟨.sl t, xs⟩ :=
    hO.frz (fun b hb => ⟨rfl, by simp [Fw.stepG, hb, ren]⟩) (fun b hb => ⟨rfl, hOw b hb⟩)
  have key := stepA (us := us) (vals := fun _ => .slice (if c = i.toNat then A else A.map (·.add (i.toNat * t.size))) (j.toNat - i.toNat) (c - i.toNat)) (ρ := ρ)
    (v := .slice (if c = i.toNat then A else A.map (·.add (i.toNat * t.size))) (j.toNat - i.toNat) (c - i.toNat)) p.R p.T hok p.gd (by simp) rfl rfl ?_ ?_ ?_ ?_
  · refine outc_val hd ?_ ⟨_, key.1, key.2, Fr.stepG hd2⟩
    simp only [execOp, ho, ev, hv, hmx, Sem.run_bind, Option.map_none, slice_run hT b1 b2 h0 h1 h2 hc, Result.andThen_ok, Sem.run_pure]
  · intro l hl
    apply upds_not
    rw [← hus2]
    simp only [List.map_cons, List.map_nil, List.mem_singleton]
    rintro rfl
    rw [hlch] at hl
    cases hl
  · intro m1 o' hr
    have : m1 = m := by
      apply Classical.byContradiction
      intro hn
      have : ρ m1 = none := if_neg hn
      rw [this] at hr
      cases hr
    rw [this]
    exact isDom_of_soft hso hsin
  · intro j' t' ht'
    cases j' with
    | succ j' => simp at ht'
    | zero =>
      simp only [List.getElem?_cons_zero, Option.some.injEq] at ht'
      subst ht'
      have hSd : upds S us (lc d 0) = ⟨.sl t, (xs.take j.toNat).drop i.toNat⟩ := by
        rw [← hus2]
        exact upds_mem (by simp) (by simp)
      show Rep _ _ _ _
      rw [hSd]
      have hVd : (stepG G d (hardT d (.one .leaf) gd [.val] ++ [.soft m .val]) (fun _ => .slice (if c = i.toNat then A else A.map (·.add (i.toNat * t.size))) (j.toNat - i.toNat) (c - i.toNat)) ρ).V (lc d 0) = .slice (if c = i.toNat then A else A.map (·.add (i.toNat * t.size))) (j.toNat - i.toNat) (c - i.toNat) := by
        simp only [Fw.stepG]
        rw [if_pos ⟨hlch, by simp only [lc]; omega⟩]
      rw [hVd]
      rw [hv] at hrep0
      exact rep_sl.2 (slv_sub (rep_sl.1 hrep0) h0 h1 h2 rfl)
  · intro l t' h _
    simp only [List.mem_singleton, Wr1.soft.injEq] at h
    obtain ⟨rfl, rfl⟩ := h
    show Rep _ _ _ _
    rw [stepG_V hms.1]
    have : upds S us l = S l := by
      apply upds_not
      rw [← hus2]
      simpa using hne
    rw [this, hS]
    exact hrep0
end Go.Proofs.Fw
set_option linter.unusedVariables false
set_option linter.unusedSimpArgs false
namespace Go.Proofs.Fw
variable {P : Program} {Γ : SEnv} {S : PSt} {G : Gh} {w : World} {N : Nat} {a : Act} {gd : Option (Nat × Bool)} {gs : List (Nat × Bool)} {o : Oper} {bs : List (Nat × Nat)} {d : Nat} {sem : CSem} {us : List (Nat × Univ)} {Np : Nat}
theorem fold_set (off : Nat) : ∀ (vs : List Value) (k : Nat) (cells : Array Value), off + k + vs.length ≤ cells.size →
    ((vs.zipIdx k).foldl (fun cs x => cs.setIfInBounds (off + x.2) x.1) cells).size = cells.size ∧
    ∀ q, ((vs.zipIdx k).foldl (fun cs x => cs.setIfInBounds (off + x.2) x.1) cells)[q]? = if off + k ≤ q ∧ q < off + k + vs.length then vs[q - off - k]? else cells[q]?
  | [], k, cells, h => ⟨rfl, fun q => by rw [if_neg (by simp only [List.length_nil]; omega)]; rfl⟩
  | v :: r, k, cells, h => by
    simp only [List.length_cons] at h
    obtain ⟨h1, h2⟩ := fold_set off r (k + 1) (cells.setIfInBounds (off + k) v) (by simp; omega)
    simp only [List.zipIdx_cons, List.foldl_cons]
    refine ⟨by rw [h1]; simp, fun q => ?_⟩
    rw [h2]
    by_cases hq : off + (k + 1) ≤ q ∧ q < off + (k + 1) + r.length
    · rw [if_pos hq, if_pos (by simp only [List.length_cons]; omega)]
      rw [show q - off - k = (q - off - (k + 1)) + 1 by omega, List.getElem?_cons_succ]
    · rw [if_neg hq, Array.getElem?_setIfInBounds]
      by_cases hk : off + k = q
      · rw [if_pos hk, if_pos (by omega), if_pos (by simp only [List.length_cons]; omega), show q - off - k = 0 by omega]
        rfl
      · rw [if_neg hk, if_neg (by simp only [List.length_cons]; omega)]
theorem fill_cons {place : Nat → Option (Nat × Nat)} {cells : Array Value} {i : Nat} {v : Value} {rest : List (Nat × Value)} {off size : Nat} (hp : place i = some (off, size)) (hs : v.cells.size = size) (ho : off + size ≤ cells.size) :
    ∃ cells', Instr.fill place cells ((i, v) :: rest) = Instr.fill place cells' rest ∧ cells'.size = cells.size ∧ ∀ q : Nat, cells'[q]? = if off ≤ q ∧ q < off + size then v.cells[q - off]? else cells[q]? := by
  have h := fold_set off v.cells.toList 0 cells (by simp [hs]; omega)
  refine ⟨_, ?_, h.1, fun q => ?_⟩
  · simp only [Instr.fill, hp]
    rw [if_neg (by simp [hs]; omega)]
    congr 1
    rw [← Array.foldl_toList, Array.toList_zipIdx]
  · rw [h.2]
    simp only [Nat.add_zero, Nat.sub_zero, Array.length_toList, hs, Array.getElem?_toList]
theorem lsplice_get : ∀ (l : List LS) (n : Nat) (us : List LS) (j : Nat), n + us.length ≤ l.length → (lsplice l n us)[j]? = if n ≤ j ∧ j < n + us.length then us[j - n]? else l[j]?
  | l, 0, us, j, h => by
    have e : lsplice l 0 us = us ++ l.drop us.length := by cases l <;> rfl
    rw [e, List.getElem?_append]
    by_cases hj : j < us.length
    · rw [if_pos hj, if_pos (by omega)]; rfl
    · rw [if_neg hj, if_neg (by omega), List.getElem?_drop]; congr 1; omega
  | [], n + 1, us, j, h => by simp at h
  | x :: r, n + 1, us, 0, h => by
    rw [if_neg (by omega)]; rfl
  | x :: r, n + 1, us, j + 1, h => by
    have := lsplice_get r n us j (by simp at h; omega)
    show (lsplice r n us)[j]? = _
    rw [this]
    by_cases hj : n ≤ j ∧ j < n + us.length
    · rw [if_pos hj, if_pos (by omega)]; congr 1; omega
    · rw [if_neg hj, if_neg (by omega)]; rfl
theorem lsplice_ok {l : List LS} {n : Nat} {us : List LS} (h : n + us.length ≤ l.length) (h1 : ∀ y ∈ l, lsOk y) (h2 : ∀ y ∈ us, lsOk y) : ∀ y ∈ lsplice l n us, lsOk y := by
  intro y hy
  obtain ⟨j, hj⟩ := List.getElem?_of_mem hy
  rw [lsplice_get _ _ _ _ h] at hj
  split at hj
  · exact h2 y (List.mem_of_getElem? hj)
  · exact h1 y (List.mem_of_getElem? hj)
theorem seen_one (R : HRel Γ S G w) (hg : GHs gs S) {ls zs : List LS} (h : (mapRd (seenLeaf gs) ls).run Γ = some zs) (hls : ∀ y ∈ ls, lsOk y) : ∀ y ∈ ls, (lsV G y).oneCell' = true := by
  intro y hy
  obtain ⟨j, hj⟩ := List.getElem?_of_mem hy
  obtain ⟨z, _, hr⟩ := (mapRd_run h).2 j y hj
  obtain ⟨src, h1, _⟩ := Rd.run_bind hr
  exact (rdLeaf_ok R hg (hls y hy) h1).one
theorem places_ok : ∀ (fs : List Field), (fs.all fun f => (sizeT P f.type).isSome) = true → ∃ places, fs.mapM (fun f => (P.info? f.type).map fun i => (f.offset, i.size)) = some places ∧
    ∀ (i : Nat) (f : Field) (n : Nat), fs[i]? = some f → sizeT P f.type = some n → places[i]? = some (f.offset, n)
  | [], _ => ⟨[], by simp, by intro i f n h; simp at h⟩
  | f :: r, h => by
    simp only [List.all_cons, Bool.and_eq_true] at h
    obtain ⟨pl, h1, h2⟩ := places_ok r h.2
    obtain ⟨n, hn⟩ := Option.isSome_iff_exists.1 h.1
    have hn2 := hn
    unfold sizeT at hn
    cases hi : P.info? f.type with
    | none => rw [hi] at hn; cases hn
    | some ti =>
      rw [hi] at hn
      simp only [Option.map_some, Option.some.injEq] at hn
      refine ⟨(f.offset, ti.size) :: pl, by simp [hi, h1], ?_⟩
      intro i f' n' hf hs
      cases i with
      | zero =>
        simp only [List.getElem?_cons_zero, Option.some.injEq] at hf
        subst hf
        rw [hn2] at hs
        injection hs with hs
        rw [← hs, ← hn]
        rfl
      | succ i => exact h2 i f' n' (by simpa using hf) hs
theorem fill_parts (p : Pre Γ S G w N a gd gs) {T : TypeId} {fs : Array Field} (hu : P.underlying T = some (.struct fs)) {places : List (Nat × Nat)} (hpl : ∀ (i : Nat) (f : Field) (n : Nat), fs.toList[i]? = some f → sizeT P f.type = some n → places[i]? = some (f.offset, n)) :
    ∀ (parts : List (Nat × Operand)) (acc ls : List LS) (cells : Array Value), (buildParts P gs T parts acc).run Γ = some ls → cells.toList = acc.map (lsV G) → (∀ y ∈ acc, lsOk y) →
      (∃ cells', Instr.fill (places.toArray[·]?) cells (parts.map fun x => (x.1, a.eval x.2)) = some cells' ∧ cells'.toList = ls.map (lsV G)) ∧ (∀ y ∈ ls, lsOk y)
  | [], acc, ls, cells, h, hc, hok => by
    simp only [buildParts, Rd.run, Option.some.injEq] at h
    subst h
    exact ⟨⟨cells, rfl, hc⟩, hok⟩
  | (i, x) :: r, acc, ls, cells, h, hc, hok => by
    simp only [buildParts] at h
    obtain ⟨⟨fd, n⟩, h1, h⟩ := Rd.run_bind h
    obtain ⟨⟨s, xs⟩, h2, h⟩ := Rd.run_bind h
    obtain ⟨_, h3, h⟩ := Rd.run_bind h
    obtain ⟨zs, h4, h⟩ := Rd.run_bind h
    have h1 := Rd.run_opt h1
    have h3 := Rd.run_must h3
    simp only [Bool.and_eq_true, decide_eq_true_eq] at h3
    obtain ⟨e, hlen, hls⟩ := opLeaves_ok p.T p.gs h2
    have hone := seen_one p.R p.gs h4 hls
    obtain ⟨fs', hu', hf, hsz, _⟩ := field_ok h1
    rw [hu] at hu'
    injection hu' with hu'
    injection hu' with hu'
    subst hu'
    have hvc : (a.eval x).cells = (xs.map (lsV G)).toArray := by rw [e]; exact asm1_cells hlen hone
    have hcs : cells.size = acc.length := by rw [← Array.length_toList, hc, List.length_map]
    obtain ⟨cells', g1, g2, g3⟩ := fill_cons (place := (places.toArray[·]?)) (cells := cells) (i := i) (v := a.eval x) (rest := r.map fun x => (x.1, a.eval x.2)) (off := fd.offset) (size := n)
      (by rw [List.getElem?_toArray]; exact hpl i fd n (by rw [Array.getElem?_toList]; exact hf) hsz) (by rw [hvc]; simp [h3.1]) (by omega)
    have hle : fd.offset + xs.length ≤ acc.length := by omega
    have ih := fill_parts p hu hpl r (lsplice acc fd.offset xs) ls cells' h (by
      apply List.ext_getElem?
      intro q
      rw [Array.getElem?_toList, g3, List.getElem?_map, lsplice_get _ _ _ _ hle, h3.1]
      split
      · rw [hvc]; simp
      · rw [← Array.getElem?_toList, hc, List.getElem?_map]) (lsplice_ok hle hok hls)
    obtain ⟨⟨c2, g4, g5⟩, g6⟩ := ih
    exact ⟨⟨c2, by rw [List.map_cons, g1]; exact g4, g5⟩, g6⟩
theorem op_build (p : Pre Γ S G w N a gd gs) (hd : o.dst = some d) {T : TypeId} {parts : Array (Nat × Operand)} (ho : o.op = .build T parts) {z ls : List LS} {ys : List (LTag × Option Src)}
    (hz : zeroLS P T = some z) (hf : fieldsOk P T = true) (hl : (buildParts P gs T parts.toList z).run Γ = some ls) (hm : (mapRd (cpLeaf gs) ls).run Γ = some ys)
    (hok : effOk N gd (some d) ⟨.cp (cpT d 0 (ys.map fun y => y.2)), hardT d (.one (.agg ls.length)) gd (ys.map fun y => y.1)⟩ = true)
    (hus : (POp.cp (cpT d 0 (ys.map fun y => y.2))).eval sem S = some us) :
    Outc P o a w bs (app (hardT d (.one (.agg ls.length)) gd (ys.map fun y => y.1)) Γ) (upds S us) N G := by
  injection hus with hus
  subst hus
  unfold fieldsOk at hf
  split at hf
  case h_2 => cases hf
  rename_i fs hu
  obtain ⟨hzok, it, zv, hit, hzz, hzc, _⟩ := zeroLS_ok (G := G) hz
  obtain ⟨places, hp1, hp2⟩ := places_ok fs.toList hf
  obtain ⟨⟨cells, hfill, hcells⟩, hls⟩ := fill_parts p hu hp2 parts.toList z ls zv.cells hl hzc.symm hzok
  refine outc_val hd (v := .agg cells) ?_ (cp_step bs p.R p.T p.gs hm hls hok p.gd (by simp [Shape.size, Sh1.size]) ?_)
  · have hb : P.built T (parts.map fun x => (x.1, a.eval x.2)).toList = some cells := by
      unfold Program.built
      simp only [hit, hu, hzz, hp1]
      rw [Array.toList_map]
      exact hfill
    have := run_build (P := P) w T _ _ hb
    simp only [execOp, ho, Sem.run_bind, this, Result.andThen_ok, Sem.run_pure]
  · simp only [asm, asm1]
    congr 1
    apply Array.toList_inj.1
    rw [hcells]
    apply List.ext_getElem
    · simp
    · intro j h1 h2
      have hj : j < ls.length := by simpa using h1
      simp [hj]
theorem fill_rows (p : Pre Γ S G w N a gd gs) {e : TypeId} {n : Nat} :
    ∀ (parts : List (Nat × Operand)) (acc rows : List (List LS)) (cells : Array Value), (sliceParts P gs e n parts acc).run Γ = some rows → (∀ r ∈ acc, r.length = n) → cells.size = acc.length * n →
      (∀ i j, i < acc.length → j < n → cells[i * n + j]? = (acc[i]?.bind fun r => r[j]?).map (lsV G)) → (∀ r ∈ acc, ∀ y ∈ r, lsOk y) →
      ∃ cells', Instr.fill (fun i => some (i * n, n)) cells (parts.map fun x => (x.1, a.eval x.2)) = some cells' ∧ rows.length = acc.length ∧ (∀ r ∈ rows, r.length = n) ∧ cells'.size = rows.length * n ∧
        (∀ i j, i < rows.length → j < n → cells'[i * n + j]? = (rows[i]?.bind fun r => r[j]?).map (lsV G)) ∧ ∀ r ∈ rows, ∀ y ∈ r, lsOk y
  | [], acc, rows, cells, h, h1, h2, h3, h4 => by
    simp only [sliceParts, Rd.run, Option.some.injEq] at h
    subst h
    exact ⟨cells, rfl, rfl, h1, h2, h3, h4⟩
  | (i, x) :: r, acc, rows, cells, h, h1, h2, h3, h4 => by
    simp only [sliceParts] at h
    obtain ⟨⟨s, xs⟩, g2, h⟩ := Rd.run_bind h
    obtain ⟨_, g3, h⟩ := Rd.run_bind h
    obtain ⟨zs, g4, h⟩ := Rd.run_bind h
    have g3 := Rd.run_must g3
    simp only [Bool.and_eq_true, decide_eq_true_eq] at g3
    obtain ⟨ev, hlen, hls⟩ := opLeaves_ok p.T p.gs g2
    have hone := seen_one p.R p.gs g4 hls
    have hvc : (a.eval x).cells = (xs.map (lsV G)).toArray := by rw [ev]; exact asm1_cells hlen hone
    have hin : i * n + n ≤ acc.length * n := by
      have := Nat.mul_le_mul_right n g3.2
      rw [Nat.succ_mul] at this
      exact this
    obtain ⟨cells', f1, f2, f3⟩ := fill_cons (place := fun i => some (i * n, n)) (cells := cells) (i := i) (v := a.eval x) (rest := r.map fun x => (x.1, a.eval x.2)) (off := i * n) (size := n) rfl (by rw [hvc]; simp [g3.1]) (by omega)
    have ih := fill_rows p r (acc.set i xs) rows cells' h (by
      intro r' hr'
      rcases List.mem_or_eq_of_mem_set hr' with hr' | rfl
      · exact h1 r' hr'
      · exact g3.1) (by rw [f2, h2, List.length_set]) (by
      intro i' j hi' hj
      rw [List.length_set] at hi'
      rw [f3]
      by_cases hii : i' = i
      · subst hii
        rw [if_pos (by omega), List.getElem?_set_self hi', hvc]
        rw [show i' * n + j - i' * n = j by omega]
        simp
      · rw [if_neg, List.getElem?_set_ne (Ne.symm hii)]
        · exact h3 i' j hi' hj
        · intro hc
          exact hii (row_place hj (off := 0) (n := n) (by omega) (by omega) (by omega)).1) (by
      intro r' hr'
      rcases List.mem_or_eq_of_mem_set hr' with hr' | rfl
      · exact h4 r' hr'
      · exact hls)
    obtain ⟨c2, k1, k2, k3⟩ := ih
    exact ⟨c2, by rw [List.map_cons, f1]; exact k1, by rw [k2, List.length_set], k3⟩
theorem mkRows_some {t : Ty} {R : Type} : ∀ {l : List (List Univ)} {k : List t.T → Option R} {r : R}, mkRows t l k = some r → ∃ xs : List t.T, k xs = some r ∧ xs.length = l.length ∧ ∀ (i : Nat) (x : t.T), xs[i]? = some x → l[i]? = some (leaves t x)
  | [], k, r, h => ⟨[], h, rfl, by intro i x h; simp at h⟩
  | u :: rs, k, r, h => by
    obtain ⟨x, h1, h2⟩ := bnd_some (show bnd _ _ = some r from h)
    obtain ⟨xs, h3, h4, h5⟩ := mkRows_some h2
    refine ⟨x :: xs, h3, by simp [h4], ?_⟩
    intro i y hy
    cases i with
    | zero =>
      simp only [List.getElem?_cons_zero, Option.some.injEq] at hy
      subst hy
      simp [leaves_mk? h1]
    | succ i => exact h5 i y (by simpa using hy)
theorem op_buildSlice (p : Pre Γ S G w N a gd gs) (hb : BsOk Np bs Γ) (hd : o.dst = some d) {T e : TypeId} {t : Ty} {len : Nat} {parts : Array (Nat × Operand)} (ho : o.op = .buildSlice T len parts) {z : List LS} {rows : List (List LS)} {ys : List (List (Src × List Wr1))}
    (hT : elTy P T = some (e, t)) (hz : zeroLS P e = some z) (hzl : z.length = t.size) (hsmall : len * t.size ≤ 16777216)
    (hl : (sliceParts P gs e t.size parts.toList (List.replicate len z)).run Γ = some rows) (hm : (mapRd (mapRd (fzLeaf gs)) rows).run Γ = some ys) {ws : List Wr1}
    (hws : ws = hardT d (.one .leaf) gd [.own] ++ ys.flatMap fun r => r.flatMap fun y => y.2)
    (hok : effOk N gd (some d) ⟨.mkSl (lc d 0) t (ys.map fun r => r.map fun y => y.1), ws⟩ = true) (hso : softsOk ws = true) (hvo : varsOk Np ws = true)
    (hus : (POp.mkSl (lc d 0) t (ys.map fun r => r.map fun y => y.1)).eval sem S = some us) : Outc P o a w bs (app ws Γ) (upds S us) N G := by
  obtain ⟨xs, hk, hxl, hxr⟩ := mkRows_some (show mkRows t _ _ = some us from hus)
  have hk := Option.some.inj hk
  obtain ⟨hu, hsz⟩ := elTy_ok hT
  obtain ⟨hzok, ie, zv, hie, hzz, hzc, hzs⟩ := zeroLS_ok (G := G) hz
  have hsi : ie.size = t.size := by
    unfold sizeT at hsz
    rw [hie] at hsz
    simpa using hsz
  have hzcs : zv.cells.size = t.size := by rw [← Array.length_toList, ← hzc, List.length_map, hzl]
  obtain ⟨hrl, hrr⟩ := mapRd_run hm
  generalize hz0 : (if len * t.size = 0 then #[] else zv.cells) = z0
  generalize hc0 : (Array.range (len * t.size)).map (z0[· % z0.size]!) = c0
  have hc0s : c0.size = len * t.size := by rw [← hc0]; simp
  have hc0g : ∀ i j, i < len → j < t.size → c0[i * t.size + j]? = some (zv.cells[j]!) := by
    intro i j hi hj
    have hlt := row_in hi (Nat.le_refl len) hj
    have hne : ¬ len * t.size = 0 := by omega
    rw [if_neg hne] at hz0
    subst hz0
    rw [← hc0]
    rw [Array.getElem?_map, Array.getElem?_range, if_pos hlt, hzcs]
    simp only [Option.map_some]
    congr 2
    rw [Nat.mul_comm, Nat.mul_add_mod, Nat.mod_eq_of_lt hj]
  obtain ⟨cells, hfill, hrlen, hrn, hcs, hcg, hrok⟩ := fill_rows (e := e) p parts.toList (List.replicate len z) rows c0 hl (by intro r hr; rw [List.eq_of_mem_replicate hr]; exact hzl) (by rw [hc0s, List.length_replicate]) (by
    intro i j hi hj
    rw [List.length_replicate] at hi
    rw [hc0g i j hi hj, List.getElem?_replicate, if_pos hi, Option.bind_some]
    rw [← List.getElem?_map, hzc, Array.getElem?_toList, Array.getElem?_eq_getElem (by omega), getElem!_pos zv.cells j (by omega)]) (by
    intro r hr
    rw [List.eq_of_mem_replicate hr]
    exact hzok)
  have hlx : xs.length = len := by rw [hxl]; simp [hrl, hrlen]
  have hyl : ys.length = len := by rw [hrl, hrlen]; simp
  have hrow : ∀ i, i < len → ∃ r yr, rows[i]? = some r ∧ ys[i]? = some yr ∧ r.length = t.size ∧ (mapRd (fzLeaf gs) r).run Γ = some yr := by
    intro i hi
    have hi2 : i < rows.length := by rw [hrlen]; simpa using hi
    obtain ⟨yr, h1, h2⟩ := hrr i _ (List.getElem?_eq_getElem hi2)
    exact ⟨_, yr, List.getElem?_eq_getElem hi2, h1, hrn _ (List.getElem_mem hi2), h2⟩
  have hrun : (execOp a.eval o).run P w = .ok (.value (.slice (some ⟨w.heap.size, 0, none⟩) xs.length len)) (w.alloc (.cells cells e)) := by
    rw [hlx]
    have h2 : ¬ len * t.size > 2 ^ 24 := by simp; omega
    have hfill2 : Instr.fill (fun i => some (i * t.size, t.size)) ((Array.range (len * t.size)).map (z0[· % z0.size]!)) (parts.map fun x => (x.1, a.eval x.2)).toList = some cells := by
      rw [hc0, Array.toList_map]; exact hfill
    by_cases hp : len * t.size = 0
    · rw [if_pos hp] at hz0
      subst hz0
      simp only [execOp, ho, Instr.buildSlice, Sem.run_bind, run_underlying hu, Result.andThen_ok, sizeOf, typeInfo]
      simp only [run_program, hie, Sem.run_bind, Result.andThen_ok, Sem.run_pure, hsi, hp, if_true]
      rw [hp] at hfill2
      rw [if_neg (by decide)]
      simp only [Sem.run_bind, Sem.run_pure, Result.andThen_ok, hfill2]
      simp [newRow]
    · rw [if_neg hp] at hz0
      subst hz0
      have := run_buildSlice (P := P) w T e len (parts.map fun x => (x.1, a.eval x.2)) cells ie zv hu hie hzz (by rw [hsi]; exact h2) (by rw [hsi]; exact hp) (by rw [hsi]; exact hfill2)
      simp only [execOp, ho, Sem.run_bind, this, Result.andThen_ok, Sem.run_pure]
  refine op_newslice (t := t) (xs := xs) (tag := .own) (c := len) p hb hd (.inl rfl) hrun (fun b hb => alloc_heap w _ b hb) (World.size_alloc _ _) rfl rfl rfl (by omega)
    ?_ (fun i j => ((rows[i]?.bind fun r => r[j]?).map (lsV G)).getD undef) ?_ (sf := ys.flatMap fun r => r.flatMap fun y => y.2) ?_ hws ?_ hok hso hvo hk.symm
  · intro _ k hk
    rw [World.cell?_alloc_new, World.frozen?_alloc_new]
    refine ⟨?_, rfl⟩
    have : k < cells.size := by rw [hcs, hrlen]; simpa using hk
    rw [Array.getElem?_eq_getElem this]
    rfl
  · intro i j hi hj
    rw [hlx] at hi
    obtain ⟨r, yr, h1, h2, h3, h4⟩ := hrow i hi
    rw [World.cell?_alloc_new, hcg i j (by rw [hrlen]; simpa using hi) hj, h1]
    simp [List.getElem?_eq_getElem (show j < r.length by omega)]
  · intro i j x u hx hu
    have hi : i < len := by rw [← hlx]; exact (List.getElem?_eq_some_iff.1 hx).1
    obtain ⟨r, yr, h1, h2, h3, h4⟩ := hrow i hi
    have h5 := hxr i x hx
    simp only [List.getElem?_map, h2, Option.map_some, Option.some.injEq] at h5
    rw [← h5] at hu
    simp only [List.map_map, List.getElem?_map, Option.map_eq_some_iff, Function.comp] at hu
    obtain ⟨y, hy, rfl⟩ := hu
    obtain ⟨k1, k2, _⟩ := fz_all p.R p.gs h4 (hrok r (List.mem_of_getElem? h1))
    have hj : j < r.length := by rw [← k1]; exact (List.getElem?_eq_some_iff.1 hy).1
    have := k2 j _ y (List.getElem?_eq_getElem hj) hy
    simp only [h1, Option.bind_some, List.getElem?_eq_getElem hj, Option.map_some, Option.getD_some]
    refine this.mono fun q hq => ?_
    rw [hws]
    exact List.mem_append_right _ (List.mem_flatMap.2 ⟨yr, List.mem_of_getElem? h2, hq⟩)
  · intro q hq
    obtain ⟨yr, hyr, hq⟩ := List.mem_flatMap.1 hq
    obtain ⟨i, hi⟩ := List.getElem?_of_mem hyr
    obtain ⟨r, yr', h1, h2, h3, h4⟩ := hrow i (by rw [← hyl]; exact (List.getElem?_eq_some_iff.1 hi).1)
    rw [hi] at h2
    injection h2 with h2
    subst h2
    obtain ⟨_, _, k3⟩ := fz_all p.R p.gs h4 (hrok r (List.mem_of_getElem? h1))
    obtain ⟨m, k4, k5⟩ := k3 q hq
    exact ⟨m, .inl ⟨k4, k5⟩⟩
end Go.Proofs.Fw
set_option linter.unusedVariables false
set_option linter.unusedSimpArgs false
namespace Go.Proofs.Fw
variable {P : Program} {Γ : SEnv} {S : PSt} {G : Gh} {w : World} {N : Nat} {a : Act} {gd : Option (Nat × Bool)} {gs : List (Nat × Bool)} {o : Oper} {bs : List (Nat × Nat)} {d : Nat} {sem : CSem} {us : List (Nat × Univ)} {Np : Nat}
theorem part_run {T : TypeId} {s : Sh1} {cs : Array Value} {off : Nat} {f : Nat → Value} (h : sh1Of P T = some s) (hpos : s.size ≠ 0) (hc : ∀ j, j < s.size → cs[off + j]? = some (f j)) : (part T cs off).run P w = .ok (asm1 s f) w := by
  obtain ⟨h1, h2⟩ := sh1Of_run (w := w) h
  unfold part
  cases s with
  | leaf =>
    have := hc 0 (by simp [Sh1.size])
    simp only [Nat.add_zero] at this
    simp only [Sem.run_bind, h1, Result.andThen_ok, this]
    simp [asm1]
  | agg n =>
    simp only [Sh1.size] at h2 hc hpos
    simp only [Sem.run_bind, h1, Result.andThen_ok, if_true, sizeT_run h2, Sem.run_pure, asm1]
    congr 2
    have hle : off + n ≤ cs.size := by
      have := hc (n - 1) (by omega)
      have := (Array.getElem?_eq_some_iff.1 this).1
      omega
    apply Array.toList_inj.1
    apply List.ext_getElem
    · simp
      omega
    · intro j g1 g2
      have hj : j < n := by simpa using g2
      have := hc j hj
      simp only [Array.getElem_toList, Array.getElem_extract, List.getElem_map, List.getElem_range]
      have h3 := (Array.getElem?_eq_some_iff.1 this).2
      exact h3
theorem agg_get {ls : List LS} {q : Nat} (h : q < ls.length) : (((List.range ls.length).map fun j => ((ls[j]?).map (lsV G)).getD undef).toArray)[q]? = some (lsV G ls[q]) := by
  simp [h]
theorem op_field (p : Pre Γ S G w N a gd gs) (hd : o.dst = some d) {T : TypeId} {x : Operand} {f : Nat} (ho : o.op = .field T x f) {fd : Field} {n : Nat} (hf : field P T f = some (fd, n)) {ls : List LS} {s' : Sh1} {ys : List (LTag × Option Src)} {T1 : TypeId}
    (hx : (opLeaves P gs T1 x).run Γ = some (.agg ls.length, ls)) (hs : sh1Of P fd.type = some s') (hn : fd.offset + n ≤ ls.length) (hsn : s'.size = n) (hm : (mapRd (cpLeaf gs) ((ls.drop fd.offset).take n)).run Γ = some ys)
    (hok : effOk N gd (some d) ⟨.cp (cpT d 0 (ys.map fun y => y.2)), hardT d (.one s') gd (ys.map fun y => y.1)⟩ = true) (hus : (POp.cp (cpT d 0 (ys.map fun y => y.2))).eval sem S = some us) :
    Outc P o a w bs (app (hardT d (.one s') gd (ys.map fun y => y.1)) Γ) (upds S us) N G := by
  injection hus with hus
  subst hus
  obtain ⟨e, hlen, hls⟩ := opLeaves_ok p.T p.gs hx
  obtain ⟨fs, h1, h2, h3, h4⟩ := field_ok hf
  refine outc_val hd (v := asm1 s' fun j => ((ls[fd.offset + j]?).map (lsV G)).getD undef) ?_ (cp_step bs p.R p.T p.gs hm ?_ hok p.gd ?_ ?_)
  · have hp := part_run (P := P) (w := w) (cs := ((List.range ls.length).map fun j => ((ls[j]?).map (lsV G)).getD undef).toArray) (off := fd.offset) (f := fun j => ((ls[fd.offset + j]?).map (lsV G)).getD undef) hs (by omega) (by
      intro j hj
      have hq : fd.offset + j < ls.length := by omega
      rw [agg_get hq, List.getElem?_eq_getElem hq]
      rfl)
    simp only [execOp, ho, e, asm1, Instr.field, Sem.run_bind, underlying_run h1, Result.andThen_ok, h2, asAgg, Sem.run_pure, hp]
  · intro y hy
    exact hls y (List.mem_of_mem_drop (List.mem_of_mem_take hy))
  · simp [Shape.size, hsn]; omega
  · refine asm_congr (s := .one s') fun j hj => ?_
    have hj : j < n := by rw [← hsn]; exact hj
    rw [List.getElem?_take, if_pos hj, List.getElem?_drop]
theorem eqT_run {T : TypeId} {t : Ty} (hT : scalarTy P T = some t) {va vb : Value} {ua ub : Univ} {Ow : Nat → Owner} (ha : AnyV w Ow va ua) (hb : AnyV w Ow vb ub) {R : Type} {f : Bool → Option R} {r : R} (h : eqT t ua ub f = some r) (n : Nat) :
    ∃ b, f b = some r ∧ (Op.equalIn (n + 1) T va vb).run P w = .ok b w ∧ sh1Of P T = sh1Of P T := by
  unfold scalarTy at hT
  split at hT
  · rename_i k hu
    injection hT with hT
    subst hT
    obtain ⟨x, e1, h⟩ := bnd_some (show bnd _ _ = some r from h)
    obtain ⟨y, e2, h⟩ := bnd_some h
    rw [Univ.cast_some e1] at ha
    rw [Univ.cast_some e2] at hb
    rw [any_int ha, any_int hb]
    refine ⟨_, h, ?_, rfl⟩
    rw [run_equalIn_int w n T k k x y hu]
    congr 1
  · rename_i hu
    injection hT with hT
    subst hT
    obtain ⟨x, e1, h⟩ := bnd_some (show bnd _ _ = some r from h)
    obtain ⟨y, e2, h⟩ := bnd_some h
    rw [Univ.cast_some e1] at ha
    rw [Univ.cast_some e2] at hb
    rw [any_bool ha, any_bool hb]
    exact ⟨_, h, run_equalIn_bool' w n T x y hu, rfl⟩
  · rename_i hu
    injection hT with hT
    subst hT
    obtain ⟨x, e1, h⟩ := bnd_some (show bnd _ _ = some r from h)
    obtain ⟨y, e2, h⟩ := bnd_some h
    rw [Univ.cast_some e1] at ha
    rw [Univ.cast_some e2] at hb
    obtain ⟨sx, hx, hx2⟩ := any_str ha
    obtain ⟨sy, hy, hy2⟩ := any_str hb
    subst hx2 hy2
    rw [hx, hy]
    refine ⟨_, h, ?_, rfl⟩
    rw [run_equalIn_string w n T sx sy hu, bytes_eq]
  · cases hT
theorem scalar_part {T : TypeId} {t : Ty} (hT : scalarTy P T = some t) {cs : Array Value} {off : Nat} {v : Value} (h : cs[off]? = some v) : (part T cs off).run P w = .ok v w := by
  unfold scalarTy at hT
  split at hT
  · rename_i hu; simp [part, isAgg, run_underlying hu, h]
  · rename_i hu; simp [part, isAgg, run_underlying hu, h]
  · rename_i hu; simp [part, isAgg, run_underlying hu, h]
  · cases hT
theorem eqFields_run {n : Nat} {xs ys : Array Value} {Ow : Nat → Owner} {R : Type} :
    ∀ (fs : List Field) (k : Nat) (ts : List Ty) (as bs : List Univ) (f : Bool → Option R) (r : R), fs.map (fun f => f.offset) = List.range' k fs.length → (fs.all fun f => f.name != "_") = true → fs.mapM (fun f => scalarTy P f.type) = some ts →
      (∀ j u, as[j]? = some u → ∃ v, xs[k + j]? = some v ∧ AnyV w Ow v u) → (∀ j u, bs[j]? = some u → ∃ v, ys[k + j]? = some v ∧ AnyV w Ow v u) → eqLK ts as bs f = some r →
      ∃ b, f b = some r ∧ (Op.eqFields (n + 1) xs ys fs).run P w = .ok b w
  | [], k, ts, as, bs, f, r, h1, h2, h3, h4, h5, h => by
    simp at h3
    subst h3
    cases as with
    | nil => cases bs with
      | nil => exact ⟨true, h, by simp [Op.eqFields]⟩
      | cons _ _ => cases h
    | cons _ _ => cases h
  | fd :: fs, k, ts, as, bs, f, r, h1, h2, h3, h4, h5, h => by
    simp only [List.map_cons, List.length_cons, List.range'_succ, List.cons.injEq] at h1
    simp only [List.all_cons, Bool.and_eq_true] at h2
    simp only [List.mapM_cons, Option.bind_eq_bind, Option.pure_def, Option.bind_eq_some_iff, Option.some.injEq] at h3
    obtain ⟨t, ht, ts', hts, rfl⟩ := h3
    cases as with
    | nil => cases h
    | cons ua as => cases bs with
      | nil => cases h
      | cons ub bs =>
        obtain ⟨va, hva, ha⟩ := h4 0 ua rfl
        obtain ⟨vb, hvb, hb⟩ := h5 0 ub rfl
        obtain ⟨x, hx, hrun, _⟩ := eqT_run ht ha hb (show eqT t ua ub _ = some r from h) n
        have hname : fd.name ≠ "_" := by simpa using h2.1
        rw [Nat.add_zero, ← h1.1] at hva hvb
        obtain ⟨y, hy, hrest⟩ := eqFields_run (n := n) (xs := xs) (ys := ys) (Ow := Ow) fs (k + 1) ts' as bs (fun y => f (x && y)) r h1.2 h2.2 hts
          (fun j u hj => by have := h4 (j + 1) u (by simpa using hj); rwa [show k + 1 + j = k + (j + 1) by omega])
          (fun j u hj => by have := h5 (j + 1) u (by simpa using hj); rwa [show k + 1 + j = k + (j + 1) by omega]) hx
        refine ⟨x && y, hy, ?_⟩
        simp only [Op.eqFields, if_pos hname, Sem.run_bind, scalar_part ht hva, scalar_part ht hvb, Result.andThen_ok, hrun]
        cases x with
        | false => simp
        | true => simp [hrest]
theorem rdAll_ok (R : HRel Γ S G w) (hg : GHs gs S) {ls : List LS} {as : List Src} (h : (mapRd (rdLeaf gs) ls).run Γ = some as) (hls : ∀ y ∈ ls, lsOk y) :
    as.length = ls.length ∧ ∀ (j : Nat) (u : Univ), (as.map fun s => s.get S)[j]? = some u → ∃ x, ls[j]? = some x ∧ AnyV w G.Ow (lsV G x) u := by
  obtain ⟨h1, h2⟩ := mapRd_run h
  refine ⟨h1, ?_⟩
  intro j u hu
  simp only [List.getElem?_map, Option.map_eq_some_iff] at hu
  obtain ⟨s, hs, rfl⟩ := hu
  have hj : j < ls.length := by rw [← h1]; exact (List.getElem?_eq_some_iff.1 hs).1
  obtain ⟨s', hs', hr⟩ := h2 j _ (List.getElem?_eq_getElem hj)
  rw [hs] at hs'
  injection hs' with hs'
  subst hs'
  exact ⟨_, List.getElem?_eq_getElem hj, rdLeaf_ok R hg (hls _ (List.getElem_mem hj)) hr⟩
theorem op_eqL (p : Pre Γ S G w N a gd gs) (hd : o.dst = some d) {neg : Bool} {op : BinOp} (hop : op = if neg then .neq else .eql) {xT yT T1 T2 : TypeId} {x y : Operand} (ho : o.op = .binOp op xT x y yT) {tys : List Ty} (ht : eqTys P xT = some tys)
    {s : Sh1} {ls ls' : List LS} (hx : (opLeaves P gs T1 x).run Γ = some (s, ls)) (hy : (opLeaves P gs T2 y).run Γ = some (s, ls')) (hs : sh1Of P xT = some s) {as bs' : List Src}
    (ha : (mapRd (rdLeaf gs) ls).run Γ = some as) (hb : (mapRd (rdLeaf gs) ls').run Γ = some bs')
    (hok : effOk N gd (some d) ⟨.eqL (lc d 0) neg tys as bs', hardT d (.one .leaf) gd [.val]⟩ = true) (hus : (POp.eqL (lc d 0) neg tys as bs').eval sem S = some us) :
    Outc P o a w bs (app (hardT d (.one .leaf) gd [.val]) Γ) (upds S us) N G := by
  unfold eqTys at ht
  split at ht
  case h_2 => cases ht
  rename_i fs hu
  split at ht
  case h_2 => cases ht
  rename_i hchk
  simp only [Bool.and_eq_true, decide_eq_true_eq, Bool.not_eq_true'] at hchk
  obtain ⟨⟨⟨⟨hoff, hsh⟩, hst⟩, hgd⟩, hnames⟩ := hchk
  rw [hs] at hsh
  injection hsh with hsh
  subst hsh
  obtain ⟨ex, hlx, hokx⟩ := opLeaves_ok p.T p.gs hx
  obtain ⟨ey, hly, hoky⟩ := opLeaves_ok p.T p.gs hy
  simp only [Sh1.size] at hlx hly
  obtain ⟨k1, k2⟩ := rdAll_ok p.R p.gs ha hokx
  obtain ⟨k3, k4⟩ := rdAll_ok p.R p.gs hb hoky
  have hfo : P.fieldsOf xT = fs := by simp [Program.fieldsOf, hu]
  obtain ⟨b, hb1, hb2⟩ := eqFields_run (P := P) (w := w) (n := 9998) (Ow := G.Ow) (xs := ((List.range fs.size).map fun j => ((ls[j]?).map (lsV G)).getD undef).toArray) (ys := ((List.range fs.size).map fun j => ((ls'[j]?).map (lsV G)).getD undef).toArray)
    fs.toList 0 tys _ _ _ us (by rw [hoff, List.range_eq_range']; simp) hnames ht
    (fun j u hj => by
      obtain ⟨x', h1, h2⟩ := k2 j u hj
      have hjl := (List.getElem?_eq_some_iff.1 h1).1
      refine ⟨lsV G x', ?_, h2⟩
      rw [Nat.zero_add, ← hlx, agg_get hjl]
      rw [List.getElem?_eq_getElem hjl] at h1
      injection h1 with h1
      rw [h1])
    (fun j u hj => by
      obtain ⟨x', h1, h2⟩ := k4 j u hj
      have hjl := (List.getElem?_eq_some_iff.1 h1).1
      refine ⟨lsV G x', ?_, h2⟩
      rw [Nat.zero_add, ← hly, agg_get hjl]
      rw [List.getElem?_eq_getElem hjl] at h1
      injection h1 with h1
      rw [h1]) (show eqLK tys _ _ _ = some us from hus)
  have hb1 := Option.some.inj hb1
  have heq := run_equalIn_struct (P := P) w 9999 xT (((List.range fs.size).map fun j => ((ls[j]?).map (lsV G)).getD undef).toArray) (((List.range fs.size).map fun j => ((ls'[j]?).map (lsV G)).getD undef).toArray) (by rw [hfo]; exact hu) hst
  rw [hfo, hb2] at heq
  have hguard := run_eqGuard_agg (P := P) w op xT x y (((List.range fs.size).map fun j => ((ls[j]?).map (lsV G)).getD undef).toArray) (((List.range fs.size).map fun j => ((ls'[j]?).map (lsV G)).getD undef).toArray) hgd
  refine op_one p hd (v := .bool (neg ^^ b)) ?_ hok hb1.symm (.bool _)
  cases neg with
  | false =>
    simp only [Bool.false_eq_true, if_false] at hop
    subst hop
    simp only [execOp, ho, ex, ey, asm1, Sem.run_bind, hguard, Result.andThen_ok, run_eql_struct, heq, Sem.run_pure, Bool.false_xor]
  | true =>
    simp only [if_true] at hop
    subst hop
    simp only [execOp, ho, ex, ey, asm1, Sem.run_bind, hguard, Result.andThen_ok, run_neq_struct, heq, Sem.run_pure, Bool.true_xor]
end Go.Proofs.Fw
set_option linter.unusedVariables false
set_option linter.unusedSimpArgs false
namespace Go.Proofs.Fw
variable {P : Program} {Γ : SEnv} {S : PSt} {G : Gh} {w : World} {N : Nat} {a : Act} {gd : Option (Nat × Bool)} {gs : List (Nat × Bool)} {o : Oper} {bs : List (Nat × Nat)} {d : Nat} {sem : CSem} {us : List (Nat × Univ)} {Np : Nat}
theorem run_ret {α : Type} {Γ : SEnv} {x y : α} (h : (Rd.ret x).run Γ = some y) : x = y := Option.some.inj h
theorem sstep0_store (p : Pre Γ S G w N a gd gs) (hb : BsOk Np bs Γ) {x : Eff} (hd : o.dst = none) (h : (sstep0 P Np gd gs o).run Γ = some x) (hok : effOk N gd o.dst x = true) (hso : softsOk x.ws = true) (hvo : varsOk Np x.ws = true)
    (hus : x.pop.eval sem S = some us) : Outc P o a w bs (app x.ws Γ) (upds S us) N G := by
  unfold sstep0 at h
  rw [hd] at h hok
  simp only at h
  split at h
  case h_2 => cases h
  rename_i T ax y ho
  obtain ⟨_, h1, h⟩ := Rd.run_bind h
  have h1 := Rd.run_must h1
  obtain ⟨⟨pl, tag⟩, h2, h⟩ := Rd.run_bind h
  obtain ⟨⟨s, ls⟩, h3, h⟩ := Rd.run_bind h
  obtain ⟨_, h4, h⟩ := Rd.run_bind h
  have h4 := Rd.run_must h4
  simp only [Bool.and_eq_true, decide_eq_true_eq] at h4
  have hgd : gd = none := by cases gd with | none => rfl | some _ => cases h1
  rw [hgd] at p hok
  simp only at h
  split at h
  · rename_i b off
    simp only [Rd.run] at h
    split at h
    case h_2 => cases h
    rename_i n hbn
    obtain ⟨_, h5, h⟩ := Rd.run_bind h
    have h5 := Rd.run_must h5
    simp only [decide_eq_true_eq] at h5
    obtain ⟨ys, h6, h⟩ := Rd.run_bind h
    obtain ⟨_, h7, h⟩ := Rd.run_bind h
    have h7 := Rd.run_must h7
    simp only [Bool.and_eq_true] at h7
    have h := run_ret h
    subst h
    exact op_store_ptr p hb hd ho h4.1 h2 hbn h5 h3 h6 h7.2 rfl hok hso hvo hus
  · rename_i m off t
    obtain ⟨⟨m', tg⟩, h5, h⟩ := Rd.run_bind h
    obtain ⟨_, h6, h⟩ := Rd.run_bind h
    have h6 := Rd.run_must h6
    simp only [Bool.and_eq_true, decide_eq_true_eq] at h6
    obtain ⟨ys, h7, h⟩ := Rd.run_bind h
    obtain ⟨_, h8, h⟩ := Rd.run_bind h
    have h := run_ret h
    subst h
    obtain ⟨rfl, h9⟩ := h6
    exact op_store_ep p hb hd ho h4.1 h2 h5 h9 h3 h7 rfl hok hso hvo hus
  · cases h
theorem gd_none (h : gd.isNone = true) : gd = none := by cases gd with | none => rfl | some _ => cases h
theorem sstep0_call (p : Pre Γ S G w N a gd gs) (hb : BsOk Np bs Γ) {x : Eff} (hd : o.dst = some d) {c : Call} (ho : o.op = .call c) (h : (sstep0 P Np gd gs o).run Γ = some x) (hok : effOk N gd o.dst x = true) (hso : softsOk x.ws = true) (hvo : varsOk Np x.ws = true)
    (hus : x.pop.eval sem S = some us) : Outc P o a w bs (app x.ws Γ) (upds S us) N G := by
  unfold sstep0 at h
  rw [hd] at h hok
  simp only [ho] at h
  split at h
  · rename_i x1 T hc hx hT
    obtain ⟨_, h1, h⟩ := Rd.run_bind h
    have h1 := Rd.run_must h1
    obtain ⟨sa, h2, h⟩ := Rd.run_bind h
    have h := run_ret h
    subst h
    refine op_len p hd ho hc (Array.toList_inj.1 hx) (Array.toList_inj.1 hT) ?_ h2 hok hus
    split at h1
    · rename_i hu; exact .inl ⟨hu, by rw [hu]⟩
    · rename_i e hu; exact .inr ⟨e, hu, by rw [hu]⟩
    · cases h1
  · rename_i x1 x2 T T' hc hx hT
    obtain ⟨_, h1, h⟩ := Rd.run_bind h
    obtain ⟨sa, h2, h⟩ := Rd.run_bind h
    obtain ⟨sb, h3, h⟩ := Rd.run_bind h
    have h := run_ret h
    subst h
    exact op_mm (mn := true) p hd ho hc (Array.toList_inj.1 hx) (Array.toList_inj.1 hT) h2 h3 hok hus
  · rename_i x1 x2 T T' hc hx hT
    obtain ⟨_, h1, h⟩ := Rd.run_bind h
    obtain ⟨sa, h2, h⟩ := Rd.run_bind h
    obtain ⟨sb, h3, h⟩ := Rd.run_bind h
    have h := run_ret h
    subst h
    exact op_mm (mn := false) p hd ho hc (Array.toList_inj.1 hx) (Array.toList_inj.1 hT) h2 h3 hok hus
  · rename_i x1 x2 T T' hc hx hT
    obtain ⟨_, h0, h⟩ := Rd.run_bind h
    have h0 := gd_none (Rd.run_must h0)
    rw [h0] at p
    rw [h0] at h hok
    obtain ⟨⟨e, t⟩, h1, h⟩ := Rd.run_bind h
    have h1 := Rd.run_opt h1
    obtain ⟨_, h2, h⟩ := Rd.run_bind h
    have h2 := Rd.run_must h2
    simp only [Bool.and_eq_true] at h2
    obtain ⟨⟨s, ls⟩, h3, h⟩ := Rd.run_bind h
    simp only at h
    split at h
    case h_2 => cases h
    rename_i lx
    obtain ⟨⟨tag, src, sf⟩, h4, h⟩ := Rd.run_bind h
    simp only at h
    split at h
    case h_2 => cases h
    rename_i src
    split at h
    · rename_i hu
      obtain ⟨_, h5, h⟩ := Rd.run_bind h
      have h5 := Rd.run_must h5
      simp only [decide_eq_true_eq] at h5
      rw [h5] at h1 h2
      obtain ⟨sb, h6, h⟩ := Rd.run_bind h
      have h := run_ret h
      subst h
      exact op_appS (s := .leaf) p hb hd ho hc (Array.toList_inj.1 hx) (Array.toList_inj.1 hT) h1 hu h2.2 h2.1 h3 h4 h6 rfl hok hso hvo hus
    · rename_i e' hu
      obtain ⟨sb, h6, h⟩ := Rd.run_bind h
      have h := run_ret h
      subst h
      exact op_app (s := .leaf) p hb hd ho hc (Array.toList_inj.1 hx) (Array.toList_inj.1 hT) h1 hu h2.2 h2.1 h3 h4 h6 rfl hok hso hvo hus
    · cases h
  · cases h
theorem sstep0_ok (p : Pre Γ S G w N a gd gs) (hb : BsOk Np bs Γ) {x : Eff} (h : (sstep0 P Np gd gs o).run Γ = some x) (hok : effOk N gd o.dst x = true) (hso : softsOk x.ws = true) (hvo : varsOk Np x.ws = true)
    (hus : x.pop.eval sem S = some us) : Outc P o a w bs (app x.ws Γ) (upds S us) N G := by
  cases hd : o.dst with
  | none => exact sstep0_store p hb hd h hok hso hvo hus
  | some d =>
  by_cases hcall : ∃ c, o.op = .call c
  · obtain ⟨c, hc⟩ := hcall
    exact sstep0_call p hb hd hc h hok hso hvo hus
  unfold sstep0 at h
  rw [hd] at h hok
  simp only at h
  split at h
  · rename_i t ho
    simp only [Rd.run] at h
    split at h
    case h_2 => cases h
    rename_i s hk hs
    simp only [Bool.and_eq_true] at hk
    obtain ⟨ys, h1, h⟩ := Rd.run_bind h
    have h := run_ret h
    subst h
    exact op_move_tmp p hd ho (blt_lt hk.2) hs hk.1 h1 hok hus
  · rename_i x1 _ ho
    obtain ⟨⟨s, ls⟩, h1, h⟩ := Rd.run_bind h
    obtain ⟨ys, h2, h⟩ := Rd.run_bind h
    have h := run_ret h
    subst h
    exact op_move p hd ho h1 h2 hok hus
  · rename_i x1 ho
    obtain ⟨_, h0, h⟩ := Rd.run_bind h
    have h0 := gd_none (Rd.run_must h0)
    rw [h0] at p
    rw [h0] at h hok
    obtain ⟨⟨s, ls⟩, h1, h⟩ := Rd.run_bind h
    obtain ⟨ys, h2, h⟩ := Rd.run_bind h
    obtain ⟨_, h3, h⟩ := Rd.run_bind h
    have h := run_ret h
    subst h
    exact op_assign p hd ho h1 h2 hok hso (mvAll_soft h2) hus
  · rename_i c x1 y1 ho
    obtain ⟨sc, h1, h⟩ := Rd.run_bind h
    try simp only at h
    split at h
    case h_2 => cases h
    rename_i c'
    obtain ⟨sa, h2, h⟩ := Rd.run_bind h
    obtain ⟨sb, h3, h⟩ := Rd.run_bind h
    have h := run_ret h
    subst h
    exact op_pick p hd ho h1 h2 h3 hok hus
  · rename_i T ho
    obtain ⟨_, h0, h⟩ := Rd.run_bind h
    have h0 := gd_none (Rd.run_must h0)
    rw [h0] at p
    rw [h0] at h hok
    obtain ⟨ls, h1, h⟩ := Rd.run_bind h
    obtain ⟨ys, h2, h⟩ := Rd.run_bind h
    obtain ⟨_, h3, h⟩ := Rd.run_bind h
    have h := run_ret h
    subst h
    exact op_alloc p hb hd ho (Rd.run_opt h1) h2 (Rd.run_must h3) rfl hok hso hvo hus
  · rename_i T x1 ho
    obtain ⟨_, h0, h⟩ := Rd.run_bind h
    have h0 := gd_none (Rd.run_must h0)
    rw [h0] at p
    rw [h0] at h hok
    obtain ⟨⟨s, ls⟩, h1, h⟩ := Rd.run_bind h
    obtain ⟨ys, h2, h⟩ := Rd.run_bind h
    obtain ⟨_, h3, h⟩ := Rd.run_bind h
    have h := run_ret h
    subst h
    exact op_box p hb hd ho h1 h2 (Rd.run_must h3) rfl hok hso hvo hus
  · rename_i T parts ho
    obtain ⟨z, h1, h⟩ := Rd.run_bind h
    obtain ⟨_, h2, h⟩ := Rd.run_bind h
    obtain ⟨ls, h3, h⟩ := Rd.run_bind h
    obtain ⟨ys, h4, h⟩ := Rd.run_bind h
    have h := run_ret h
    subst h
    exact op_build p hd ho (Rd.run_opt h1) (Rd.run_must h2) h3 h4 hok hus
  · rename_i T len parts ho
    obtain ⟨⟨e, t⟩, h1, h⟩ := Rd.run_bind h
    obtain ⟨z, h2, h⟩ := Rd.run_bind h
    obtain ⟨_, h3, h⟩ := Rd.run_bind h
    have h3 := Rd.run_must h3
    simp only [Bool.and_eq_true, decide_eq_true_eq] at h3
    obtain ⟨rows, h4, h⟩ := Rd.run_bind h
    obtain ⟨ys, h5, h⟩ := Rd.run_bind h
    have h := run_ret h
    subst h
    exact op_buildSlice p hb hd ho (Rd.run_opt h1) (Rd.run_opt h2) h3.1 h3.2 h4 h5 rfl hok hso hvo hus
  · rename_i T x1 ho
    obtain ⟨s, h1, h⟩ := Rd.run_bind h
    obtain ⟨⟨pl, tag⟩, h2, h⟩ := Rd.run_bind h
    try simp only at h
    split at h
    · rename_i b off
      simp only [Rd.run] at h
      split at h
      case h_2 => cases h
      rename_i n hbn
      obtain ⟨_, h3, h⟩ := Rd.run_bind h
      have h3 := Rd.run_must h3
      simp only [decide_eq_true_eq] at h3
      obtain ⟨ys, h4, h⟩ := Rd.run_bind h
      have h := run_ret h
      subst h
      exact op_load_ptr p hd ho (Rd.run_opt h1) h2 hbn h3 h4 hok hus
    · rename_i m off t
      obtain ⟨⟨m', tg⟩, h3, h⟩ := Rd.run_bind h
      obtain ⟨_, h4, h⟩ := Rd.run_bind h
      have h4 := Rd.run_must h4
      simp only [Bool.and_eq_true, decide_eq_true_eq] at h4
      have h := run_ret h
      subst h
      exact op_load_ep p hd ho (Rd.run_opt h1) h2 h3 h4.1 h4.2 hok hus
    · cases h
  · rename_i x1 ho
    obtain ⟨⟨m, tag⟩, h1, h⟩ := Rd.run_bind h
    obtain ⟨_, h2, h⟩ := Rd.run_bind h
    have h := run_ret h
    subst h
    exact op_nilCheck p hd ho h1 (Rd.run_must h2) hok hus
  · rename_i op xT x1 y1 yT ho
    split at h
    · obtain ⟨sa, h1, h⟩ := Rd.run_bind h
      obtain ⟨sb, h2, h⟩ := Rd.run_bind h
      try simp only at h
      split at h
      · have h := run_ret h
        subst h
        exact op_bin p hd ho h1 h2 hok hus
      · have h := run_ret h
        subst h
        exact op_bin p hd ho h1 h2 hok hus
      · have h := run_ret h
        subst h
        exact op_beq (neg := false) p hd rfl ho (by assumption) h1 h2 hok hus
      · have h := run_ret h
        subst h
        exact op_beq (neg := true) p hd rfl ho (by assumption) h1 h2 hok hus
      · cases h
    · obtain ⟨tys, h1, h⟩ := Rd.run_bind h
      obtain ⟨_, h2, h⟩ := Rd.run_bind h
      have h2 := Rd.run_must h2
      obtain ⟨⟨s, ls⟩, h3, h⟩ := Rd.run_bind h
      obtain ⟨⟨s', ls'⟩, h4, h⟩ := Rd.run_bind h
      obtain ⟨_, h5, h⟩ := Rd.run_bind h
      have h5 := Rd.run_must h5
      simp only [Bool.and_eq_true, decide_eq_true_eq] at h5
      obtain ⟨h5a, h5b⟩ := h5
      rw [← h5a] at h4
      obtain ⟨as, h6, h⟩ := Rd.run_bind h
      obtain ⟨bs', h7, h⟩ := Rd.run_bind h
      have h := run_ret h
      subst h
      split at h2
      · exact op_eqL (neg := false) p hd rfl ho (Rd.run_opt h1) h3 h4 h5b h6 h7 hok hus
      · exact op_eqL (neg := true) p hd rfl ho (Rd.run_opt h1) h3 h4 h5b h6 h7 hok hus
      · cases h2
  · rename_i op xT x1 ho
    obtain ⟨sa, h1, h⟩ := Rd.run_bind h
    have h := run_ret h
    subst h
    exact op_un p hd ho h1 hok hus
  · rename_i src dst x1 ho
    obtain ⟨sa, h1, h⟩ := Rd.run_bind h
    try simp only at h
    split at h
    · rename_i k' k hu1 hu2
      have h := run_ret h
      subst h
      exact op_conv p hd ho hu1 hu2 h1 hok hus
    · rename_i e hu1 hu2
      obtain ⟨_, h2, h⟩ := Rd.run_bind h
      have h2 := Rd.run_must h2
      have h := run_ret h
      subst h
      split at h2
      · rename_i hu3
        exact op_s2b p hb hd ho hu1 hu2 hu3 h1 hok hso hvo hus
      · cases h2
    · rename_i e hu1 hu2
      obtain ⟨_, h2, h⟩ := Rd.run_bind h
      have h2 := Rd.run_must h2
      have h := run_ret h
      subst h
      split at h2
      · rename_i hu3
        exact op_b2s p hd ho hu1 hu2 hu3 h1 hok hus
      · cases h2
    · cases h
  · rename_i f first captured ho
    obtain ⟨_, h1, h⟩ := Rd.run_bind h
    have h1 := Rd.run_must h1
    simp only [beq_iff_eq] at h1
    obtain ⟨caps, h2, h⟩ := Rd.run_bind h
    have h := run_ret h
    subst h
    exact op_makeFunc p hd ho h1 h2 hok hus
  · rename_i T len cap ho
    obtain ⟨_, h1, h⟩ := Rd.run_bind h
    obtain ⟨⟨e, t⟩, h2, h⟩ := Rd.run_bind h
    obtain ⟨_, h3, h⟩ := Rd.run_bind h
    have h3 := Rd.run_must h3
    simp only [Bool.and_eq_true] at h3
    obtain ⟨sn, h4, h⟩ := Rd.run_bind h
    have h := run_ret h
    subst h
    exact op_makeSlice p hb hd ho (Rd.run_must h1) (Rd.run_opt h2) h3.1 h3.2 h4 hok hso hvo hus
  · rename_i T x1 lo hi mx ho
    obtain ⟨_, h1, h⟩ := Rd.run_bind h
    have h1 := Rd.run_must h1
    obtain ⟨l, h2, h⟩ := Rd.run_bind h
    obtain ⟨hh, h3, h⟩ := Rd.run_bind h
    obtain ⟨⟨s, ls⟩, h4, h⟩ := Rd.run_bind h
    try simp only at h
    split at h
    case h_2 => cases h
    rename_i x'
    split at h
    · rename_i hu
      obtain ⟨sa, h5, h⟩ := Rd.run_bind h
      have h := run_ret h
      subst h
      exact op_subS p hd ho h1 hu h2 h3 h4 h5 hok hus
    · obtain ⟨⟨e, t⟩, h5, h⟩ := Rd.run_bind h
      have h5 := Rd.run_opt h5
      try simp only at h
      split at h
      case h_2 => cases h
      rename_i lx
      obtain ⟨⟨m, tag⟩, h6, h⟩ := Rd.run_bind h
      try simp only at h
      split at h
      · have h := run_ret h
        subst h
        exact op_sub (s := .leaf) p hd ho h1 h5 h2 h3 h4 h6 (.inl rfl) hok hus
      · have h := run_ret h
        subst h
        exact op_sub (s := .leaf) p hd ho h1 h5 h2 h3 h4 h6 (.inr rfl) hok hus
      · have h := run_ret h
        subst h
        exact op_sub_own p hd ho h1 h5 h2 h3 h4 h6 hok hso hus
      · cases h
  · rename_i T x1 f ho
    obtain ⟨⟨fd, n⟩, h1, h⟩ := Rd.run_bind h
    obtain ⟨⟨m, tag⟩, h2, h⟩ := Rd.run_bind h
    try simp only at h
    split at h
    · have h := run_ret h
      subst h
      exact op_fieldAddr_ptr p hd ho (Rd.run_opt h1) h2 hok hus
    · have h := run_ret h
      subst h
      exact op_fieldAddr_ep p hd ho (Rd.run_opt h1) h2 hok hus
    · cases h
  · rename_i T x1 i ho
    obtain ⟨⟨e, t⟩, h1, h⟩ := Rd.run_bind h
    obtain ⟨⟨m, tag⟩, h2, h⟩ := Rd.run_bind h
    obtain ⟨_, h3, h⟩ := Rd.run_bind h
    obtain ⟨si, h4, h⟩ := Rd.run_bind h
    have h := run_ret h
    subst h
    exact op_indexAddr p hd ho (Rd.run_opt h1) h2 (Rd.run_must h3) h4 hok hus
  · rename_i T x1 i ho
    obtain ⟨_, h1, h⟩ := Rd.run_bind h
    have h1 := Rd.run_must h1
    obtain ⟨sa, h2, h⟩ := Rd.run_bind h
    obtain ⟨sb, h3, h⟩ := Rd.run_bind h
    have h := run_ret h
    subst h
    split at h1
    · rename_i hu
      exact op_index p hd ho hu h2 h3 hok hus
    · cases h1
  · rename_i x1 i ho
    split at h
    case h_2 => cases h
    rename_i t
    simp only [Rd.run] at h
    split at h
    case h_2 => cases h
    rename_i l hk hs
    simp only [Bool.and_eq_true] at hk
    obtain ⟨⟨s, off⟩, h1, h⟩ := Rd.run_bind h
    obtain ⟨ys, h2, h⟩ := Rd.run_bind h
    have h := run_ret h
    subst h
    exact op_extract p hd ho (blt_lt hk.2) hs hk.1 (Rd.run_opt h1) h2 hok hus
  · rename_i T x1 f ho
    obtain ⟨⟨fd, n⟩, h1, h⟩ := Rd.run_bind h
    obtain ⟨⟨s, ls⟩, h2, h⟩ := Rd.run_bind h
    obtain ⟨s', h3, h⟩ := Rd.run_bind h
    obtain ⟨_, h4, h⟩ := Rd.run_bind h
    have h4 := Rd.run_must h4
    simp only [Bool.and_eq_true, decide_eq_true_eq] at h4
    obtain ⟨⟨h5, h6⟩, rfl⟩ := h4
    obtain ⟨ys, h7, h⟩ := Rd.run_bind h
    have h := run_ret h
    subst h
    exact op_field p hd ho (Rd.run_opt h1) h2 (Rd.run_opt h3) h5 h6 h7 hok hus
  · rename_i c ho
    exact absurd ⟨c, ho⟩ hcall
  · cases h
theorem sstep_ok (p : Pre Γ S G w N a gd gs) (hb : BsOk Np bs Γ) {x : Eff} (h : (sstep P Np N gd gs o).run Γ = some x) (hus : x.pop.eval sem S = some us) :
    Outc P o a w bs (app x.ws Γ) (upds S us) N G ∧ effOk N gd o.dst x = true ∧ softsOk x.ws = true ∧ varsOk Np x.ws = true := by
  unfold sstep at h
  obtain ⟨y, h1, h⟩ := Rd.run_bind h
  obtain ⟨_, h2, h⟩ := Rd.run_bind h
  have h2 := Rd.run_must h2
  simp only [Bool.and_eq_true] at h2
  have h := run_ret h
  subst h
  exact ⟨sstep0_ok p hb h1 h2.1.1 h2.1.2 h2.2 hus, h2.1.1, h2.1.2, h2.2⟩
end Go.Proofs.Fw
set_option linter.unusedVariables false
set_option linter.unusedSimpArgs false
namespace Go.Proofs.Fw
variable {P : Program} {Γ : SEnv} {S : PSt} {G : Gh} {w : World} {N : Nat} {a : Act} {gd : Option (Nat × Bool)} {gs : List (Nat × Bool)} {o : Oper} {bs : List (Nat × Nat)} {d : Nat} {sem : CSem} {us : List (Nat × Univ)} {Np : Nat}
theorem setS_same {S : PSt} {l : Nat} {u : Univ} (h : S l = u) : setS S l u = S := by
  funext m
  unfold setS
  cases e : Nat.beq m l with
  | true => simp only [Nat.eq_of_beq_eq_true e, h]
  | false => rfl
theorem setS_at (S : PSt) (l : Nat) (u : Univ) : setS S l u l = u := by simp [setS]
theorem setS_ne {S : PSt} {l m : Nat} {u : Univ} (h : m ≠ l) : setS S l u m = S m := by
  unfold setS
  cases e : Nat.beq m l with
  | true => exact absurd (Nat.eq_of_beq_eq_true e) h
  | false => rfl
def semStep (sem : CSem) (gd : Option (Nat × Bool)) (jk : Option Nat) (o : POp) (S : PSt) : Option PSt :=
  match gd with
  | none => (o.eval sem S).map (upds S)
  | some (c, b) => match (S c).cast .bool with
    | none => some (junkS S jk)
    | some x => if x = b then (o.eval sem S).map (upds S) else some (junkS S jk)
theorem den_op {R : Type} {fin : List Univ → Option R} {K : Nat} {ρ : List (List Univ → Option R)} {jk : Option Nat} {o : POp} {k : PC} {r : R} (h : den sem fin K ρ (.op gd jk o k) S = some r) :
    ∃ S', semStep sem gd jk o S = some S' ∧ den sem fin K ρ k S' = some r := by
  cases gd with
  | none =>
    obtain ⟨ws, h1, h2⟩ := POp.evalK_some (show o.evalK sem S _ = some r from h)
    exact ⟨_, by simp [semStep, h1], h2⟩
  | some g =>
    obtain ⟨c, b⟩ := g
    simp only [den] at h
    cases e : (S c).cast .bool with
    | none =>
      rw [e] at h
      exact ⟨_, by simp [semStep, e], h⟩
    | some x =>
      rw [e] at h
      have hs : S c = uB x := Univ.cast_some e
      cases x <;> cases b <;> simp only [br, setS_same hs] at h
      · obtain ⟨ws, h1, h2⟩ := POp.evalK_some (show o.evalK sem S _ = some r from h)
        exact ⟨_, by simp [semStep, e, h1], h2⟩
      · exact ⟨_, by simp [semStep, e], h⟩
      · exact ⟨_, by simp [semStep, e], h⟩
      · obtain ⟨ws, h1, h2⟩ := POp.evalK_some (show o.evalK sem S _ = some r from h)
        exact ⟨_, by simp [semStep, e, h1], h2⟩
theorem live_of_val (T : TRel Γ S G N a) {c : Nat} {b : Bool} (hc : 64 * (c / 64) = c) (hc2 : c < 128000) (h : S c = uB b) : live (Γ c) S := by
  intro c2 b2 h2
  apply Classical.byContradiction
  intro hne
  have e : lc (c / 64) 0 = c := hc
  have := T.und (c / 64) c2 b2 (by omega) (by rw [e]; exact h2) hne
  rw [e] at this
  exact this.2 b h
theorem gdChain_ok (T : TRel Γ S G N a) : ∀ {n : Nat} {gd : Option (Nat × Bool)} {r : List (Nat × Bool)}, (gdChain n gd).run Γ = some r → (∀ c b, gd = some (c, b) → S c = uB b) → GHs r S
  | n, none, r, h, _ => by
    cases n <;> simp only [gdChain, Rd.run, Option.some.injEq] at h <;> subst h <;> intro g hg <;> cases hg
  | 0, some x, r, h, hx => by
    simp only [gdChain, Rd.run, Option.some.injEq] at h
    subst h
    intro g hg
    simp only [List.mem_singleton] at hg
    subst hg
    exact hx _ _ rfl
  | n + 1, some (c, b), r, h, hx => by
    simp only [gdChain, Rd.run] at h
    split at h
    · rename_i hk hs
      simp only [Bool.and_eq_true] at hk
      obtain ⟨r', h1, h2⟩ := Rd.run_bind h
      have h2 := run_ret h2
      subst h2
      have hsc := hx c b rfl
      have hl := live_of_val T (Nat.eq_of_beq_eq_true hk.1.1) (blt_lt hk.1.2) hsc
      have ih := gdChain_ok T h1 (fun c2 b2 h => hl c2 b2 h)
      intro g hg
      rcases List.mem_cons.1 hg with rfl | hg
      · exact hsc
      · exact ih g hg
    · cases h
theorem guard_val (R : HRel Γ S G w) (T : TRel Γ S G N a) {c : Nat} {b : Bool} {n : Nat} {r : List (Nat × Bool)} (h : (gdChain (n + 1) (some (c, b))).run Γ = some r) :
    (∀ x, S c = uB x → a.tmps[c / 64]? = some (.bool x)) ∧ ((S c).cast .bool = none → ∀ y, a.tmps[c / 64]? ≠ some (.bool y)) := by
  simp only [gdChain, Rd.run] at h
  split at h
  case h_2 => cases h
  rename_i hk hs
  simp only [Bool.and_eq_true, decide_eq_true_eq] at hk
  have e : lc (c / 64) 0 = c := Nat.eq_of_beq_eq_true hk.1.1
  have hc2 := blt_lt hk.1.2
  have hlt : c / 64 < 2000 := by omega
  have hget : ∀ v : Value, a.tmps.getD (c / 64) undef = v → v ≠ undef → a.tmps[c / 64]? = some v := by
    intro v hv hne
    rw [Array.getD_eq_getD_getElem?] at hv
    cases hh : a.tmps[c / 64]? with
    | none => rw [hh] at hv; exact absurd hv.symm hne
    | some u => rw [hh] at hv; simp at hv; rw [hv]
  have htmp : live (Γ c) S → a.tmps.getD (c / 64) undef = G.V c ∧ Rep w G.Ow (G.V c) (S c) := by
    intro hl
    have h1 := T.tmp (c / 64) _ hlt (by rw [e]; exact hs) (by rw [e]; exact hl)
    have h2 := R.lok c hl
    rw [hk.2] at h2
    refine ⟨?_, h2⟩
    rw [h1]
    show G.V (lc (c / 64) 0) = _
    rw [e]
  constructor
  · intro x hx
    obtain ⟨h1, h2⟩ := htmp (live_of_val T (Nat.eq_of_beq_eq_true hk.1.1) hc2 hx)
    rw [hx] at h2
    have hb : G.V c = .bool x := by generalize G.V c = v at h2; cases h2; rfl
    rw [hb] at h1
    exact hget _ h1 (by intro h; cases h)
  · intro hn y hy
    have hg : a.tmps.getD (c / 64) undef = .bool y := by rw [Array.getD_eq_getD_getElem?, hy]; rfl
    by_cases hl : live (Γ c) S
    · obtain ⟨h1, h2⟩ := htmp hl
      rw [hg] at h1
      rw [← h1] at h2
      generalize S c = u at h2 hn
      cases h2
      simp [Univ.cast] at hn
    · unfold live at hl
      have : ∃ c2 b2, (Γ c).gd = some (c2, b2) ∧ S c2 ≠ uB b2 := by
        apply Classical.byContradiction
        intro hh
        apply hl
        intro c2 b2 h2
        apply Classical.byContradiction
        intro hne
        exact hh ⟨c2, b2, h2, hne⟩
      obtain ⟨c2, b2, h2, hne⟩ := this
      have := (T.und (c / 64) c2 b2 hlt (by rw [e]; exact h2) hne).1
      rw [hg] at this
      cases this
theorem yielded_of (ops : Array Oper) (tmps : Array Value) {j d : Nat} {oj : Oper} (hj : ops[j]? = some oj) (hd : oj.dst = some d) :
    (∀ x, tmps[d]? = some (.bool x) → yielded ops tmps j = some x) ∧ ((∀ y, tmps[d]? ≠ some (.bool y)) → yielded ops tmps j = none) := by
  constructor
  · intro x hx
    simp [yielded, hj, hd, hx]
  · intro h
    unfold yielded
    split
    · rename_i b e
      rw [hj, Option.bind_some, hd, Option.bind_some] at e
      exact absurd e (h b)
    · rfl
theorem TRel.step2 (T : TRel Γ S G N a) {ws : List Wr1} {dst : Option Nat} {S' : PSt} {G' : Gh} {v : Value} (hin : hardsIn dst ws = true)
    (hV : ∀ l, isHard ws l = false → G'.V l = G.V l) (hS : ∀ l, isDom ws l = false → S' l = S l) (hS2 : ∀ t, t < 2000 → dst ≠ some t → S' (lc t 0) = S (lc t 0) ∨ ∀ x, S' (lc t 0) ≠ uB x)
    (hd : ∀ d, dst = some d → d < N ∧ d < 2000 ∧ ∃ e sh, hfind ws (lc d 0) = some e ∧ e.sh = some sh ∧ sh.size ≤ 64 ∧ (live e S' → v = asm sh (fun j => G'.V (lc d j))) ∧ ∀ c b, e.gd = some (c, b) → S' c ≠ uB b → v = undef ∧ ∀ x, S' (lc d 0) ≠ uB x) :
    TRel (app ws Γ) S' G' N (a.put dst v) := by
  have hother : ∀ t, t < 2000 → dst ≠ some t → ∀ j, j < 64 → isHard ws (lc t j) = false := by
    intro t ht htd j hj
    cases h : isHard ws (lc t j) with
    | false => rfl
    | true =>
      exfalso
      rcases hardsIn_spec hin h with h | ⟨d', hd', h1, h2⟩
      · simp only [lc] at h; omega
      · subst hd'
        have : t ≠ d' := fun e => htd (by rw [e])
        simp only [lc] at h1 h2
        omega
  have hget : ∀ t, dst ≠ some t → (a.put dst v).tmps.getD t undef = a.tmps.getD t undef := by
    intro t ht
    cases dst with
    | none => rfl
    | some d =>
      have : ¬ d = t := fun e => ht (by rw [e])
      simp [Act.put, Array.getD_eq_getD_getElem?, Array.getElem?_setIfInBounds, this]
  refine ⟨?_, ?_, ?_, ?_, ?_⟩
  · cases dst with
    | none => exact T.size
    | some d => simp [Act.put, T.size]
  · intro t s ht hs
    by_cases htd : dst = some t
    · obtain ⟨_, _, e, sh, h1, h2, h3, _⟩ := hd t htd
      have : app ws Γ (lc t 0) = e := by simp only [app, h1]
      rw [this, h2] at hs
      injection hs with hs
      exact hs ▸ h3
    · rcases app_old (Γ := Γ) (hother t ht htd 0 (by omega)) with ⟨h1, _, _⟩ | h1
      · rw [h1] at hs; exact T.small t s ht hs
      · rw [h1] at hs; cases hs
  · intro t s ht hs hlive
    by_cases htd : dst = some t
    · obtain ⟨hN, _, e, sh, h1, h2, _, h4, _⟩ := hd t htd
      have : app ws Γ (lc t 0) = e := by simp only [app, h1]
      rw [this] at hs hlive
      rw [h2] at hs
      injection hs with hs
      subst hs
      have e2 : (a.put dst v).tmps.getD t undef = v := by
        subst htd
        simp [Act.put, T.size, hN]
      rw [e2]
      exact h4 hlive
    · rcases app_old (Γ := Γ) (hother t ht htd 0 (by omega)) with ⟨h1, h2, h3⟩ | h1
      · rw [h1] at hs
        have hlive0 : live (Γ (lc t 0)) S := by
          intro c b hc
          have := hlive c b (h2 ▸ hc)
          rw [hS c (by rw [hc] at h3; exact h3)] at this
          exact this
        rw [hget t htd, T.tmp t s ht hs hlive0]
        refine asm_congr fun j hj => (hV _ (hother t ht htd j ?_)).symm
        have := T.small t s ht hs
        omega
      · rw [h1] at hs; cases hs
  · intro t c b ht hg hne
    by_cases htd : dst = some t
    · obtain ⟨hN, _, e, sh, h1, _, _, _, h5⟩ := hd t htd
      have : app ws Γ (lc t 0) = e := by simp only [app, h1]
      rw [this] at hg
      obtain ⟨h6, h7⟩ := h5 c b hg hne
      have e2 : (a.put dst v).tmps.getD t undef = v := by
        subst htd
        simp [Act.put, T.size, hN]
      exact ⟨e2.trans h6, h7⟩
    · rcases app_old (Γ := Γ) (hother t ht htd 0 (by omega)) with ⟨_, h2, h3⟩ | h1
      · rw [h2] at hg
        have hne' : S c ≠ uB b := by
          rw [← hS c (by rw [hg] at h3; exact h3)]
          exact hne
        obtain ⟨u1, u2⟩ := T.und t c b ht hg hne'
        refine ⟨by rw [hget t htd]; exact u1, ?_⟩
        rcases hS2 t ht htd with h | h
        · rw [h]; exact u2
        · exact h
      · rw [h1] at hg; cases hg
  · cases dst with
    | none => exact T.defers
    | some d => exact T.defers
theorem skipChk_ok {dst : Option Nat} : ∀ {ws : List Wr1} {u : Unit}, (skipChk gd dst ws).run Γ = some u →
    (∀ l e, Wr1.hard l e ∈ ws → (e.gd = gd ∧ ∃ d : Nat, dst = some d ∧ 64 * d ≤ l ∧ l < 64 * d + 64) ∨ (e.gd = none ∧ e.sh = none ∧ (Γ l).gd = none ∧ (Γ l).tag = e.tag ∧ 128000 ≤ l ∧ l < 256000 ∧ e.tag.refs = [])) ∧ ∀ l t, Wr1.soft l t ∈ ws → t = .dead ∨ (t = .val ∧ (Γ l).tag = .own)
  | [], _, _ => ⟨by simp, by simp⟩
  | .hard l e :: r, u, h => by
    have key : (skipChk gd dst r).run Γ = some u ∧ ((e.gd = gd ∧ ∃ d : Nat, dst = some d ∧ 64 * d ≤ l ∧ l < 64 * d + 64) ∨ (e.gd = none ∧ e.sh = none ∧ (Γ l).gd = none ∧ (Γ l).tag = e.tag ∧ 128000 ≤ l ∧ l < 256000 ∧ e.tag.refs = [])) := by
      simp only [skipChk] at h
      split at h
      · rename_i h1
        simp only [Bool.and_eq_true, decide_eq_true_eq] at h1
        refine ⟨h, .inl ⟨h1.1, ?_⟩⟩
        cases dst with
        | none => cases h1.2
        | some d =>
          have := h1.2
          simp only [inT, Bool.and_eq_true] at this
          exact ⟨d, rfl, Nat.le_of_ble_eq_true this.1, blt_lt this.2⟩
      · simp only [Rd.run] at h
        obtain ⟨_, h1, h2⟩ := Rd.run_bind h
        have h1 := Rd.run_must h1
        simp only [Bool.and_eq_true, decide_eq_true_eq, Option.isNone_iff_eq_none, List.isEmpty_iff] at h1
        obtain ⟨⟨⟨⟨⟨⟨a1, a2⟩, a3⟩, a4⟩, a5⟩, a6⟩, a7⟩ := h1
        exact ⟨h2, .inr ⟨a1, a2, a3, a4, Nat.le_of_ble_eq_true a5, blt_lt a6, a7⟩⟩
    obtain ⟨i1, i2⟩ := skipChk_ok key.1
    refine ⟨?_, ?_⟩
    · intro l' e' hm
      rcases List.mem_cons.1 hm with hm | hm
      · injection hm with e1 e2
        subst e1 e2
        exact key.2
      · exact i1 l' e' hm
    · intro l' t hm
      rcases List.mem_cons.1 hm with hm | hm
      · cases hm
      · exact i2 l' t hm
  | .soft l t :: r, u, h => by
    have key : (skipChk gd dst r).run Γ = some u ∧ (t = .dead ∨ (t = .val ∧ (Γ l).tag = .own)) := by
      cases t with
      | dead => exact ⟨h, .inl rfl⟩
      | val =>
        simp only [skipChk, Rd.run] at h
        obtain ⟨_, h1, h2⟩ := Rd.run_bind h
        have h1 := Rd.run_must h1
        simp only [decide_eq_true_eq] at h1
        exact ⟨h2, .inr ⟨rfl, h1⟩⟩
      | _ => cases h
    obtain ⟨i1, i2⟩ := skipChk_ok key.1
    refine ⟨?_, ?_⟩
    · intro l' e' hm
      rcases List.mem_cons.1 hm with hm | hm
      · cases hm
      · exact i1 l' e' hm
    · intro l' t' hm
      rcases List.mem_cons.1 hm with hm | hm
      · injection hm with e1 e2
        subst e1 e2
        exact key.2
      · exact i2 l' t' hm
theorem skip_ok (R : HRel Γ S G w) (T : TRel Γ S G N a) (hb : BsOk Np bs Γ) {c : Nat} {b : Bool} (hgd : gd = some (c, b)) (hne : S c ≠ uB b) {x : Eff} {u : Unit} (hk : (skipChk gd o.dst x.ws).run Γ = some u)
    (hok : effOk N gd o.dst x = true) (hso : softsOk x.ws = true) (hvo : varsOk Np x.ws = true) :
    ∃ G', HRel (app x.ws Γ) (junkS S (junkOf o)) G' w ∧ TRel (app x.ws Γ) (junkS S (junkOf o)) G' N (a.put o.dst undef) ∧ Fr bs G w G' w := by
  obtain ⟨k1, k2⟩ := skipChk_ok hk
  have hok0 := hok
  simp only [effOk, Bool.and_eq_true, Bool.not_eq_true'] at hok
  obtain ⟨⟨⟨_, hin⟩, hgk⟩, hdst⟩ := hok
  have hhard : ∀ l, isHard x.ws l = true → (l < 128000 → ∃ d : Nat, o.dst = some d ∧ 64 * d ≤ l ∧ l < 64 * d + 64) ∧ l < 256000 := by
    intro l hl
    obtain ⟨e, he⟩ := isHard_mem hl
    rcases k1 l e he with ⟨_, d, hd, h1, h2⟩ | ⟨_, _, _, _, h1, h2, _⟩
    · refine ⟨fun _ => ⟨d, hd, h1, h2⟩, ?_⟩
      have hdst' := hdst
      rw [hd] at hdst'
      simp only [Bool.and_eq_true] at hdst'
      have := blt_lt hdst'.1.1.2
      omega
    · exact ⟨fun h => absurd h (by omega), h2⟩
  have hd2 : ∀ d : Nat, o.dst = some d → d < N ∧ d < 2000 ∧ ∃ e sh, hfind x.ws (lc d 0) = some e ∧ e.sh = some sh ∧ sh.size ≤ 64 := by
    intro d hd
    rw [hd] at hdst
    simp only [Bool.and_eq_true] at hdst
    obtain ⟨⟨⟨h1, h2⟩, h3⟩, _⟩ := hdst
    refine ⟨blt_lt h1, blt_lt h2, ?_⟩
    unfold shOk at h3
    cases hf : hfind x.ws (lc d 0) with
    | none => rw [hf] at h3; cases h3
    | some e =>
      rw [hf] at h3
      simp only at h3
      cases hs : e.sh with
      | none => rw [hs] at h3; cases h3
      | some sh =>
        rw [hs] at h3
        refine ⟨e, sh, rfl, hs, ?_⟩
        cases sh with
        | bx n => cases h3
        | one s => exact Nat.le_of_ble_eq_true h3
        | tup l => exact Nat.le_of_ble_eq_true h3
  have hS : ∀ l, isDom x.ws l = false → junkS S (junkOf o) l = S l := by
    intro l hl
    unfold junkS junkOf
    cases hd : o.dst with
    | none => rfl
    | some d =>
      simp only [Option.map_some]
      refine setS_ne fun e => ?_
      subst e
      obtain ⟨_, _, e, sh, hf, _⟩ := hd2 d hd
      simp only [isDom, isHard, hf, Option.isSome_some, Bool.true_or] at hl
      cases hl
  have hS3 : ∀ l, isHard x.ws l = false → junkS S (junkOf o) l = S l := by
    intro l hl
    unfold junkS junkOf
    cases hd : o.dst with
    | none => rfl
    | some d =>
      simp only [Option.map_some]
      refine setS_ne fun e => ?_
      subst e
      obtain ⟨_, _, e, sh, hf, _⟩ := hd2 d hd
      simp only [isHard, hf, Option.isSome_some] at hl
      cases hl
  have hcne : junkS S (junkOf o) c ≠ uB b := by
    rw [hS c (by rw [hgd] at hgk; exact hgk)]
    exact hne
  have hbm : ∀ b, isHard x.ws (bm b) = false := by
    intro b
    cases h : isHard x.ws (bm b) with
    | false => rfl
    | true =>
      have := (hhard _ h).2
      simp only [bm] at this
      omega
  have hof : G.Ow w.heap.size = .foreign := R.new _ (Nat.le_refl _)
  let ρ : Nat → Option Owner := fun m => if sfind x.ws m = some .val then some .imm else none
  have hρ : ∀ m o', ρ m = some o' → isDom x.ws m = true := by
    intro m o' h
    by_cases hs : sfind x.ws m = some .val
    · simp [isDom, hs]
    · have : ρ m = none := if_neg hs
      rw [this] at h
      cases h
  refine ⟨{ V := G.V, Ow := fun b => ren ρ (G.Ow b), B := G.B }, ?_, ?_, ?_⟩
  · refine HRel.mod2 (ρ := ρ) R w.heap.size (fun _ _ => rfl) hS (fun _ _ => rfl) (fun _ _ _ => ⟨rfl, rfl⟩) hρ (by rw [hof]; simp) (by rw [hof]; simp) (by rw [hof]; simp) (by rw [hof]; simp) (fun _ _ _ _ _ _ _ => rfl) ?_ ?_ ?_ ?_ ?_
    · intro l e he hlive
      rcases k1 l e he with ⟨h1, _⟩ | ⟨_, _, h1, h2, h3, h4, h5⟩
      · exact absurd (hlive c b (by rw [h1, hgd])) hcne
      · have hL := R.lok l (by intro c b h; rw [h1] at h; cases h)
        rw [h2] at hL
        have hSl : junkS S (junkOf o) l = S l := by
          unfold junkS junkOf
          cases hd : o.dst with
          | none => rfl
          | some d =>
            simp only [Option.map_some]
            refine setS_ne fun e => ?_
            have := (hd2 d hd).2.1
            simp only [lc] at e
            omega
        refine hL.last rfl hSl (by rw [h5]; simp) (fun b hb => ⟨rfl, by simp [hb, ren]⟩) (fun b hb => ⟨rfl, by simp [hb, ren]⟩) (fun _ b hb => ⟨rfl, ?_⟩)
        have hnone : ρ l = none := by
          refine if_neg fun hsf => ?_
          have := (softsOk_spec hso l _ (sfind_some hsf)).1
          rw [hfind_isSome he] at this
          cases this
        simp [hb, ren, hnone]
    · intro b' e n he
      have := hfind_isSome he
      rw [hbm] at this
      cases this
    · intro b' e n he
      have := hfind_isSome he
      rw [hbm] at this
      cases this
    · intro l t ht hlive
      rcases k2 l t ht with rfl | ⟨rfl, htag⟩
      · trivial
      · have hL := R.lok l hlive
        rw [htag] at hL
        obtain ⟨t1, xs, h1, h2⟩ := hL
        obtain ⟨hnh, hsf⟩ := softsOk_spec hso l _ ht
        show Rep w _ (G.V l) (junkS S (junkOf o) l)
        rw [hS3 l hnh, h1]
        refine h2.frz (fun b hb => ⟨rfl, by simp [hb, ren]⟩) (fun b hb => ⟨rfl, ?_⟩)
        have : ρ l = some .imm := if_pos hsf
        simp [hb, ren, this]
    · intro k hk
      show ren _ (G.Ow k) = _
      rw [R.new k hk]
      rfl
  · refine TRel.step2 T hin (fun _ _ => rfl) hS ?_ ?_
    · intro t ht htd
      left
      refine hS3 _ ?_
      cases h : isHard x.ws (lc t 0) with
      | false => rfl
      | true =>
        obtain ⟨d, hd, h1, h2⟩ := (hhard _ h).1 (by simp only [lc]; omega)
        exfalso
        apply htd
        rw [hd]
        congr 1
        simp only [lc] at h1 h2
        omega
    · intro d hd
      obtain ⟨h1, h2, e, sh, h3, h4, h5⟩ := hd2 d hd
      have hegd : e.gd = gd := by
        rcases k1 _ e (hfind_some h3) with h | h
        · exact h.1
        · have := h.2.2.2.2.1
          simp only [lc] at this
          omega
      refine ⟨h1, h2, e, sh, h3, h4, h5, ?_, ?_⟩
      · intro hl
        exact absurd (hl c b (by rw [hegd, hgd])) hcne
      · intro c' b' hcb _
        refine ⟨rfl, ?_⟩
        intro y
        simp only [junkS, junkOf, hd, Option.map_some]
        rw [setS_at]
        intro h
        cases h
  · exact Fr.mod (ρ := ρ) R hb w.heap.size hin (fun d hd => (hd2 d hd).2.1) hvo (fun _ _ => rfl) (fun _ _ => rfl) (fun _ _ _ => ⟨rfl, rfl⟩) rfl rfl rfl (Nat.le_refl _) (by rw [hof]; simp) (by rw [hof]; simp) (fun h => absurd h (Nat.lt_irrefl _)) (fun q _ _ h => by rw [hof] at h; cases h)
end Go.Proofs.Fw
set_option linter.unusedVariables false
set_option linter.unusedSimpArgs false
namespace Go.Proofs.Fw
variable {P : Program} {Γ : SEnv} {S : PSt} {G : Gh} {w : World} {N : Nat} {a : Act} {gd : Option (Nat × Bool)} {gs : List (Nat × Bool)} {o : Oper} {bs : List (Nat × Nat)} {d : Nat} {sem : CSem} {us : List (Nat × Univ)} {Np : Nat}
def OutW (P : Program) (o : Oper) (a : Act) (w : World) (bs : List (Nat × Nat)) (Γ' : SEnv) (S' : PSt) (N : Nat) (G : Gh) : Prop :=
  ∀ (K : Act → World → Prop) (Q : Exit → Act → World → Prop), (∀ v w' G', HRel Γ' S' G' w' → TRel Γ' S' G' N (a.put o.dst v) → Fr bs G w G' w' → K (a.put o.dst v) w') → o.wp P a w K Q
theorem Outc.outw {Γ' : SEnv} {S' : PSt} (h : Outc P o a w bs Γ' S' N G) : OutW P o a w bs Γ' S' N G := by
  intro K Q hK
  obtain ⟨v, w', G', h1, h2, h3, h4⟩ := h
  have := hK v w' G' h2 h3 h4
  unfold Oper.wp
  rcases h1 with h1 | ⟨h1, rfl⟩
  · rw [h1]; exact this
  · rw [h1]; exact this
def CallOk (I : FInfo) (sem : CSem) : Prop := ∀ (Γ : SEnv) (S : PSt) (G : Gh) (w : World) (a : Act) (gd : Option (Nat × Bool)) (gs : List (Nat × Bool)) (bs : List (Nat × Nat)) (o : Oper) (c : Call) (x : Eff) (us : List (Nat × Univ)),
  isCall o = some c → Pre Γ S G w I.N a gd gs → BsOk I.Np bs Γ → (callStep I.P I.Np gd gs I.es o c).run Γ = some x → effOk I.N gd o.dst x = true → softsOk x.ws = true → varsOk I.Np x.ws = true →
  x.pop.eval sem S = some us → OutW I.P o a w bs (app x.ws Γ) (upds S us) I.N G
theorem ostep_ok {I : FInfo} (hc : CallOk I sem) (p : Pre Γ S G w I.N a gd gs) (hb : BsOk I.Np bs Γ) {x : Eff} (h : (ostep I gd gs o).run Γ = some x) (hus : x.pop.eval sem S = some us) :
    OutW I.P o a w bs (app x.ws Γ) (upds S us) I.N G := by
  unfold ostep at h
  split at h
  · rename_i c hcall
    obtain ⟨y, h1, h⟩ := Rd.run_bind h
    obtain ⟨_, h2, h⟩ := Rd.run_bind h
    have h2 := Rd.run_must h2
    simp only [Bool.and_eq_true] at h2
    have h := run_ret h
    subst h
    exact hc _ _ _ _ _ _ _ _ _ _ _ _ hcall p hb h1 h2.1.1 h2.1.2 h2.2 hus
  · exact (sstep_ok p hb h hus).1.outw
theorem ostep_chk {I : FInfo} {x : Eff} (h : (ostep I gd gs o).run Γ = some x) : effOk I.N gd o.dst x = true ∧ softsOk x.ws = true ∧ varsOk I.Np x.ws = true := by
  unfold ostep at h
  split at h
  · rename_i c hcall
    obtain ⟨y, h1, h⟩ := Rd.run_bind h
    obtain ⟨_, h2, h⟩ := Rd.run_bind h
    have h2 := Rd.run_must h2
    simp only [Bool.and_eq_true] at h2
    have h := run_ret h
    subst h
    exact ⟨h2.1.1, h2.1.2, h2.2⟩
  · unfold sstep at h
    obtain ⟨y, h1, h⟩ := Rd.run_bind h
    obtain ⟨_, h2, h⟩ := Rd.run_bind h
    have h2 := Rd.run_must h2
    simp only [Bool.and_eq_true] at h2
    have h := run_ret h
    subst h
    exact ⟨h2.1.1, h2.1.2, h2.2⟩
structure Sim (I : FInfo) (bs : List (Nat × Nat)) (G0 : Gh) (w0 : World) (Γ : SEnv) (S : PSt) (a : Act) (w : World) : Prop where
  ex : ∃ G, HRel Γ S G w ∧ TRel Γ S G I.N a ∧ BsOk I.Np bs Γ ∧ Fr bs G0 w0 G w
theorem gop_ok {I : FInfo} (hc : CallOk I sem) {G0 : Gh} {w0 : World} (s : Sim I bs G0 w0 Γ S a w) {ops : Array Oper} {i : Nat} (hi : ops[i]? = some o) {x : Eff} (h : (gstep I ops o).run Γ = some (gd, x)) {S' : PSt}
    (hS : semStep sem gd (junkOf o) x.pop S = some S') {K : Act → World → Prop} {Q : Exit → Act → World → Prop} (hK : ∀ a' w', Sim I bs G0 w0 (app x.ws Γ) S' a' w' → K a' w') : wpOp I.P ops Q i K a w := by
  obtain ⟨G, hR, hT, hb, hf⟩ := s.ex
  unfold gstep at h
  obtain ⟨gd', h1, h⟩ := Rd.run_bind h
  have h1 := Rd.run_opt h1
  obtain ⟨gs, h2, h⟩ := Rd.run_bind h
  obtain ⟨x', h3, h⟩ := Rd.run_bind h
  obtain ⟨u, h4, h⟩ := Rd.run_bind h
  have h := run_ret h
  injection h with e1 e2
  subst e1 e2
  obtain ⟨c1, c2, c3⟩ := ostep_chk h3
  have hb' := hb.step c3
  have run : ∀ {us : List (Nat × Univ)}, x'.pop.eval sem S = some us → S' = upds S us → (∀ c b, gd' = some (c, b) → S c = uB b) → Oper.wp I.P o a w K Q := by
    intro us hus hSS hg
    have p : Pre Γ S G w I.N a gd' gs := ⟨hR, hT, hg, gdChain_ok hT h2 hg⟩
    refine ostep_ok hc p hb h3 hus K Q fun v w' G' r t f => hK _ _ ⟨G', ?_, ?_, hb', hf.trans f⟩
    · rw [hSS]; exact r
    · rw [hSS]; exact t
  unfold wpOp
  simp only [hi]
  cases hgd : gd' with
  | none =>
    subst hgd
    have hw : Region.wanted o (yielded ops a.tmps) = true := by
      unfold opGuard at h1
      unfold Region.wanted
      cases hg : o.guard with
      | none => rfl
      | some g =>
        rw [hg] at h1
        obtain ⟨j, b⟩ := g
        simp only at h1
        split at h1
        · split at h1 <;> simp at h1
        · simp at h1
    rw [if_pos hw]
    simp only [semStep, Option.map_eq_some_iff] at hS
    obtain ⟨us, e1, e2⟩ := hS
    exact .inl (run e1 e2.symm (by intro c b h; cases h))
  | some g =>
    obtain ⟨c, b⟩ := g
    subst hgd
    obtain ⟨g1, g2⟩ := guard_val hR hT h2
    have hg : ∃ j oj dj, o.guard = some (j, b) ∧ ops[j]? = some oj ∧ oj.dst = some dj ∧ c = lc dj 0 := by
      unfold opGuard at h1
      cases hg : o.guard with
      | none => rw [hg] at h1; simp at h1
      | some g =>
        rw [hg] at h1
        obtain ⟨j, b'⟩ := g
        simp only at h1
        split at h1
        · rename_i oj hoj
          split at h1
          · rename_i dj hdj
            simp only [Option.some.injEq, Prod.mk.injEq] at h1
            obtain ⟨rfl, rfl⟩ := h1
            exact ⟨j, oj, dj, rfl, hoj, hdj, rfl⟩
          · simp at h1
        · simp at h1
    obtain ⟨j, oj, dj, hog, hoj, hdj, hcd⟩ := hg
    have hcdiv : c / 64 = dj := by rw [hcd]; simp only [lc]; omega
    rw [hcdiv] at g1 g2
    obtain ⟨y1, y2⟩ := yielded_of ops a.tmps hoj hdj
    have hwant : Region.wanted o (yielded ops a.tmps) = (yielded ops a.tmps j == some b) := by
      unfold Region.wanted
      rw [hog]
    have skip : S c ≠ uB b → S' = junkS S (junkOf o) → K (a.put o.dst undef) w := by
      intro hne hSS
      obtain ⟨G', r, t, f⟩ := skip_ok (o := o) hR hT hb rfl hne h4 c1 c2 c3
      refine hK _ _ ⟨G', ?_, ?_, hb', hf.trans f⟩
      · rw [hSS]; exact r
      · rw [hSS]; exact t
    simp only [semStep] at hS
    cases hcast : (S c).cast .bool with
    | none =>
      rw [hcast] at hS
      have hy := y2 (g2 hcast)
      have hw : Region.wanted o (yielded ops a.tmps) = false := by rw [hwant, hy]; rfl
      rw [if_neg (by rw [hw]; simp)]
      refine skip ?_ (Option.some.inj hS).symm
      intro h
      rw [h] at hcast
      simp [Univ.cast] at hcast
    | some y =>
      rw [hcast] at hS
      have hs := Univ.cast_some hcast
      have hy := y1 y (g1 y hs)
      simp only at hS
      by_cases hyb : y = b
      · rw [if_pos hyb] at hS
        have hw : Region.wanted o (yielded ops a.tmps) = true := by rw [hwant, hy, hyb]; simp
        rw [if_pos hw]
        simp only [Option.map_eq_some_iff] at hS
        obtain ⟨us, e1, e2⟩ := hS
        refine .inl (run e1 e2.symm ?_)
        intro c' b' h
        injection h with h
        injection h with h5 h6
        subst h5 h6
        rw [hs, hyb]
      · rw [if_neg hyb] at hS
        have hw : Region.wanted o (yielded ops a.tmps) = false := by
          rw [hwant, hy]
          simpa using hyb
        rw [if_neg (by rw [hw]; simp)]
        refine skip ?_ (Option.some.inj hS).symm
        intro h
        rw [hs] at h
        injection h with _ h
        exact hyb h
def AbsRun (I : FInfo) (sem : CSem) (ops : Array Oper) : List RStep → SEnv → PSt → SEnv → PSt → Prop
  | [], Γ, S, Γ', S' => Γ' = Γ ∧ S' = S
  | s :: r, Γ, S, Γ', S' => ops[s.i]? = some s.o ∧ (gstep I ops s.o).run Γ = some (s.gd, s.x) ∧ (gstep I ops s.o).logP Γ = s.log ∧
    ∃ S1, semStep sem s.gd (junkOf s.o) s.x.pop S = some S1 ∧ AbsRun I sem ops r (app s.x.ws Γ) S1 Γ' S'
theorem genOps_run {I : FInfo} {ops : Array Oper} {k : SEnv → Option PC} {R : Type} {fin : List Univ → Option R} {K : Nat} {ρ : List (List Univ → Option R)} {r : R} :
    ∀ {l : List Oper} {i : Nat} {Γ : SEnv} {S : PSt} {pc : PC}, ops.toList.drop i = l → genOps I ops l k Γ = some pc → den sem fin K ρ pc S = some r →
      ∃ st Γ' S' pc', regSteps I ops i l Γ = some st ∧ st.map (fun s => s.i) = List.range' i l.length ∧ AbsRun I sem ops st Γ S Γ' S' ∧ k Γ' = some pc' ∧ den sem fin K ρ pc' S' = some r
  | [], i, Γ, S, pc, hl, hg, hd => ⟨[], Γ, S, pc, rfl, rfl, ⟨rfl, rfl⟩, hg, hd⟩
  | o :: l, i, Γ, S, pc, hl, hg, hd => by
    simp only [genOps, Option.bind_eq_some_iff, Option.map_eq_some_iff] at hg
    obtain ⟨⟨gd, x⟩, h1, pc1, h2, rfl⟩ := hg
    obtain ⟨S1, h3, h4⟩ := den_op hd
    have hi : ops[i]? = some o := by
      have := congrArg (·[0]?) hl
      simp only [List.getElem?_drop, Nat.add_zero, List.getElem?_cons_zero, Array.getElem?_toList] at this
      exact this
    have hl2 : ops.toList.drop (i + 1) = l := by
      have := congrArg (List.drop 1) hl
      rw [List.drop_drop] at this
      simpa using this
    obtain ⟨st, Γ', S', pc', k1, k2, k3, k4, k5⟩ := genOps_run hl2 h2 h4
    refine ⟨⟨i, o, gd, x, (gstep I ops o).logP Γ⟩ :: st, Γ', S', pc', ?_, ?_, ⟨hi, h1, rfl, S1, h3, k3⟩, k4, k5⟩
    · simp only [regSteps, h1, Option.bind_some, k1, Option.map_some]
    · simp [k2, List.range'_succ]
theorem run_inOrder {I : FInfo} (hc : CallOk I sem) {G0 : Gh} {w0 : World} {ops : Array Oper} {Q : Exit → Act → World → Prop} {Γ' : SEnv} {S' : PSt} (hQ : ∀ a w, Sim I bs G0 w0 Γ' S' a w → Q .normal a w) :
    ∀ {st : List RStep} {Γ : SEnv} {S : PSt} {a : Act} {w : World}, AbsRun I sem ops st Γ S Γ' S' → Sim I bs G0 w0 Γ S a w → wpOps I.P ops Q (st.map fun s => s.i) a w
  | [], Γ, S, a, w, h, s => by
    obtain ⟨rfl, rfl⟩ := h
    exact hQ a w s
  | x :: r, Γ, S, a, w, h, s => by
    obtain ⟨h1, h2, _, S1, h3, h4⟩ := h
    rw [List.map_cons, wpOps_cons]
    exact gop_ok hc s h1 h2 h3 fun a' w' s' => run_inOrder hc hQ h4 s'
end Go.Proofs.Fw
set_option linter.unusedVariables false
set_option linter.unusedSimpArgs false
namespace Go.Proofs.Fw
variable {P : Program} {Γ : SEnv} {S : PSt} {G : Gh} {w : World} {N : Nat} {a : Act} {gd : Option (Nat × Bool)} {gs : List (Nat × Bool)} {o : Oper} {bs : List (Nat × Nat)} {d : Nat} {sem : CSem} {us : List (Nat × Univ)} {Np : Nat}
theorem Rd.run_congr {α : Type} {Γ Γ' : SEnv} {m : Rd α} (h : ∀ p ∈ m.logP Γ, Γ' p.1 = p.2) : m.run Γ' = m.run Γ ∧ m.logP Γ' = m.logP Γ := by
  induction m with
  | ret a => exact ⟨rfl, rfl⟩
  | fail => exact ⟨rfl, rfl⟩
  | get l k ih =>
    have h0 : Γ' l = Γ l := h (l, Γ l) (by simp [Rd.logP])
    have := ih (Γ l) (fun p hp => h p (by simp only [Rd.logP, List.mem_cons]; exact .inr hp))
    simp only [Rd.run, Rd.logP, h0]
    exact ⟨this.1, by rw [this.2]⟩
theorem Rd.logP_mem {α : Type} {Γ : SEnv} {m : Rd α} : ∀ p ∈ m.logP Γ, p.2 = Γ p.1 := by
  induction m with
  | ret a => intro p h; cases h
  | fail => intro p h; cases h
  | get l k ih =>
    intro p h
    simp only [Rd.logP, List.mem_cons] at h
    rcases h with rfl | h
    · rfl
    · exact ih _ p h
theorem Src.get_congr {S S' : PSt} {s : Src} (h : ∀ l ∈ s.rd, S l = S' l) : s.get S = s.get S' := by
  cases s with
  | loc l => exact h l (by simp [Src.rd])
  | con u => rfl
theorem gets_congr {S S' : PSt} {l : List Src} (h : ∀ x ∈ l.flatMap Src.rd, S x = S' x) : (l.map fun s => s.get S) = l.map fun s => s.get S' := by
  apply List.map_congr_left
  intro s hs
  exact Src.get_congr fun x hx => h x (List.mem_flatMap.2 ⟨s, hs, hx⟩)
theorem optG_congr {S S' : PSt} {s : Option Src} (h : ∀ l ∈ orRd s, S l = S' l) : optG S s = optG S' s := by
  cases s with
  | none => rfl
  | some s => simp only [optG]; rw [Src.get_congr h]
theorem eval_congr {S S' : PSt} {o : POp} (h : ∀ l ∈ o.rd, S l = S' l) : o.eval sem S = o.eval sem S' := by
  cases o with
  | cp ps =>
    simp only [POp.eval, POp.evalK]
    congr 1
    apply List.map_congr_left
    intro p hp
    rw [Src.get_congr (S := S) (S' := S') fun l hl => h l (List.mem_flatMap.2 ⟨p, hp, hl⟩)]
  | pick d c a b =>
    simp only [POp.rd, List.mem_append] at h
    simp only [POp.eval, POp.evalK]
    rw [Src.get_congr (s := c) fun l hl => h l (.inl hl), Src.get_congr (s := a) fun l hl => h l (.inr (.inl hl)), Src.get_congr (s := b) fun l hl => h l (.inr (.inr hl))]
  | bin op d a b | beq _ d a b | sidx d a b | app d t a b | appS d a b | mm _ d a b =>
    simp only [POp.rd, List.mem_append] at h
    simp only [POp.eval, POp.evalK]
    rw [Src.get_congr (s := a) fun l hl => h l (.inl hl), Src.get_congr (s := b) fun l hl => h l (.inr hl)]
  | un op d a | conv k d a | s2b d a | b2s d a | len st d a =>
    simp only [POp.rd] at h
    simp only [POp.eval, POp.evalK]
    rw [Src.get_congr (s := a) fun l hl => h l hl]
  | makeS d t n =>
    simp only [POp.rd] at h
    simp only [POp.eval, POp.evalK]
    rw [Src.get_congr (s := n) fun l hl => h l hl]
  | idx d m t i =>
    simp only [POp.rd, List.mem_cons] at h
    simp only [POp.eval, POp.evalK]
    rw [h m (.inl rfl), Src.get_congr (s := i) fun l hl => h l (.inr hl)]
  | getE m i off t ds =>
    simp only [POp.rd] at h
    simp only [POp.eval, POp.evalK]
    rw [h m (by simp), h i (by simp)]
  | setE m i off t srcs =>
    simp only [POp.rd, List.mem_cons] at h
    simp only [POp.eval, POp.evalK]
    rw [h m (.inl rfl), h i (.inr (.inl rfl)), gets_congr fun x hx => h x (.inr (.inr hx))]
  | mkSl d t rows =>
    simp only [POp.rd] at h
    simp only [POp.eval, POp.evalK]
    congr 1
    apply List.map_congr_left
    intro r hr
    exact gets_congr fun x hx => h x (List.mem_flatMap.2 ⟨r, hr, hx⟩)
  | sub d t a lo hi | subS d a lo hi =>
    simp only [POp.rd, List.mem_append] at h
    simp only [POp.eval, POp.evalK]
    rw [Src.get_congr (s := a) fun l hl => h l (.inl hl), optG_congr (s := lo) fun l hl => h l (.inr (.inl hl)), optG_congr (s := hi) fun l hl => h l (.inr (.inr hl))]
  | eqL d neg tys as bs =>
    simp only [POp.rd, List.mem_append] at h
    simp only [POp.eval, POp.evalK]
    rw [gets_congr (l := as) fun x hx => h x (.inl hx), gets_congr (l := bs) fun x hx => h x (.inr hx)]
  | call e args ds =>
    simp only [POp.rd] at h
    simp only [POp.eval, POp.evalK]
    rw [gets_congr h]
theorem eval_locs {o : POp} (h : o.eval sem S = some us) : ∀ p ∈ us, p.1 ∈ o.wr := by
  have one : ∀ {d : Nat} {u : Univ}, [(d, u)] = us → ∀ p ∈ us, p.1 ∈ [d] := by
    rintro d u rfl p hp
    simp only [List.mem_singleton] at hp
    subst hp
    simp
  cases o with
  | cp ps =>
    have h := Option.some.inj h
    subst h
    intro p hp
    simp only [List.mem_map] at hp
    obtain ⟨q, hq, rfl⟩ := hp
    exact List.mem_map.2 ⟨q, hq, rfl⟩
  | pick d c a b =>
    obtain ⟨z, _, h⟩ := bnd_some (show bnd _ _ = some us from h)
    cases z <;> (obtain ⟨_, _, h⟩ := bnd_some h; exact one (Option.some.inj h))
  | bin op d a b =>
    have h : (binK op (a.get S) (b.get S) some).bind (fun u => some [(d, u)]) = some us := by rw [binK_nat]; exact h
    obtain ⟨u, _, h2⟩ := bind_one (f := fun u => [(d, u)]) h
    exact one h2.symm
  | un op d a =>
    have h : (unK op (a.get S) some).bind (fun u => some [(d, u)]) = some us := by rw [unK_nat]; exact h
    obtain ⟨u, _, h2⟩ := bind_one (f := fun u => [(d, u)]) h
    exact one h2.symm
  | beq neg d a b =>
    obtain ⟨_, _, h⟩ := bnd_some (show bnd _ _ = some us from h)
    obtain ⟨_, _, h⟩ := bnd_some h
    exact one (Option.some.inj h)
  | conv k d a =>
    have h : (convK k (a.get S) some).bind (fun u => some [(d, u)]) = some us := by rw [convK_nat]; exact h
    obtain ⟨u, _, h2⟩ := bind_one (f := fun u => [(d, u)]) h
    exact one h2.symm
  | s2b d a =>
    obtain ⟨_, _, h⟩ := bnd_some (show bnd _ _ = some us from h)
    obtain ⟨_, h⟩ := chk_some h
    exact one (Option.some.inj h)
  | b2s d a =>
    obtain ⟨_, _, h⟩ := bnd_some (show bnd _ _ = some us from h)
    exact one (Option.some.inj h)
  | len st d a =>
    have h : (lenK st (a.get S) some).bind (fun n => some [(d, uI n)]) = some us := by rw [lenK_nat]; exact h
    obtain ⟨u, _, h2⟩ : ∃ u, lenK st (a.get S) some = some u ∧ us = [(d, uI u)] := by
      cases e : lenK st (a.get S) some with
      | none => rw [e] at h; cases h
      | some u => rw [e] at h; exact ⟨u, rfl, (Option.some.inj h).symm⟩
    exact one h2.symm
  | idx d m t i =>
    obtain ⟨_, _, h⟩ := bnd_some (show bnd _ _ = some us from h)
    obtain ⟨_, _, h⟩ := bnd_some h
    obtain ⟨_, h⟩ := chk_some h
    obtain ⟨_, h⟩ := chk_some h
    exact one (Option.some.inj h)
  | sidx d s i =>
    obtain ⟨_, _, h⟩ := bnd_some (show bnd _ _ = some us from h)
    obtain ⟨_, _, h⟩ := bnd_some h
    obtain ⟨_, h⟩ := chk_some (show chk _ _ = some us from h)
    obtain ⟨_, _, h⟩ := bnd_some h
    exact one (Option.some.inj h)
  | getE m i off t ds =>
    obtain ⟨_, _, h⟩ := bnd_some (show bnd _ _ = some us from h)
    obtain ⟨_, _, h⟩ := bnd_some h
    split at h
    · obtain ⟨_, h⟩ := chk_some (show chk _ _ = some us from h)
      obtain ⟨_, _, h⟩ := bnd_some h
      have h := Option.some.inj h
      subst h
      intro p hp
      exact (List.of_mem_zip hp).1
    · cases h
  | setE m i off t srcs =>
    obtain ⟨_, _, h⟩ := bnd_some (show bnd _ _ = some us from h)
    obtain ⟨_, _, h⟩ := bnd_some h
    split at h
    · obtain ⟨_, h⟩ := chk_some (show chk _ _ = some us from h)
      obtain ⟨_, _, h⟩ := bnd_some h
      obtain ⟨_, _, h⟩ := bnd_some h
      exact one (Option.some.inj h)
    · cases h
  | app d t a b =>
    obtain ⟨_, _, h⟩ := bnd_some (show bnd _ _ = some us from h)
    obtain ⟨_, _, h⟩ := bnd_some h
    obtain ⟨_, h⟩ := chk_some (show chk _ _ = some us from h)
    exact one (Option.some.inj h)
  | appS d a b =>
    obtain ⟨_, _, h⟩ := bnd_some (show bnd _ _ = some us from h)
    obtain ⟨_, _, h⟩ := bnd_some h
    obtain ⟨_, h⟩ := chk_some (show chk _ _ = some us from h)
    exact one (Option.some.inj h)
  | mkSl d t rows =>
    obtain ⟨_, h, _⟩ := mkRows_some (show mkRows t _ _ = some us from h)
    exact one (Option.some.inj h)
  | makeS d t n =>
    obtain ⟨_, _, h⟩ := bnd_some (show bnd _ _ = some us from h)
    obtain ⟨_, h⟩ := chk_some (show chk _ _ = some us from h)
    obtain ⟨_, h⟩ := chk_some h
    exact one (Option.some.inj h)
  | sub d t a lo hi =>
    obtain ⟨_, _, h⟩ := bnd_some (show bnd _ _ = some us from h)
    obtain ⟨_, _, h⟩ := bnd_some h
    obtain ⟨_, _, h⟩ := bnd_some h
    obtain ⟨_, _, _, h⟩ := subK_some h
    exact one (Option.some.inj h)
  | subS d a lo hi =>
    obtain ⟨_, _, h⟩ := bnd_some (show bnd _ _ = some us from h)
    obtain ⟨_, _, h⟩ := bnd_some h
    obtain ⟨_, _, h⟩ := bnd_some h
    obtain ⟨_, _, _, h⟩ := subK_some h
    exact one (Option.some.inj h)
  | eqL d neg tys as bs =>
    have h : (eqLK tys (as.map fun s => s.get S) (bs.map fun s => s.get S) some).bind (fun b => some [(d, uB (neg ^^ b))]) = some us := by rw [eqLK_nat]; exact h
    cases e : eqLK tys (as.map fun s => s.get S) (bs.map fun s => s.get S) some with
    | none => rw [e] at h; cases h
    | some u => rw [e] at h; exact one (Option.some.inj h)
  | mm mn d a b =>
    obtain ⟨_, _, h⟩ := bnd_some (show bnd _ _ = some us from h)
    obtain ⟨_, _, h⟩ := bnd_some h
    exact one (Option.some.inj h)
  | call e args ds =>
    have h : (sem.k e (args.map fun s => s.get S) some).bind (fun rs => match decide (rs.length = ds.length) with | true => some (ds.zip rs) | false => none) = some us := by rw [sem.nat]; exact h
    cases e : sem.k e (args.map fun s => s.get S) some with
    | none => rw [e] at h; cases h
    | some rs =>
      rw [e] at h
      simp only [Option.bind_some] at h
      split at h
      · have h := Option.some.inj h
        subst h
        intro p hp
        exact (List.of_mem_zip hp).1
      · cases h
end Go.Proofs.Fw
set_option linter.unusedVariables false
set_option linter.unusedSimpArgs false
namespace Go.Proofs.Fw
variable {P : Program} {Γ : SEnv} {S : PSt} {G : Gh} {w : World} {N : Nat} {a : Act} {gd : Option (Nat × Bool)} {gs : List (Nat × Bool)} {o : Oper} {bs : List (Nat × Nat)} {d : Nat} {sem : CSem} {us : List (Nat × Univ)} {Np : Nat}
def junkUs : Option Nat → List (Nat × Univ)
  | some l => [(l, uI 0)]
  | none => []
def semUs (sem : CSem) (gd : Option (Nat × Bool)) (jk : Option Nat) (o : POp) (S : PSt) : Option (List (Nat × Univ)) :=
  match gd with
  | none => o.eval sem S
  | some (c, b) => match (S c).cast .bool with
    | none => some (junkUs jk)
    | some x => if x = b then o.eval sem S else some (junkUs jk)
theorem junkS_eq (jk : Option Nat) : junkS S jk = upds S (junkUs jk) := by cases jk <;> rfl
theorem semStep_eq {jk : Option Nat} {o : POp} : semStep sem gd jk o S = (semUs sem gd jk o S).map (upds S) := by
  cases gd with
  | none => rfl
  | some g =>
    obtain ⟨c, b⟩ := g
    simp only [semStep, semUs]
    cases (S c).cast .bool with
    | none => simp [junkS_eq]
    | some x =>
      simp only
      by_cases h : x = b
      · simp [h]
      · simp [h, junkS_eq]
theorem semUs_congr {jk : Option Nat} {o : POp} {S S' : PSt} (h : ∀ l ∈ o.rd, S l = S' l) (hg : ∀ c b, gd = some (c, b) → S c = S' c) : semUs sem gd jk o S = semUs sem gd jk o S' := by
  cases gd with
  | none => exact eval_congr h
  | some g =>
    obtain ⟨c, b⟩ := g
    simp only [semUs]
    rw [hg c b rfl, eval_congr h]
theorem semUs_locs {jk : Option Nat} {o : POp} (h : semUs sem gd jk o S = some us) : ∀ p ∈ us, p.1 ∈ o.wr ∨ jk = some p.1 := by
  have junk : some (junkUs jk) = some us → ∀ p ∈ us, p.1 ∈ o.wr ∨ jk = some p.1 := by
    intro h p hp
    have h := Option.some.inj h
    subst h
    cases jk with
    | none => cases hp
    | some l =>
      simp only [junkUs, List.mem_singleton] at hp
      subst hp
      exact .inr rfl
  cases gd with
  | none => exact fun p hp => .inl (eval_locs h p hp)
  | some g =>
    obtain ⟨c, b⟩ := g
    simp only [semUs] at h
    cases e : (S c).cast .bool with
    | none => rw [e] at h; exact junk h
    | some x =>
      rw [e] at h
      simp only at h
      by_cases hx : x = b
      · rw [if_pos hx] at h
        exact fun p hp => .inl (eval_locs h p hp)
      · rw [if_neg hx] at h
        exact junk h
theorem upds_in : ∀ {us : List (Nat × Univ)} {S S' : PSt} {l : Nat}, l ∈ us.map (fun p => p.1) → upds S us l = upds S' us l
  | [], _, _, _, h => by cases h
  | (m, u) :: r, S, S', l, h => by
    by_cases hr : l ∈ r.map fun p => p.1
    · show upds _ r l = upds _ r l
      exact upds_in hr
    · simp only [List.map_cons, List.mem_cons] at h
      rcases h with h | h
      · subst h
        show upds _ r l = upds _ r l
        rw [upds_not hr, upds_not hr]
        simp
      · exact absurd h hr
theorem upds_comm {ua ub : List (Nat × Univ)} (h : ∀ l, l ∈ ua.map (fun p => p.1) → l ∉ ub.map (fun p => p.1)) : upds (upds S ub) ua = upds (upds S ua) ub := by
  funext l
  by_cases ha : l ∈ ua.map fun p => p.1
  · rw [upds_not (us := ub) (h l ha)]
    exact upds_in ha
  · rw [upds_not (us := ua) ha]
    by_cases hb : l ∈ ub.map fun p => p.1
    · exact upds_in hb
    · rw [upds_not hb, upds_not hb, upds_not ha]
theorem killed_dead (ws : List Wr1) : killed ws deadGC = false := rfl
theorem app_dom_not {ws : List Wr1} {l : Nat} (h : isDom ws l = false) : app ws Γ l = if killed ws (Γ l) then deadGC else Γ l := by
  simp only [isDom, Bool.or_eq_false_iff] at h
  have h1 : hfind ws l = none := by simpa [isHard] using h.1
  have h2 : sfind ws l = none := by simpa using h.2
  simp only [app, h1, h2]
def Comm1 (wa wb : List Wr1) (Γ : SEnv) : Prop :=
  (∀ l e, Wr1.hard l e ∈ wa → isDom wb l = false ∧ killed wb e = false) ∧
  (∀ l t, Wr1.soft l t ∈ wa → isDom wb l = false ∧ t.refs.any (isHard wb) = false ∧ killed wb (Γ l) = false)
theorem comm_at {wa wb : List Wr1} {l : Nat} (h : Comm1 wa wb Γ) (hl : isDom wa l = true) : app wb (app wa Γ) l = app wa (app wb Γ) l := by
  have hkilled : ∀ (e : GC), killed wb e = false → ∀ (Γ2 : SEnv), isDom wb l = false → Γ2 l = e → app wb Γ2 l = e := by
    intro e he Γ2 hd hG
    rw [app_dom_not hd, hG, he]
    rfl
  cases hf : hfind wa l with
  | some e =>
    obtain ⟨h1, h2⟩ := h.1 l e (hfind_some hf)
    have ha : ∀ Γ2, app wa Γ2 l = e := by intro Γ2; simp only [app, hf]
    rw [ha (app wb Γ)]
    exact hkilled e h2 _ h1 (ha Γ)
  | none =>
    have hs : (sfind wa l).isSome = true := by simpa [isDom, isHard, hf] using hl
    obtain ⟨t, ht⟩ := Option.isSome_iff_exists.1 hs
    obtain ⟨h1, h2, h3⟩ := h.2 l t (sfind_some ht)
    have hb : app wb Γ l = Γ l := by rw [app_dom_not h1, h3]; rfl
    have ha : ∀ Γ2, app wa Γ2 l = if gdKilled wa (Γ2 l).gd then deadGC else ⟨t, (Γ2 l).sh, (Γ2 l).gd⟩ := by intro Γ2; simp only [app, hf, ht]
    rw [ha (app wb Γ), hb, app_dom_not h1, ha Γ]
    cases hk : gdKilled wa (Γ l).gd with
    | true => simp only [if_true, killed_dead]; rfl
    | false =>
      have : killed wb ⟨t, (Γ l).sh, (Γ l).gd⟩ = false := by
        simp only [killed, Bool.or_eq_false_iff] at h3 ⊢
        exact ⟨h2, h3.2⟩
      simp only [Bool.false_eq_true, if_false, this]
theorem app_comm {wa wb : List Wr1} (ha : Comm1 wa wb Γ) (hb : Comm1 wb wa Γ) : app wb (app wa Γ) = app wa (app wb Γ) := by
  funext l
  cases h1 : isDom wa l with
  | true => exact comm_at ha h1
  | false =>
    cases h2 : isDom wb l with
    | true => exact (comm_at hb h2).symm
    | false =>
      rw [app_dom_not h2, app_dom_not h1, app_dom_not h1, app_dom_not h2]
      cases k1 : killed wa (Γ l) <;> cases k2 : killed wb (Γ l) <;> simp [k1, k2, killed_dead]
theorem gstep_chk {I : FInfo} {ops : Array Oper} {x : Eff} (h : (gstep I ops o).run Γ = some (gd, x)) : effOk I.N gd o.dst x = true := by
  unfold gstep at h
  obtain ⟨gd', h1, h⟩ := Rd.run_bind h
  obtain ⟨gs, h2, h⟩ := Rd.run_bind h
  obtain ⟨x', h3, h⟩ := Rd.run_bind h
  obtain ⟨u, h4, h⟩ := Rd.run_bind h
  have h := run_ret h
  injection h with e1 e2
  subst e1 e2
  exact (ostep_chk h3).1
theorem us_dom {x : Eff} (hok : effOk N gd o.dst x = true) (h : semUs sem gd (junkOf o) x.pop S = some us) : ∀ l ∈ us.map (fun p => p.1), isDom x.ws l = true := by
  intro l hl
  obtain ⟨p, hp, rfl⟩ := List.mem_map.1 hl
  simp only [effOk, Bool.and_eq_true] at hok
  obtain ⟨⟨⟨⟨hw, _⟩, _⟩, _⟩, hdst⟩ := hok
  rcases semUs_locs h p hp with h1 | h1
  · exact List.all_eq_true.1 hw _ h1
  · unfold junkOf at h1
    cases hd : o.dst with
    | none => rw [hd] at h1; cases h1
    | some d =>
      rw [hd] at h1 hdst
      simp only [Option.map_some, Option.some.injEq] at h1
      rw [← h1]
      simp only [Bool.and_eq_true] at hdst
      have hs := hdst.1.2
      unfold shOk at hs
      cases hf : hfind x.ws (lc d 0) with
      | none => rw [hf] at hs; cases hs
      | some e => simp only [isDom, isHard, hf, Option.isSome_some, Bool.true_or]
theorem indep1_spec {a b : RStep} (h : indep1 a b = true) :
    (∀ l e, Wr1.hard l e ∈ a.x.ws → isDom b.x.ws l = false ∧ killed b.x.ws e = false) ∧
    (∀ l t, Wr1.soft l t ∈ a.x.ws → isDom b.x.ws l = false ∧ t.refs.any (isHard b.x.ws) = false ∧ ∃ p ∈ a.log, p.1 = l) ∧
    (∀ p ∈ a.log, isDom b.x.ws p.1 = false ∧ killed b.x.ws p.2 = false ∧ p.2.isDead = false) ∧
    (∀ l ∈ a.x.pop.rd, isDom b.x.ws l = false) ∧ (∀ c v, a.gd = some (c, v) → isDom b.x.ws c = false) := by
  simp only [indep1, Bool.and_eq_true] at h
  obtain ⟨⟨⟨h1, h2⟩, h3⟩, h4⟩ := h
  refine ⟨?_, ?_, ?_, ?_, ?_⟩
  · intro l e hm
    have := List.all_eq_true.1 h1 _ hm
    simpa using this
  · intro l t hm
    have := List.all_eq_true.1 h1 _ hm
    simp only [Bool.and_eq_true, Bool.not_eq_true', List.any_eq_true] at this
    obtain ⟨⟨k1, k2⟩, p, hp, k3⟩ := this
    exact ⟨k1, k2, p, hp, Nat.eq_of_beq_eq_true k3⟩
  · intro p hp
    have := List.all_eq_true.1 h2 _ hp
    simp only [Bool.and_eq_true, Bool.not_eq_true'] at this
    exact ⟨this.1.1, this.1.2, this.2⟩
  · intro l hl
    have := List.all_eq_true.1 h3 _ hl
    simpa using this
  · intro c v hg
    rw [hg] at h4
    simpa using h4
theorem swap {I : FInfo} {ops : Array Oper} {a b : RStep} {r : List RStep} {Γ' : SEnv} {S' : PSt} (h : AbsRun I sem ops (a :: b :: r) Γ S Γ' S') (hi : indep a b = true) : AbsRun I sem ops (b :: a :: r) Γ S Γ' S' := by
  obtain ⟨a1, a2, a3, S1, a4, b1, b2, b3, S2, b4, hr⟩ := h
  simp only [indep, Bool.and_eq_true] at hi
  obtain ⟨x1, x2, x3, x4, x5⟩ := indep1_spec hi.1
  obtain ⟨y1, y2, y3, y4, y5⟩ := indep1_spec hi.2
  have hbl : ∀ p ∈ b.log, Γ p.1 = p.2 := by
    intro p hp
    obtain ⟨k1, k2, k3⟩ := y3 p hp
    have h1 : p.2 = app a.x.ws Γ p.1 := by rw [← b3] at hp; exact Rd.logP_mem p hp
    rw [app_dom_not k1] at h1
    cases hk : killed a.x.ws (Γ p.1) with
    | true =>
      rw [hk] at h1
      simp only [if_true] at h1
      rw [h1] at k3
      cases k3
    | false =>
      rw [hk] at h1
      simp only [Bool.false_eq_true, if_false] at h1
      exact h1.symm
  have hal : ∀ p ∈ a.log, Γ p.1 = p.2 := by
    intro p hp
    rw [← a3] at hp
    exact (Rd.logP_mem p hp).symm
  have hbrun := Rd.run_congr (Γ := app a.x.ws Γ) (Γ' := Γ) (m := gstep I ops b.o) (by rw [b3]; exact hbl)
  have harun := Rd.run_congr (Γ := Γ) (Γ' := app b.x.ws Γ) (m := gstep I ops a.o) (by
    rw [a3]
    intro p hp
    obtain ⟨k1, k2, _⟩ := x3 p hp
    rw [app_dom_not k1, hal p hp, k2]
    rfl)
  have hcomm : app b.x.ws (app a.x.ws Γ) = app a.x.ws (app b.x.ws Γ) := by
    refine app_comm ⟨x1, ?_⟩ ⟨y1, ?_⟩
    · intro l t hm
      obtain ⟨k1, k2, p, hp, rfl⟩ := x2 l t hm
      exact ⟨k1, k2, by rw [hal p hp]; exact (x3 p hp).2.1⟩
    · intro l t hm
      obtain ⟨k1, k2, p, hp, rfl⟩ := y2 l t hm
      exact ⟨k1, k2, by rw [hbl p hp]; exact (y3 p hp).2.1⟩
  have hoka := gstep_chk a2
  have hokb := gstep_chk b2
  rw [semStep_eq] at a4 b4
  obtain ⟨ua, hua, rfl⟩ := Option.map_eq_some_iff.1 a4
  obtain ⟨ub, hub, rfl⟩ := Option.map_eq_some_iff.1 b4
  have hda := us_dom hoka hua
  have hdb := us_dom hokb hub
  have hnot : ∀ {u : List (Nat × Univ)} {ws : List Wr1} {l : Nat}, (∀ l ∈ u.map (fun p => p.1), isDom ws l = true) → isDom ws l = false → upds S u l = S l := by
    intro u ws l h1 h2
    apply upds_not
    intro hm
    rw [h1 l hm] at h2
    cases h2
  have hub' : semUs sem b.gd (junkOf b.o) b.x.pop S = some ub := by
    rw [← hub]
    exact semUs_congr (fun l hl => (hnot hda (y4 l hl)).symm) (fun c v hg => (hnot hda (y5 c v hg)).symm)
  have hua' : semUs sem a.gd (junkOf a.o) a.x.pop (upds S ub) = some ua := by
    rw [← hua]
    exact semUs_congr (fun l hl => hnot hdb (x4 l hl)) (fun c v hg => hnot hdb (x5 c v hg))
  refine ⟨b1, by rw [hbrun.1]; exact b2, by rw [hbrun.2]; exact b3, upds S ub, by rw [semStep_eq, hub']; rfl, a1, by rw [harun.1]; exact a2, by rw [harun.2]; exact a3, upds (upds S ub) ua, by rw [semStep_eq, hua']; rfl, ?_⟩
  rw [← hcomm]
  have : upds (upds S ub) ua = upds (upds S ua) ub := by
    refine upds_comm fun l hl hl2 => ?_
    have h1 := hda l hl
    have h2 := hdb l hl2
    have : isDom b.x.ws l = false := by
      simp only [isDom, Bool.or_eq_true] at h1
      rcases h1 with h1 | h1
      · obtain ⟨e, he⟩ := isHard_mem h1
        exact (x1 l e he).1
      · obtain ⟨t, ht⟩ := Option.isSome_iff_exists.1 h1
        exact (x2 l t (sfind_some ht)).1
    rw [this] at h2
    cases h2
  rw [this]
  exact hr
theorem bubble {I : FInfo} {ops : Array Oper} {x : RStep} {post : List RStep} {Γ' : SEnv} {S' : PSt} : ∀ {pre : List RStep} {Γ : SEnv} {S : PSt}, AbsRun I sem ops (pre ++ x :: post) Γ S Γ' S' → (∀ y ∈ pre, indep y x = true) → AbsRun I sem ops (x :: (pre ++ post)) Γ S Γ' S'
  | [], Γ, S, h, _ => h
  | y :: pre, Γ, S, h, hp => by
    obtain ⟨h1, h2, h3, S1, h4, h5⟩ := h
    have ih := bubble h5 fun z hz => hp z (List.mem_cons_of_mem _ hz)
    exact swap (a := y) (b := x) ⟨h1, h2, h3, S1, h4, ih⟩ (hp y List.mem_cons_self)
end Go.Proofs.Fw
set_option linter.unusedVariables false
set_option linter.unusedSimpArgs false
namespace Go.Proofs.Fw
variable {P : Program} {Γ : SEnv} {S : PSt} {G : Gh} {w : World} {N : Nat} {a : Act} {gd : Option (Nat × Bool)} {gs : List (Nat × Bool)} {o : Oper} {bs : List (Nat × Nat)} {d : Nat} {sem : CSem} {us : List (Nat × Univ)} {Np : Nat}
theorem anyBeq {x : Nat} {l : List Nat} : l.any (Nat.beq x) = true ↔ x ∈ l := by
  rw [List.any_eq_true]
  constructor
  · rintro ⟨y, hy, h⟩
    rw [Nat.eq_of_beq_eq_true h]
    exact hy
  · intro h
    exact ⟨x, h, by simp⟩
theorem pickR_spec {M : List Nat} : ∀ {r : List (Nat × List Nat)} {x : Nat × List (Nat × List Nat)}, pickR M r = some x →
    ∃ es, (x.1, es) ∈ r ∧ (∀ k ∈ es, k ∈ M) ∧ (∀ y ∈ r, y = (x.1, es) ∨ y ∈ x.2) ∧ ∀ y ∈ x.2, y ∈ r
  | [], x, h => by cases h
  | (i, es) :: r, x, h => by
    simp only [pickR] at h
    split at h
    · rename_i hes
      have h := Option.some.inj h
      subst h
      refine ⟨es, List.mem_cons_self, ?_, ?_, fun y hy => List.mem_cons_of_mem _ hy⟩
      · intro k hk
        exact anyBeq.1 (List.all_eq_true.1 hes k hk)
      · intro y hy
        exact List.mem_cons.1 hy
    · rw [Option.map_eq_some_iff] at h
      obtain ⟨y, hy, rfl⟩ := h
      obtain ⟨es', h1, h2, h3, h4⟩ := pickR_spec hy
      refine ⟨es', List.mem_cons_of_mem _ h1, h2, ?_, ?_⟩
      · intro z hz
        rcases List.mem_cons.1 hz with rfl | hz
        · exact .inr List.mem_cons_self
        · rcases h3 z hz with h | h
          · exact .inl h
          · exact .inr (List.mem_cons_of_mem _ h)
      · intro z hz
        rcases List.mem_cons.1 hz with rfl | hz
        · exact List.mem_cons_self
        · exact List.mem_cons_of_mem _ (h4 z hz)
theorem topo_prog : ∀ {n : Nat} {M : List Nat} {r : List (Nat × List Nat)}, topo n M r = true → ∀ (L : Nat → Bool), (∀ j ∈ M, L j = true) → (∃ x ∈ r, L x.1 = false) → ∃ x ∈ r, L x.1 = false ∧ ∀ k ∈ x.2, L k = true
  | n, M, [], _, L, _, h => by obtain ⟨x, hx, _⟩ := h; cases hx
  | 0, M, x :: r, h, _, _, _ => by cases h
  | n + 1, M, x :: r, h, L, hM, hex => by
    simp only [topo] at h
    split at h
    · rename_i y hy
      obtain ⟨es, h1, h2, h3, h4⟩ := pickR_spec hy
      cases hL : L y.1 with
      | false => exact ⟨_, h1, hL, fun k hk => hM k (h2 k hk)⟩
      | true =>
        obtain ⟨z, hz, hzL⟩ := hex
        have hz2 : z ∈ y.2 := by
          rcases h3 z hz with h | h
          · rw [h] at hzL
            rw [hL] at hzL
            cases hzL
          · exact h
        obtain ⟨u, hu, hu2⟩ := topo_prog h L (fun j hj => by
          rcases List.mem_cons.1 hj with rfl | hj
          · exact hL
          · exact hM j hj) ⟨z, hz2, hzL⟩
        exact ⟨u, h4 u hu, hu2⟩
    · cases h
theorem mem_numbered : ∀ {l : List (List Nat)} {k : Nat} {x : Nat × List Nat}, x ∈ numbered k l → ∃ j, x.1 = k + j ∧ l[j]? = some x.2
  | [], _, _, h => by cases h
  | y :: r, k, x, h => by
    simp only [numbered, List.mem_cons] at h
    rcases h with rfl | h
    · exact ⟨0, rfl, rfl⟩
    · obtain ⟨j, h1, h2⟩ := mem_numbered h
      exact ⟨j + 1, by omega, by simpa using h2⟩
theorem numbered_mem : ∀ {l : List (List Nat)} {k j : Nat} {es : List Nat}, l[j]? = some es → (k + j, es) ∈ numbered k l
  | [], _, _, _, h => by simp at h
  | y :: r, k, 0, es, h => by
    simp only [List.getElem?_cons_zero, Option.some.injEq] at h
    subst h
    exact List.mem_cons_self
  | y :: r, k, j + 1, es, h => by
    have := numbered_mem (k := k + 1) (l := r) (j := j) (by simpa using h)
    rw [show k + (j + 1) = k + 1 + j by omega]
    exact List.mem_cons_of_mem _ this
theorem mem_addN {x y : Nat} {l : List Nat} (h : y ∈ addN x l) : y = x ∨ y ∈ l := by
  unfold addN at h
  split at h
  · exact .inr h
  · exact List.mem_cons.1 h
theorem mem_foldAdd : ∀ {l acc : List Nat} {y : Nat}, y ∈ l.foldl (fun acc j => addN j acc) acc → y ∈ l ∨ y ∈ acc
  | [], acc, y, h => .inr h
  | x :: r, acc, y, h => by
    rcases mem_foldAdd (l := r) h with h | h
    · exact .inl (List.mem_cons_of_mem _ h)
    · rcases mem_addN h with rfl | h
      · exact .inl List.mem_cons_self
      · exact .inr h
theorem mem_closeOne {cl : List (List Nat)} : ∀ {l acc : List Nat} {y : Nat}, y ∈ l.foldl (fun acc k => (cl.getD k []).foldl (fun acc j => addN j acc) (addN k acc)) acc → y ∈ l ∨ (∃ k ∈ l, y ∈ cl.getD k []) ∨ y ∈ acc
  | [], acc, y, h => .inr (.inr h)
  | x :: r, acc, y, h => by
    rcases mem_closeOne (l := r) h with h | ⟨k, hk, h⟩ | h
    · exact .inl (List.mem_cons_of_mem _ h)
    · exact .inr (.inl ⟨k, List.mem_cons_of_mem _ hk, h⟩)
    · rcases mem_foldAdd h with h | h
      · exact .inr (.inl ⟨x, List.mem_cons_self, h⟩)
      · rcases mem_addN h with rfl | h
        · exact .inl List.mem_cons_self
        · exact .inr (.inr h)
theorem closures_keep : ∀ (l : List Oper) (cl : List (List Nat)) (i : Nat), i < cl.length → (closures cl l).getD i [] = cl.getD i []
  | [], cl, i, h => rfl
  | o :: r, cl, i, h => by
    simp only [closures]
    rw [closures_keep r _ i (by simp; omega)]
    simp [List.getD, List.getElem?_append_left h]
theorem closures_ok : ∀ (l : List Oper) (cl : List (List Nat)) (i : Nat) (o : Oper), l[i]? = some o → ∀ j ∈ (closures cl l).getD (cl.length + i) [], j ∈ directs o ∨ ∃ k ∈ directs o, j ∈ (closures cl l).getD k []
  | [], _, _, _, h => by simp at h
  | o :: r, cl, 0, o', h => by
    simp only [List.getElem?_cons_zero, Option.some.injEq] at h
    subst h
    intro j hj
    simp only [closures] at hj ⊢
    rw [closures_keep r _ _ (by simp)] at hj
    simp only [List.getD, Nat.add_zero, List.getElem?_concat_length, Option.getD_some] at hj
    rcases mem_closeOne hj with h | ⟨k, hk, h⟩ | h
    · exact .inl h
    · refine .inr ⟨k, hk, ?_⟩
      have hkl : k < cl.length := by
        apply Classical.byContradiction
        intro hn
        rw [List.getD, List.getElem?_eq_none (by omega)] at h
        cases h
      rw [closures_keep r _ k (by simp; omega)]
      simpa [List.getD, List.getElem?_append_left hkl] using h
    · cases h
  | o :: r, cl, i + 1, o', h => by
    intro j hj
    simp only [closures] at hj ⊢
    have := closures_ok r (cl ++ [(directs o).foldl (fun acc k => (cl.getD k []).foldl (fun acc j => addN j acc) (addN k acc)) []]) i o' (by simpa using h) j
    simp only [List.length_append, List.length_singleton] at this
    rw [show cl.length + 1 + i = cl.length + (i + 1) by omega] at this
    exact this hj
theorem drawOk_pairwise {cl : List (List Nat)} : ∀ {st : List RStep}, drawOk cl st = true → st.Pairwise fun b a => b.i ∈ cl.getD a.i [] ∨ indep b a = true
  | [], _ => List.Pairwise.nil
  | b :: r, h => by
    simp only [drawOk, Bool.and_eq_true] at h
    refine List.Pairwise.cons ?_ (drawOk_pairwise h.2)
    intro a ha
    have := List.all_eq_true.1 h.1 a ha
    simp only [Bool.or_eq_true] at this
    exact this.imp anyBeq.1 id
theorem HRel.drew (R : HRel Γ S G w) : HRel Γ S G w.drew :=
  ⟨fun l hl => (R.lok l hl).last rfl rfl (fun _ _ => ⟨rfl, fun _ _ => rfl⟩) (fun b hb => ⟨rfl, hb⟩) (fun b hb => ⟨rfl, hb⟩) (fun _ b hb => ⟨rfl, hb⟩), fun b n h => R.box b n h, fun k hk => R.new k hk, R.bsm⟩
theorem Sim.drew {I : FInfo} {G0 : Gh} {w0 : World} (s : Sim I bs G0 w0 Γ S a w) : Sim I bs G0 w0 Γ S a w.drew := by
  obtain ⟨G, hR, hT, hb, hf⟩ := s.ex
  exact ⟨G, hR.drew, hT, hb, ⟨hf.os, hf.tape, hf.output, hf.size, hf.keep, hf.shd, hf.bx⟩⟩
theorem mem_ready {md : Region.Mode} {ops : Array Oper} {listed : Array Bool} {i : Nat} : i ∈ Region.ready md ops listed ↔ i < ops.size ∧ listed.getD i true = false ∧ ∃ o, ops[i]? = some o ∧ ∀ k ∈ edgesIn md o, listed.getD k false = true := by
  unfold Region.ready
  rw [List.mem_filter, List.mem_range]
  constructor
  · rintro ⟨h1, h2⟩
    simp only [Bool.and_eq_true, Bool.not_eq_true'] at h2
    refine ⟨h1, h2.1, ?_⟩
    cases ho : ops[i]? with
    | none => rw [ho] at h2; simp at h2
    | some o =>
      rw [ho] at h2
      simp only [Option.map_some, Option.getD_some] at h2
      refine ⟨o, rfl, ?_⟩
      intro k hk
      unfold edgesIn at hk
      obtain ⟨e, he, rfl⟩ := List.mem_map.1 hk
      obtain ⟨he1, he2⟩ := List.mem_filter.1 he
      have := (Array.all_eq_true_iff_forall_mem.1 h2.2) e (Array.mem_toList_iff.1 he1)
      simpa [he2] using this
  · rintro ⟨h1, h2, o, ho, h3⟩
    refine ⟨h1, ?_⟩
    simp only [Bool.and_eq_true, Bool.not_eq_true', h2, ho, Option.map_some, Option.getD_some, true_and]
    rw [Array.all_eq_true_iff_forall_mem]
    intro e he
    cases hb : Region.binds md e with
    | false => rfl
    | true =>
      simp only [Bool.not_true, Bool.false_or]
      exact h3 _ (List.mem_map.2 ⟨e, List.mem_filter.2 ⟨Array.mem_toList_iff.2 he, hb⟩, rfl⟩)
theorem directs_edges {md : Region.Mode} {o : Oper} {k : Nat} (h : k ∈ directs o) : k ∈ edgesIn md o := by
  unfold directs at h
  obtain ⟨e, he, rfl⟩ := List.mem_map.1 h
  obtain ⟨he1, he2⟩ := List.mem_filter.1 he
  refine List.mem_map.2 ⟨e, List.mem_filter.2 ⟨he1, ?_⟩, rfl⟩
  unfold Region.binds at he2 ⊢
  split at he2 <;> simp_all
end Go.Proofs.Fw
set_option linter.unusedVariables false
set_option linter.unusedSimpArgs false
namespace Go.Proofs.Fw
variable {P : Program} {Γ : SEnv} {S : PSt} {G : Gh} {w : World} {N : Nat} {a : Act} {gd : Option (Nat × Bool)} {gs : List (Nat × Bool)} {o : Oper} {bs : List (Nat × Nat)} {d : Nat} {sem : CSem} {us : List (Nat × Univ)} {Np : Nat}
theorem run_any {I : FInfo} (hc : CallOk I sem) {G0 : Gh} {w0 : World} {ops : Array Oper} {md : Region.Mode} {Q : Exit → Act → World → Prop} {Γ' : SEnv} {S' : PSt} (hQ : ∀ a w, Sim I bs G0 w0 Γ' S' a w → Q .normal a w)
    (hmd : topoChk md ops = true) {cl : List (List Nat)} (hcl : ∀ (i : Nat) (o : Oper), ops[i]? = some o → ∀ j ∈ cl.getD i [], j ∈ directs o ∨ ∃ k ∈ directs o, j ∈ cl.getD k []) :
    ∀ (fuel : Nat) (listed : Array Bool) (st : List RStep) (Γ : SEnv) (S : PSt) (a : Act) (w : World), AbsRun I sem ops st Γ S Γ' S' → Sim I bs G0 w0 Γ S a w →
      (st.Pairwise fun b a => b.i ∈ cl.getD a.i [] ∨ indep b a = true) → (st.map fun s => s.i).Nodup → listed.size = ops.size →
      (∀ i, i < ops.size → (listed.getD i true = false ↔ i ∈ st.map fun s => s.i)) → (∀ i ∈ st.map (fun s => s.i), i < ops.size) →
      (∀ k, listed.getD k false = true → ∀ j ∈ cl.getD k [], listed.getD j false = true) → st.length ≤ fuel → wpAny I.P md ops Q fuel listed a w := by
  have done : ∀ (listed : Array Bool) (st : List RStep) (Γ : SEnv) (S : PSt) (a : Act) (w : World), AbsRun I sem ops st Γ S Γ' S' → Sim I bs G0 w0 Γ S a w → listed.size = ops.size →
      (∀ i, i < ops.size → (listed.getD i true = false ↔ i ∈ st.map fun s => s.i)) → (∀ i ∈ st.map (fun s => s.i), i < ops.size) → Region.ready md ops listed = [] → Q .normal a w := by
    intro listed st Γ S a w hr hs hsz hmem hlt hnil
    cases st with
    | nil =>
      obtain ⟨rfl, rfl⟩ := hr
      exact hQ a w hs
    | cons x r =>
      exfalso
      have hx : x.i < ops.size := hlt x.i (by simp)
      have hxl : listed.getD x.i true = false := (hmem x.i hx).2 (by simp)
      have hgd : ∀ i, i < ops.size → listed.getD i false = listed.getD i true := by
        intro i hi
        rw [← hsz] at hi
        simp [Array.getD_eq_getD_getElem?, hi]
      have hox : ops.toList[x.i]? = some ops[x.i] := by rw [Array.getElem?_toList]; exact Array.getElem?_eq_getElem hx
      obtain ⟨y, hy, hyl, hye⟩ := topo_prog hmd (fun j => listed.getD j false) (by simp) ⟨(0 + x.i, edgesIn md ops[x.i]), numbered_mem (by simp [hox]), by simp only [Nat.zero_add]; rw [hgd x.i hx]; exact hxl⟩
      obtain ⟨j, hj1, hj2⟩ := mem_numbered hy
      rw [Nat.zero_add] at hj1
      simp only [List.getElem?_map, Option.map_eq_some_iff, Array.getElem?_toList] at hj2
      obtain ⟨oj, hoj, hedge⟩ := hj2
      have hjlt : j < ops.size := (Array.getElem?_eq_some_iff.1 hoj).1
      have : j ∈ Region.ready md ops listed := by
        rw [mem_ready]
        refine ⟨hjlt, ?_, oj, hoj, fun k hk => hye k (by rw [← hedge]; exact hk)⟩
        rw [← hgd j hjlt, ← hj1]
        exact hyl
      rw [hnil] at this
      cases this
  intro fuel
  induction fuel with
  | zero =>
    intro listed st Γ S a w hr hs hpw hnd hsz hmem hlt hclo hlen
    have hst : st = [] := List.eq_nil_of_length_eq_zero (by omega)
    have hnil : Region.ready md ops listed = [] := by
      apply List.eq_nil_iff_forall_not_mem.2
      intro i hi
      obtain ⟨h1, h2, _⟩ := mem_ready.1 hi
      have := (hmem i h1).1 h2
      rw [hst] at this
      cases this
    exact ⟨hnil, done listed st Γ S a w hr hs hsz hmem hlt hnil⟩
  | succ fuel ih =>
    intro listed st Γ S a w hr hs hpw hnd hsz hmem hlt hclo hlen
    refine ⟨done listed st Γ S a w hr hs hsz hmem hlt, ?_⟩
    intro i hi
    obtain ⟨h1, h2, o, ho, h3⟩ := mem_ready.1 hi
    have him := (hmem i h1).1 h2
    obtain ⟨x, hx, rfl⟩ := List.mem_map.1 him
    obtain ⟨pre, post, rfl⟩ := List.append_of_mem hx
    have hgd : ∀ i, i < ops.size → listed.getD i false = listed.getD i true := by
      intro i hi
      rw [← hsz] at hi
      simp [Array.getD_eq_getD_getElem?, hi]
    have hclx : ∀ j ∈ cl.getD x.i [], listed.getD j false = true := by
      intro j hj
      rcases hcl x.i o ho j hj with h | ⟨k, hk, h⟩
      · exact h3 j (directs_edges h)
      · exact hclo k (h3 k (directs_edges hk)) j h
    have hind : ∀ y ∈ pre, indep y x = true := by
      intro y hy
      have hpw2 := (List.pairwise_append.1 hpw).2.2 y hy x List.mem_cons_self
      rcases hpw2 with h | h
      · exfalso
        have hyl := hclx y.i h
        have hym : y.i ∈ (pre ++ x :: post).map fun s => s.i := List.mem_map.2 ⟨y, List.mem_append_left _ hy, rfl⟩
        have hy2 := hlt y.i hym
        rw [hgd y.i hy2, (hmem y.i hy2).2 hym] at hyl
        cases hyl
      · exact h
    obtain ⟨b1, b2, b3, S1, b4, b5⟩ := bubble hr hind
    have hnd2 : x.i ∉ (pre ++ post).map fun s => s.i := by
      rw [List.map_append, List.map_cons] at hnd
      obtain ⟨_, q2, q3⟩ := List.pairwise_append.1 hnd
      rw [List.map_append, List.mem_append]
      rintro (h | h)
      · exact q3 _ h _ List.mem_cons_self rfl
      · exact (List.nodup_cons.1 q2).1 h
    have hxlt : x.i < listed.size := by rw [hsz]; exact h1
    refine gop_ok hc hs b1 b2 b4 fun a' w' s' => ?_
    refine ih _ (pre ++ post) _ _ a' w' b5 s' ?_ ?_ (by simpa using hsz) ?_ ?_ ?_ ?_
    · exact hpw.sublist (List.Sublist.append (List.Sublist.refl _) (List.sublist_cons_self _ _))
    · refine hnd.sublist (List.Sublist.map _ (List.Sublist.append (List.Sublist.refl _) (List.sublist_cons_self _ _)))
    · intro j hj
      by_cases hjx : j = x.i
      · subst hjx
        constructor
        · intro h
          simp [Array.getD_eq_getD_getElem?, Array.getElem?_setIfInBounds, hxlt] at h
        · intro h
          exact absurd h hnd2
      · have e : (listed.setIfInBounds x.i true).getD j true = listed.getD j true := by
          simp [Array.getD_eq_getD_getElem?, Array.getElem?_setIfInBounds, Ne.symm hjx]
        rw [e, hmem j hj]
        simp only [List.map_append, List.map_cons, List.mem_append, List.mem_cons]
        constructor
        · rintro (h | h | h)
          · exact .inl h
          · exact absurd h hjx
          · exact .inr h
        · rintro (h | h)
          · exact .inl h
          · exact .inr (.inr h)
    · intro j hj
      refine hlt j ?_
      simp only [List.map_append, List.map_cons, List.mem_append, List.mem_cons] at hj ⊢
      rcases hj with h | h
      · exact .inl h
      · exact .inr (.inr h)
    · have hset : ∀ j, (listed.setIfInBounds x.i true).getD j false = true ↔ (j = x.i ∨ listed.getD j false = true) := by
        intro j
        by_cases hjx : j = x.i
        · subst hjx
          simp [Array.getD_eq_getD_getElem?, Array.getElem?_setIfInBounds, hxlt]
        · simp [Array.getD_eq_getD_getElem?, Array.getElem?_setIfInBounds, Ne.symm hjx, hjx]
      intro k hk j hj
      rw [hset] at hk ⊢
      rcases hk with rfl | hk
      · exact .inr (hclx j hj)
      · exact .inr (hclo k hk j hj)
    · simp only [List.length_append, List.length_cons] at hlen ⊢
      omega
theorem region_ok {I : FInfo} (hc : CallOk I sem) {G0 : Gh} {w0 : World} {id : Nat} {ops : Array Oper} {draw : Bool} {k : SEnv → Option PC} {R : Type} {fin : List Univ → Option R} {K : Nat} {ρ : List (List Univ → Option R)} {r : R} {pc : PC}
    (hg : genOps I ops ops.toList k Γ = some pc) (hd : den sem fin K ρ pc S = some r) (hdraw : draw = true → drawChk I ops Γ = true) (hs : Sim I bs G0 w0 Γ S a w) {Q : Exit → Act → World → Prop}
    (hQ : ∀ Γ' S' pc' a' w', k Γ' = some pc' → den sem fin K ρ pc' S' = some r → Sim I bs G0 w0 Γ' S' a' w' → Q .normal a' w') : (Code.region id ops draw).wp I.P Q a w := by
  obtain ⟨st, Γ', S', pc', h1, h2, h3, h4, h5⟩ := genOps_run (i := 0) (by simp) hg hd
  have hQ' : ∀ a w, Sim I bs G0 w0 Γ' S' a w → Q .normal a w := fun a' w' s => hQ Γ' S' pc' a' w' h4 h5 s
  cases draw with
  | false =>
    refine wp_region ?_
    have := run_inOrder hc hQ' h3 hs
    rw [h2] at this
    rw [List.range_eq_range']
    simpa using this
  | true =>
    have hk := hdraw rfl
    unfold drawChk at hk
    rw [h1] at hk
    simp only [Bool.and_eq_true] at hk
    obtain ⟨⟨⟨k1, k2⟩, k3⟩, k4⟩ := hk
    have hi : st.map (fun s => s.i) = List.range ops.size := by rw [h2, List.range_eq_range']; simp
    have main : ∀ md, topoChk md ops = true → wpAny I.P md ops Q ops.size (Array.replicate ops.size false) a { w with drawn := w.drawn + 1 } := by
      intro md hmd
      refine run_any hc hQ' hmd (cl := closures [] ops.toList) ?_ ops.size _ st Γ S a _ h3 hs.drew (drawOk_pairwise k1) ?_ (by simp) ?_ ?_ ?_ ?_
      · intro i o ho j hj
        have := closures_ok ops.toList [] i o (by rw [Array.getElem?_toList]; exact ho) j
        simp only [List.length_nil, Nat.zero_add] at this
        exact this hj
      · rw [hi]; exact List.nodup_range
      · intro i hil
        rw [hi]
        simp [Array.getD_eq_getD_getElem?, hil]
      · intro i him
        rw [hi] at him
        exact List.mem_range.1 him
      · intro k hk
        rw [Array.getD_eq_getD_getElem?] at hk
        by_cases hks : k < ops.size
        · simp [hks] at hk
        · simp [hks] at hk
      · have := congrArg List.length hi
        simp only [List.length_map, List.length_range] at this
        omega
    refine wp_region_draw fun t => ?_
    unfold Region.schedule
    split
    · exact wpAny_sound ops.size t _ a _ (main .any k2)
    · split
      · exact wpAny_sound ops.size (t / 2) _ a _ (main .text k3)
      · exact wpAny_sound ops.size (t / 2) _ a _ (main .gc k4)
end Go.Proofs.Fw
set_option linter.unusedVariables false
set_option linter.unusedSimpArgs false
namespace Go.Proofs.Fw
variable {P : Program} {Γ : SEnv} {S : PSt} {G : Gh} {w : World} {N : Nat} {a : Act} {gd : Option (Nat × Bool)} {gs : List (Nat × Bool)} {o : Oper} {bs : List (Nat × Nat)} {d : Nat} {sem : CSem} {us : List (Nat × Univ)} {Np : Nat}
theorem least {p : Nat → Prop} (h : ∃ n, p n) : ∃ n, p n ∧ ∀ m, p m → n ≤ m := by
  obtain ⟨n, hn⟩ := h
  induction n using Nat.strongRecOn with
  | _ n ih =>
    by_cases hm : ∃ m, m < n ∧ p m
    · obtain ⟨m, h1, h2⟩ := hm
      exact ih m h1 h2
    · refine ⟨n, hn, fun m h => Nat.le_of_not_lt fun hlt => hm ⟨m, hlt, h⟩⟩
theorem wp_loop_fuel {c : Code} {Q : Exit → Act → World → Prop} (I : Nat → Act → World → Prop) (round : ∀ n a w, I n a w → c.wp P (Exit.then (fun a' w' => ∃ m, m < n ∧ I m a' w') Q) a w) {n : Nat} (h : I n a w) :
    (Code.loop c).wp P Q a w := by
  classical
  let μ : Act → World → Nat := fun a w => if h : ∃ n, I n a w then Classical.choose (least h) else 0
  have hspec : ∀ a w (h : ∃ n, I n a w), I (μ a w) a w ∧ ∀ m, I m a w → μ a w ≤ m := by
    intro a w h
    have e : μ a w = Classical.choose (least h) := dif_pos h
    rw [e]
    exact Classical.choose_spec (least h)
  refine wp_loop (fun a w => ∃ n, I n a w) μ ⟨n, h⟩ ?_
  intro a w hI
  obtain ⟨h1, h2⟩ := hspec a w hI
  refine wp_mono (round _ a w h1) ?_
  intro e a' w' hq
  cases e with
  | normal =>
    obtain ⟨m, hm, hI'⟩ := hq
    exact ⟨⟨m, hI'⟩, Nat.lt_of_le_of_lt ((hspec a' w' ⟨m, hI'⟩).2 m hI') hm⟩
  | _ => exact hq
theorem frzOf_soft : ∀ {ws : List Wr1} {x : Wr1}, x ∈ frzOf Γ ws → ∃ l, x = .soft l .val ∧ (Γ l).tag = .own ∧ (Γ l).gd = none
  | [], x, h => by cases h
  | .hard l e :: r, x, h => frzOf_soft (ws := r) h
  | .soft l t :: r, x, h => by
    cases t with
    | val =>
      simp only [frzOf] at h
      split at h
      · rename_i hc
        simp only [Bool.and_eq_true, decide_eq_true_eq, Option.isNone_iff_eq_none] at hc
        rcases List.mem_cons.1 h with rfl | h
        · exact ⟨l, rfl, hc.1.1, hc.1.2⟩
        · exact frzOf_soft h
      · exact frzOf_soft h
    | _ => exact frzOf_soft (ws := r) h
theorem soft_only {ws : List Wr1} (h : ∀ x ∈ ws, ∃ l, x = Wr1.soft l .val) : (∀ l, isHard ws l = false) ∧ hardsIn none ws = true ∧ varsOk Np ws = true ∧ ∀ l t, Wr1.soft l t ∈ ws → sfind ws l = some .val := by
  induction ws with
  | nil => exact ⟨fun _ => rfl, rfl, rfl, by intro l t h; cases h⟩
  | cons x r ih =>
    obtain ⟨l0, rfl⟩ := h x List.mem_cons_self
    obtain ⟨i1, i2, i3, i4⟩ := ih fun y hy => h y (List.mem_cons_of_mem _ hy)
    refine ⟨i1, i2, i3, ?_⟩
    intro l t hm
    simp only [sfind]
    by_cases hl : l0 = l
    · simp [hl]
    · rw [if_neg (by simpa using hl)]
      rcases List.mem_cons.1 hm with hm | hm
      · injection hm with h1; exact absurd h1.symm hl
      · exact i4 l t hm
theorem frz_sim {I : FInfo} {G0 : Gh} {w0 : World} (s : Sim I bs G0 w0 Γ S a w) (ws0 : List Wr1) : Sim I bs G0 w0 (app (frzOf Γ ws0) Γ) S a w := by
  obtain ⟨G, hR, hT, hb, hf⟩ := s.ex
  generalize hws : frzOf Γ ws0 = ws
  have hfr : ∀ x ∈ ws, ∃ l, x = Wr1.soft l .val ∧ (Γ l).tag = .own ∧ (Γ l).gd = none := by
    intro x hx
    rw [← hws] at hx
    exact frzOf_soft hx
  obtain ⟨hnh, hin, hvo, hsf⟩ := soft_only (Np := I.Np) (ws := ws) fun x hx => by obtain ⟨l, h, _⟩ := hfr x hx; exact ⟨l, h⟩
  have hof : G.Ow w.heap.size = .foreign := hR.new _ (Nat.le_refl _)
  let ρ : Nat → Option Owner := fun m => if sfind ws m = some .val then some .imm else none
  refine ⟨⟨{ V := G.V, Ow := fun b => ren ρ (G.Ow b), B := G.B }, ?_, ?_, hb.step hvo, hf.trans ?_⟩⟩
  · refine HRel.mod2 (ρ := ρ) hR w.heap.size (fun _ _ => rfl) (fun _ _ => rfl) (fun _ _ => rfl) (fun _ _ _ => ⟨rfl, rfl⟩) ?_ (by rw [hof]; simp) (by rw [hof]; simp) (by rw [hof]; simp) (by rw [hof]; simp) (fun _ _ _ _ _ _ _ => rfl) ?_ ?_ ?_ ?_ ?_
    · intro m o' h
      by_cases hs : sfind ws m = some .val
      · simp [isDom, hs]
      · have : ρ m = none := if_neg hs
        rw [this] at h
        cases h
    · intro l e he _
      obtain ⟨_, h, _⟩ := hfr _ he
      cases h
    · intro l e n he
      obtain ⟨_, h, _⟩ := hfr _ he
      cases h
    · intro l e n he
      obtain ⟨_, h, _⟩ := hfr _ he
      cases h
    · intro l t ht hlive
      obtain ⟨l', h, htag, _⟩ := hfr _ ht
      injection h with h1 h2
      subst h1 h2
      have hL := hR.lok l hlive
      rw [htag] at hL
      obtain ⟨t1, xs, h1, h2⟩ := hL
      show Rep w _ (G.V l) (S l)
      rw [h1]
      refine h2.frz (fun b hb => ⟨rfl, by simp [hb, ren]⟩) (fun b hb => ⟨rfl, ?_⟩)
      have : ρ l = some .imm := if_pos (hsf l _ ht)
      simp [hb, ren, this]
    · intro k hk
      show ren _ (G.Ow k) = _
      rw [hR.new k hk]
      rfl
  · exact TRel.step2 (dst := none) (v := undef) hT hin (fun _ _ => rfl) (fun _ _ => rfl) (fun _ _ _ => .inl rfl) (by intro d h; cases h)
  · exact Fr.mod (ρ := ρ) (dst := none) hR hb w.heap.size hin (by intro d h; cases h) hvo (fun _ _ => rfl) (fun _ _ => rfl) (fun _ _ _ => ⟨rfl, rfl⟩) rfl rfl rfl (Nat.le_refl _) (by rw [hof]; simp) (by rw [hof]; simp) (fun h => absurd h (Nat.lt_irrefl _)) (fun q _ _ h => by rw [hof] at h; cases h)
theorem regEnv_sim {I : FInfo} {G0 : Gh} {w0 : World} {ops : Array Oper} {draw : Bool} {Γ' : SEnv} (s : Sim I bs G0 w0 Γ S a w) (h : regEnv I ops draw Γ = some Γ') : Sim I bs G0 w0 Γ' S a w ∧ (draw = true → drawChk I ops Γ' = true) := by
  cases draw with
  | false =>
    have h := Option.some.inj h
    subst h
    exact ⟨s, by intro h; cases h⟩
  | true =>
    simp only [regEnv] at h
    split at h
    · rename_i hk
      have h := Option.some.inj h
      subst h
      exact ⟨s, fun _ => hk⟩
    · rw [Option.bind_eq_some_iff] at h
      obtain ⟨l, _, h⟩ := h
      split at h
      · rename_i hk
        have h := Option.some.inj h
        subst h
        exact ⟨frz_sim s _, fun _ => hk⟩
      · cases h
end Go.Proofs.Fw
set_option linter.unusedVariables false
set_option linter.unusedSimpArgs false
namespace Go.Proofs.Fw
variable {P : Program} {Γ : SEnv} {S : PSt} {G : Gh} {w : World} {N : Nat} {a : Act} {gd : Option (Nat × Bool)} {gs : List (Nat × Bool)} {o : Oper} {bs : List (Nat × Nat)} {d : Nat} {sem : CSem} {us : List (Nat × Univ)} {Np : Nat}
structure Mv1 (Γ : SEnv) (e : LE) (y : List (Nat × Src) × List Wr1) : Prop where
  gd : (Γ e.l).gd = none
  sh : (Γ e.l).sh = e.sh ∨ e.sh = none
  tag : (y = ([], []) ∧ (e.tag = .dead ∨ ((Γ e.l).tag = e.tag ∧ ((∃ m, e.tag = .al m) ∨ (∃ b o, e.tag = .ptr b o) ∨ ∃ f c, e.tag = .clo f c)))) ∨
    ∃ m t, (res [] 6 e.l).run Γ = some (m, t) ∧ y.1 = [(e.l, .loc m)] ∧
      (((e.tag = .val ∨ e.tag = .rd) ∧ (t = .val ∧ y.2 = [] ∨ t = .own ∧ y.2 = [.soft m .val])) ∨
       (e.tag = .rd ∧ t = .rd ∧ y.2 = []) ∨
       (e.tag = .own ∧ t = .own ∧ y.2 = [.soft m (.al e.l)]))
theorem moveTo1_ok {e : LE} {y : List (Nat × Src) × List Wr1} (h : (moveTo1 e).run Γ = some y) : Mv1 Γ e y := by
  unfold moveTo1 at h
  simp only [Rd.run] at h
  split at h
  · cases h
  rename_i hgd
  split at h
  · cases h
  rename_i hsh
  simp only [Bool.or_eq_true, decide_eq_true_eq, Option.isNone_iff_eq_none] at hsh
  refine ⟨hgd, hsh, ?_⟩
  split at h
  · rename_i ht
    have h := run_ret h
    subst h
    exact .inl ⟨rfl, .inl (of_decide_eq_true ht)⟩
  · rename_i ht he _
    have h := run_ret h
    subst h
    exact .inl ⟨rfl, .inr ⟨of_decide_eq_true ht, .inl ⟨_, he⟩⟩⟩
  · rename_i ht he _
    have h := run_ret h
    subst h
    exact .inl ⟨rfl, .inr ⟨of_decide_eq_true ht, .inr (.inl ⟨_, _, he⟩)⟩⟩
  · rename_i ht he _
    have h := run_ret h
    subst h
    exact .inl ⟨rfl, .inr ⟨of_decide_eq_true ht, .inr (.inr ⟨_, _, he⟩)⟩⟩
  · rename_i he _
    obtain ⟨⟨m, t⟩, h1, h⟩ := Rd.run_bind h
    simp only at h
    split at h
    · have h := run_ret h
      subst h
      exact .inr ⟨m, _, h1, rfl, .inl ⟨.inl he, .inl ⟨rfl, rfl⟩⟩⟩
    · have h := run_ret h
      subst h
      exact .inr ⟨m, _, h1, rfl, .inl ⟨.inl he, .inr ⟨rfl, rfl⟩⟩⟩
    · cases h
  · rename_i he _
    obtain ⟨⟨m, t⟩, h1, h⟩ := Rd.run_bind h
    simp only at h
    split at h
    · have h := run_ret h
      subst h
      exact .inr ⟨m, _, h1, rfl, .inl ⟨.inr he, .inl ⟨rfl, rfl⟩⟩⟩
    · have h := run_ret h
      subst h
      exact .inr ⟨m, _, h1, rfl, .inr (.inl ⟨he, rfl, rfl⟩)⟩
    · have h := run_ret h
      subst h
      exact .inr ⟨m, _, h1, rfl, .inl ⟨.inr he, .inr ⟨rfl, rfl⟩⟩⟩
    · cases h
  · rename_i he _
    obtain ⟨⟨m, t⟩, h1, h⟩ := Rd.run_bind h
    simp only at h
    split at h
    · have h := run_ret h
      subst h
      exact .inr ⟨m, _, h1, rfl, .inr (.inr ⟨he, rfl, rfl⟩)⟩
    · cases h
  · cases h
theorem softOwn_mem {ws : List Wr1} {m l : Nat} (h : Wr1.soft m (.al l) ∈ ws) : m ∈ softOwn ws := by
  induction ws with
  | nil => cases h
  | cons x r ih =>
    rcases List.mem_cons.1 h with h2 | h2
    · subst h2; simp [softOwn]
    · have h3 := ih h2
      clear h ih
      cases x with
      | hard _ _ => exact h3
      | soft l' t => cases t <;> simp [softOwn, h3]
theorem softOwn_inj {ws : List Wr1} {m l l' : Nat} (hn : (softOwn ws).Nodup) (h : Wr1.soft m (.al l) ∈ ws) (h' : Wr1.soft m (.al l') ∈ ws) : l = l' := by
  induction ws with
  | nil => cases h
  | cons x r ih =>
    cases x with
    | hard _ _ =>
      rcases List.mem_cons.1 h with h | h
      · cases h
      rcases List.mem_cons.1 h' with h' | h'
      · cases h'
      exact ih hn h h'
    | soft k t =>
      rcases List.mem_cons.1 h with h2 | h2
      · injection h2 with e1 e2
        subst e1 e2
        rcases List.mem_cons.1 h' with h3 | h3
        · injection h3 with _ e3
          injection e3 with e3
          exact e3.symm
        · exact absurd (softOwn_mem h3) (List.nodup_cons.1 hn).1
      · rcases List.mem_cons.1 h' with h3 | h3
        · injection h3 with e1 e2
          subst e1 e2
          exact absurd (softOwn_mem h2) (List.nodup_cons.1 hn).1
        · refine ih ?_ h2 h3
          cases t <;> first | exact hn | exact (List.nodup_cons.1 hn).2
theorem sfind_isSome {ws : List Wr1} {m : Nat} {t : LTag} (h : Wr1.soft m t ∈ ws) : ∃ t', sfind ws m = some t' := by
  induction ws with
  | nil => cases h
  | cons x r ih =>
    cases x with
    | hard _ _ =>
      rcases List.mem_cons.1 h with h | h
      · cases h
      exact ih h
    | soft k t' =>
      simp only [sfind]
      by_cases hk : k = m
      · exact ⟨t', by simp [hk]⟩
      · rcases List.mem_cons.1 h with h | h
        · injection h with e1; exact absurd e1.symm hk
        · obtain ⟨t2, h2⟩ := ih h
          exact ⟨t2, by simp [hk, h2]⟩
theorem upds_zip : ∀ {ps : List Nat} {vals : List Univ} {S0 : PSt} {l : Nat} {u : Univ}, ps.length = vals.length → l ∈ ps → (∀ i : Nat, ps[i]? = some l → vals[i]? = some u) → upds S0 (ps.zip vals) l = u
  | [], _, _, _, _, _, h, _ => by cases h
  | p :: r, [], _, _, _, h, _, _ => by cases h
  | p :: r, v :: vs, S0, l, u, hlen, hm, hall => by
    simp only [List.zip_cons_cons, upds]
    by_cases hr : l ∈ r
    · exact upds_zip (by simpa using hlen) hr fun i hi => by simpa using hall (i + 1) (by simpa using hi)
    · have hp : l = p := by
        rcases List.mem_cons.1 hm with h | h
        · exact h
        · exact absurd h hr
      subst hp
      rw [upds_not]
      · have := hall 0 rfl
        simp at this
        simp [this]
      · intro h
        obtain ⟨x, hx, e⟩ := List.mem_map.1 h
        have := (List.of_mem_zip hx).1
        rw [e] at this
        exact hr this
theorem mapM_get {α β : Type} {f : α → Option β} : ∀ {l : List α} {ys : List β}, l.mapM f = some ys → ys.length = l.length ∧ ∀ (j : Nat) (x : α), l[j]? = some x → ∃ y : β, ys[j]? = some y ∧ f x = some y
  | [], ys, h => by
    simp at h
    subst h
    exact ⟨rfl, by intro j x h; cases h⟩
  | a :: r, ys, h => by
    rw [List.mapM_cons] at h
    simp only [Option.bind_eq_bind, Option.bind_eq_some_iff] at h
    obtain ⟨y, h1, ys', h2, h⟩ := h
    have h := Option.some.inj h
    subst h
    obtain ⟨i1, i2⟩ := mapM_get h2
    refine ⟨by simp [i1], ?_⟩
    intro j x hx
    cases j with
    | zero =>
      simp only [List.getElem?_cons_zero, Option.some.injEq] at hx
      subst hx
      exact ⟨y, rfl, h1⟩
    | succ j => exact i2 j x (by simpa using hx)
theorem mkS_get {ps : List Nat} {mv : List (Nat × Src)} {ss : List Src} (h : srcsFor ps mv = some ss) {l : Nat} {s : Src} (hm : (l, s) ∈ mv) (hu : ∀ s', (l, s') ∈ mv → s' = s) : mkS ps (ss.map fun s => s.get S) l = s.get S := by
  unfold srcsFor at h
  split at h
  case h_2 => cases h
  rename_i hall
  obtain ⟨h1, h2⟩ := mapM_get h
  have hl : l ∈ ps := by
    have := List.all_eq_true.1 hall _ hm
    simp only [List.any_eq_true] at this
    obtain ⟨p, hp, e⟩ := this
    rw [Nat.eq_of_beq_eq_true e]
    exact hp
  refine upds_zip (by simp [h1]) hl ?_
  intro i hi
  obtain ⟨y, hy, hf⟩ := h2 i l hi
  simp only [Option.map_eq_some_iff] at hf
  obtain ⟨x, hx, e⟩ := hf
  have hxl := List.find?_some hx
  have hxm := List.mem_of_find?_eq_some hx
  have hxe := Nat.eq_of_beq_eq_true hxl
  have := hu x.2 (by rw [← hxe]; exact hxm)
  simp [hy, ← e, this]
theorem envOf_cases (es : List LE) (l : Nat) : (envOf es l = deadGC) ∨ ∃ e ∈ es, e.l = l ∧ envOf es l = ⟨e.tag, e.sh, none⟩ := by
  unfold envOf
  cases h : es.find? (fun e => Nat.beq e.l l) with
  | none => exact .inl rfl
  | some e => exact .inr ⟨e, List.mem_of_find?_eq_some h, by have := List.find?_some h; exact Nat.eq_of_beq_eq_true this, rfl⟩
theorem inj_of_nodup_map {α : Type} {f : α → Nat} : ∀ {l : List α}, (l.map f).Nodup → ∀ {x y : α}, x ∈ l → y ∈ l → f x = f y → x = y
  | [], _, x, _, h, _, _ => by cases h
  | a :: r, hn, x, y, hx, hy, e => by
    rw [List.map_cons, List.nodup_cons] at hn
    obtain ⟨h1, h2⟩ := hn
    rcases List.mem_cons.1 hx with hx2 | hx2
    · rcases List.mem_cons.1 hy with hy2 | hy2
      · rw [hx2, hy2]
      · exact absurd (List.mem_map.2 ⟨y, hy2, by rw [← e, hx2]⟩) h1
    · rcases List.mem_cons.1 hy with hy2 | hy2
      · exact absurd (List.mem_map.2 ⟨x, hx2, by rw [e, hy2]⟩) h1
      · exact inj_of_nodup_map h2 hx2 hy2 e
def rhoMv (sf : List Wr1) (m : Nat) : Option Owner := match sfind sf m with
  | some .val => some .imm
  | some (.al l) => some (.loc l)
  | _ => none
theorem move_sim {I : FInfo} {G0 : Gh} {w0 : World} (s : Sim I bs G0 w0 Γ S a w) {es : List LE} {mv : List (Nat × Src)} (h : (moveTo es).run Γ = some mv) {ps : List Nat} {ss : List Src} (hss : srcsFor ps mv = some ss) :
    Sim I bs G0 w0 (envOf es) (mkS ps (ss.map fun s => s.get S)) a w := by
  obtain ⟨G, hR, hT, hb, hf⟩ := s.ex
  unfold moveTo at h
  obtain ⟨_, h0, h⟩ := Rd.run_bind h
  have hnd := nodupN_nodup (Rd.run_must h0)
  obtain ⟨ys, h1, h⟩ := Rd.run_bind h
  obtain ⟨_, h2, h⟩ := Rd.run_bind h
  have h2 := Rd.run_must h2
  simp only [Bool.and_eq_true] at h2
  obtain ⟨h2a, h2b⟩ := h2
  have hmv := run_ret h
  clear h
  obtain ⟨sf, hsf⟩ : ∃ sf, (ys.flatMap fun y => y.2) = sf := ⟨_, rfl⟩
  rw [hsf] at h2a h2b
  have hso := nodupN_nodup h2a
  obtain ⟨hlen, hget⟩ := mapRd_run h1
  have hone : ∀ e ∈ es, ∃ y, y ∈ ys ∧ (moveTo1 e).run Γ = some y ∧ Mv1 Γ e y := by
    intro e he
    obtain ⟨j, hj⟩ := List.mem_iff_getElem?.1 he
    obtain ⟨y, hy, hr⟩ := hget j e hj
    exact ⟨y, List.mem_of_getElem? hy, hr, moveTo1_ok hr⟩
  have hback : ∀ y ∈ ys, ∃ e ∈ es, (moveTo1 e).run Γ = some y := by
    intro y hy
    obtain ⟨j, hj⟩ := List.mem_iff_getElem?.1 hy
    have hjl : j < es.length := by
      have := (List.getElem?_eq_some_iff.1 hj).1
      omega
    obtain ⟨y', hy', hr⟩ := hget j es[j] (List.getElem?_eq_getElem hjl)
    rw [hj] at hy'
    injection hy' with hy'
    subst hy'
    exact ⟨es[j], List.getElem_mem hjl, hr⟩
  have hform : ∀ x ∈ sf, (∃ m, x = Wr1.soft m .val) ∨ ∃ m l, x = Wr1.soft m (.al l) := by
    intro x hx
    rw [← hsf] at hx
    obtain ⟨y, hy, hxy⟩ := List.mem_flatMap.1 hx
    obtain ⟨e, _, hr⟩ := hback y hy
    rcases (moveTo1_ok hr).tag with ⟨rfl, _⟩ | ⟨m, t, _, _, h3⟩
    · cases hxy
    · rcases h3 with ⟨_, ⟨_, h4⟩ | ⟨_, h4⟩⟩ | ⟨_, _, h4⟩ | ⟨_, _, h4⟩ <;> rw [h4] at hxy
      · cases hxy
      · exact .inl ⟨m, List.mem_singleton.1 hxy⟩
      · cases hxy
      · exact .inr ⟨m, _, List.mem_singleton.1 hxy⟩
  have hexcl : ∀ m l, Wr1.soft m (.al l) ∈ sf → Wr1.soft m .val ∉ sf := by
    intro m l hm hv
    have := List.all_eq_true.1 h2b m (softLocs_mem hm)
    simp only [Bool.or_eq_true, Bool.not_eq_true'] at this
    rcases this with this | this
    · have h3 := softOwn_mem hm
      rw [← List.contains_iff_mem] at h3
      rw [h3] at this
      cases this
    · have := List.all_eq_true.1 this _ hv
      simp at this
  have hfv : ∀ m, Wr1.soft m .val ∈ sf → rhoMv sf m = some .imm := by
    intro m hm
    obtain ⟨t, ht⟩ := sfind_isSome hm
    rcases hform _ (sfind_some ht) with ⟨m', e⟩ | ⟨m', l, e⟩
    · injection e with e1 e2
      subst e1 e2
      simp [rhoMv, ht]
    · injection e with e1 e2
      subst e1 e2
      exact absurd hm (hexcl _ _ (sfind_some ht))
  have hfa : ∀ m l, Wr1.soft m (.al l) ∈ sf → rhoMv sf m = some (.loc l) := by
    intro m l hm
    obtain ⟨t, ht⟩ := sfind_isSome hm
    rcases hform _ (sfind_some ht) with ⟨m', e⟩ | ⟨m', l', e⟩
    · injection e with e1 e2
      subst e1 e2
      exact absurd (sfind_some ht) (hexcl _ _ hm)
    · injection e with e1 e2
      subst e1 e2
      have := softOwn_inj hso hm (sfind_some ht)
      subst this
      simp [rhoMv, ht]
  have hval : ∀ e ∈ es, ∀ y, (moveTo1 e).run Γ = some y → ∀ m, y.1 = [(e.l, Src.loc m)] → mkS ps (ss.map fun s => s.get S) e.l = S m := by
    intro e he y hr m hy1
    obtain ⟨y', hy', hr', _⟩ := hone e he
    rw [hr] at hr'
    injection hr' with hr'
    subst hr'
    have hmem : (e.l, Src.loc m) ∈ mv := by
      rw [← hmv]
      exact List.mem_flatMap.2 ⟨y, hy', by rw [hy1]; exact List.mem_singleton.2 rfl⟩
    refine mkS_get (S := S) hss hmem ?_
    intro s' hs'
    rw [← hmv] at hs'
    obtain ⟨y2, hy2, hs2⟩ := List.mem_flatMap.1 hs'
    obtain ⟨e2, he2, hr2⟩ := hback y2 hy2
    have hk : e2.l = e.l := by
      rcases (moveTo1_ok hr2).tag with ⟨rfl, _⟩ | ⟨m2, t2, _, h3, _⟩
      · cases hs2
      · rw [h3] at hs2
        have := List.mem_singleton.1 hs2
        injection this with e1 _
        exact e1.symm
    have := inj_of_nodup_map hnd he2 he hk
    subst this
    rw [hr] at hr2
    injection hr2 with hr2
    subst hr2
    rw [hy1] at hs2
    have := List.mem_singleton.1 hs2
    injection this
  let G' : Gh := { V := G.V, Ow := fun b => ren (rhoMv sf) (G.Ow b), B := G.B }
  have hstill : Still w G.Ow w G'.Ow := fun b hb => ⟨rfl, by show ren _ (G.Ow b) = _; rw [hb]; rfl⟩
  have hrd : ∀ b, G.Ow b = .rd → w.heap[b]? = w.heap[b]? ∧ G'.Ow b = .rd := fun b hb => ⟨rfl, by show ren _ (G.Ow b) = _; rw [hb]; rfl⟩
  have hg0 : GHs [] S := by intro g hg; cases hg
  have hinv : ∀ l, envOf es l ≠ deadGC → ∃ e ∈ es, e.l = l ∧ envOf es l = ⟨e.tag, e.sh, none⟩ ∧ ∃ y, (moveTo1 e).run Γ = some y ∧ Mv1 Γ e y ∧ ∀ x ∈ y.2, x ∈ sf := by
    intro l hl
    rcases envOf_cases es l with h | ⟨e, he, h3, h4⟩
    · exact absurd h hl
    · obtain ⟨y, hy, hr, hm⟩ := hone e he
      exact ⟨e, he, h3, h4, y, hr, hm, fun x hx => by rw [← hsf]; exact List.mem_flatMap.2 ⟨y, hy, hx⟩⟩
  have hshe : ∀ l sh, (envOf es l).sh = some sh → (Γ l).sh = some sh ∧ (Γ l).gd = none ∧ (envOf es l).gd = none := by
    intro l sh hl
    have hne : envOf es l ≠ deadGC := by intro e; rw [e] at hl; cases hl
    obtain ⟨e, _, rfl, h4, y, _, hm, _⟩ := hinv l hne
    rw [h4] at hl ⊢
    simp only at hl
    refine ⟨?_, hm.gd, rfl⟩
    rcases hm.sh with h5 | h5
    · rw [h5]; exact hl
    · rw [h5] at hl; cases hl
  refine ⟨⟨G', ?_, ?_, ?_, hf.trans ?_⟩⟩
  · refine ⟨?_, ?_, ?_, ?_⟩
    · intro l _
      by_cases hne : envOf es l = deadGC
      · rw [hne]; trivial
      obtain ⟨e, he, rfl, h4, y, hr, hm, hsub⟩ := hinv l hne
      rw [h4]
      simp only
      have hlive : live (Γ e.l) S := by intro c b hc; rw [hm.gd] at hc; cases hc
      rcases hm.tag with ⟨_, h5 | ⟨h5, h6⟩⟩ | ⟨m, t, h5, h6, h7⟩
      · rw [h5]; trivial
      · have hL := hR.lok e.l hlive
        rw [h5] at hL
        rcases h6 with ⟨m, e1⟩ | ⟨b, o, e1⟩ | ⟨f, c, e1⟩ <;> rw [e1] at hL ⊢ <;> exact hL
      · obtain ⟨r1, r2, r3, r4, r5, _⟩ := res_ok hR hg0 h5
        have hS' := hval e he y hr m h6
        rcases h7 with ⟨h8, ⟨h9, h10⟩ | ⟨h9, h10⟩⟩ | ⟨h8, h9, h10⟩ | ⟨h8, h9, h10⟩
        · rw [h9] at r4
          have key : Rep w G'.Ow (G'.V e.l) (mkS ps (ss.map fun s => s.get S) e.l) := by
            show Rep w G'.Ow (G.V e.l) _
            rw [r1, hS']
            exact Rep.still hstill r4
          rcases h8 with h8 | h8 <;> rw [h8]
          · exact key
          · exact key.rdv
        · rw [h9] at r4
          obtain ⟨t1, xs, q1, q2⟩ := r4
          have key : Rep w G'.Ow (G'.V e.l) (mkS ps (ss.map fun s => s.get S) e.l) := by
            show Rep w G'.Ow (G.V e.l) _
            rw [r1, hS', q1]
            refine q2.frz hstill (fun b hb => ⟨rfl, ?_⟩)
            have := hfv m (hsub _ (by rw [h10]; exact List.mem_singleton.2 rfl))
            show ren _ (G.Ow b) = _
            simp [hb, ren, this]
          rcases h8 with h8 | h8 <;> rw [h8]
          · exact key
          · exact key.rdv
        · rw [h9] at r4
          rw [h8]
          show RdV w G'.Ow (G.V e.l) _
          rw [r1, hS']
          exact RdV.still hstill hrd r4
        · rw [h9] at r4
          obtain ⟨t1, xs, q1, q2⟩ := r4
          rw [h8]
          refine ⟨t1, xs, hS'.trans q1, ?_⟩
          show OwnV w G'.Ow e.l (G.V e.l) t1 xs
          rw [r1]
          refine q2.still hstill (fun b hb => ⟨rfl, ?_⟩)
          have := hfa m _ (hsub _ (by rw [h10]; exact List.mem_singleton.2 rfl))
          show ren _ (G.Ow b) = _
          simp [hb, ren, this]
    · intro b n hn
      obtain ⟨k1, k2, k3⟩ := hshe _ _ hn
      obtain ⟨q1, q2⟩ := hR.box b n k1
      exact ⟨by show ren _ (G.Ow _) = _; rw [q1]; rfl, q2⟩
    · intro k hk
      show ren _ (G.Ow k) = _
      rw [hR.new k hk]
      rfl
    · intro b n hn
      exact hR.bsm b n (hshe _ _ hn).1
  · refine ⟨hT.size, ?_, ?_, ?_, hT.defers⟩
    · intro t sh ht hs
      exact hT.small t sh ht (hshe _ _ hs).1
    · intro t sh ht hs _
      obtain ⟨k1, k2, _⟩ := hshe _ _ hs
      exact hT.tmp t sh ht k1 (by intro c b hc; rw [k2] at hc; cases hc)
    · intro t c b ht hg
      exfalso
      rcases envOf_cases es (lc t 0) with h | ⟨e, _, _, h4⟩
      · rw [h] at hg; cases hg
      · rw [h4] at hg; cases hg
  · intro p hp
    obtain ⟨q1, q2, q3⟩ := hb p hp
    exact ⟨q1, q2, fun n hn => q3 n (hshe _ _ hn).1⟩
  · refine ⟨rfl, rfl, rfl, Nat.le_refl _, ?_, fun _ _ _ => rfl, ?_⟩
    · intro b _ ho
      refine ⟨rfl, ?_⟩
      show ren _ (G.Ow b) = _
      rcases ho with ho | ho | ho <;> rw [ho] <;> rfl
    · intro p hp
      refine ⟨rfl, fun ho => ⟨?_, fun _ _ => rfl, fun _ => rfl⟩⟩
      show ren _ (G.Ow _) = _
      rw [ho]
      rfl
end Go.Proofs.Fw
set_option linter.unusedVariables false
set_option linter.unusedSimpArgs false
namespace Go.Proofs.Fw
variable {P : Program} {Γ : SEnv} {S : PSt} {G : Gh} {w : World} {N : Nat} {a : Act} {gd : Option (Nat × Bool)} {gs : List (Nat × Bool)} {o : Oper} {bs : List (Nat × Nat)} {d : Nat} {sem : CSem} {us : List (Nat × Univ)} {Np : Nat}
def KOk {R : Type} (I : FInfo) (sem : CSem) (fin : List Univ → Option R) (K : Nat) (r : R) (bs : List (Nat × Nat)) (G0 : Gh) (w0 : World) (ρ : List (List Univ → Option R)) (f : Nat → SEnv → Option PC) (Post : Act → World → Prop) : Prop :=
  ∀ (ρ' : List (List Univ → Option R)), ρ <+: ρ' → ∀ (Γ : SEnv) (S : PSt) (a : Act) (w : World) (pc : PC), f ρ'.length Γ = some pc → den sem fin K ρ' pc S = some r → Sim I bs G0 w0 Γ S a w → Post a w
theorem KOk.mono {R : Type} {I : FInfo} {fin : List Univ → Option R} {K : Nat} {r : R} {G0 : Gh} {w0 : World} {ρ ρ' : List (List Univ → Option R)} {f : Nat → SEnv → Option PC} {Post : Act → World → Prop}
    (h : KOk I sem fin K r bs G0 w0 ρ f Post) (hp : ρ <+: ρ') : KOk I sem fin K r bs G0 w0 ρ' f Post :=
  fun ρ2 h2 => h ρ2 (hp.trans h2)
theorem refine_same {c : Src} {b : Bool} (h : c.get S = uB b) : refine S c b = S := by
  cases c with
  | loc l => exact setS_same h
  | con u => rfl
theorem cond_val {I : FInfo} {G0 : Gh} {w0 : World} (s : Sim I bs G0 w0 Γ S a w) {c : Operand} {T : TypeId} {x : Src} (h : (rd1 I.P [] T c).run Γ = some x) {b : Bool} (hb : x.get S = uB b) : a.eval c = .bool b := by
  obtain ⟨G, hR, hT, _, _⟩ := s.ex
  have := rd1_ok hR hT (gs := []) (by intro g hg; cases hg) h
  rw [hb] at this
  exact any_bool this
theorem jump_ok {R : Type} {I : FInfo} {fin : List Univ → Option R} {K : Nat} {r : R} {G0 : Gh} {w0 : World} {ρ : List (List Univ → Option R)} {h : Hint} {f : List Univ → Option R} {Post : Act → World → Prop}
    (hpost : ∀ vals a w, f vals = some r → Sim I bs G0 w0 (envOf h.es) (mkS h.ps vals) a w → Post a w) : KOk I sem fin K r bs G0 w0 (ρ ++ [f]) (jumpTo h ρ.length) Post := by
  intro ρ' hp Γ S a w pc hg hd hs
  unfold jumpTo at hg
  rw [Option.bind_eq_some_iff] at hg
  obtain ⟨mv, h1, hg⟩ := hg
  rw [Option.map_eq_some_iff] at hg
  obtain ⟨ss, h2, rfl⟩ := hg
  have hρ : ρ'[ρ.length]? = some f := by
    obtain ⟨t, rfl⟩ := hp
    simp
  simp only [den, hρ] at hd
  exact hpost _ a w hd (move_sim hs h1 h2)
theorem gen_ok {R : Type} {I : FInfo} (hc : CallOk I sem) {fin : List Univ → Option R} {K : Nat} {r : R} {G0 : Gh} {w0 : World} :
    ∀ (c : Code) (κ : Kont) (ρ : List (List Univ → Option R)) (Γ : SEnv) (S : PSt) (a : Act) (w : World) (pc : PC) (Q : Exit → Act → World → Prop),
      gen I c κ ρ.length Γ = some pc → den sem fin K ρ pc S = some r → Sim I bs G0 w0 Γ S a w →
      KOk I sem fin K r bs G0 w0 ρ κ.norm (Q .normal) → (∀ id f, κ.ex.find? (fun x => Nat.beq x.1 id) = some (id, f) → KOk I sem fin K r bs G0 w0 ρ f (Q (.exit id))) →
      (∀ ρ' Γ S a w pc, (genRet I).run Γ = some pc → den sem fin K ρ' pc S = some r → Sim I bs G0 w0 Γ S a w → Q .ret a w) → c.wp I.P Q a w := by
  intro c
  induction c with
  | skip =>
    intro κ ρ Γ S a w pc Q hg hd hs hn hx hr
    exact wp_skip (hn ρ (List.prefix_refl _) Γ S a w pc hg hd hs)
  | label l =>
    intro κ ρ Γ S a w pc Q hg hd hs hn hx hr
    exact wp_label (hn ρ (List.prefix_refl _) Γ S a w pc hg hd hs)
  | region id ops draw =>
    intro κ ρ Γ S a w pc Q hg hd hs hn hx hr
    simp only [gen, Option.bind_eq_some_iff] at hg
    obtain ⟨Γ', h1, h2⟩ := hg
    obtain ⟨s', hdraw⟩ := regEnv_sim hs h1
    refine region_ok hc h2 hd hdraw s' ?_
    intro Γ2 S2 pc2 a2 w2 g2 d2 s2
    exact hn ρ (List.prefix_refl _) Γ2 S2 a2 w2 pc2 g2 d2 s2
  | seq x y ihx ihy =>
    intro κ ρ Γ S a w pc Q hg hd hs hn hx hr
    refine wp_seq ?_
    simp only [gen] at hg
    split at hg
    · refine ihx _ ρ Γ S a w pc _ hg hd hs ?_ ?_ ?_
      · intro ρ' hp Γ2 S2 a2 w2 pc2 g2 d2 s2
        exact ihy κ ρ' Γ2 S2 a2 w2 pc2 Q g2 d2 s2 (hn.mono hp) (fun id f h => (hx id f h).mono hp) hr
      · intro id f h
        exact hx id f h
      · exact hr
    · rename_i h hh
      rw [Option.bind_eq_some_iff] at hg
      obtain ⟨jb, h1, hg⟩ := hg
      rw [Option.map_eq_some_iff] at hg
      obtain ⟨m, h2, rfl⟩ := hg
      simp only [den, joinK] at hd
      have hlen : ρ.length + 1 = (ρ ++ [fun vals => HT.of h.tys vals fun x => den sem fin K ρ jb (mkS h.ps (HT.list h.tys x))]).length := by simp
      rw [hlen] at h2
      refine ihx _ _ Γ S a w m _ h2 hd hs ?_ ?_ ?_
      · refine jump_ok ?_
        intro vals a2 w2 hv s2
        obtain ⟨x, rfl, hv2⟩ := HT.of_some hv
        exact ihy κ ρ _ _ a2 w2 jb Q h1 hv2 s2 hn hx hr
      · intro id f hf
        exact (hx id f hf).mono (List.prefix_append _ _)
      · exact hr
  | cond c x y ihx ihy =>
    intro κ ρ Γ S a w pc Q hg hd hs hn hx hr
    simp only [gen, Option.bind_eq_some_iff, Option.map_eq_some_iff] at hg
    obtain ⟨s, h1, px, h2, py, h3, rfl⟩ := hg
    obtain ⟨b, h4, h5⟩ := bnd_some (show bnd _ _ = some r from hd)
    have hsb : s.get S = uB b := Univ.cast_some h4
    have hv := cond_val hs h1 hsb
    cases b with
    | true =>
      simp only [br, refine_same hsb] at h5
      exact wp_cond_true hv (ihx κ ρ Γ S a w px Q h2 h5 hs hn hx hr)
    | false =>
      simp only [br, refine_same hsb] at h5
      exact wp_cond_false hv (ihy κ ρ Γ S a w py Q h3 h5 hs hn hx hr)
  | block id c ih =>
    intro κ ρ Γ S a w pc Q hg hd hs hn hx hr
    refine wp_block ?_
    simp only [gen] at hg
    refine ih _ ρ Γ S a w pc _ hg hd hs ?_ ?_ ?_
    · exact hn
    · intro id2 f h
      simp only [List.find?_cons] at h
      split at h
      · rename_i e
        have := Nat.eq_of_beq_eq_true e
        subst this
        simp only [Option.some.injEq, Prod.mk.injEq, true_and] at h
        subst h
        have e3 : Exit.inBlock id Q (.exit id) = Q .normal := by funext a w; simp [Exit.inBlock]
        rw [e3]
        exact hn
      · rename_i e
        have hne : id2 ≠ id := fun e2 => by
          subst e2
          simp at e
        have e3 : Exit.inBlock id Q (.exit id2) = Q (.exit id2) := by funext a w; simp [Exit.inBlock, hne]
        rw [e3]
        exact hx id2 f h
    · exact hr
  | loop c ih =>
    intro κ ρ Γ S a w pc Q hg hd hs hn hx hr
    simp only [gen, Option.bind_eq_some_iff, Option.map_eq_some_iff] at hg
    obtain ⟨h, _, mv, h1, init, h2, b, h3, rfl⟩ := hg
    simp only [den] at hd
    obtain ⟨x0, h4, h5⟩ := HT.of_some hd
    have s0 := move_sim hs h1 h2
    rw [h4] at s0
    let F : (HT h.tys → Option R) → HT h.tys → Option R := fun rec x => den sem fin K (ρ ++ [fun vals => HT.of h.tys vals rec]) b (mkS h.ps (HT.list h.tys x))
    refine wp_loop_fuel (fun n a w => ∃ x, loopFix n F x = some r ∧ Sim I bs G0 w0 (envOf h.es) (mkS h.ps (HT.list h.tys x)) a w) ?_ (n := K) ⟨x0, h5, s0⟩
    rintro n a1 w1 ⟨x, hf, s1⟩
    cases n with
    | zero => cases hf
    | succ n =>
      have hlen : ρ.length + 1 = (ρ ++ [fun vals => HT.of h.tys vals (loopFix n F)]).length := by simp
      rw [hlen] at h3
      refine ih _ _ _ _ a1 w1 b _ h3 (show den sem fin K (ρ ++ [fun vals => HT.of h.tys vals (loopFix n F)]) b (mkS h.ps (HT.list h.tys x)) = some r from hf) s1 ?_ ?_ ?_
      · refine jump_ok ?_
        intro vals a2 w2 hv s2
        obtain ⟨x2, rfl, hv2⟩ := HT.of_some hv
        exact ⟨n, Nat.lt_succ_self n, x2, hv2, s2⟩
      · intro id f hf
        exact (hx id f hf).mono (List.prefix_append _ _)
      · exact hr
  | exit id =>
    intro κ ρ Γ S a w pc Q hg hd hs hn hx hr
    refine wp_exit ?_
    simp only [gen] at hg
    split at hg
    · rename_i i f hf
      have hi := List.find?_some hf
      have hi : i = id := Nat.eq_of_beq_eq_true hi
      subst hi
      exact hx i f hf ρ (List.prefix_refl _) Γ S a w pc hg hd hs
    · cases hg
  | ret =>
    intro κ ρ Γ S a w pc Q hg hd hs hn hx hr
    exact wp_ret (hr ρ Γ S a w pc hg hd hs)
  | _ =>
    intro κ ρ Γ S a w pc Q hg
    simp [gen] at hg
end Go.Proofs.Fw
set_option linter.unusedVariables false
set_option linter.unusedSimpArgs false
namespace Go.Proofs.Fw
@[reducible] def tI : Ty := .int .i64
@[reducible] def tB : Ty := .bool
@[reducible] def tS : Ty := .str
@[reducible] def tU : Ty := .int .u8
@[reducible] def wr (n : Int) : Int := IntKind.i64.wrap n
@[reducible] def wb (n : Int) : Int := IntKind.u8.wrap n
def inK {α R : Type} (xs : List α) (n : Int) (k : Option R) : Option R := chk (decide (0 ≤ n)) (chk (decide (n < xs.length)) k)
structure CEnt where
  pt : List Ty
  rt : List Ty
  f : HT pt → Option (HT rt)
theorem HT.of_nat {R R' : Type} : ∀ (ts : List Ty) (us : List Univ) (k : HT ts → Option R) (g : R → Option R'), (HT.of ts us k).bind g = HT.of ts us fun x => (k x).bind g
  | [], [], _, _ => rfl
  | [], _ :: _, _, _ => rfl
  | _ :: _, [], _, _ => rfl
  | t :: ts, u :: us, k, g => by
    show (bnd (u.cast t) _).bind g = bnd (u.cast t) _
    rw [bnd_nat]
    congr 1
    funext x
    exact HT.of_nat ts us _ g
def semOf (tab : List CEnt) : CSem where
  k e args cont := match tab[e]? with
    | some c => HT.of c.pt args fun x => bnd (c.f x) fun y => cont (HT.list c.rt y)
    | none => none
  nat := by
    intro R R' e args f g
    dsimp only
    cases tab[e]? with
    | none => rfl
    | some c =>
      simp only [HT.of_nat, bnd_nat]
def denF (K : Nat) (P : Program) (tab : List CEnt) (es : List Entry) (hs : List Hint) (e : Entry) (pt rt : List Ty) (x : HT pt) : Option (HT rt) :=
  match genF P es hs e with
  | some pc => den (semOf tab) (fun us => HT.of rt us some) K [] pc (mkS (psVin 0 e.ps) (HT.list pt x))
  | none => none
end Go.Proofs.Fw
set_option linter.unusedVariables false
set_option linter.unusedSimpArgs false
namespace Go.Proofs.Fw
variable {P : Program} {Γ : SEnv} {S : PSt} {G : Gh} {w : World} {N : Nat} {a : Act} {gd : Option (Nat × Bool)} {gs : List (Nat × Bool)} {o : Oper} {bs : List (Nat × Nat)} {d : Nat} {sem : CSem} {us : List (Nat × Univ)} {Np : Nat}
def resF (a : Act) : ResultVar → Sem Value
  | .tmp t => pure (a.tmps.getD t undef)
  | .cell c T => do loadVar T (← asAddr (a.tmps.getD c undef))
theorem asmL_length : ∀ (l : List Sh1) (f : Nat → Value) (o : Nat), (asmL l f o).length = l.length
  | [], _, _ => rfl
  | s :: r, f, o => by simp [asmL, asmL_length r f]
theorem resLeaves_ok (R : HRel Γ S G w) (T : TRel Γ S G N a) : ∀ {rvs : List ResultVar} {shs : List Sh1} {ls : List LS}, (resLeaves P rvs shs).run Γ = some ls →
    ls.length = (shs.map Sh1.size).sum ∧ (∀ x ∈ ls, lsOk x) ∧ ∀ (f : Nat → Value) (o : Nat), (∀ j x, ls[j]? = some x → f (o + j) = lsV G x) → (rvs.mapM (resF a)).run P w = .ok (asmL shs f o) w := by
  intro rvs
  induction rvs with
  | nil =>
    intro shs ls h
    cases shs with
    | nil =>
      have h := run_ret h
      subst h
      exact ⟨rfl, by simp, fun f o _ => by simp [asmL]⟩
    | cons s ss => cases h
  | cons rv r ih =>
    intro shs ls h
    cases shs with
    | nil => cases rv <;> cases h
    | cons s ss =>
      have key : ∀ (hd tl : List LS), ls = hd ++ tl → hd.length = s.size → (resLeaves P r ss).run Γ = some tl → (∀ x ∈ hd, lsOk x) →
          (∀ g : Nat → Value, (∀ j x, hd[j]? = some x → g j = lsV G x) → (resF a rv).run P w = .ok (asm1 s g) w) →
          ls.length = ((s :: ss).map Sh1.size).sum ∧ (∀ x ∈ ls, lsOk x) ∧ ∀ (f : Nat → Value) (o : Nat), (∀ j x, ls[j]? = some x → f (o + j) = lsV G x) → ((rv :: r).mapM (resF a)).run P w = .ok (asmL (s :: ss) f o) w := by
        intro hd tl e h1 h2 h3 h4
        obtain ⟨i1, i2, i3⟩ := ih h2
        subst e
        refine ⟨by simp [h1, i1], ?_, ?_⟩
        · intro x hx
          rcases List.mem_append.1 hx with hx | hx
          · exact h3 x hx
          · exact i2 x hx
        · intro f o hf
          have e1 := h4 (fun j => f (o + j)) (fun j x hx => hf j x (by
            rw [List.getElem?_append_left (List.getElem?_eq_some_iff.1 hx).1]; exact hx))
          have e2 := i3 f (o + s.size) (fun j x hx => by
            rw [Nat.add_assoc]
            refine hf (s.size + j) x ?_
            rw [List.getElem?_append_right (by omega), h1, Nat.add_sub_cancel_left]
            exact hx)
          rw [List.mapM_cons]
          simp only [Sem.run_bind, e1, Result.andThen_ok, e2, Sem.run_pure, asmL]
      cases rv with
      | tmp t =>
        simp only [resLeaves, Rd.run] at h
        obtain ⟨_, h1, h⟩ := Rd.run_bind h
        have h1 := Rd.run_must h1
        simp only [Bool.and_eq_true, decide_eq_true_eq, Option.isNone_iff_eq_none] at h1
        obtain ⟨tl, h2, h⟩ := Rd.run_bind h
        have h := run_ret h
        refine key _ tl h.symm (by simp) h2 ?_ ?_
        · intro x hx
          obtain ⟨j, _, rfl⟩ := List.mem_map.1 hx
          trivial
        · intro g hg
          have e := T.tmp t _ (blt_lt h1.2) h1.1.2 (by intro c b hc; rw [h1.1.1] at hc; cases hc)
          simp only [resF, Sem.run_pure, e]
          congr 1
          refine asm1_congr fun j hj => (hg j (.loc (lc t j)) ?_).symm
          simp [hj]
      | cell t T' =>
        simp only [resLeaves] at h
        obtain ⟨⟨m, tag⟩, h1, h⟩ := Rd.run_bind h
        simp only at h
        split at h
        case h_2 => cases h
        rename_i b off
        simp only [Rd.run] at h
        split at h
        case h_2 => cases h
        rename_i n hbn
        obtain ⟨_, h3, h⟩ := Rd.run_bind h
        have h3 := Rd.run_must h3
        simp only [Bool.and_eq_true, decide_eq_true_eq] at h3
        obtain ⟨tl, h4, h⟩ := Rd.run_bind h
        have h := run_ret h
        refine key _ tl h.symm (by simp) h4 ?_ ?_
        · intro x hx
          obtain ⟨j, _, rfl⟩ := List.mem_map.1 hx
          trivial
        · intro g hg
          have p : Pre Γ S G w N a none [] := ⟨R, T, (by intro c b h; cases h), (by intro g hg; cases hg)⟩
          obtain ⟨e1, e2, _⟩ := ptrLeaf_ok p h1
          have e1 : a.tmps.getD t undef = G.V m := e1
          have e2 : G.V m = .pointer (some ⟨(G.B b).1, (G.B b).2 + off, none⟩) := e2
          obtain ⟨_, q2⟩ := R.box b n hbn
          simp only [resF, Sem.run_bind, e1, e2, asAddr, Sem.run_pure, Result.andThen_ok]
          refine loadVar_run h3.2 fun j hj => ?_
          rw [hg j (.loc (bc b (off + j))) (by simp [hj]), Nat.add_assoc]
          exact (q2 (off + j) (by omega)).1
theorem results_eq (fn : Func) : results fn a.tmps = (do let vs ← fn.results.mapM (resF a); pure (if h : vs.size = 1 then vs[0] else .tuple vs)) := rfl
theorem results_run {fn : Func} {vs : List Value} (h : (fn.results.toList.mapM (resF a)).run P w = .ok vs w) :
    (results fn a.tmps).run P w = .ok (if h : vs.toArray.size = 1 then vs.toArray[0] else .tuple vs.toArray) w := by
  rw [results_eq, Array.mapM_eq_mapM_toList]
  simp only [Sem.run_bind, Sem.run_map, h, Result.andThen_ok, Sem.run_pure]
def RetP (w : World) (G : Gh) (sf : List Wr1) (tgt : Nat) : Bool → Value → Univ → Prop
  | false, v, u => FZ w G sf v u
  | true, v, u => ∃ t xs, u = ⟨.sl t, xs⟩ ∧ ((v = .slice none 0 0 ∧ xs = []) ∨ ∃ m, Wr1.soft m (.al tgt) ∈ sf ∧ OwnV w G.Ow m v t xs)
theorem retIt_ok (R : HRel Γ S G w) {own : Bool} {tgt : Nat} {x : LS} (hl : lsOk x) {src : Src} {sf : List Wr1} (h : (retIt own tgt x).run Γ = some (src, sf)) : RetP w G sf tgt own (lsV G x) (src.get S) := by
  have hg0 : GHs [] S := by intro g hg; cases hg
  cases own with
  | false => exact (fzLeaf_ok R hg0 hl h).1
  | true =>
    simp only [retIt] at h
    cases x with
    | con v u t =>
      cases t with
      | own =>
        have h := run_ret h
        injection h with h1 h2
        subst h1 h2
        obtain ⟨rfl, t, rfl⟩ := hl
        exact ⟨t, [], rfl, .inl ⟨rfl, rfl⟩⟩
      | _ => cases h
    | loc l =>
      obtain ⟨⟨m, t⟩, h1, h2⟩ := Rd.run_bind h
      obtain ⟨hV, _, _, hL, _⟩ := res_ok R hg0 h1
      cases t with
      | own =>
        have h2 := run_ret h2
        injection h2 with h3 h4
        subst h3 h4
        obtain ⟨t, xs, q1, q2⟩ := hL
        refine ⟨t, xs, q1, .inr ⟨m, List.mem_singleton.2 rfl, ?_⟩⟩
        show OwnV w G.Ow m (G.V l) t xs
        rw [hV]
        exact q2
      | _ => cases h2
theorem nodup_idx {α : Type} {f : α → Nat} {l : List α} (hn : (l.map f).Nodup) {i k : Nat} {x y : α} (hi : l[i]? = some x) (hk : l[k]? = some y) (e : f x = f y) : i = k := by
  have key : ∀ {i k : Nat} {x y : α}, l[i]? = some x → l[k]? = some y → f x = f y → ¬ i < k := by
    intro i k x y hi hk e hlt
    have := List.pairwise_iff_getElem.1 hn i k (by simp; exact (List.getElem?_eq_some_iff.1 hi).1) (by simp; exact (List.getElem?_eq_some_iff.1 hk).1) hlt
    simp only [List.getElem_map] at this
    rw [(List.getElem?_eq_some_iff.1 hi).2, (List.getElem?_eq_some_iff.1 hk).2] at this
    exact this e
  have h1 := key hi hk e
  have h2 := key hk hi e.symm
  omega
theorem mem_cellsNew : ∀ {cells : List PM} {k0 : Nat} {e : LE}, e ∈ cellsNew k0 cells → ∃ k m, cells[k]? = some m ∧ e = ⟨bc NB (k0 + k), match pmOwn m with | true => .own | false => .val, none⟩
  | [], _, _, h => by cases h
  | m :: r, k0, e, h => by
    rcases List.mem_cons.1 h with h | h
    · exact ⟨0, m, rfl, h⟩
    · obtain ⟨k, m', h1, h2⟩ := mem_cellsNew h
      exact ⟨k + 1, m', by simpa using h1, by rw [h2]; congr 2; omega⟩
theorem mem_resEs : ∀ {rts : List RT} {j0 : Nat} {e : LE}, e ∈ resEs j0 rts →
    (∃ j, rts[j]? = some .val ∧ e = ⟨rl (j0 + j), .val, none⟩) ∨ (∃ j, rts[j]? = some .own ∧ e = ⟨rl (j0 + j), .own, none⟩) ∨
    ∃ j cells, rts[j]? = some (.nb cells) ∧ (e = ⟨rl (j0 + j), .ptr NB 0, none⟩ ∨ e = ⟨bm NB, .dead, some (.bx cells.length)⟩ ∨ e ∈ cellsNew 0 cells)
  | [], _, _, h => by cases h
  | rt :: r, j0, e, h => by
    have up : e ∈ resEs (j0 + 1) r → _ := fun h => mem_resEs (rts := r) h
    have lift : e ∈ resEs (j0 + 1) r → ((∃ j, (rt :: r)[j]? = some .val ∧ e = ⟨rl (j0 + j), .val, none⟩) ∨ (∃ j, (rt :: r)[j]? = some .own ∧ e = ⟨rl (j0 + j), .own, none⟩) ∨
        ∃ j cells, (rt :: r)[j]? = some (.nb cells) ∧ (e = ⟨rl (j0 + j), .ptr NB 0, none⟩ ∨ e = ⟨bm NB, .dead, some (.bx cells.length)⟩ ∨ e ∈ cellsNew 0 cells)) := by
      intro h
      rcases up h with ⟨j, h1, h2⟩ | ⟨j, h1, h2⟩ | ⟨j, cells, h1, h2⟩
      · exact .inl ⟨j + 1, by simpa using h1, by rw [h2, show j0 + 1 + j = j0 + (j + 1) by omega]⟩
      · exact .inr (.inl ⟨j + 1, by simpa using h1, by rw [h2, show j0 + 1 + j = j0 + (j + 1) by omega]⟩)
      · exact .inr (.inr ⟨j + 1, cells, by simpa using h1, by rw [show j0 + 1 + j = j0 + (j + 1) by omega] at h2; exact h2⟩)
    cases rt with
    | val =>
      rcases List.mem_cons.1 h with h | h
      · exact .inl ⟨0, rfl, h⟩
      · exact lift h
    | own =>
      rcases List.mem_cons.1 h with h | h
      · exact .inr (.inl ⟨0, rfl, h⟩)
      · exact lift h
    | nb cells =>
      rcases List.mem_cons.1 h with h | h
      · exact .inr (.inr ⟨0, cells, rfl, .inl h⟩)
      · rcases List.mem_cons.1 h with h | h
        · exact .inr (.inr ⟨0, cells, rfl, .inr (.inl h)⟩)
        · rcases List.mem_append.1 h with h | h
          · exact .inr (.inr ⟨0, cells, rfl, .inr (.inr h)⟩)
          · exact lift h
theorem resItems_mem : ∀ {rts : List RT} {ls : List LS} {j0 : Nat} {xs : List RItem}, resItems j0 rts ls = some xs → rts.length = ls.length ∧ (∀ j x, rts[j]? = some .val → ls[j]? = some x → (⟨rl (j0 + j), false, x⟩ : RItem) ∈ xs) ∧
    (∀ j x, rts[j]? = some .own → ls[j]? = some x → (⟨rl (j0 + j), true, x⟩ : RItem) ∈ xs) ∧ ∀ it ∈ xs, ∃ j, ls[j]? = some it.x ∧ it.l = rl (j0 + j)
  | [], [], _, xs, h => by
    have h := Option.some.inj h
    subst h
    exact ⟨rfl, by simp, by simp, by simp⟩
  | [], _ :: _, _, _, h => by cases h
  | rt :: _, [], _, _, h => by cases rt <;> cases h
  | rt :: r, l :: s, j0, xs, h => by
    have key : ∀ ys, resItems (j0 + 1) r s = some ys → (∀ j x, (rt :: r)[j + 1]? = some .val → (l :: s)[j + 1]? = some x → (⟨rl (j0 + (j + 1)), false, x⟩ : RItem) ∈ ys) ∧
        (∀ j x, (rt :: r)[j + 1]? = some .own → (l :: s)[j + 1]? = some x → (⟨rl (j0 + (j + 1)), true, x⟩ : RItem) ∈ ys) ∧ (∀ it ∈ ys, ∃ j, (l :: s)[j]? = some it.x ∧ it.l = rl (j0 + j)) ∧ r.length = s.length := by
      intro ys hy
      obtain ⟨i0, i1, i2, i3⟩ := resItems_mem hy
      refine ⟨?_, ?_, ?_, i0⟩
      · intro j x h1 h2
        have := i1 j x (by simpa using h1) (by simpa using h2)
        rwa [show j0 + 1 + j = j0 + (j + 1) by omega] at this
      · intro j x h1 h2
        have := i2 j x (by simpa using h1) (by simpa using h2)
        rwa [show j0 + 1 + j = j0 + (j + 1) by omega] at this
      · intro it hit
        obtain ⟨j, h1, h2⟩ := i3 it hit
        exact ⟨j + 1, by simpa using h1, by rw [h2, show j0 + 1 + j = j0 + (j + 1) by omega]⟩
    cases rt with
    | val =>
      simp only [resItems, Option.map_eq_some_iff] at h
      obtain ⟨ys, hy, rfl⟩ := h
      obtain ⟨k1, k2, k3, k0⟩ := key ys hy
      refine ⟨by simp [k0], ?_, ?_, ?_⟩
      · intro j x h1 h2
        cases j with
        | zero => simp at h2; subst h2; exact List.mem_cons_self
        | succ j => exact List.mem_cons_of_mem _ (k1 j x h1 h2)
      · intro j x h1 h2
        cases j with
        | zero => simp at h1
        | succ j => exact List.mem_cons_of_mem _ (k2 j x h1 h2)
      · intro it hit
        rcases List.mem_cons.1 hit with rfl | hit
        · exact ⟨0, rfl, rfl⟩
        · exact k3 it hit
    | own =>
      simp only [resItems, Option.map_eq_some_iff] at h
      obtain ⟨ys, hy, rfl⟩ := h
      obtain ⟨k1, k2, k3, k0⟩ := key ys hy
      refine ⟨by simp [k0], ?_, ?_, ?_⟩
      · intro j x h1 h2
        cases j with
        | zero => simp at h1
        | succ j => exact List.mem_cons_of_mem _ (k1 j x h1 h2)
      · intro j x h1 h2
        cases j with
        | zero => simp at h2; subst h2; exact List.mem_cons_self
        | succ j => exact List.mem_cons_of_mem _ (k2 j x h1 h2)
      · intro it hit
        rcases List.mem_cons.1 hit with rfl | hit
        · exact ⟨0, rfl, rfl⟩
        · exact k3 it hit
    | nb cells =>
      simp only [resItems] at h
      obtain ⟨k1, k2, k3, k0⟩ := key xs h
      refine ⟨by simp [k0], ?_, ?_, k3⟩
      · intro j x h1 h2
        cases j with
        | zero => simp at h1
        | succ j => exact k1 j x h1 h2
      · intro j x h1 h2
        cases j with
        | zero => simp at h1
        | succ j => exact k2 j x h1 h2
theorem cellItems_mem {b : Nat} : ∀ {cells : List PM} {k0 : Nat}, (∀ k m, cells[k]? = some m → (⟨bc NB (k0 + k), pmOwn m, .loc (bc b (k0 + k))⟩ : RItem) ∈ cellItems b k0 cells) ∧
    ∀ it ∈ cellItems b k0 cells, ∃ k, k < cells.length ∧ it.l = bc NB (k0 + k) ∧ it.x = .loc (bc b (k0 + k))
  | [], _ => ⟨by simp, by intro it h; cases h⟩
  | m :: r, k0 => by
    obtain ⟨i1, i2⟩ := cellItems_mem (b := b) (cells := r) (k0 := k0 + 1)
    refine ⟨?_, ?_⟩
    · intro k m' h
      cases k with
      | zero => simp at h; subst h; exact List.mem_cons_self
      | succ k =>
        have := i1 k m' (by simpa using h)
        rw [show k0 + 1 + k = k0 + (k + 1) by omega] at this
        exact List.mem_cons_of_mem _ this
    · intro it h
      rcases List.mem_cons.1 h with rfl | h
      · exact ⟨0, by simp, rfl, rfl⟩
      · obtain ⟨k, h1, h2, h3⟩ := i2 it h
        rw [show k0 + 1 + k = k0 + (k + 1) by omega] at h2 h3
        exact ⟨k + 1, by simpa using h1, h2, h3⟩
theorem newItems_ok : ∀ {rts : List RT} {ls : List LS} {ns : List (Nat × List PM)}, (newItems Np rts ls).run Γ = some ns →
    (∀ (j : Nat) (cells : List PM), rts[j]? = some (RT.nb cells) → ∃ l b m, ls[j]? = some (LS.loc l) ∧ (res [] 6 l).run Γ = some (m, .ptr b 0) ∧ (b, cells) ∈ ns) ∧
    ∀ n ∈ ns, (Γ (bm n.1)).sh = some (.bx n.2.length) ∧ okVar Np n.1 = true
  | [], [], ns, h => by
    have h := run_ret h
    subst h
    exact ⟨by simp, by simp⟩
  | [], _ :: _, ns, h => by cases h
  | rt :: r, [], ns, h => by cases rt <;> cases h
  | rt :: r, l :: s, ns, h => by
    have key : ∀ ys, (newItems Np r s).run Γ = some ys → (∀ (j : Nat) (cells : List PM), (rt :: r)[j + 1]? = some (RT.nb cells) → ∃ l' b m, (l :: s)[j + 1]? = some (LS.loc l') ∧ (res [] 6 l').run Γ = some (m, .ptr b 0) ∧ (b, cells) ∈ ys) ∧
        ∀ n ∈ ys, (Γ (bm n.1)).sh = some (.bx n.2.length) ∧ okVar Np n.1 = true := by
      intro ys hy
      obtain ⟨i1, i2⟩ := newItems_ok hy
      exact ⟨fun j cells h => by simpa using i1 j cells (by simpa using h), i2⟩
    cases rt with
    | val =>
      simp only [newItems] at h
      obtain ⟨k1, k2⟩ := key ns h
      refine ⟨?_, k2⟩
      intro j cells hj
      cases j with
      | zero => simp at hj
      | succ j => exact k1 j cells hj
    | own =>
      simp only [newItems] at h
      obtain ⟨k1, k2⟩ := key ns h
      refine ⟨?_, k2⟩
      intro j cells hj
      cases j with
      | zero => simp at hj
      | succ j => exact k1 j cells hj
    | nb cells =>
      cases l with
      | con v u t => cases h
      | loc l =>
        simp only [newItems] at h
        obtain ⟨⟨m, t⟩, h1, h⟩ := Rd.run_bind h
        simp only at h
        split at h
        case h_2 => cases h
        rename_i b
        simp only [Rd.run] at h
        obtain ⟨_, h2, h⟩ := Rd.run_bind h
        have h2 := Rd.run_must h2
        simp only [Bool.and_eq_true, decide_eq_true_eq] at h2
        obtain ⟨ys, h3, h⟩ := Rd.run_bind h
        have h := run_ret h
        subst h
        obtain ⟨k1, k2⟩ := key ys h3
        refine ⟨?_, ?_⟩
        · intro j cells' hj
          cases j with
          | zero =>
            simp at hj
            subst hj
            exact ⟨l, b, m, rfl, h1, List.mem_cons_self⟩
          | succ j =>
            obtain ⟨l', b', m', q1, q2, q3⟩ := k1 j cells' hj
            exact ⟨l', b', m', q1, q2, List.mem_cons_of_mem _ q3⟩
        · intro n hn
          rcases List.mem_cons.1 hn with rfl | hn
          · exact h2
          · exact k2 n hn
theorem outItems_ok {b i : Nat} : ∀ {cout : List OM} {j0 : Nat} {xs : List RItem}, (outItems b i j0 cout).run Γ = some xs →
    (∀ e ∈ cellsOut b i j0 cout, (∃ j, j < cout.length ∧ e = ⟨bc b (j0 + j), .al (shd i (j0 + j)), none⟩ ∧ (Γ (bc b (j0 + j))).tag = .al (shd i (j0 + j)) ∧ (Γ (bc b (j0 + j))).gd = none) ∨
      (∃ j, j < cout.length ∧ e = ⟨bc b (j0 + j), .val, none⟩ ∧ (⟨bc b (j0 + j), false, .loc (bc b (j0 + j))⟩ : RItem) ∈ xs) ∨ ∃ j, j < cout.length ∧ e = ⟨bc b (j0 + j), .own, none⟩ ∧ (⟨bc b (j0 + j), true, .loc (bc b (j0 + j))⟩ : RItem) ∈ xs) ∧
    ∀ it ∈ xs, ∃ j, j < cout.length ∧ it.l = bc b (j0 + j) ∧ it.x = .loc (bc b (j0 + j))
  | [], _, xs, h => by
    have h := run_ret h
    subst h
    exact ⟨(by intro e h; cases h), (by simp)⟩
  | c :: r, j0, xs, h => by
    have key : ∀ ys, (outItems b i (j0 + 1) r).run Γ = some ys → (∀ y ∈ ys, y ∈ xs) → (∀ e ∈ cellsOut b i (j0 + 1) r, (∃ j, j < (c :: r).length ∧ e = ⟨bc b (j0 + j), .al (shd i (j0 + j)), none⟩ ∧ (Γ (bc b (j0 + j))).tag = .al (shd i (j0 + j)) ∧ (Γ (bc b (j0 + j))).gd = none) ∨
        (∃ j, j < (c :: r).length ∧ e = ⟨bc b (j0 + j), .val, none⟩ ∧ (⟨bc b (j0 + j), false, .loc (bc b (j0 + j))⟩ : RItem) ∈ xs) ∨ ∃ j, j < (c :: r).length ∧ e = ⟨bc b (j0 + j), .own, none⟩ ∧ (⟨bc b (j0 + j), true, .loc (bc b (j0 + j))⟩ : RItem) ∈ xs) ∧
        ∀ it ∈ ys, ∃ j, j < (c :: r).length ∧ it.l = bc b (j0 + j) ∧ it.x = .loc (bc b (j0 + j)) := by
      intro ys hy hsub
      obtain ⟨i1, i2⟩ := outItems_ok hy
      refine ⟨?_, ?_⟩
      · intro e he
        rcases i1 e he with ⟨j, h0, h1⟩ | ⟨j, h0, h1, h2⟩ | ⟨j, h0, h1, h2⟩
        · exact .inl ⟨j + 1, by simpa using h0, by rw [show j0 + (j + 1) = j0 + 1 + j by omega]; exact h1⟩
        · exact .inr (.inl ⟨j + 1, by simpa using h0, by rw [show j0 + (j + 1) = j0 + 1 + j by omega]; exact h1, by rw [show j0 + (j + 1) = j0 + 1 + j by omega]; exact hsub _ h2⟩)
        · exact .inr (.inr ⟨j + 1, by simpa using h0, by rw [show j0 + (j + 1) = j0 + 1 + j by omega]; exact h1, by rw [show j0 + (j + 1) = j0 + 1 + j by omega]; exact hsub _ h2⟩)
      · intro it hit
        obtain ⟨j, h0, h1⟩ := i2 it hit
        exact ⟨j + 1, by simpa using h0, by rw [show j0 + (j + 1) = j0 + 1 + j by omega]; exact h1⟩
    cases c with
    | same =>
      simp only [outItems, Rd.run] at h
      split at h
      case h_2 => cases h
      rename_i hc
      simp only [Bool.and_eq_true, decide_eq_true_eq, Option.isNone_iff_eq_none] at hc
      obtain ⟨k1, k2⟩ := key xs h (fun _ h => h)
      refine ⟨?_, k2⟩
      intro e he
      rcases List.mem_cons.1 he with rfl | he
      · exact .inl ⟨0, by simp, rfl, hc.1, hc.2⟩
      · exact k1 e he
    | val =>
      simp only [outItems] at h
      obtain ⟨ys, hy, h⟩ := Rd.run_bind h
      have h := run_ret h
      obtain ⟨k1, k2⟩ := key ys hy (fun y hy => by rw [← h]; exact List.mem_cons_of_mem _ hy)
      refine ⟨?_, ?_⟩
      · intro e he
        rcases List.mem_cons.1 he with rfl | he
        · exact .inr (.inl ⟨0, by simp, rfl, by rw [← h]; exact List.mem_cons_self⟩)
        · exact k1 e he
      · intro it hit
        rw [← h] at hit
        rcases List.mem_cons.1 hit with rfl | hit
        · exact ⟨0, by simp, rfl, rfl⟩
        · exact k2 it hit
    | own =>
      simp only [outItems] at h
      obtain ⟨ys, hy, h⟩ := Rd.run_bind h
      have h := run_ret h
      obtain ⟨k1, k2⟩ := key ys hy (fun y hy => by rw [← h]; exact List.mem_cons_of_mem _ hy)
      refine ⟨?_, ?_⟩
      · intro e he
        rcases List.mem_cons.1 he with rfl | he
        · exact .inr (.inr ⟨0, by simp, rfl, by rw [← h]; exact List.mem_cons_self⟩)
        · exact k1 e he
      · intro it hit
        rw [← h] at hit
        rcases List.mem_cons.1 hit with rfl | hit
        · exact ⟨0, by simp, rfl, rfl⟩
        · exact k2 it hit
end Go.Proofs.Fw
set_option linter.unusedVariables false
set_option linter.unusedSimpArgs false
namespace Go.Proofs.Fw
variable {P : Program} {Γ : SEnv} {S : PSt} {G : Gh} {w : World} {N : Nat} {a : Act} {gd : Option (Nat × Bool)} {gs : List (Nat × Bool)} {o : Oper} {bs : List (Nat × Nat)} {d : Nat} {sem : CSem} {us : List (Nat × Univ)} {Np : Nat}
def PB (Np b : Nat) : Prop := b < 1000 ∧ okVar Np b = false
theorem PB.param {Np i : Nat} (h : i < Np) (h80 : Np ≤ 80) : PB Np i := by
  refine ⟨by omega, ?_⟩
  unfold okVar
  have : Nat.ble Np i = false := by
    cases e : Nat.ble Np i with
    | false => rfl
    | true => have := Nat.le_of_ble_eq_true e; omega
  rw [this]
  rfl
theorem PB.cap {Np i k : Nat} (h : i < 80) (hk : k < 8) : PB Np (capB i k) := by
  refine ⟨by simp only [capB]; omega, ?_⟩
  unfold okVar
  have h1 : Nat.blt (capB i k) 300 = false := by
    cases e : Nat.blt (capB i k) 300 with
    | false => rfl
    | true => have := blt_lt e; simp only [capB] at this; omega
  have h2 : Nat.ble 1000 (capB i k) = false := by
    cases e : Nat.ble 1000 (capB i k) with
    | false => rfl
    | true => have := Nat.le_of_ble_eq_true e; simp only [capB] at this; omega
  rw [h1, h2]
  simp
def PEnt (Np : Nat) (Γ : SEnv) (xs : List RItem) (e : LE) : Prop :=
  (∃ b n, PB Np b ∧ e = ⟨bm b, .dead, some (.bx n)⟩ ∧ (Γ (bm b)).sh = some (.bx n)) ∨
  (∃ b j, PB Np b ∧ j < 64 ∧ e = ⟨bc b j, .al (shd b j), none⟩ ∧ (Γ (bc b j)).tag = .al (shd b j) ∧ (Γ (bc b j)).gd = none) ∨
  (∃ b j, PB Np b ∧ j < 64 ∧ e = ⟨bc b j, .val, none⟩ ∧ (⟨bc b j, false, .loc (bc b j)⟩ : RItem) ∈ xs) ∨
  ∃ b j, PB Np b ∧ j < 64 ∧ e = ⟨bc b j, .own, none⟩ ∧ (⟨bc b j, true, .loc (bc b j)⟩ : RItem) ∈ xs
theorem PEnt.mono {xs ys : List RItem} {e : LE} (h : PEnt Np Γ xs e) (hs : ∀ x ∈ xs, x ∈ ys) : PEnt Np Γ ys e := by
  rcases h with h | h | ⟨b, j, h1, h2, h3, h4⟩ | ⟨b, j, h1, h2, h3, h4⟩
  · exact .inl h
  · exact .inr (.inl h)
  · exact .inr (.inr (.inl ⟨b, j, h1, h2, h3, hs _ h4⟩))
  · exact .inr (.inr (.inr ⟨b, j, h1, h2, h3, hs _ h4⟩))
theorem outItems_pent {b : Nat} {cout : List OM} {xs : List RItem} (hb : PB Np b) (hc : cout.length ≤ 64) (h : (outItems b b 0 cout).run Γ = some xs) :
    (∀ e ∈ cellsOut b b 0 cout, PEnt Np Γ xs e) ∧ ∀ it ∈ xs, ∃ b j, PB Np b ∧ j < 64 ∧ it.l = bc b j ∧ it.x = .loc (bc b j) := by
  obtain ⟨h1, h2⟩ := outItems_ok h
  refine ⟨?_, ?_⟩
  · intro e he
    rcases h1 e he with ⟨j, h0, h3, h4, h5⟩ | ⟨j, h0, h3, h4⟩ | ⟨j, h0, h3, h4⟩ <;> rw [Nat.zero_add] at h3 h4
    · rw [Nat.zero_add] at h5
      exact .inr (.inl ⟨b, j, hb, by omega, h3, h4, h5⟩)
    · exact .inr (.inr (.inl ⟨b, j, hb, by omega, h3, h4⟩))
    · exact .inr (.inr (.inr ⟨b, j, hb, by omega, h3, h4⟩))
  · intro it hit
    obtain ⟨j, h0, h3, h4⟩ := h2 it hit
    rw [Nat.zero_add] at h3 h4
    exact ⟨b, j, hb, by omega, h3, h4⟩
theorem capItems_pent {i : Nat} (hi : i < 80) : ∀ {caps : List (List PM)} {k0 : Nat} {xs : List RItem}, k0 + caps.length ≤ 8 → (∀ c ∈ caps, c.length ≤ 64) → (capItems i k0 caps).run Γ = some xs →
    (∀ e ∈ capsOut i k0 caps, PEnt Np Γ xs e) ∧ ∀ it ∈ xs, ∃ b j, PB Np b ∧ j < 64 ∧ it.l = bc b j ∧ it.x = .loc (bc b j)
  | [], _, xs, _, _, h => by
    have h := run_ret h
    subst h
    exact ⟨(by intro e h; cases h), (by simp)⟩
  | c :: r, k0, xs, h8, h64, h => by
    simp only [List.length_cons] at h8
    simp only [capItems, Rd.run] at h
    obtain ⟨_, h1, h⟩ := Rd.run_bind h
    have h1 := Rd.run_must h1
    simp only [decide_eq_true_eq] at h1
    obtain ⟨ys, h2, h⟩ := Rd.run_bind h
    obtain ⟨zs, h3, h⟩ := Rd.run_bind h
    have h := run_ret h
    have hb : PB Np (capB i k0) := PB.cap hi (by omega)
    obtain ⟨i1, i2⟩ := outItems_pent hb (by simpa using h64 c List.mem_cons_self) h2
    obtain ⟨i3, i4⟩ := capItems_pent hi (by omega) (fun c hc => h64 c (List.mem_cons_of_mem _ hc)) h3
    subst h
    refine ⟨?_, ?_⟩
    · intro e he
      rcases List.mem_cons.1 he with rfl | he
      · exact .inl ⟨_, _, hb, rfl, h1⟩
      · rcases List.mem_append.1 he with he | he
        · exact (i1 e he).mono fun x hx => List.mem_append_left _ hx
        · exact (i3 e he).mono fun x hx => List.mem_append_right _ hx
    · intro it hit
      rcases List.mem_append.1 hit with hit | hit
      · exact i2 it hit
      · exact i4 it hit
theorem psOk1_f {fid : Nat} {caps : List (List PM)} (h : psOk1 (.f fid caps) = true) : caps.length ≤ 8 ∧ ∀ c ∈ caps, c.length ≤ 64 := by
  simp only [psOk1, Bool.and_eq_true, List.all_eq_true] at h
  exact ⟨Nat.le_of_ble_eq_true h.1, fun c hc => Nat.le_of_ble_eq_true (h.2 c hc)⟩
theorem psOk1_p {cin : List PM} {cout : List OM} (h : psOk1 (.p cin cout) = true) : cin.length ≤ 64 ∧ cout.length = cin.length := by
  simp only [psOk1, Bool.and_eq_true] at h
  exact ⟨Nat.le_of_ble_eq_true h.1, Nat.eq_of_beq_eq_true h.2⟩
theorem psItems_pent (h80 : Np ≤ 80) : ∀ {ps : List PS} {i0 : Nat} {xs : List RItem}, i0 + ps.length ≤ Np → (∀ p ∈ ps, psOk1 p = true) → (psItems i0 ps).run Γ = some xs →
    (∀ e ∈ psEs i0 ps, PEnt Np Γ xs e) ∧ ∀ it ∈ xs, ∃ b j, PB Np b ∧ j < 64 ∧ it.l = bc b j ∧ it.x = .loc (bc b j)
  | [], _, xs, _, _, h => by
    have h := run_ret h
    subst h
    exact ⟨(by intro e h; cases h), (by simp)⟩
  | p :: r, i0, xs, hlen, hok, h => by
    simp only [List.length_cons] at hlen
    have hok1 := hok p List.mem_cons_self
    have hokr : ∀ p ∈ r, psOk1 p = true := fun q hq => hok q (List.mem_cons_of_mem _ hq)
    cases p with
    | v s ms => exact psItems_pent h80 (i0 := i0 + 1) (by omega) hokr h
    | p cin cout =>
      simp only [psItems, Rd.run] at h
      obtain ⟨_, h1, h⟩ := Rd.run_bind h
      have h1 := Rd.run_must h1
      simp only [decide_eq_true_eq] at h1
      obtain ⟨ys, h2, h⟩ := Rd.run_bind h
      obtain ⟨zs, h3, h⟩ := Rd.run_bind h
      have h := run_ret h
      have hb : PB Np i0 := PB.param (by omega) h80
      obtain ⟨q1, q2⟩ := psOk1_p hok1
      obtain ⟨i1, i2⟩ := outItems_pent hb (by omega) h2
      obtain ⟨i3, i4⟩ := psItems_pent h80 (i0 := i0 + 1) (by omega) hokr h3
      subst h
      refine ⟨?_, ?_⟩
      · intro e he
        rcases List.mem_cons.1 he with rfl | he
        · exact .inl ⟨_, _, hb, rfl, h1⟩
        · rcases List.mem_append.1 he with he | he
          · exact (i1 e he).mono fun x hx => List.mem_append_left _ hx
          · exact (i3 e he).mono fun x hx => List.mem_append_right _ hx
      · intro it hit
        rcases List.mem_append.1 hit with hit | hit
        · exact i2 it hit
        · exact i4 it hit
    | f fid caps =>
      simp only [psItems] at h
      obtain ⟨ys, h2, h⟩ := Rd.run_bind h
      obtain ⟨zs, h3, h⟩ := Rd.run_bind h
      have h := run_ret h
      obtain ⟨q1, q2⟩ := psOk1_f hok1
      obtain ⟨i1, i2⟩ := capItems_pent (Np := Np) (i := i0) (by omega) (by omega) q2 h2
      obtain ⟨i3, i4⟩ := psItems_pent h80 (i0 := i0 + 1) (by omega) hokr h3
      subst h
      refine ⟨?_, ?_⟩
      · intro e he
        rcases List.mem_append.1 he with he | he
        · exact (i1 e he).mono fun x hx => List.mem_append_left _ hx
        · exact (i3 e he).mono fun x hx => List.mem_append_right _ hx
      · intro it hit
        rcases List.mem_append.1 hit with hit | hit
        · exact i2 it hit
        · exact i4 it hit
def Post (e : Entry) (bs : List (Nat × Nat)) (G : Gh) (w : World) (rs : List Univ) (v : Value) (w' : World) : Prop :=
  ∃ G', v = asm e.rsh (fun j => G'.V (rl j)) ∧ rs.length = (postLocs e).length ∧ HRel (envOf (postEs e)) (mkS (postLocs e) rs) G' w' ∧ Fr bs G w G' w'
theorem asm_of_rsh {sh : Shape} {shs : List Sh1} (h : rshList sh = some shs) (f : Nat → Value) :
    (if h : (asmL shs f 0).toArray.size = 1 then (asmL shs f 0).toArray[0] else Value.tuple (asmL shs f 0).toArray) = asm sh f := by
  cases sh with
  | one s =>
    have h := Option.some.inj h
    subst h
    simp [asmL, asm]
  | tup l =>
    simp only [rshList] at h
    split at h
    · cases h
    · rename_i hl
      have h := Option.some.inj h
      subst h
      rw [dif_neg (by simpa [asmL_length] using hl)]
      rfl
  | bx n => cases h
theorem genRet_ok {I : FInfo} {G0 : Gh} {w0 : World} (s : Sim I bs G0 w0 Γ S a w) (h80 : I.Np ≤ 80) (hNp : I.me.ps.length = I.Np) (hps : ∀ p ∈ I.me.ps, psOk1 p = true) {pc : PC} (h : (genRet I).run Γ = some pc) :
    ∃ srcs, pc = .ret srcs ∧ a.defers = [] ∧ ∃ v, (results I.fn a.tmps).run I.P w = .ok v w ∧ Post I.me bs G0 w0 (srcs.map fun s => s.get S) v w := by
  obtain ⟨G, hR, hT, hb, hf⟩ := s.ex
  unfold genRet at h
  obtain ⟨shs, h1, h⟩ := Rd.run_bind h
  have h1 := Rd.run_opt h1
  obtain ⟨ls, h2, h⟩ := Rd.run_bind h
  obtain ⟨xs, h3, h⟩ := Rd.run_bind h
  have h3 := Rd.run_opt h3
  obtain ⟨ns, h4, h⟩ := Rd.run_bind h
  obtain ⟨cs, h5, h⟩ := Rd.run_bind h
  obtain ⟨items, hitems⟩ : ∃ items, items = xs ++ ns.flatMap (fun n => cellItems n.1 0 n.2) ++ cs := ⟨_, rfl⟩
  simp only [← hitems] at h
  obtain ⟨ys, h6, h⟩ := Rd.run_bind h
  obtain ⟨_, h7, h⟩ := Rd.run_bind h
  have h7 := Rd.run_must h7
  have h := run_ret h
  simp only [Bool.and_eq_true, decide_eq_true_eq] at h7
  obtain ⟨⟨⟨⟨c1, c2⟩, c3⟩, c4⟩, c5⟩ := h7
  have hso := nodupN_nodup c1
  have hnd := nodupN_nodup c3
  have hns := Nat.le_of_ble_eq_true c2
  obtain ⟨sf, hsf⟩ : ∃ sf, sf = ys.flatMap fun y => y.2 := ⟨_, rfl⟩
  rw [← hsf] at hso
  obtain ⟨hlen, hget⟩ := mapRd_run h6
  obtain ⟨r1, r2, r3⟩ := resLeaves_ok (P := I.P) hR hT h2
  obtain ⟨n1, n2⟩ := newItems_ok h4
  obtain ⟨e0, e1, e2, e3⟩ := resItems_mem h3
  obtain ⟨p1, p2⟩ := psItems_pent h80 (i0 := 0) (by omega) hps h5
  obtain ⟨b0, hb0⟩ : ∃ b0, b0 = (ns.head?.map fun n => n.1).getD NB := ⟨_, rfl⟩
  have hb0n : ∀ n ∈ ns, n.1 = b0 := by
    intro n hn
    cases ns with
    | nil => cases hn
    | cons x r =>
      cases r with
      | nil => simp only [List.mem_singleton] at hn; subst hn; rw [hb0]; rfl
      | cons y r => simp only [List.length_cons] at hns; omega
  have hb0v : ∀ b, PB I.Np b → b ≠ b0 ∧ b ≠ NB := by
    intro b hPB
    refine ⟨?_, by have := hPB.1; simp only [NB]; omega⟩
    cases ns with
    | nil => rw [hb0]; have := hPB.1; simp only [List.head?_nil, Option.map_none, Option.getD_none, NB]; omega
    | cons x r =>
      intro e
      have := (n2 x List.mem_cons_self).2
      rw [hb0n x List.mem_cons_self, ← e, hPB.2] at this
      cases this
  have hbsNB : ∀ p ∈ bs, p.1 ≠ b0 ∧ p.1 ≠ NB := by
    intro p hp
    obtain ⟨q1, q2, q3⟩ := hb p hp
    have hNB : p.1 ≠ NB := by
      intro e
      rw [e] at q1
      unfold okVar at q1
      have : Nat.ble I.Np NB = true := Nat.ble_eq_true_of_le (by simp only [NB]; omega)
      rw [this] at q1
      simp [NB] at q1
    refine ⟨?_, hNB⟩
    cases hns2 : ns with
    | nil => rw [hb0, hns2]; exact hNB
    | cons x r =>
      intro e
      have hx : x ∈ ns := by rw [hns2]; exact List.mem_cons_self
      have := (n2 x hx).2
      rw [hb0n x hx, ← e, q1] at this
      cases this
  let G' : Gh := { V := fun l => if rl 0 ≤ l then (match ls[l - rl 0]? with | some x => lsV G x | none => G.V l) else if bc NB 0 ≤ l ∧ l < bc NB 0 + 64 then G.V (bc b0 (l - bc NB 0)) else G.V l,
                   Ow := fun k => if G.Ow k = .box b0 then .box NB else ren (rhoOf sf) (G.Ow k), B := fun c => if c = NB then G.B b0 else G.B c }
  have V1 : ∀ j x, ls[j]? = some x → G'.V (rl j) = lsV G x := by
    intro j x hx
    show (if rl 0 ≤ rl j then _ else _) = _
    rw [if_pos (by simp only [rl]; omega)]
    have : rl j - rl 0 = j := by simp only [rl]; omega
    rw [this, hx]
  have V2 : ∀ k, k < 64 → G'.V (bc NB k) = G.V (bc b0 k) := by
    intro k hk
    show (if rl 0 ≤ bc NB k then _ else _) = _
    rw [if_neg (by simp only [rl, bc, NB]; omega), if_pos (by simp only [bc, NB]; omega)]
    have : bc NB k - bc NB 0 = k := by simp only [bc]; omega
    rw [this]
  have V3 : ∀ l, l < rl 0 → ¬ (bc NB 0 ≤ l ∧ l < bc NB 0 + 64) → G'.V l = G.V l := by
    intro l h1 h2
    show (if rl 0 ≤ l then _ else _) = _
    rw [if_neg (by omega), if_neg h2]
  have hstill : Still w G.Ow w G'.Ow := fun b hb => ⟨rfl, by show (if G.Ow b = _ then _ else _) = _; rw [hb, if_neg (by simp)]; rfl⟩
  have hloc : ∀ b m t o', G.Ow b = .loc m → Wr1.soft m t ∈ sf → rhoOf sf m = some o' → G'.Ow b = o' := by
    intro b m t o' hb _ h
    show (if G.Ow b = _ then _ else _) = _
    rw [hb, if_neg (by simp)]
    simp [ren, h]
  have hitem : ∀ it ∈ items, lsOk it.x → G'.V it.l = lsV G it.x → LOk w G' (mkS (postLocs I.me) ((ys.map fun y => y.1).map fun s => s.get S)) it.l (match it.own with | true => .own | false => .val) := by
    intro it hit hlo hV
    obtain ⟨k, hk⟩ := List.getElem?_of_mem hit
    obtain ⟨y, hy, hr⟩ := hget k it hk
    have hS : mkS (postLocs I.me) ((ys.map fun y => y.1).map fun s => s.get S) it.l = y.1.get S := by
      rw [← c4]
      refine upds_zip (by simp [hlen]) (List.mem_map.2 ⟨it, hit, rfl⟩) ?_
      intro i hi
      have hik : i = k := by
        simp only [List.getElem?_map, Option.map_eq_some_iff] at hi
        obtain ⟨it2, hi2, he⟩ := hi
        exact nodup_idx hnd hi2 hk he
      subst hik
      simp [hy]
    have hsub : ∀ z ∈ y.2, z ∈ sf := fun z hz => by rw [hsf]; exact List.mem_flatMap.2 ⟨y, List.mem_of_getElem? hy, hz⟩
    have hone := retIt_ok hR hlo (src := y.1) (sf := y.2) hr
    cases hown : it.own with
    | false =>
      rw [hown] at hone
      simp only [RetP] at hone ⊢
      show Rep w G'.Ow (G'.V it.l) _
      rw [hV, hS]
      refine hone.rep hstill ?_
      intro m hm b hb
      refine ⟨rfl, hloc b m _ _ hb (hsub _ hm) ?_⟩
      simp [rhoOf, sfind_of_mem hso (hsub _ hm)]
    | true =>
      rw [hown] at hone
      simp only [RetP] at hone ⊢
      obtain ⟨t, xs', q1, q2⟩ := hone
      refine ⟨t, xs', hS.trans q1, ?_⟩
      rw [hV]
      rcases q2 with q2 | ⟨m, q2, q3⟩
      · exact .inl q2
      · refine q3.still hstill fun b hb => ⟨rfl, ?_⟩
        refine hloc b m _ _ hb (hsub _ q2) ?_
        simp [rhoOf, sfind_of_mem hso (hsub _ q2)]
  have hxsub : ∀ it ∈ xs, it ∈ items := fun it hit => by rw [hitems]; exact List.mem_append_left _ (List.mem_append_left _ hit)
  have hcsub : ∀ it ∈ cs, it ∈ items := fun it hit => by rw [hitems]; exact List.mem_append_right _ hit
  have hnsub : ∀ n ∈ ns, ∀ it ∈ cellItems n.1 0 n.2, it ∈ items := fun n hn it hit => by
    rw [hitems]; exact List.mem_append_left _ (List.mem_append_right _ (List.mem_flatMap.2 ⟨n, hn, hit⟩))
  have hVp : ∀ b j, PB I.Np b → j < 64 → G'.V (bc b j) = G.V (bc b j) := by
    intro b j hb hj
    have := hb.1
    exact V3 _ (by simp only [bc, rl]; omega) (by simp only [bc, NB]; omega)
  have hn64 : ∀ n ∈ ns, n.2.length ≤ 64 := fun n hn => (hR.bsm n.1 _ (n2 n hn).1).1
  have hall : ∀ e ∈ postEs I.me, LOk w G' (mkS (postLocs I.me) ((ys.map fun y => y.1).map fun s => s.get S)) e.l e.tag ∧
      ∀ n, e.sh = some (.bx n) → ∃ b, e.l = bm b ∧ n ≤ 64 ∧ b < 2000 ∧ G'.Ow (G'.B b).1 = .box b ∧ ∀ j, j < n → w.cell? ⟨(G'.B b).1, (G'.B b).2 + j, none⟩ = some (G'.V (bc b j)) ∧ w.frozen? ⟨(G'.B b).1, (G'.B b).2 + j, none⟩ = false := by
    intro e he
    rcases List.mem_append.1 he with he | he
    · rcases mem_resEs he with ⟨j, q1, rfl⟩ | ⟨j, q1, rfl⟩ | ⟨j, cells, q1, q2⟩
      · refine ⟨?_, by intro n hn; cases hn⟩
        rw [Nat.zero_add]
        have hj : j < ls.length := by rw [← e0]; exact (List.getElem?_eq_some_iff.1 q1).1
        have hx := List.getElem?_eq_getElem hj
        have hm := e1 j _ q1 hx
        rw [Nat.zero_add] at hm
        exact hitem _ (hxsub _ hm) (r2 _ (List.getElem_mem hj)) (V1 j _ hx)
      · refine ⟨?_, by intro n hn; cases hn⟩
        rw [Nat.zero_add]
        have hj : j < ls.length := by rw [← e0]; exact (List.getElem?_eq_some_iff.1 q1).1
        have hx := List.getElem?_eq_getElem hj
        have hm := e2 j _ q1 hx
        rw [Nat.zero_add] at hm
        exact hitem _ (hxsub _ hm) (r2 _ (List.getElem_mem hj)) (V1 j _ hx)
      · obtain ⟨l, b, m, k1, k2, k3⟩ := n1 j cells q1
        have hbb := hb0n _ k3
        simp only at hbb
        obtain ⟨k4, k5⟩ := n2 _ k3
        simp only at k4 k5
        have hg0 : GHs [] S := by intro g hg; cases hg
        obtain ⟨a1, a2, a3, a4, _⟩ := res_ok hR hg0 k2
        obtain ⟨x1, x2⟩ := hR.box b _ k4
        rcases q2 with rfl | rfl | q2
        · refine ⟨?_, by intro n hn; cases hn⟩
          rw [Nat.zero_add]
          show G'.V (rl j) = .pointer (some ⟨(G'.B NB).1, (G'.B NB).2 + 0, none⟩)
          rw [V1 j _ k1]
          show G.V l = _
          rw [a1]
          have hB : G'.B NB = G.B b := by show (if NB = NB then G.B b0 else G.B NB) = _; rw [if_pos rfl, hbb]
          rw [hB]
          exact a4
        · refine ⟨trivial, ?_⟩
          intro n hn
          injection hn with hn
          injection hn with hn
          subst hn
          have hB : G'.B NB = G.B b := by show (if NB = NB then G.B b0 else G.B NB) = _; rw [if_pos rfl, hbb]
          refine ⟨NB, rfl, hn64 _ k3, by simp only [NB]; omega, ?_, ?_⟩
          · rw [hB]
            show (if G.Ow (G.B b).1 = .box b0 then Owner.box NB else ren (rhoOf sf) (G.Ow (G.B b).1)) = _
            rw [if_pos (by rw [x1, hbb])]
          · intro k hk
            rw [hB]
            have hk64 := hn64 _ k3
            rw [V2 k (by simp only at hk64; omega), ← hbb]
            exact x2 k hk
        · obtain ⟨k, mm, w1, rfl⟩ := mem_cellsNew q2
          refine ⟨?_, by intro n hn; cases hn⟩
          rw [Nat.zero_add]
          have hk : k < cells.length := (List.getElem?_eq_some_iff.1 w1).1
          have hk64 := hn64 _ k3
          simp only at hk64
          have hm := (cellItems_mem (b := b) (cells := cells) (k0 := 0)).1 k mm w1
          rw [Nat.zero_add] at hm
          have := hitem _ (hnsub _ k3 _ hm) trivial (by
            show G'.V (bc NB k) = G.V (bc b k)
            rw [V2 k (by omega), hbb])
          exact this
    · rcases p1 e he with ⟨b, n, q1, rfl, q2⟩ | ⟨b, j, q1, q2, rfl, q3, q4⟩ | ⟨b, j, q1, q2, rfl, q3⟩ | ⟨b, j, q1, q2, rfl, q3⟩
      · refine ⟨trivial, ?_⟩
        intro n' hn
        injection hn with hn
        injection hn with hn
        subst hn
        obtain ⟨x1, x2⟩ := hR.box b _ q2
        obtain ⟨y1, y2⟩ := hR.bsm b _ q2
        obtain ⟨z1, z2⟩ := hb0v b q1
        have hB : G'.B b = G.B b := if_neg z2
        refine ⟨b, rfl, y1, y2, ?_, ?_⟩
        · rw [hB]
          show (if G.Ow (G.B b).1 = .box b0 then _ else _) = _
          rw [x1, if_neg (by intro e; injection e with e; exact z1 e)]
          rfl
        · intro j hj
          rw [hB, hVp b j q1 (by omega)]
          exact x2 j hj
      · refine ⟨?_, by intro n hn; cases hn⟩
        show G'.V (bc b j) = G'.V (shd b j)
        rw [hVp b j q1 q2, V3 (shd b j) (by have := q1.1; simp only [shd, rl]; omega) (by simp only [shd, bc, NB]; omega)]
        have := hR.lok (bc b j) (by intro c x hc; rw [q4] at hc; cases hc)
        rw [q3] at this
        exact this
      · exact ⟨hitem _ (hcsub _ q3) trivial (hVp b j q1 q2), by intro n hn; cases hn⟩
      · exact ⟨hitem _ (hcsub _ q3) trivial (hVp b j q1 q2), by intro n hn; cases hn⟩
  refine ⟨_, h.symm, hT.defers, _, results_run (r3 (fun j => G'.V (rl j)) 0 (fun j x hx => by rw [Nat.zero_add]; exact V1 j x hx)), G', asm_of_rsh h1 _, by rw [← c4]; simp [hlen], ?_, ?_⟩
  · refine ⟨?_, ?_, ?_, ?_⟩
    · intro l _
      rcases envOf_cases (postEs I.me) l with h | ⟨e, he, rfl, h⟩
      · rw [h]; trivial
      · rw [h]; exact (hall e he).1
    · intro b n hn
      rcases envOf_cases (postEs I.me) (bm b) with h | ⟨e, he, hl, h⟩
      · rw [h] at hn; cases hn
      · rw [h] at hn
        obtain ⟨b', x1, x2, x3, x4, x5⟩ := (hall e he).2 n hn
        rw [hl] at x1
        have := bm_inj x1
        subst this
        exact ⟨x4, x5⟩
    · intro k hk
      show (if G.Ow k = .box b0 then _ else _) = _
      rw [hR.new k hk, if_neg (by simp)]
      rfl
    · intro b n hn
      rcases envOf_cases (postEs I.me) (bm b) with h | ⟨e, he, hl, h⟩
      · rw [h] at hn; cases hn
      · rw [h] at hn
        obtain ⟨b', x1, x2, x3, x4, x5⟩ := (hall e he).2 n hn
        rw [hl] at x1
        have := bm_inj x1
        subst this
        exact ⟨x2, x3⟩
  · refine hf.trans ⟨rfl, rfl, rfl, Nat.le_refl _, ?_, ?_, ?_⟩
    · intro b _ ho
      refine ⟨rfl, ?_⟩
      show (if G.Ow b = .box b0 then _ else _) = _
      rcases ho with ho | ho | ho <;> rw [ho, if_neg (by simp)] <;> rfl
    · intro l q1 q2
      exact V3 l (by simp only [rl]; omega) (by simp only [bc, NB]; omega)
    · intro p hp
      obtain ⟨z1, z2⟩ := hbsNB p hp
      refine ⟨if_neg z2, fun ho => ⟨?_, fun _ _ => rfl, fun _ => rfl⟩⟩
      show (if G.Ow _ = .box b0 then _ else _) = _
      rw [ho, if_neg (by intro e; injection e with e; exact z1 e)]
      rfl
end Go.Proofs.Fw
set_option linter.unusedVariables false
set_option linter.unusedSimpArgs false
namespace Go.Proofs.Fw
variable {P : Program} {Γ : SEnv} {S : PSt} {G : Gh} {w : World} {N : Nat} {a : Act} {gd : Option (Nat × Bool)} {gs : List (Nat × Bool)} {o : Oper} {bs : List (Nat × Nat)} {d : Nat} {sem : CSem} {us : List (Nat × Univ)} {Np : Nat}
def argV (G : Gh) (i : Nat) : PS → Value
  | .v s _ => asm1 s fun j => G.V (lc i j)
  | _ => G.V (lc i 0)
def ArgsOk (G : Gh) (ps : List PS) (args : Array Value) : Prop := args.size = ps.length ∧ ∀ (i : Nat) (p : PS), ps[i]? = some p → args[i]? = some (argV G i p)
def Contract (P : Program) (sem : CSem) (ix : Nat) (e : Entry) : Prop :=
  ∀ (G : Gh) (w : World) (args : Array Value) (us rs : List Univ), us.length = (psVin 0 e.ps).length → HRel (envOf (psIn 0 e.ps)) (mkS (psVin 0 e.ps) us) G w → ArgsOk G e.ps args → sem.k ix us (some : List Univ → Option (List Univ)) = some rs →
    Calls P e.fid args w fun en w' => ∃ v, en = .returned v ∧ Post e (psBs 0 e.ps) G w rs v w'
theorem mem_cellsIn {b i : Nat} : ∀ {ms : List PM} {j0 : Nat} {e : LE}, e ∈ cellsIn b i j0 ms → e.sh = none ∧ ∃ j, j < ms.length ∧ (e.l = bc b (j0 + j) ∨ e.l = shd i (j0 + j))
  | [], _, _, h => by cases h
  | m :: r, j0, e, h => by
    rcases List.mem_cons.1 h with rfl | h
    · exact ⟨rfl, 0, by simp, .inl rfl⟩
    · rcases List.mem_cons.1 h with rfl | h
      · exact ⟨rfl, 0, by simp, .inr rfl⟩
      · obtain ⟨h1, j, h2, h3⟩ := mem_cellsIn h
        refine ⟨h1, j + 1, by simpa using h2, ?_⟩
        rw [show j0 + (j + 1) = j0 + 1 + j by omega]
        exact h3
theorem mem_leavesIn {i : Nat} {s : Sh1} : ∀ {ms : List PM} {j0 : Nat} {e : LE}, e ∈ leavesIn i s j0 ms → ∃ j m, ms[j]? = some m ∧ e = ⟨lc i (j0 + j), m.tag, if j0 + j = 0 then some (.one s) else none⟩
  | [], _, _, h => by cases h
  | m :: r, j0, e, h => by
    rcases List.mem_cons.1 h with rfl | h
    · exact ⟨0, m, rfl, rfl⟩
    · obtain ⟨j, m', h1, h2⟩ := mem_leavesIn h
      exact ⟨j + 1, m', by simpa using h1, by rw [h2, show j0 + 1 + j = j0 + (j + 1) by omega]⟩
theorem mem_capsIn {i : Nat} : ∀ {caps : List (List PM)} {k0 : Nat} {e : LE}, e ∈ capsIn i k0 caps → (∃ b n, e = ⟨bm b, .dead, some (.bx n)⟩ ∧ (b, n) ∈ capsBs i k0 caps) ∨ (e.sh = none ∧ 128000 ≤ e.l)
  | [], _, _, h => by cases h
  | c :: r, k0, e, h => by
    rcases List.mem_cons.1 h with rfl | h
    · exact .inl ⟨_, _, rfl, List.mem_cons_self⟩
    · rcases List.mem_append.1 h with h | h
      · obtain ⟨h1, j, _, h2⟩ := mem_cellsIn h
        refine .inr ⟨h1, ?_⟩
        rcases h2 with h2 | h2 <;> rw [h2]
        · simp only [bc]; omega
        · simp only [shd]; omega
      · rcases mem_capsIn h with ⟨b, n, h1, h2⟩ | h1
        · exact .inl ⟨b, n, h1, List.mem_cons_of_mem _ h2⟩
        · exact .inr h1
theorem mem_psIn : ∀ {ps : List PS} {i0 : Nat} {e : LE}, e ∈ psIn i0 ps →
    (∃ i s ms j m, ps[i]? = some (PS.v s ms) ∧ ms[j]? = some m ∧ e = ⟨lc (i0 + i) j, m.tag, if j = 0 then some (.one s) else none⟩) ∨
    (∃ i p t, ps[i]? = some p ∧ (∀ s ms, p ≠ PS.v s ms) ∧ e = ⟨lc (i0 + i) 0, t, some (.one .leaf)⟩) ∨
    (∃ b n, e = ⟨bm b, .dead, some (.bx n)⟩ ∧ (b, n) ∈ psBs i0 ps) ∨ (e.sh = none ∧ 128000 ≤ e.l)
  | [], _, _, h => by cases h
  | p :: r, i0, e, h => by
    have up : e ∈ psIn (i0 + 1) r → (∀ x ∈ psBs (i0 + 1) r, x ∈ psBs i0 (p :: r)) →
        (∃ i s ms j m, (p :: r)[i]? = some (PS.v s ms) ∧ ms[j]? = some m ∧ e = ⟨lc (i0 + i) j, m.tag, if j = 0 then some (.one s) else none⟩) ∨
        (∃ i p' t, (p :: r)[i]? = some p' ∧ (∀ s ms, p' ≠ PS.v s ms) ∧ e = ⟨lc (i0 + i) 0, t, some (.one .leaf)⟩) ∨
        (∃ b n, e = ⟨bm b, .dead, some (.bx n)⟩ ∧ (b, n) ∈ psBs i0 (p :: r)) ∨ (e.sh = none ∧ 128000 ≤ e.l) := by
      intro h hs
      rcases mem_psIn h with ⟨i, s, ms, j, m, h1, h2, h3⟩ | ⟨i, p', t, h1, h2, h3⟩ | ⟨b, n, h1, h2⟩ | h1
      · exact .inl ⟨i + 1, s, ms, j, m, by simpa using h1, h2, by rw [h3, show i0 + 1 + i = i0 + (i + 1) by omega]⟩
      · exact .inr (.inl ⟨i + 1, p', t, by simpa using h1, h2, by rw [h3, show i0 + 1 + i = i0 + (i + 1) by omega]⟩)
      · exact .inr (.inr (.inl ⟨b, n, h1, hs _ h2⟩))
      · exact .inr (.inr (.inr h1))
    cases p with
    | v s ms =>
      rcases List.mem_append.1 h with h | h
      · obtain ⟨j, m, h1, h2⟩ := mem_leavesIn h
        rw [Nat.zero_add] at h2
        exact .inl ⟨0, s, ms, j, m, rfl, h1, h2⟩
      · exact up h (fun _ h => h)
    | p cin cout =>
      rcases List.mem_cons.1 h with rfl | h
      · exact .inr (.inl ⟨0, _, _, rfl, (by intro s ms h; cases h), rfl⟩)
      · rcases List.mem_cons.1 h with rfl | h
        · exact .inr (.inr (.inl ⟨_, _, rfl, List.mem_cons_self⟩))
        · rcases List.mem_append.1 h with h | h
          · obtain ⟨h1, j, _, h2⟩ := mem_cellsIn h
            refine .inr (.inr (.inr ⟨h1, ?_⟩))
            rcases h2 with h2 | h2 <;> rw [h2]
            · simp only [bc]; omega
            · simp only [shd]; omega
          · exact up h (fun _ h => List.mem_cons_of_mem _ h)
    | f fid caps =>
      rcases List.mem_cons.1 h with rfl | h
      · exact .inr (.inl ⟨0, _, _, rfl, (by intro s ms h; cases h), rfl⟩)
      · rcases List.mem_append.1 h with h | h
        · rcases mem_capsIn h with ⟨b, n, h1, h2⟩ | h1
          · exact .inr (.inr (.inl ⟨b, n, h1, List.mem_append_left _ h2⟩))
          · exact .inr (.inr (.inr h1))
        · exact up h (fun _ h => List.mem_append_right _ h)
theorem mem_capsBs {i : Nat} : ∀ {caps : List (List PM)} {k0 : Nat} {x : Nat × Nat}, x ∈ capsBs i k0 caps → ∃ k, k < caps.length ∧ x.1 = capB i (k0 + k)
  | [], _, _, h => by cases h
  | c :: r, k0, x, h => by
    rcases List.mem_cons.1 h with rfl | h
    · exact ⟨0, by simp, rfl⟩
    · obtain ⟨k, h1, h2⟩ := mem_capsBs h
      exact ⟨k + 1, by simpa using h1, by rw [h2, show k0 + 1 + k = k0 + (k + 1) by omega]⟩
theorem mem_psBs (h80 : Np ≤ 80) : ∀ {ps : List PS} {i0 : Nat} {x : Nat × Nat}, i0 + ps.length ≤ Np → (∀ p ∈ ps, psOk1 p = true) → x ∈ psBs i0 ps → PB Np x.1
  | [], _, _, _, _, h => by cases h
  | p :: r, i0, x, hlen, hok, h => by
    simp only [List.length_cons] at hlen
    have hok1 := hok p List.mem_cons_self
    have hokr : ∀ p ∈ r, psOk1 p = true := fun q hq => hok q (List.mem_cons_of_mem _ hq)
    cases p with
    | v s ms => exact mem_psBs h80 (i0 := i0 + 1) (by omega) hokr h
    | p cin cout =>
      rcases List.mem_cons.1 h with rfl | h
      · exact PB.param (by omega) h80
      · exact mem_psBs h80 (i0 := i0 + 1) (by omega) hokr h
    | f fid caps =>
      rcases List.mem_append.1 h with h | h
      · obtain ⟨k, h1, h2⟩ := mem_capsBs h
        obtain ⟨q1, q2⟩ := psOk1_f hok1
        rw [h2]
        exact PB.cap (by omega) (by omega)
      · exact mem_psBs h80 (i0 := i0 + 1) (by omega) hokr h
theorem psOk_spec {ps : List PS} (h : psOk ps = true) : ps.length ≤ 80 ∧ (∀ p ∈ ps, psOk1 p = true) ∧ BsOk ps.length (psBs 0 ps) (envOf (psIn 0 ps)) := by
  simp only [psOk, Bool.and_eq_true, List.all_eq_true] at h
  obtain ⟨⟨h1, h2⟩, h3⟩ := h
  have h1 := Nat.le_of_ble_eq_true h1
  refine ⟨h1, h2, fun p hp => ?_⟩
  have hPB := mem_psBs (Np := ps.length) h1 (by omega) h2 hp
  refine ⟨hPB.2, by have := hPB.1; omega, fun n hn => ?_⟩
  have := h3 p hp
  rw [hn] at this
  exact Nat.le_of_ble_eq_true this
theorem start_sim {I : FInfo} {args : Array Value} (hps : psOk I.me.ps = true) (hN : I.me.ps.length ≤ I.N) (hNp : I.Np = I.me.ps.length) (hR : HRel (envOf (psIn 0 I.me.ps)) S G w) (ha : ArgsOk G I.me.ps args) :
    Sim I (psBs 0 I.me.ps) G w (envOf (psIn 0 I.me.ps)) S { tmps := args ++ Array.replicate (I.N - args.size) undef, defers := [] } w := by
  obtain ⟨h1, h2, h3⟩ := psOk_spec hps
  obtain ⟨a1, a2⟩ := ha
  have key : ∀ t sh, t < 2000 → (envOf (psIn 0 I.me.ps) (lc t 0)).sh = some sh → ∃ p, I.me.ps[t]? = some p ∧ sh.size ≤ 64 ∧ argV G t p = asm sh fun j => G.V (lc t j) := by
    intro t sh ht hs
    rcases envOf_cases (psIn 0 I.me.ps) (lc t 0) with h | ⟨e, he, hl, h⟩
    · rw [h] at hs; cases hs
    · rw [h] at hs
      simp only at hs
      rcases mem_psIn he with ⟨i, s, ms, j, m, q1, q2, rfl⟩ | ⟨i, p, tg, q1, q2, rfl⟩ | ⟨b, n, rfl, _⟩ | ⟨q1, _⟩
      · simp only at hs hl
        have hj : j = 0 := by
          by_cases hj : j = 0
          · exact hj
          · rw [if_neg hj] at hs; cases hs
        subst hj
        rw [if_pos rfl] at hs
        injection hs with hs
        subst hs
        have hi : i = t := by simp only [lc] at hl; omega
        subst hi
        refine ⟨_, q1, ?_, rfl⟩
        have := h2 _ (List.mem_of_getElem? q1)
        simp only [psOk1, Bool.and_eq_true] at this
        exact Nat.le_of_ble_eq_true this.1
      · simp only at hs hl
        injection hs with hs
        subst hs
        have hi : i = t := by simp only [lc] at hl; omega
        subst hi
        refine ⟨p, q1, by simp [Shape.size, Sh1.size], ?_⟩
        cases p with
        | v s ms => exact absurd rfl (q2 s ms)
        | _ => rfl
      · simp only at hl
        simp only [bm, lc] at hl
        omega
      · rw [q1] at hs; cases hs
  refine ⟨⟨G, hR, ?_, by rw [hNp]; exact h3, Fr.refl _ _ _⟩⟩
  refine ⟨?_, ?_, ?_, ?_, rfl⟩
  · simp only [Array.size_append, Array.size_replicate]; omega
  · intro t sh ht hs
    obtain ⟨p, _, h, _⟩ := key t sh ht hs
    exact h
  · intro t sh ht hs _
    obtain ⟨p, q1, _, q2⟩ := key t sh ht hs
    have hlt : t < args.size := by rw [a1]; exact (List.getElem?_eq_some_iff.1 q1).1
    have := a2 t p q1
    rw [Array.getD_eq_getD_getElem?, Array.getElem?_append_left hlt, this]
    exact q2
  · intro t c b ht hg
    exfalso
    rcases envOf_cases (psIn 0 I.me.ps) (lc t 0) with h | ⟨e, _, _, h⟩
    · rw [h] at hg; cases hg
    · rw [h] at hg; cases hg
theorem sem_some {tab : List CEnt} {ix : Nat} {c : CEnt} (h : tab[ix]? = some c) {us rs : List Univ} (hk : (semOf tab).k ix us (some : List Univ → Option (List Univ)) = some rs) :
    ∃ x y, us = HT.list c.pt x ∧ c.f x = some y ∧ rs = HT.list c.rt y := by
  have hk : (match tab[ix]? with | some c => HT.of c.pt us fun x => bnd (c.f x) fun y => some (HT.list c.rt y) | none => none) = some rs := hk
  rw [h] at hk
  obtain ⟨x, h1, h2⟩ := HT.of_some hk
  obtain ⟨y, h3, h4⟩ := bnd_some h2
  exact ⟨x, y, h1, h3, (Option.some.inj h4).symm⟩
theorem contract_of_gen {K : Nat} {tab : List CEnt} {es : List Entry} {hs : List Hint} {e : Entry} {ix : Nat} {c : CEnt} (hc : ∀ I, mkInfo P es hs e = some I → CallOk I (semOf tab)) (ht : tab[ix]? = some c)
    (hd : ∀ x, denF K P tab es hs e c.pt c.rt x = c.f x) : Contract P (semOf tab) ix e := by
  intro G w args us rs hlen hR ha hk
  obtain ⟨x, y, rfl, hf, rfl⟩ := sem_some ht hk
  have hx := hd x
  rw [hf] at hx
  unfold denF at hx
  split at hx
  case h_2 => cases hx
  rename_i pc hg
  unfold genF at hg
  simp only [Option.bind_eq_some_iff] at hg
  obtain ⟨I, hI, body, hbody, hg⟩ := hg
  split at hg
  · cases hg
  rename_i hok
  simp only [Bool.and_eq_true] at hok
  have hI2 := hI
  unfold mkInfo at hI2
  split at hI2
  case h_2 => cases hI2
  rename_i fn hfn
  have hI2 := Option.some.inj hI2
  subst hI2
  simp only at hbody hok
  obtain ⟨p1, p2, _⟩ := psOk_spec hok.1
  refine calls_of_wp hfn hbody ?_
  have hsim := start_sim (I := ⟨P, e.ps.length, fn.ntmps, es, hs, fn, e⟩) hok.1 (Nat.le_of_ble_eq_true hok.2) rfl hR ha
  have hret : ∀ (ρ' : List (List Univ → Option (HT c.rt))) (Γ : SEnv) (S : PSt) (a : Act) (w' : World) (pc : PC), (genRet ⟨P, e.ps.length, fn.ntmps, es, hs, fn, e⟩).run Γ = some pc →
      den (semOf tab) (fun us => HT.of c.rt us some) K ρ' pc S = some y → Sim ⟨P, e.ps.length, fn.ntmps, es, hs, fn, e⟩ (psBs 0 e.ps) G w Γ S a w' →
      a.defers = [] ∧ ∃ v, (results fn a.tmps).run P w' = .ok v w' ∧ Post e (psBs 0 e.ps) G w (HT.list c.rt y) v w' := by
    intro ρ' Γ S a w' pc h1 h2 h3
    obtain ⟨srcs, rfl, h4, v, h5, h6⟩ := genRet_ok h3 p1 rfl p2 h1
    have h2 : HT.of c.rt (srcs.map fun s => s.get S) some = some y := h2
    obtain ⟨y', h7, h8⟩ := HT.of_some h2
    have h8 := Option.some.inj h8
    subst h8
    rw [h7] at h6
    exact ⟨h4, v, h5, h6⟩
  refine gen_ok (hc _ hI) body { norm := fun _ Γ => (genRet ⟨P, e.ps.length, fn.ntmps, es, hs, fn, e⟩).run Γ, ex := [] } [] (envOf (psIn 0 e.ps)) (mkS (psVin 0 e.ps) (HT.list c.pt x)) _ w pc _ hg hx hsim ?_ ?_ ?_
  · intro ρ' _ Γ S a w' pc' h1 h2 h3
    obtain ⟨h4, v, h5, h6⟩ := hret ρ' Γ S a w' pc' h1 h2 h3
    exact ⟨h4, v, h5, v, rfl, h6⟩
  · intro id f h
    cases h
  · intro ρ' Γ S a w' pc' h1 h2 h3
    obtain ⟨h4, v, h5, h6⟩ := hret ρ' Γ S a w' pc' h1 h2 h3
    exact ⟨h4, v, h5, v, rfl, h6⟩
end Go.Proofs.Fw
