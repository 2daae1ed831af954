import Derived.Calls
import Derived.Orders
import Derived.Laws.Sem
import Derived.Laws.World
import Derived.Laws.Cells
import Derived.KernelRfl
import Derived.Laws.Strings
import Derived.Laws.StructEq
import Derived.Deep.AppendSrc
/- For every input the law FnReads of the given program returns true and leaves its argument as it was. -/
set_option linter.unusedVariables false
set_option linter.unusedSimpArgs false
namespace Go.Proofs.Fw
structure Key where
  blk : Int
  age : Int
  kind : Int
  cell : Int
  gen : Int
  deriving DecidableEq
structure Node where
  sets : List (List Key)
  deriving DecidableEq
structure Age where
  id : Int
  from_ : Int
  deriving DecidableEq
structure Cell where
  gen : Int
  used : Bool
  n : Int
  deriving DecidableEq
structure Vol where
  name : List Int
  age : Int
  size : Int
  fixed : Bool
  deriving DecidableEq
structure MapR where
  name : List Int
  fixed : Bool
  l : List Int
  deriving DecidableEq
structure Wr where
  n : Int
  b : List Int
  deriving DecidableEq
structure OpR where
  kind : Int
  name : List Int
  to_ : List Int
  a : Int
  b : Int
  deriving DecidableEq
structure Ent where
  seq : Int
  o : OpR
  deriving DecidableEq
structure Event where
  kind : Int
  o : OpR
  n : Int
  deriving DecidableEq
inductive St where
  | key | node | age | cell | vol | map | wr | op | ent | event
  deriving DecidableEq
@[reducible] def St.T : St → Type
  | .key => Key | .node => Node | .age => Age | .cell => Cell | .vol => Vol | .map => MapR | .wr => Wr | .op => OpR | .ent => Ent | .event => Event
inductive Ty where
  | int (k : IntKind) | bool | str | sl (t : Ty) | st (s : St)
  deriving DecidableEq
@[reducible] def Ty.T : Ty → Type
  | .int _ => Int
  | .bool => Bool
  | .str => List Int
  | .sl t => List t.T
  | .st s => s.T
structure Univ where
  t : Ty
  x : t.T
@[reducible] def uI (n : Int) : Univ := ⟨.int .i64, n⟩
@[reducible] def uB (b : Bool) : Univ := ⟨.bool, b⟩
@[reducible] def uS (s : List Int) : Univ := ⟨.str, s⟩
def OpR.leaves (o : OpR) : List Univ := [uI o.kind, uS o.name, uS o.to_, uI o.a, uI o.b]
def St.leaves : (s : St) → s.T → List Univ
  | .key, k => [uI k.blk, uI k.age, uI k.kind, uI k.cell, uI k.gen]
  | .node, n => [⟨.sl (.sl (.st .key)), n.sets⟩]
  | .age, a => [uI a.id, uI a.from_]
  | .cell, c => [uI c.gen, uB c.used, uI c.n]
  | .vol, v => [uS v.name, uI v.age, uI v.size, uB v.fixed]
  | .map, m => [uS m.name, uB m.fixed, ⟨.sl (.int .i64), m.l⟩]
  | .wr, r => [uI r.n, ⟨.sl (.int .u8), r.b⟩]
  | .op, o => o.leaves
  | .ent, e => uI e.seq :: e.o.leaves
  | .event, e => [uI e.kind, uI e.o.kind, uS e.o.name, uS e.o.to_, uI e.o.a, uI e.o.b, uI e.n]
def leaves : (t : Ty) → t.T → List Univ
  | .int k, x => [⟨.int k, x⟩]
  | .bool, x => [⟨.bool, x⟩]
  | .str, x => [⟨.str, x⟩]
  | .sl t, x => [⟨.sl t, x⟩]
  | .st s, x => s.leaves x
def St.size : St → Nat
  | .key => 5 | .node => 1 | .age => 2 | .cell => 3 | .vol => 4 | .map => 3 | .wr => 2 | .op => 5 | .ent => 6 | .event => 7
def Ty.size : Ty → Nat
  | .st s => s.size
  | _ => 1
theorem leaves_length (t : Ty) (x : t.T) : (leaves t x).length = t.size := by
  cases t with
  | st s => cases s <;> rfl
  | _ => rfl
def Univ.cast (t : Ty) (u : Univ) : Option t.T := if h : u.t = t then some (h ▸ u.x) else none
theorem Univ.cast_some {t : Ty} {u : Univ} {x : t.T} (h : u.cast t = some x) : u = ⟨t, x⟩ := by
  cases u with
  | mk t' y =>
    unfold Univ.cast at h
    split at h
    · rename_i e
      simp only at e
      subst e
      injection h with h
      subst h
      rfl
    · cases h
theorem Univ.cast_mk (t : Ty) (x : t.T) : (⟨t, x⟩ : Univ).cast t = some x := by simp [Univ.cast]
@[reducible] def Univ.int? (u : Univ) : Option Int := u.cast (.int .i64)
@[reducible] def Univ.bool? (u : Univ) : Option Bool := u.cast .bool
@[reducible] def Univ.str? (u : Univ) : Option (List Int) := u.cast .str
def mkKey : List Univ → Option Key
  | [x0, x1, x2, x3, x4] => x0.int?.bind fun x0 => x1.int?.bind fun x1 => x2.int?.bind fun x2 => x3.int?.bind fun x3 => x4.int?.bind fun x4 => some ⟨x0, x1, x2, x3, x4⟩
  | _ => none
theorem mkKey_some {l : List Univ} {o : Key} (h : mkKey l = some o) : St.leaves .key o = l := by
  unfold mkKey at h
  split at h
  · simp only [Option.bind_eq_some_iff] at h
    obtain ⟨y0, h0, y1, h1, y2, h2, y3, h3, y4, h4, h⟩ := h
    injection h with h
    subst h
    rw [Univ.cast_some h0, Univ.cast_some h1, Univ.cast_some h2, Univ.cast_some h3, Univ.cast_some h4]
    rfl
  · cases h
def mkNode : List Univ → Option Node
  | [x0] => (x0.cast (.sl (.sl (.st .key)))).bind fun x0 => some ⟨x0⟩
  | _ => none
theorem mkNode_some {l : List Univ} {o : Node} (h : mkNode l = some o) : St.leaves .node o = l := by
  unfold mkNode at h
  split at h
  · simp only [Option.bind_eq_some_iff] at h
    obtain ⟨y0, h0, h⟩ := h
    injection h with h
    subst h
    rw [Univ.cast_some h0]
    rfl
  · cases h
def mkAge : List Univ → Option Age
  | [x0, x1] => x0.int?.bind fun x0 => x1.int?.bind fun x1 => some ⟨x0, x1⟩
  | _ => none
theorem mkAge_some {l : List Univ} {o : Age} (h : mkAge l = some o) : St.leaves .age o = l := by
  unfold mkAge at h
  split at h
  · simp only [Option.bind_eq_some_iff] at h
    obtain ⟨y0, h0, y1, h1, h⟩ := h
    injection h with h
    subst h
    rw [Univ.cast_some h0, Univ.cast_some h1]
    rfl
  · cases h
def mkCell : List Univ → Option Cell
  | [x0, x1, x2] => x0.int?.bind fun x0 => x1.bool?.bind fun x1 => x2.int?.bind fun x2 => some ⟨x0, x1, x2⟩
  | _ => none
theorem mkCell_some {l : List Univ} {o : Cell} (h : mkCell l = some o) : St.leaves .cell o = l := by
  unfold mkCell at h
  split at h
  · simp only [Option.bind_eq_some_iff] at h
    obtain ⟨y0, h0, y1, h1, y2, h2, h⟩ := h
    injection h with h
    subst h
    rw [Univ.cast_some h0, Univ.cast_some h1, Univ.cast_some h2]
    rfl
  · cases h
def mkVol : List Univ → Option Vol
  | [x0, x1, x2, x3] => x0.str?.bind fun x0 => x1.int?.bind fun x1 => x2.int?.bind fun x2 => x3.bool?.bind fun x3 => some ⟨x0, x1, x2, x3⟩
  | _ => none
theorem mkVol_some {l : List Univ} {o : Vol} (h : mkVol l = some o) : St.leaves .vol o = l := by
  unfold mkVol at h
  split at h
  · simp only [Option.bind_eq_some_iff] at h
    obtain ⟨y0, h0, y1, h1, y2, h2, y3, h3, h⟩ := h
    injection h with h
    subst h
    rw [Univ.cast_some h0, Univ.cast_some h1, Univ.cast_some h2, Univ.cast_some h3]
    rfl
  · cases h
def mkMapR : List Univ → Option MapR
  | [x0, x1, x2] => x0.str?.bind fun x0 => x1.bool?.bind fun x1 => (x2.cast (.sl (.int .i64))).bind fun x2 => some ⟨x0, x1, x2⟩
  | _ => none
theorem mkMapR_some {l : List Univ} {o : MapR} (h : mkMapR l = some o) : St.leaves .map o = l := by
  unfold mkMapR at h
  split at h
  · simp only [Option.bind_eq_some_iff] at h
    obtain ⟨y0, h0, y1, h1, y2, h2, h⟩ := h
    injection h with h
    subst h
    rw [Univ.cast_some h0, Univ.cast_some h1, Univ.cast_some h2]
    rfl
  · cases h
def mkWr : List Univ → Option Wr
  | [x0, x1] => x0.int?.bind fun x0 => (x1.cast (.sl (.int .u8))).bind fun x1 => some ⟨x0, x1⟩
  | _ => none
theorem mkWr_some {l : List Univ} {o : Wr} (h : mkWr l = some o) : St.leaves .wr o = l := by
  unfold mkWr at h
  split at h
  · simp only [Option.bind_eq_some_iff] at h
    obtain ⟨y0, h0, y1, h1, h⟩ := h
    injection h with h
    subst h
    rw [Univ.cast_some h0, Univ.cast_some h1]
    rfl
  · cases h
def mkOpR : List Univ → Option OpR
  | [x0, x1, x2, x3, x4] => x0.int?.bind fun x0 => x1.str?.bind fun x1 => x2.str?.bind fun x2 => x3.int?.bind fun x3 => x4.int?.bind fun x4 => some ⟨x0, x1, x2, x3, x4⟩
  | _ => none
theorem mkOpR_some {l : List Univ} {o : OpR} (h : mkOpR l = some o) : St.leaves .op o = l := by
  unfold mkOpR at h
  split at h
  · simp only [Option.bind_eq_some_iff] at h
    obtain ⟨y0, h0, y1, h1, y2, h2, y3, h3, y4, h4, h⟩ := h
    injection h with h
    subst h
    rw [Univ.cast_some h0, Univ.cast_some h1, Univ.cast_some h2, Univ.cast_some h3, Univ.cast_some h4]
    rfl
  · cases h
def mkEnt : List Univ → Option Ent
  | [x0, x1, x2, x3, x4, x5] => x0.int?.bind fun x0 => x1.int?.bind fun x1 => x2.str?.bind fun x2 => x3.str?.bind fun x3 => x4.int?.bind fun x4 => x5.int?.bind fun x5 => some ⟨x0, ⟨x1, x2, x3, x4, x5⟩⟩
  | _ => none
theorem mkEnt_some {l : List Univ} {o : Ent} (h : mkEnt l = some o) : St.leaves .ent o = l := by
  unfold mkEnt at h
  split at h
  · simp only [Option.bind_eq_some_iff] at h
    obtain ⟨y0, h0, y1, h1, y2, h2, y3, h3, y4, h4, y5, h5, h⟩ := h
    injection h with h
    subst h
    rw [Univ.cast_some h0, Univ.cast_some h1, Univ.cast_some h2, Univ.cast_some h3, Univ.cast_some h4, Univ.cast_some h5]
    rfl
  · cases h
def mkEvent : List Univ → Option Event
  | [x0, x1, x2, x3, x4, x5, x6] => x0.int?.bind fun x0 => x1.int?.bind fun x1 => x2.str?.bind fun x2 => x3.str?.bind fun x3 => x4.int?.bind fun x4 => x5.int?.bind fun x5 => x6.int?.bind fun x6 => some ⟨x0, ⟨x1, x2, x3, x4, x5⟩, x6⟩
  | _ => none
theorem mkEvent_some {l : List Univ} {o : Event} (h : mkEvent l = some o) : St.leaves .event o = l := by
  unfold mkEvent at h
  split at h
  · simp only [Option.bind_eq_some_iff] at h
    obtain ⟨y0, h0, y1, h1, y2, h2, y3, h3, y4, h4, y5, h5, y6, h6, h⟩ := h
    injection h with h
    subst h
    rw [Univ.cast_some h0, Univ.cast_some h1, Univ.cast_some h2, Univ.cast_some h3, Univ.cast_some h4, Univ.cast_some h5, Univ.cast_some h6]
    rfl
  · cases h
def St.mk? : (s : St) → List Univ → Option s.T
  | .key, l => mkKey l
  | .node, l => mkNode l
  | .age, l => mkAge l
  | .cell, l => mkCell l
  | .vol, l => mkVol l
  | .map, l => mkMapR l
  | .wr, l => mkWr l
  | .op, l => mkOpR l
  | .ent, l => mkEnt l
  | .event, l => mkEvent l
def mk? : (t : Ty) → List Univ → Option t.T
  | .st s, l => s.mk? l
  | .int k, [u] => u.cast (.int k)
  | .bool, [u] => u.cast .bool
  | .str, [u] => u.cast .str
  | .sl t, [u] => u.cast (.sl t)
  | _, _ => none
theorem leaves_mk? {t : Ty} {l : List Univ} {x : t.T} (h : mk? t l = some x) : leaves t x = l := by
  cases t with
  | int k => exact match l, h with | [u], h => by rw [Univ.cast_some h]; rfl
  | bool => exact match l, h with | [u], h => by rw [Univ.cast_some h]; rfl
  | str => exact match l, h with | [u], h => by rw [Univ.cast_some h]; rfl
  | sl t => exact match l, h with | [u], h => by rw [Univ.cast_some h]; rfl
  | st s =>
    cases s
    · exact mkKey_some h
    · exact mkNode_some h
    · exact mkAge_some h
    · exact mkCell_some h
    · exact mkVol_some h
    · exact mkMapR_some h
    · exact mkWr_some h
    · exact mkOpR_some h
    · exact mkEnt_some h
    · exact mkEvent_some h
end Go.Proofs.Fw
set_option linter.unusedVariables false
set_option linter.unusedSimpArgs false
namespace Go.Proofs.Fw
inductive Owner where
  | imm | rd | loc (l : Nat) | box (b : Nat) | foreign
  deriving DecidableEq
def bytesOf (s : ByteArray) : List Int := s.data.toList.map fun b => (b.toNat : Int)
inductive Rep (w : World) (Ow : Nat → Owner) : Value → Univ → Prop
  | int (k : IntKind) (n : Int) : Rep w Ow (.int k n) ⟨.int k, n⟩
  | bool (b : Bool) : Rep w Ow (.bool b) ⟨.bool, b⟩
  | str (s : ByteArray) : Rep w Ow (.string s) ⟨.str, bytesOf s⟩
  | nil (t : Ty) (A : Option Addr) (c : Nat) : Rep w Ow (.slice A 0 c) ⟨.sl t, []⟩
  | sl (t : Ty) (xs : List t.T) (ad : Addr) (n c : Nat) (val : Nat → Nat → Value) (hn : n = xs.length) (hc : n ≤ c) (ho : Ow ad.block = .imm) (hs : ad.spot = none)
      (hcell : ∀ i j, i < n → j < t.size → w.cell? ⟨ad.block, ad.off + (i * t.size + j), none⟩ = some (val i j))
      (hrep : ∀ i j x u, xs[i]? = some x → (leaves t x)[j]? = some u → Rep w Ow (val i j) u) : Rep w Ow (.slice (some ad) n c) ⟨.sl t, xs⟩
def Rows (w : World) (Ow : Nat → Owner) (b o : Nat) (t : Ty) (xs : List t.T) : Prop :=
  ∃ val : Nat → Nat → Value, (∀ i j, i < xs.length → j < t.size → w.cell? ⟨b, o + (i * t.size + j), none⟩ = some (val i j)) ∧
    ∀ i j x u, xs[i]? = some x → (leaves t x)[j]? = some u → Rep w Ow (val i j) u
def SlV (p : Nat → Prop) (w : World) (Ow : Nat → Owner) (v : Value) (t : Ty) (xs : List t.T) : Prop :=
  (xs = [] ∧ ∃ A c, v = .slice A 0 c) ∨
  ∃ ad c, v = .slice (some ad) xs.length c ∧ xs.length ≤ c ∧ p ad.block ∧ ad.spot = none ∧ Rows w Ow ad.block ad.off t xs
theorem rep_sl {w : World} {Ow : Nat → Owner} {v : Value} {t : Ty} {xs : List t.T} : Rep w Ow v ⟨.sl t, xs⟩ ↔ SlV (fun b => Ow b = .imm) w Ow v t xs := by
  constructor
  · intro h
    cases h with
    | nil _ A c => exact .inl ⟨rfl, A, c, rfl⟩
    | sl _ _ ad n c val hn hc ho hs hcell hrep =>
      subst hn
      exact .inr ⟨ad, c, rfl, hc, ho, hs, val, hcell, hrep⟩
  · rintro (⟨rfl, A, c, rfl⟩ | ⟨ad, c, rfl, hc, ho, hs, val, hcell, hrep⟩)
    · exact .nil t A c
    · exact .sl t xs ad _ c val rfl hc ho hs hcell hrep
def RdV (w : World) (Ow : Nat → Owner) (v : Value) (u : Univ) : Prop :=
  match u with
  | ⟨.sl t, xs⟩ => SlV (fun b => Ow b = .imm ∨ Ow b = .rd) w Ow v t xs
  | u => Rep w Ow v u
theorem SlV.imp {p q : Nat → Prop} {w : World} {Ow : Nat → Owner} {v : Value} {t : Ty} {xs : List t.T} (h : SlV p w Ow v t xs) (hpq : ∀ b, p b → q b) : SlV q w Ow v t xs := by
  rcases h with h | ⟨ad, c, h1, h2, h3, h4⟩
  · exact .inl h
  · exact .inr ⟨ad, c, h1, h2, hpq _ h3, h4⟩
theorem Rep.rdv {w : World} {Ow : Nat → Owner} {v : Value} {u : Univ} (h : Rep w Ow v u) : RdV w Ow v u := by
  obtain ⟨t, x⟩ := u
  cases t with
  | sl t => exact SlV.imp (q := fun b => Ow b = .imm ∨ Ow b = .rd) (rep_sl.1 h) fun _ hb => Or.inl hb
  | _ => exact h
def OwnV (w : World) (Ow : Nat → Owner) (l : Nat) (v : Value) (t : Ty) (xs : List t.T) : Prop :=
  (v = .slice none 0 0 ∧ xs = []) ∨
  ∃ b o c, v = .slice (some ⟨b, o, none⟩) xs.length c ∧ xs.length ≤ c ∧ Ow b = .loc l ∧
    (∀ k, k < c * t.size → (w.cell? ⟨b, o + k, none⟩).isSome = true ∧ w.frozen? ⟨b, o + k, none⟩ = false) ∧ Rows w Ow b o t xs
theorem cell?_eq_of_heap {w w' : World} {b : Nat} (h : w'.heap[b]? = w.heap[b]?) (o : Nat) : w'.cell? ⟨b, o, none⟩ = w.cell? ⟨b, o, none⟩ := by
  simp only [World.cell?, h]
theorem frozen?_eq_of_heap {w w' : World} {b : Nat} (h : w'.heap[b]? = w.heap[b]?) (o : Nat) : w'.frozen? ⟨b, o, none⟩ = w.frozen? ⟨b, o, none⟩ := by
  simp only [World.frozen?, h]
def Still (w : World) (Ow : Nat → Owner) (w' : World) (Ow' : Nat → Owner) : Prop := ∀ b, Ow b = .imm → w'.heap[b]? = w.heap[b]? ∧ Ow' b = .imm
theorem Still.refl (w : World) (Ow : Nat → Owner) : Still w Ow w Ow := fun _ h => ⟨rfl, h⟩
theorem Still.trans {w w1 w2 : World} {Ow O1 O2 : Nat → Owner} (h : Still w Ow w1 O1) (k : Still w1 O1 w2 O2) : Still w Ow w2 O2 :=
  fun b hb => ⟨((k b (h b hb).2).1).trans (h b hb).1, (k b (h b hb).2).2⟩
theorem Rep.still {w w' : World} {Ow Ow' : Nat → Owner} (hs : Still w Ow w' Ow') {v : Value} {u : Univ} (h : Rep w Ow v u) : Rep w' Ow' v u := by
  induction h with
  | int k n => exact .int k n
  | bool b => exact .bool b
  | str s => exact .str s
  | nil t A c => exact .nil t A c
  | sl t xs ad n c val hn hc ho hsp hcell _ ih =>
    exact .sl t xs ad n c val hn hc (hs _ ho).2 hsp (fun i j hi hj => by rw [cell?_eq_of_heap (hs _ ho).1]; exact hcell i j hi hj) ih
theorem Rows.still {w w' : World} {Ow Ow' : Nat → Owner} (hs : Still w Ow w' Ow') {b o : Nat} {t : Ty} {xs : List t.T} (hb : w'.heap[b]? = w.heap[b]?)
    (h : Rows w Ow b o t xs) : Rows w' Ow' b o t xs := by
  obtain ⟨val, h1, h2⟩ := h
  exact ⟨val, fun i j hi hj => by rw [cell?_eq_of_heap hb]; exact h1 i j hi hj, fun i j x u hx hu => (h2 i j x u hx hu).still hs⟩
theorem SlV.still {p q : Nat → Prop} {w w' : World} {Ow Ow' : Nat → Owner} (hs : Still w Ow w' Ow') (hp : ∀ b, p b → w'.heap[b]? = w.heap[b]? ∧ q b)
    {v : Value} {t : Ty} {xs : List t.T} (h : SlV p w Ow v t xs) : SlV q w' Ow' v t xs := by
  rcases h with h | ⟨ad, c, h1, h2, h3, h4, h5⟩
  · exact .inl h
  · exact .inr ⟨ad, c, h1, h2, (hp _ h3).2, h4, h5.still hs (hp _ h3).1⟩
theorem RdV.still {w w' : World} {Ow Ow' : Nat → Owner} (hs : Still w Ow w' Ow') (hr : ∀ b, Ow b = .rd → w'.heap[b]? = w.heap[b]? ∧ Ow' b = .rd)
    {v : Value} {u : Univ} (h : RdV w Ow v u) : RdV w' Ow' v u := by
  obtain ⟨t, x⟩ := u
  cases t with
  | sl t =>
    refine SlV.still (p := fun b => Ow b = .imm ∨ Ow b = .rd) (q := fun b => Ow' b = .imm ∨ Ow' b = .rd) hs ?_ h
    rintro b (hb | hb)
    · exact ⟨(hs b hb).1, Or.inl (hs b hb).2⟩
    · exact ⟨(hr b hb).1, Or.inr (hr b hb).2⟩
  | _ => exact Rep.still hs h
theorem OwnV.still {w w' : World} {Ow Ow' : Nat → Owner} {l l' : Nat} (hs : Still w Ow w' Ow') (ho : ∀ b, Ow b = .loc l → w'.heap[b]? = w.heap[b]? ∧ Ow' b = .loc l')
    {v : Value} {t : Ty} {xs : List t.T} (h : OwnV w Ow l v t xs) : OwnV w' Ow' l' v t xs := by
  rcases h with h | ⟨b, o, c, h1, h2, h3, h4, h5⟩
  · exact .inl h
  · refine .inr ⟨b, o, c, h1, h2, (ho b h3).2, fun k hk => ?_, h5.still hs (ho b h3).1⟩
    rw [cell?_eq_of_heap (ho b h3).1, frozen?_eq_of_heap (ho b h3).1]
    exact h4 k hk
theorem OwnV.slv {p : Nat → Prop} {w : World} {Ow : Nat → Owner} {l : Nat} {v : Value} {t : Ty} {xs : List t.T} (h : OwnV w Ow l v t xs) (hp : ∀ b, Ow b = .loc l → p b) :
    SlV p w Ow v t xs := by
  rcases h with ⟨rfl, rfl⟩ | ⟨b, o, c, h1, h2, h3, _, h5⟩
  · exact .inl ⟨rfl, _, _, rfl⟩
  · exact .inr ⟨⟨b, o, none⟩, c, h1, h2, hp b h3, rfl, h5⟩
end Go.Proofs.Fw
set_option linter.unusedVariables false
set_option linter.unusedSimpArgs false
namespace Go.Proofs.Fw
inductive LTag where
  | dead | rd | val | own
  | al (m : Nat)
  | ptr (b off : Nat)
  | ep (m off : Nat) (t : Ty)
  | clo (f : Nat) (caps : List (Nat × Nat))
  deriving DecidableEq
inductive Sh1 where
  | leaf
  | agg (n : Nat)
  deriving DecidableEq
inductive Shape where
  | one (s : Sh1)
  | tup (l : List Sh1)
  | bx (n : Nat)
  deriving DecidableEq
structure GC where
  tag : LTag
  sh : Option Shape
  gd : Option (Nat × Bool)
abbrev SEnv := Nat → GC
abbrev PSt := Nat → Univ
def deadGC : GC := ⟨.dead, none, none⟩
def Sh1.size : Sh1 → Nat
  | .leaf => 1
  | .agg n => n
def asm1 : Sh1 → (Nat → Value) → Value
  | .leaf, f => f 0
  | .agg n, f => .agg ((List.range n).map f).toArray
def asmL : List Sh1 → (Nat → Value) → Nat → List Value
  | [], _, _ => []
  | s :: r, f, o => asm1 s (fun j => f (o + j)) :: asmL r f (o + s.size)
def asm : Shape → (Nat → Value) → Value
  | .one s, f => asm1 s f
  | .tup l, f => .tuple (asmL l f 0).toArray
  | .bx _, _ => undef
def Shape.size : Shape → Nat
  | .one s => s.size
  | .tup l => (l.map Sh1.size).sum
  | .bx n => n
@[reducible] def lc (t j : Nat) : Nat := 64 * t + j
@[reducible] def bc (b j : Nat) : Nat := 64 * (b + 2000) + j
@[reducible] def bm (b : Nat) : Nat := 64 * (b + 6000)
structure Gh where
  V : Nat → Value
  Ow : Nat → Owner
  B : Nat → Nat × Nat
def capV (G : Gh) (c : Nat × Nat) : Value := .pointer (some ⟨(G.B c.1).1, (G.B c.1).2 + c.2, none⟩)
def LOk (w : World) (G : Gh) (S : PSt) (l : Nat) : LTag → Prop
  | .dead => True
  | .rd => RdV w G.Ow (G.V l) (S l)
  | .val => Rep w G.Ow (G.V l) (S l)
  | .own => ∃ t xs, S l = ⟨.sl t, xs⟩ ∧ OwnV w G.Ow l (G.V l) t xs
  | .al m => G.V l = G.V m
  | .ptr b off => G.V l = .pointer (some ⟨(G.B b).1, (G.B b).2 + off, none⟩)
  | .ep m off t => ∃ ad n c i, G.V m = .slice (some ad) n c ∧ S l = uI i ∧ 0 ≤ i ∧ i < n ∧ ad.spot = none ∧
      G.V l = .pointer (some ⟨ad.block, ad.off + (i.toNat * t.size + off), none⟩)
  | .clo f caps => G.V l = .func (.func f) #[] (caps.map (capV G)).toArray
def live (e : GC) (S : PSt) : Prop := ∀ c b, e.gd = some (c, b) → S c = uB b
structure HRel (Γ : SEnv) (S : PSt) (G : Gh) (w : World) : Prop where
  lok : ∀ l, live (Γ l) S → LOk w G S l (Γ l).tag
  box : ∀ b n, (Γ (bm b)).sh = some (.bx n) → G.Ow (G.B b).1 = .box b ∧
    ∀ j, j < n → w.cell? ⟨(G.B b).1, (G.B b).2 + j, none⟩ = some (G.V (bc b j)) ∧ w.frozen? ⟨(G.B b).1, (G.B b).2 + j, none⟩ = false
  new : ∀ k, w.heap.size ≤ k → G.Ow k = .foreign
  bsm : ∀ b n, (Γ (bm b)).sh = some (.bx n) → n ≤ 64 ∧ b < 2000
structure TRel (Γ : SEnv) (S : PSt) (G : Gh) (N : Nat) (a : Act) : Prop where
  size : a.tmps.size = N
  small : ∀ t sh, t < 2000 → (Γ (lc t 0)).sh = some sh → sh.size ≤ 64
  tmp : ∀ t sh, t < 2000 → (Γ (lc t 0)).sh = some sh → live (Γ (lc t 0)) S → a.tmps.getD t undef = asm sh fun j => G.V (lc t j)
  und : ∀ t c b, t < 2000 → (Γ (lc t 0)).gd = some (c, b) → S c ≠ uB b → a.tmps.getD t undef = undef ∧ ∀ x, S (lc t 0) ≠ uB x
  defers : a.defers = []
inductive Wr1 where
  | hard (l : Nat) (e : GC)
  | soft (l : Nat) (t : LTag)
def Wr1.l : Wr1 → Nat
  | .hard l _ => l
  | .soft l _ => l
def hfind : List Wr1 → Nat → Option GC
  | [], _ => none
  | .hard m e :: r, l => if m == l then some e else hfind r l
  | .soft _ _ :: r, l => hfind r l
def sfind : List Wr1 → Nat → Option LTag
  | [], _ => none
  | .soft m t :: r, l => if m == l then some t else sfind r l
  | .hard _ _ :: r, l => sfind r l
def isHard (ws : List Wr1) (l : Nat) : Bool := (hfind ws l).isSome
def isDom (ws : List Wr1) (l : Nat) : Bool := isHard ws l || (sfind ws l).isSome
def LTag.refs : LTag → List Nat
  | .al m => [m]
  | .ep m _ _ => [m]
  | .ptr b _ => [bm b]
  | .clo _ caps => caps.map fun c => bm c.1
  | _ => []
def gdKilled (ws : List Wr1) : Option (Nat × Bool) → Bool
  | some (c, _) => isDom ws c
  | none => false
def killed (ws : List Wr1) (e : GC) : Bool := e.tag.refs.any (isHard ws) || gdKilled ws e.gd
def app (ws : List Wr1) (Γ : SEnv) : SEnv := fun l =>
  match hfind ws l with
  | some e => e
  | none =>
    match sfind ws l with
    | some t => if gdKilled ws (Γ l).gd then deadGC else ⟨t, (Γ l).sh, (Γ l).gd⟩
    | none => if killed ws (Γ l) then deadGC else Γ l
theorem hfind_some {ws : List Wr1} {l : Nat} {e : GC} (h : hfind ws l = some e) : Wr1.hard l e ∈ ws := by
  induction ws with
  | nil => cases h
  | cons y r ih =>
    cases y with
    | hard m e' =>
      simp only [hfind] at h
      split at h
      · rename_i hm
        injection h with h
        subst h
        simp only [beq_iff_eq] at hm
        subst hm
        exact List.mem_cons_self
      · exact List.mem_cons_of_mem _ (ih h)
    | soft m t => exact List.mem_cons_of_mem _ (ih h)
theorem sfind_some {ws : List Wr1} {l : Nat} {t : LTag} (h : sfind ws l = some t) : Wr1.soft l t ∈ ws := by
  induction ws with
  | nil => cases h
  | cons y r ih =>
    cases y with
    | soft m e' =>
      simp only [sfind] at h
      split at h
      · rename_i hm
        injection h with h
        subst h
        simp only [beq_iff_eq] at hm
        subst hm
        exact List.mem_cons_self
      · exact List.mem_cons_of_mem _ (ih h)
    | hard m t => exact List.mem_cons_of_mem _ (ih h)
theorem LOk.last {w w' : World} {G G' : Gh} {S S' : PSt} {l : Nat} {t : LTag} (h : LOk w G S l t) (hV : G'.V l = G.V l) (hS : S' l = S l)
    (hr : ∀ m ∈ t.refs, G'.V m = G.V m ∧ ∀ b, m = bm b → G'.B b = G.B b) (hs : Still w G.Ow w' G'.Ow)
    (hrd : ∀ b, G.Ow b = .rd → w'.heap[b]? = w.heap[b]? ∧ G'.Ow b = .rd)
    (ho : t = .own → ∀ b, G.Ow b = .loc l → w'.heap[b]? = w.heap[b]? ∧ G'.Ow b = .loc l) : LOk w' G' S' l t := by
  cases t with
  | dead => trivial
  | rd => show RdV _ _ _ _; rw [hV, hS]; exact RdV.still hs hrd h
  | val => show Rep _ _ _ _; rw [hV, hS]; exact Rep.still hs h
  | own =>
    obtain ⟨t, xs, h1, h2⟩ := h
    exact ⟨t, xs, hS.trans h1, by rw [hV]; exact h2.still hs (ho rfl)⟩
  | al m =>
    show G'.V l = G'.V m
    rw [hV, (hr m (by simp [LTag.refs])).1]; exact h
  | ptr b off =>
    show G'.V l = _
    rw [hV, (hr (bm b) (by simp [LTag.refs])).2 b rfl]; exact h
  | ep m off t =>
    obtain ⟨ad, n, c, i, h1, h2, h3⟩ := h
    exact ⟨ad, n, c, i, (hr m (by simp [LTag.refs])).1.trans h1, hS.trans h2, h3.1, h3.2.1, h3.2.2.1, hV.trans h3.2.2.2⟩
  | clo f caps =>
    show G'.V l = _
    have e : caps.map (capV G') = caps.map (capV G) := List.map_congr_left fun c hc => by
      unfold capV
      rw [(hr (bm c.1) (by simp only [LTag.refs, List.mem_map]; exact ⟨c, hc, rfl⟩)).2 c.1 rfl]
    rw [hV, e]; exact h
theorem bm_inj {a b : Nat} (h : bm a = bm b) : a = b := by simp only [bm] at h; omega
theorem HRel.step {Γ : SEnv} {S : PSt} {G : Gh} {w : World} (R : HRel Γ S G w) {ws : List Wr1} {S' : PSt} {G' : Gh} {w' : World}
    (hV : ∀ l, isHard ws l = false → G'.V l = G.V l) (hS : ∀ l, isDom ws l = false → S' l = S l)
    (hB : ∀ b, isHard ws (bm b) = false → G'.B b = G.B b) (hs : Still w G.Ow w' G'.Ow)
    (hrd : ∀ b, G.Ow b = .rd → w'.heap[b]? = w.heap[b]? ∧ G'.Ow b = .rd)
    (hown : ∀ l, isDom ws l = false → ∀ b, G.Ow b = .loc l → w'.heap[b]? = w.heap[b]? ∧ G'.Ow b = .loc l)
    (hbox : ∀ b n, (Γ (bm b)).sh = some (.bx n) → isHard ws (bm b) = false → G'.Ow (G.B b).1 = .box b ∧
      ∀ j, j < n → w'.cell? ⟨(G.B b).1, (G.B b).2 + j, none⟩ = some (G'.V (bc b j)) ∧ w'.frozen? ⟨(G.B b).1, (G.B b).2 + j, none⟩ = false)
    (hhard : ∀ l e, Wr1.hard l e ∈ ws → live e S' → LOk w' G' S' l e.tag)
    (hhbox : ∀ b e n, Wr1.hard (bm b) e ∈ ws → e.sh = some (.bx n) → G'.Ow (G'.B b).1 = .box b ∧
      ∀ j, j < n → w'.cell? ⟨(G'.B b).1, (G'.B b).2 + j, none⟩ = some (G'.V (bc b j)) ∧ w'.frozen? ⟨(G'.B b).1, (G'.B b).2 + j, none⟩ = false)
    (hsoft : ∀ l t, Wr1.soft l t ∈ ws → live (Γ l) S → LOk w' G' S' l t)
    (hnew : ∀ k, w'.heap.size ≤ k → G'.Ow k = .foreign)
    (hsm : ∀ b e n, Wr1.hard (bm b) e ∈ ws → e.sh = some (.bx n) → n ≤ 64 ∧ b < 2000) : HRel (app ws Γ) S' G' w' := by
  have live_back : ∀ l, gdKilled ws (Γ l).gd = false → (∀ c b, (Γ l).gd = some (c, b) → S' c = uB b) → live (Γ l) S := by
    intro l hk hl c b hc
    have := hl c b hc
    rw [hS c (by rw [hc] at hk; exact hk)] at this
    exact this
  have hboxsh : ∀ b n, (app ws Γ (bm b)).sh = some (.bx n) → (∃ e, Wr1.hard (bm b) e ∈ ws ∧ e.sh = some (.bx n)) ∨ (isHard ws (bm b) = false ∧ (Γ (bm b)).sh = some (.bx n)) := by
    intro b n hb
    unfold app at hb
    cases hf : hfind ws (bm b) with
    | some e =>
      rw [hf] at hb
      exact .inl ⟨e, hfind_some hf, hb⟩
    | none =>
      have hh : isHard ws (bm b) = false := by simp [isHard, hf]
      rw [hf] at hb
      simp only at hb
      refine .inr ⟨hh, ?_⟩
      cases hg : sfind ws (bm b) with
      | some t =>
        rw [hg] at hb
        simp only at hb
        cases hk : gdKilled ws (Γ (bm b)).gd with
        | true => rw [hk] at hb; cases hb
        | false => rw [hk] at hb; exact hb
      | none =>
        rw [hg] at hb
        simp only at hb
        cases hk : killed ws (Γ (bm b)) with
        | true => rw [hk] at hb; cases hb
        | false => rw [hk] at hb; exact hb
  refine ⟨?_, ?_, hnew, ?_⟩
  · intro l hl
    unfold app at hl ⊢
    cases hf : hfind ws l with
    | some e =>
      rw [hf] at hl
      exact hhard l e (hfind_some hf) hl
    | none =>
      have hh : isHard ws l = false := by simp [isHard, hf]
      rw [hf] at hl
      simp only at hl ⊢
      cases hg : sfind ws l with
      | some t =>
        rw [hg] at hl
        simp only at hl ⊢
        cases hk : gdKilled ws (Γ l).gd with
        | true => simp only [if_true]; trivial
        | false =>
          rw [hk] at hl
          simp only [Bool.false_eq_true, if_false] at hl ⊢
          exact hsoft l t (sfind_some hg) (live_back l hk hl)
      | none =>
        have hd : isDom ws l = false := by simp [isDom, hh, hg]
        rw [hg] at hl
        simp only at hl ⊢
        cases hk : killed ws (Γ l) with
        | true => simp only [if_true]; trivial
        | false =>
          rw [hk] at hl
          simp only [Bool.false_eq_true, if_false] at hl ⊢
          simp only [killed, Bool.or_eq_false_iff] at hk
          refine (R.lok l (live_back l hk.2 hl)).last (hV l hh) (hS l hd) ?_ hs hrd (fun _ => hown l hd)
          intro m hm
          have hm' : isHard ws m = false := by
            have := hk.1
            rw [List.any_eq_false] at this
            simpa using this m hm
          exact ⟨hV m hm', fun b hb => hB b (hb ▸ hm')⟩
  · intro b n hb
    rcases hboxsh b n hb with ⟨e, he, hs⟩ | ⟨hh, hb'⟩
    · exact hhbox b e n he hs
    · rw [hB b hh]; exact hbox b n hb' hh
  · intro b n hb
    rcases hboxsh b n hb with ⟨e, he, hs⟩ | ⟨_, hb'⟩
    · exact hsm b e n he hs
    · exact R.bsm b n hb'
end Go.Proofs.Fw
set_option linter.unusedVariables false
set_option linter.unusedSimpArgs false
namespace Go.Proofs.Fw
inductive Src where
  | loc (l : Nat)
  | con (u : Univ)
def Src.get (S : PSt) : Src → Univ
  | .loc l => S l
  | .con u => u
def LIM : Nat := 68719476736
inductive POp where
  | cp (ps : List (Nat × Src))
  | pick (d : Nat) (c a b : Src)
  | bin (op : BinOp) (d : Nat) (a b : Src)
  | un (op : UnOp) (d : Nat) (a : Src)
  | beq (neg : Bool) (d : Nat) (a b : Src)
  | conv (k : IntKind) (d : Nat) (a : Src)
  | s2b (d : Nat) (a : Src)
  | b2s (d : Nat) (a : Src)
  | len (st : Bool) (d : Nat) (a : Src)
  | idx (d m : Nat) (t : Ty) (i : Src)
  | sidx (d : Nat) (s i : Src)
  | getE (m i off : Nat) (t : Ty) (ds : List Nat)
  | setE (m i off : Nat) (t : Ty) (srcs : List Src)
  | app (d : Nat) (t : Ty) (a b : Src)
  | appS (d : Nat) (a b : Src)
  | mkSl (d : Nat) (t : Ty) (rows : List (List Src))
  | makeS (d : Nat) (t : Ty) (n : Src)
  | sub (d : Nat) (t : Ty) (a : Src) (lo hi : Option Src)
  | subS (d : Nat) (a : Src) (lo hi : Option Src)
  | eqL (d : Nat) (neg : Bool) (tys : List Ty) (as bs : List Src)
  | mm (isMin : Bool) (d : Nat) (a b : Src)
  | call (e : Nat) (args : List Src) (ds : List Nat)
section
variable {R : Type}
def bnd {α : Type} (o : Option α) (k : α → Option R) : Option R := match o with | some x => k x | none => none
def chk (b : Bool) (k : Option R) : Option R := match b with | true => k | false => none
def idxK {α : Type} (xs : List α) (i : Int) (k : α → Option R) : Option R := chk (decide (0 ≤ i)) (bnd xs[i.toNat]? k)
def appK {α : Type} (xs ys : List α) (k : List α → Option R) : Option R := chk (decide (xs.length + ys.length ≤ LIM)) (k (xs ++ ys))
def subK {α : Type} (xs : List α) (lo hi : Int) (k : List α → Option R) : Option R :=
  chk (decide (0 ≤ lo)) (chk (decide (lo ≤ hi)) (chk (decide (hi ≤ xs.length)) (k ((xs.take hi.toNat).drop lo.toNat))))
def makeK {α : Type} (z : α) (n : Int) (k : List α → Option R) : Option R := chk (decide (0 ≤ n)) (chk (decide (n ≤ LIM)) (k (List.replicate n.toNat z)))
end
def zeroKey : Key := ⟨0, 0, 0, 0, 0⟩
def zeroOp : OpR := ⟨0, [], [], 0, 0⟩
def zeroT : (t : Ty) → t.T
  | .int _ => (0 : Int)
  | .bool => false
  | .str => []
  | .sl t => []
  | .st .key => zeroKey
  | .st .node => (⟨[]⟩ : Node)
  | .st .age => (⟨0, 0⟩ : Age)
  | .st .cell => (⟨0, false, 0⟩ : Cell)
  | .st .vol => (⟨[], 0, 0, false⟩ : Vol)
  | .st .map => (⟨[], false, []⟩ : MapR)
  | .st .wr => (⟨0, []⟩ : Wr)
  | .st .op => zeroOp
  | .st .ent => (⟨0, zeroOp⟩ : Ent)
  | .st .event => (⟨0, zeroOp, 0⟩ : Event)
def zeroU (t : Ty) : Univ := ⟨t, zeroT t⟩
def lessI : List Int → List Int → Bool
  | _, [] => false
  | [], _ :: _ => true
  | a :: x, b :: y => decide (a < b) || (decide (a = b) && lessI x y)
def bitsI (op : BinOp) (k : IntKind) (x y : Int) : Int :=
  match op with
  | .and => k.wrap ((BitVec.ofInt k.bits x &&& BitVec.ofInt k.bits y).toNat : Int)
  | .or => k.wrap ((BitVec.ofInt k.bits x ||| BitVec.ofInt k.bits y).toNat : Int)
  | .xor => k.wrap ((BitVec.ofInt k.bits x ^^^ BitVec.ofInt k.bits y).toNat : Int)
  | _ => k.wrap ((BitVec.ofInt k.bits x &&& ~~~BitVec.ofInt k.bits y).toNat : Int)
section
variable {R : Type}
def intK (op : BinOp) (k : IntKind) (x y : Int) (f : Univ → Option R) : Option R :=
  match op with
  | .add => f ⟨.int k, k.wrap (x + y)⟩
  | .sub => f ⟨.int k, k.wrap (x - y)⟩
  | .mul => f ⟨.int k, k.wrap (x * y)⟩
  | .quo => chk (decide (y ≠ 0)) (f ⟨.int k, k.wrap (x.tdiv y)⟩)
  | .rem => chk (decide (y ≠ 0)) (f ⟨.int k, x.tmod y⟩)
  | .and => f ⟨.int k, bitsI .and k x y⟩
  | .or => f ⟨.int k, bitsI .or k x y⟩
  | .xor => f ⟨.int k, bitsI .xor k x y⟩
  | .andNot => f ⟨.int k, bitsI .andNot k x y⟩
  | .eql => f (uB (decide (x = y)))
  | .neq => f (uB (decide (x ≠ y)))
  | .lss => f (uB (decide (x < y)))
  | .leq => f (uB (decide (x ≤ y)))
  | .gtr => f (uB (decide (x > y)))
  | .geq => f (uB (decide (x ≥ y)))
  | _ => none
def shK (op : BinOp) (k : IntKind) (x y : Int) (f : Univ → Option R) : Option R :=
  match op with
  | .shl => chk (decide (0 ≤ y)) (f ⟨.int k, k.wrap (x * 2 ^ min y.toNat k.bits)⟩)
  | .shr => chk (decide (0 ≤ y)) (f ⟨.int k, x.fdiv (2 ^ min y.toNat k.bits)⟩)
  | _ => none
def isSh : BinOp → Bool
  | .shl | .shr => true
  | _ => false
def strK (op : BinOp) (x y : List Int) (f : Univ → Option R) : Option R :=
  match op with
  | .add => appK x y fun z => f (uS z)
  | .eql => f (uB (decide (x = y)))
  | .neq => f (uB (decide (x ≠ y)))
  | .lss => f (uB (lessI x y))
  | .gtr => f (uB (!(lessI x y || decide (x = y))))
  | .leq => f (uB (lessI x y || decide (x = y)))
  | .geq => f (uB (!lessI x y))
  | _ => none
def binK (op : BinOp) (a b : Univ) (f : Univ → Option R) : Option R :=
  match a, b with
  | ⟨.int k, x⟩, ⟨.int k', y⟩ => match isSh op with
    | true => shK op k x y f
    | false => if k = k' then intK op k x y f else none
  | ⟨.str, x⟩, ⟨.str, y⟩ => strK op x y f
  | _, _ => none
def unK (op : UnOp) (a : Univ) (f : Univ → Option R) : Option R :=
  match op, a with
  | .not, ⟨.bool, b⟩ => f (uB (!b))
  | .neg, ⟨.int k, n⟩ => f ⟨.int k, k.wrap (0 - n)⟩
  | .xor, ⟨.int k, n⟩ => f ⟨.int k, bitsI .xor k (if k.signed then -1 else k.max) n⟩
  | _, _ => none
def lenK (st : Bool) (a : Univ) (f : Int → Option R) : Option R :=
  match st, a with
  | false, ⟨.sl _, xs⟩ => f (xs.length : Int)
  | true, ⟨.str, s⟩ => f (s.length : Int)
  | _, _ => none
def convK (kd : IntKind) (a : Univ) (f : Univ → Option R) : Option R :=
  match a with
  | ⟨.int _, n⟩ => f ⟨.int kd, kd.wrap n⟩
  | _ => none
def getEK (t : Ty) (a iu : Univ) (off n : Nat) (f : List Univ → Option R) : Option R :=
  bnd (a.cast (.sl t)) fun xs => bnd (iu.cast (.int .i64)) fun i => match decide (off + n ≤ t.size) with
    | true => idxK xs i fun x => f ((leaves t x).drop off)
    | false => none
def eqT (t : Ty) (a b : Univ) (f : Bool → Option R) : Option R :=
  match t with
  | .int k => bnd (a.cast (.int k)) fun x => bnd (b.cast (.int k)) fun y => f (decide ((x : Int) = y))
  | .str => bnd (a.cast .str) fun x => bnd (b.cast .str) fun y => f (decide ((x : List Int) = y))
  | .bool => bnd (a.cast .bool) fun x => bnd (b.cast .bool) fun y => f ((x : Bool) == y)
  | _ => none
def eqLK : List Ty → List Univ → List Univ → (Bool → Option R) → Option R
  | [], [], [], f => f true
  | t :: ts, a :: r, b :: s, f => eqT t a b fun x => eqLK ts r s fun y => f (x && y)
  | _, _, _, _ => none
def mkRows (t : Ty) : List (List Univ) → (List t.T → Option R) → Option R
  | [], f => f []
  | r :: rs, f => bnd (mk? t r) fun x => mkRows t rs fun xs => f (x :: xs)
def splice : List Univ → Nat → List Univ → List Univ
  | l, 0, us => us ++ l.drop us.length
  | [], _ + 1, _ => []
  | x :: r, n + 1, us => x :: splice r n us
end
structure CSem where
  k : {R : Type} → Nat → List Univ → (List Univ → Option R) → Option R
  nat : ∀ {R R' : Type} (e : Nat) (args : List Univ) (f : List Univ → Option R) (g : R → Option R'), (k e args f).bind g = k e args fun rs => (f rs).bind g
def normB (n : Int) : Int := ((UInt8.ofNat n.toNat).toNat : Int)
def optG (S : PSt) : Option Src → Option Univ
  | some s => some (s.get S)
  | none => none
def POp.evalK {R : Type} (sem : CSem) (S : PSt) (o : POp) (k : List (Nat × Univ) → Option R) : Option R :=
  match o with
  | .cp ps => k (ps.map fun p => (p.1, p.2.get S))
  | .pick d c a b => bnd ((c.get S).cast .bool) fun x => match x with
    | true => bnd ((a.get S).cast .bool) fun y => k [(d, uB y)]
    | false => bnd ((b.get S).cast .bool) fun y => k [(d, uB y)]
  | .bin op d a b => binK op (a.get S) (b.get S) fun u => k [(d, u)]
  | .beq neg d a b => bnd ((a.get S).cast .bool) fun x => bnd ((b.get S).cast .bool) fun y => k [(d, uB (neg ^^ (x == y)))]
  | .un op d a => unK op (a.get S) fun u => k [(d, u)]
  | .conv kd d a => convK kd (a.get S) fun u => k [(d, u)]
  | .s2b d a => bnd ((a.get S).cast .str) fun s => chk (decide (s.length ≤ LIM)) (k [(d, ⟨.sl (.int .u8), s⟩)])
  | .b2s d a => bnd ((a.get S).cast (.sl (.int .u8))) fun s => k [(d, uS (s.map normB))]
  | .len st d a => lenK st (a.get S) fun n => k [(d, uI n)]
  | .idx d m t i => bnd ((S m).cast (.sl t)) fun xs => bnd ((i.get S).cast (.int .i64)) fun n => chk (decide (0 ≤ n)) (chk (decide (n < xs.length)) (k [(d, uI n)]))
  | .sidx d s i => bnd ((s.get S).cast .str) fun xs => bnd ((i.get S).cast (.int .i64)) fun n => idxK xs n fun x => k [(d, ⟨.int .u8, x⟩)]
  | .getE m i off t ds => getEK t (S m) (S i) off ds.length fun us => k (ds.zip us)
  | .setE m i off t srcs => bnd ((S m).cast (.sl t)) fun xs => bnd ((S i).cast (.int .i64)) fun n => match decide (off + srcs.length ≤ t.size) with
    | true => idxK xs n fun x => bnd (mk? t (splice (leaves t x) off (srcs.map fun s => s.get S))) fun y => k [(m, ⟨.sl t, xs.set n.toNat y⟩)]
    | false => none
  | .app d t a b => bnd ((a.get S).cast (.sl t)) fun xs => bnd ((b.get S).cast (.sl t)) fun ys => appK xs ys fun zs => k [(d, ⟨.sl t, zs⟩)]
  | .appS d a b => bnd ((a.get S).cast (.sl (.int .u8))) fun xs => bnd ((b.get S).cast .str) fun ys => appK xs ys fun zs => k [(d, ⟨.sl (.int .u8), zs⟩)]
  | .mkSl d t rows => mkRows t (rows.map fun r => r.map fun s => s.get S) fun xs => k [(d, ⟨.sl t, xs⟩)]
  | .makeS d t n => bnd ((n.get S).cast (.int .i64)) fun n => makeK (zeroT t) n fun xs => k [(d, ⟨.sl t, xs⟩)]
  | .sub d t a lo hi => bnd ((a.get S).cast (.sl t)) fun xs =>
    bnd (match optG S lo with | some u => u.cast (.int .i64) | none => some 0) fun l =>
    bnd (match optG S hi with | some u => u.cast (.int .i64) | none => some (xs.length : Int)) fun h => subK xs l h fun ys => k [(d, ⟨.sl t, ys⟩)]
  | .subS d a lo hi => bnd ((a.get S).cast .str) fun xs =>
    bnd (match optG S lo with | some u => u.cast (.int .i64) | none => some 0) fun l =>
    bnd (match optG S hi with | some u => u.cast (.int .i64) | none => some (xs.length : Int)) fun h => subK xs l h fun ys => k [(d, uS ys)]
  | .eqL d neg tys as bs => eqLK tys (as.map fun s => s.get S) (bs.map fun s => s.get S) fun b => k [(d, uB (neg ^^ b))]
  | .mm isMin d a b => bnd ((a.get S).cast (.int .i64)) fun x => bnd ((b.get S).cast (.int .i64)) fun y => k [(d, uI (match isMin with | true => min x y | false => max x y))]
  | .call e args ds => sem.k e (args.map fun s => s.get S) fun rs => match decide (rs.length = ds.length) with
    | true => k (ds.zip rs)
    | false => none
def POp.eval (sem : CSem) (S : PSt) (o : POp) : Option (List (Nat × Univ)) := o.evalK sem S some
theorem bnd_some {α R : Type} {o : Option α} {k : α → Option R} {r : R} (h : bnd o k = some r) : ∃ x, o = some x ∧ k x = some r := by
  cases o with
  | none => cases h
  | some x => exact ⟨x, rfl, h⟩
theorem chk_some {R : Type} {b : Bool} {k : Option R} {r : R} (h : chk b k = some r) : b = true ∧ k = some r := by
  cases b with
  | false => cases h
  | true => exact ⟨rfl, h⟩
section
variable {R R' : Type}
theorem bnd_nat {α : Type} (o : Option α) (k : α → Option R) (g : R → Option R') : (bnd o k).bind g = bnd o fun x => (k x).bind g := by cases o <;> rfl
theorem chk_nat (b : Bool) (k : Option R) (g : R → Option R') : (chk b k).bind g = chk b (k.bind g) := by cases b <;> rfl
theorem idxK_nat {α : Type} (xs : List α) (i : Int) (k : α → Option R) (g : R → Option R') : (idxK xs i k).bind g = idxK xs i fun x => (k x).bind g := by
  unfold idxK; rw [chk_nat, bnd_nat]
theorem appK_nat {α : Type} (xs ys : List α) (k : List α → Option R) (g : R → Option R') : (appK xs ys k).bind g = appK xs ys fun x => (k x).bind g := by
  unfold appK; rw [chk_nat]
theorem subK_nat {α : Type} (xs : List α) (lo hi : Int) (k : List α → Option R) (g : R → Option R') : (subK xs lo hi k).bind g = subK xs lo hi fun x => (k x).bind g := by
  unfold subK; rw [chk_nat, chk_nat, chk_nat]
theorem makeK_nat {α : Type} (z : α) (n : Int) (k : List α → Option R) (g : R → Option R') : (makeK z n k).bind g = makeK z n fun x => (k x).bind g := by
  unfold makeK; rw [chk_nat, chk_nat]
theorem intK_nat (op : BinOp) (ki : IntKind) (x y : Int) (k : Univ → Option R) (g : R → Option R') : (intK op ki x y k).bind g = intK op ki x y fun u => (k u).bind g := by
  cases op <;> first | rfl | exact chk_nat _ _ _
theorem shK_nat (op : BinOp) (ki : IntKind) (x y : Int) (k : Univ → Option R) (g : R → Option R') : (shK op ki x y k).bind g = shK op ki x y fun u => (k u).bind g := by
  cases op <;> first | rfl | exact chk_nat _ _ _
theorem strK_nat (op : BinOp) (x y : List Int) (k : Univ → Option R) (g : R → Option R') : (strK op x y k).bind g = strK op x y fun u => (k u).bind g := by
  cases op <;> first | rfl | (unfold strK; exact appK_nat _ _ _ _)
theorem binK_nat (op : BinOp) (a b : Univ) (k : Univ → Option R) (g : R → Option R') : (binK op a b k).bind g = binK op a b fun u => (k u).bind g := by
  obtain ⟨t, x⟩ := a
  obtain ⟨t', y⟩ := b
  cases t <;> cases t' <;> try rfl
  · unfold binK
    cases isSh op
    · simp only
      split
      · exact intK_nat _ _ _ _ _ _
      · rfl
    · exact shK_nat _ _ _ _ _ _
  · exact strK_nat _ _ _ _ _
theorem unK_nat (op : UnOp) (a : Univ) (k : Univ → Option R) (g : R → Option R') : (unK op a k).bind g = unK op a fun u => (k u).bind g := by
  obtain ⟨t, x⟩ := a
  cases op <;> cases t <;> rfl
theorem lenK_nat (st : Bool) (a : Univ) (k : Int → Option R) (g : R → Option R') : (lenK st a k).bind g = lenK st a fun u => (k u).bind g := by
  obtain ⟨t, x⟩ := a
  cases st <;> cases t <;> rfl
theorem eqT_nat (t : Ty) (a b : Univ) (k : Bool → Option R) (g : R → Option R') : (eqT t a b k).bind g = eqT t a b fun u => (k u).bind g := by
  cases t with
  | int k => unfold eqT; rw [bnd_nat]; congr 1; funext x; exact bnd_nat _ _ _
  | str => unfold eqT; rw [bnd_nat]; congr 1; funext x; exact bnd_nat _ _ _
  | bool => unfold eqT; rw [bnd_nat]; congr 1; funext x; exact bnd_nat _ _ _
  | _ => rfl
theorem getEK_nat (t : Ty) (a iu : Univ) (off n : Nat) (k : List Univ → Option R) (g : R → Option R') : (getEK t a iu off n k).bind g = getEK t a iu off n fun u => (k u).bind g := by
  unfold getEK
  rw [bnd_nat]; congr 1; funext x
  rw [bnd_nat]; congr 1; funext y
  cases decide (off + n ≤ _) with
  | true => exact idxK_nat _ _ _ _
  | false => rfl
theorem convK_nat (kd : IntKind) (a : Univ) (k : Univ → Option R) (g : R → Option R') : (convK kd a k).bind g = convK kd a fun u => (k u).bind g := by
  obtain ⟨t, x⟩ := a
  cases t <;> rfl
theorem eqLK_nat : ∀ (ts : List Ty) (a b : List Univ) (k : Bool → Option R) (g : R → Option R'), (eqLK ts a b k).bind g = eqLK ts a b fun u => (k u).bind g
  | [], [], [], _, _ => rfl
  | [], [], _ :: _, _, _ => rfl
  | [], _ :: _, _, _, _ => rfl
  | _ :: _, [], _, _, _ => rfl
  | _ :: _, _ :: _, [], _, _ => rfl
  | t :: ts, a :: r, b :: s, k, g => by
    show (eqT t a b _).bind g = eqT t a b _
    rw [eqT_nat]
    congr 1
    funext x
    exact eqLK_nat ts r s _ g
theorem mkRows_nat (t : Ty) : ∀ (l : List (List Univ)) (k : List t.T → Option R) (g : R → Option R'), (mkRows t l k).bind g = mkRows t l fun u => (k u).bind g
  | [], _, _ => rfl
  | r :: rs, k, g => by
    show (bnd _ _).bind g = bnd _ _
    rw [bnd_nat]
    congr 1
    funext x
    exact mkRows_nat t rs _ g
theorem POp.nat (sem : CSem) (S : PSt) (o : POp) (k : List (Nat × Univ) → Option R) (g : R → Option R') : (o.evalK sem S k).bind g = o.evalK sem S fun ws => (k ws).bind g := by
  cases o with
  | cp ps => rfl
  | pick d c a b => unfold POp.evalK; rw [bnd_nat]; congr 1; funext x; cases x <;> exact bnd_nat _ _ _
  | bin op d a b => exact binK_nat _ _ _ _ _
  | beq neg d a b => unfold POp.evalK; rw [bnd_nat]; congr 1; funext x; exact bnd_nat _ _ _
  | un op d a => unfold POp.evalK; exact unK_nat _ _ _ _
  | conv kd d a => unfold POp.evalK; exact convK_nat _ _ _ _
  | s2b d a => unfold POp.evalK; rw [bnd_nat]; congr 1; funext x; exact chk_nat _ _ _
  | b2s d a => exact bnd_nat _ _ _
  | len st d a => unfold POp.evalK; exact lenK_nat _ _ _ _
  | idx d m t i => unfold POp.evalK; rw [bnd_nat]; congr 1; funext x; rw [bnd_nat]; congr 1; funext y; rw [chk_nat, chk_nat]
  | sidx d s i => unfold POp.evalK; rw [bnd_nat]; congr 1; funext x; rw [bnd_nat]; congr 1; funext y; exact idxK_nat _ _ _ _
  | getE m i off t ds => unfold POp.evalK; exact getEK_nat _ _ _ _ _ _ _
  | setE m i off t srcs =>
    unfold POp.evalK
    rw [bnd_nat]; congr 1; funext x; rw [bnd_nat]; congr 1; funext y
    cases decide (off + srcs.length ≤ _) with
    | true => simp only; rw [idxK_nat]; congr 1; funext z; exact bnd_nat _ _ _
    | false => rfl
  | app d t a b => unfold POp.evalK; rw [bnd_nat]; congr 1; funext x; rw [bnd_nat]; congr 1; funext y; exact appK_nat _ _ _ _
  | appS d a b => unfold POp.evalK; rw [bnd_nat]; congr 1; funext x; rw [bnd_nat]; congr 1; funext y; exact appK_nat _ _ _ _
  | mkSl d t rows => exact mkRows_nat _ _ _ _
  | makeS d t n => unfold POp.evalK; rw [bnd_nat]; congr 1; funext x; exact makeK_nat _ _ _ _
  | sub d t a lo hi => unfold POp.evalK; rw [bnd_nat]; congr 1; funext x; rw [bnd_nat]; congr 1; funext y; rw [bnd_nat]; congr 1; funext z; exact subK_nat _ _ _ _ _
  | subS d a lo hi => unfold POp.evalK; rw [bnd_nat]; congr 1; funext x; rw [bnd_nat]; congr 1; funext y; rw [bnd_nat]; congr 1; funext z; exact subK_nat _ _ _ _ _
  | eqL d neg tys as bs => exact eqLK_nat _ _ _ _ _
  | mm isMin d a b => unfold POp.evalK; rw [bnd_nat]; congr 1; funext x; exact bnd_nat _ _ _
  | call e args ds =>
    unfold POp.evalK
    rw [sem.nat]
    congr 1
    funext rs
    cases decide (rs.length = ds.length) <;> rfl
theorem POp.evalK_some {sem : CSem} {S : PSt} {o : POp} {k : List (Nat × Univ) → Option R} {r : R} (h : o.evalK sem S k = some r) :
    ∃ ws, o.eval sem S = some ws ∧ k ws = some r := by
  have h1 : (o.eval sem S).bind k = some r := by
    unfold POp.eval
    rw [POp.nat]
    exact h
  cases e : o.eval sem S with
  | none => rw [e] at h1; cases h1
  | some ws => rw [e] at h1; exact ⟨ws, rfl, h1⟩
end
def upds (S : PSt) : List (Nat × Univ) → PSt
  | [] => S
  | (l, u) :: r => upds (fun m => match Nat.beq m l with | true => u | false => S m) r
end Go.Proofs.Fw
set_option linter.unusedVariables false
set_option linter.unusedSimpArgs false
namespace Go.Proofs.Fw
inductive Rd (α : Type) where
  | ret (a : α)
  | fail
  | get (l : Nat) (k : GC → Rd α)
def Rd.bind {α β : Type} : Rd α → (α → Rd β) → Rd β
  | .ret a, f => f a
  | .fail, _ => .fail
  | .get l k, f => .get l fun e => (k e).bind f
def Rd.run {α : Type} (Γ : SEnv) : Rd α → Option α
  | .ret a => some a
  | .fail => none
  | .get l k => (k (Γ l)).run Γ
def Rd.log {α : Type} (Γ : SEnv) : Rd α → List Nat
  | .ret _ => []
  | .fail => []
  | .get l k => l :: (k (Γ l)).log Γ
def Rd.opt {α : Type} : Option α → Rd α
  | some a => .ret a
  | none => .fail
def Rd.or {α : Type} : Rd α → Rd α → Rd α
  | .ret a, _ => .ret a
  | .fail, y => y
  | .get l k, y => .get l fun e => (k e).or y
theorem Rd.run_or {α : Type} {Γ : SEnv} {x y : Rd α} {a : α} (h : (x.or y).run Γ = some a) : x.run Γ = some a ∨ y.run Γ = some a := by
  induction x with
  | ret b => exact .inl h
  | fail => exact .inr h
  | get l k ih => exact ih (Γ l) h
def Rd.must (b : Bool) : Rd Unit := match b with | true => .ret () | false => .fail
theorem Rd.run_bind {α β : Type} {Γ : SEnv} {x : Rd α} {f : α → Rd β} {b : β} (h : (x.bind f).run Γ = some b) : ∃ a, x.run Γ = some a ∧ (f a).run Γ = some b := by
  induction x with
  | ret a => exact ⟨a, rfl, h⟩
  | fail => cases h
  | get l k ih => exact ih (Γ l) h
theorem Rd.run_opt {α : Type} {Γ : SEnv} {o : Option α} {a : α} (h : (Rd.opt o).run Γ = some a) : o = some a := by
  cases o with
  | none => cases h
  | some b => exact h
theorem Rd.run_must {Γ : SEnv} {b : Bool} {a : Unit} (h : (Rd.must b).run Γ = some a) : b = true := by
  cases b with
  | false => cases h
  | true => rfl
def St.tys : St → List Ty
  | .key => [.int .i64, .int .i64, .int .i64, .int .i64, .int .i64]
  | .node => [.sl (.sl (.st .key))]
  | .age => [.int .i64, .int .i64]
  | .cell => [.int .i64, .bool, .int .i64]
  | .vol => [.str, .int .i64, .int .i64, .bool]
  | .map => [.str, .bool, .sl (.int .i64)]
  | .wr => [.int .i64, .sl (.int .u8)]
  | .op => [.int .i64, .str, .str, .int .i64, .int .i64]
  | .ent => [.int .i64, .int .i64, .str, .str, .int .i64, .int .i64]
  | .event => [.int .i64, .int .i64, .str, .str, .int .i64, .int .i64, .int .i64]
def stOf (l : List Ty) : Option St := [St.key, .node, .age, .cell, .vol, .map, .wr, .op, .ent, .event].find? fun s => decide (s.tys = l)
def isStruct (P : Program) (T : TypeId) : Bool := match P.underlying T with | some (.struct _) => true | _ => false
def lfTys (P : Program) : Nat → TypeId → Option (List Ty)
  | 0, _ => none
  | n + 1, T => match P.underlying T with
    | some (.int k) => some [.int k]
    | some .bool => some [.bool]
    | some .string => some [.str]
    | some (.slice e) => (lfTys P n e).bind fun l => match isStruct P e, l with
      | true, l => (stOf l).map fun s => [.sl (.st s)]
      | false, [t] => some [.sl t]
      | false, _ => none
    | some (.struct fs) => fs.toList.foldr (fun f acc => (lfTys P n f.type).bind fun a => acc.map (a ++ ·)) (some [])
    | _ => none
def sizeT (P : Program) (T : TypeId) : Option Nat := (P.info? T).map (·.size)
def elTy (P : Program) (T : TypeId) : Option (TypeId × Ty) :=
  match P.underlying T, lfTys P 12 T with
  | some (.slice e), some [.sl t] => if sizeT P e = some t.size then some (e, t) else none
  | _, _ => none
def sh1Of (P : Program) (T : TypeId) : Option Sh1 :=
  match P.underlying T, sizeT P T with
  | some (.struct _), some n => some (.agg n)
  | some (.array _ _), _ => none
  | some _, some n => if n = 1 then some .leaf else none
  | _, _ => none
def valIs : Value → Univ → Bool
  | .int k n, ⟨.int k', m⟩ => decide (k = k') && decide (n = m)
  | .bool b, ⟨.bool, c⟩ => b == c
  | .string s, ⟨.str, l⟩ => decide (bytesOf s = l)
  | .slice none 0 0, ⟨.sl _, []⟩ => true
  | _, _ => false
def valsAre : List Value → List Univ → Bool
  | [], [] => true
  | v :: r, u :: s => valIs v u && valsAre r s
  | _, _ => false
inductive LS where
  | loc (l : Nat)
  | con (v : Value) (u : Univ) (t : LTag)
def constLeaf (t : Option Ty) (v : Value) : LS :=
  match v, t with
  | .int k n, _ => .con v ⟨.int k, n⟩ .val
  | .bool b, _ => .con v (uB b) .val
  | .string s, _ => .con v (uS (bytesOf s)) .val
  | .slice none 0 0, some (.sl t) => .con v ⟨.sl t, []⟩ .own
  | _, _ => .con v (uB false) .dead
def gdOk (g : List (Nat × Bool)) (gd : Option (Nat × Bool)) : Bool := match gd with
  | none => true
  | some x => g.contains x
def opLeaves (P : Program) (g : List (Nat × Bool)) (T : TypeId) (x : Operand) : Rd (Sh1 × List LS) :=
  match x with
  | .tmp t => .get (lc t 0) fun e => match gdOk g e.gd && Nat.blt t 2000, e.sh with
    | true, some (.one s) => .ret (s, (List.range s.size).map fun j => .loc (lc t j))
    | _, _ => .fail
  | .const (.agg cs) => match lfTys P 12 T with
    | some ts => match decide (ts.length = cs.size) with
      | true => .ret (.agg cs.size, (ts.zip cs.toList).map fun p => constLeaf (some p.1) p.2)
      | false => .fail
    | none => .fail
  | .const (.tuple _) => .fail
  | .const v => .ret (.leaf, [constLeaf (match lfTys P 12 T with | some [t] => some t | _ => none) v])
  | .func f => .ret (.leaf, [.con (.func (.func f) #[] #[]) (uB false) (.clo f [])])
  | .global _ => .fail
def res (g : List (Nat × Bool)) : Nat → Nat → Rd (Nat × LTag)
  | 0, _ => .fail
  | n + 1, l => .get l fun e => match gdOk g e.gd with
    | false => .fail
    | true => match e.tag with
      | .al m => res g n m
      | t => .ret (l, t)
def cpLeaf (g : List (Nat × Bool)) : LS → Rd (LTag × Option Src)
  | .con _ u t => .ret (t, some (.con u))
  | .loc l => (res g 6 l).bind fun (m, t) => match t with
    | .own => .ret (.al m, none)
    | .al _ => .fail
    | t => .ret (t, some (.loc m))
def mvLeaf (g : List (Nat × Bool)) (d : Nat) : LS → Rd (LTag × Option Src × List Wr1)
  | .con _ u t => .ret (t, some (.con u), [])
  | .loc l => (res g 6 l).bind fun (m, t) => match t with
    | .own => .ret (.own, some (.loc m), if m = d then [] else [.soft m (.al d)])
    | .al _ => .fail
    | t => .ret (t, some (.loc m), [])
def fzLeaf (g : List (Nat × Bool)) : LS → Rd (Src × List Wr1)
  | .con _ u t => match t with
    | .val => .ret (.con u, [])
    | .own => .ret (.con u, [])
    | _ => .fail
  | .loc l => (res g 6 l).bind fun (m, t) => match t with
    | .val => .ret (.loc m, [])
    | .own => .ret (.loc m, [.soft m .val])
    | _ => .fail
def rdLeaf (g : List (Nat × Bool)) : LS → Rd Src
  | .con _ u t => match t with
    | .val => .ret (.con u)
    | .own => .ret (.con u)
    | _ => .fail
  | .loc l => (res g 6 l).bind fun (m, t) => match t with
    | .val => .ret (.loc m)
    | .own => .ret (.loc m)
    | .rd => .ret (.loc m)
    | _ => .fail
def mapRd {α β : Type} (f : α → Rd β) : List α → Rd (List β)
  | [] => .ret []
  | x :: r => (f x).bind fun y => (mapRd f r).bind fun ys => .ret (y :: ys)
structure Eff where
  pop : POp
  ws : List Wr1
def hardAt (t : Nat) (g : Option (Nat × Bool)) : Nat → List LTag → List Wr1
  | _, [] => []
  | j, x :: r => .hard (lc t j) ⟨x, none, g⟩ :: hardAt t g (j + 1) r
def hardT (t : Nat) (s : Shape) (g : Option (Nat × Bool)) : List LTag → List Wr1
  | [] => [.hard (lc t 0) ⟨.dead, some s, g⟩]
  | x :: r => .hard (lc t 0) ⟨x, some s, g⟩ :: hardAt t g 1 r
def hardB (b : Nat) : Nat → List LTag → List Wr1
  | _, [] => []
  | j, x :: r => .hard (bc b j) ⟨x, none, none⟩ :: hardB b (j + 1) r
def cpT (t : Nat) : Nat → List (Option Src) → List (Nat × Src)
  | _, [] => []
  | j, some s :: r => (lc t j, s) :: cpT t (j + 1) r
  | j, none :: r => cpT t (j + 1) r
def cpB (b : Nat) : Nat → List (Option Src) → List (Nat × Src)
  | _, [] => []
  | j, some s :: r => (bc b j, s) :: cpB b (j + 1) r
  | j, none :: r => cpB b (j + 1) r
def softLocs : List Wr1 → List Nat
  | [] => []
  | .soft l _ :: r => l :: softLocs r
  | .hard _ _ :: r => softLocs r
def nodupN : List Nat → Bool
  | [] => true
  | x :: r => !r.contains x && nodupN r
def mvAll (g : List (Nat × Bool)) (loc : Nat → Nat) : Nat → List LS → Rd (List (LTag × Option Src × List Wr1))
  | _, [] => .ret []
  | j, x :: r => (mvLeaf g (loc j) x).bind fun y => (mvAll g loc (j + 1) r).bind fun ys => .ret (y :: ys)
def lsplice : List LS → Nat → List LS → List LS
  | l, 0, us => us ++ l.drop us.length
  | [], _ + 1, _ => []
  | x :: r, n + 1, us => x :: lsplice r n us
def zeroLS (P : Program) (T : TypeId) : Option (List LS) :=
  match P.info? T, lfTys P 12 T with
  | some i, some ts => match i.zero with
    | some z => match valsAre z.cells.toList (ts.map zeroU) && decide (ts.length = i.size) with
      | true => some ((ts.zip z.cells.toList).map fun p => constLeaf (some p.1) p.2)
      | false => none
    | none => none
  | _, _ => none
def zeroFits (P : Program) (e : TypeId) (t : Ty) : Bool := match P.info? e with
  | some i => match i.zero with
    | some z => valsAre z.cells.toList (leaves t (zeroT t))
    | none => false
  | none => false
def field (P : Program) (T : TypeId) (f : Nat) : Option (Field × Nat) :=
  match P.underlying T with
  | some (.struct fs) => match fs[f]? with
    | some fd => match sizeT P fd.type with
      | some n => if n = 0 then none else some (fd, n)
      | none => none
    | none => none
  | _ => none
def seenLeaf (g : List (Nat × Bool)) (x : LS) : Rd LS := (rdLeaf g x).bind fun _ => .ret x
def buildParts (P : Program) (g : List (Nat × Bool)) (T : TypeId) : List (Nat × Operand) → List LS → Rd (List LS)
  | [], acc => .ret acc
  | (i, x) :: r, acc => (Rd.opt (field P T i)).bind fun (fd, n) => (opLeaves P g fd.type x).bind fun (_, ls) =>
    (Rd.must (decide (ls.length = n) && decide (fd.offset + n ≤ acc.length))).bind fun _ => (mapRd (seenLeaf g) ls).bind fun _ => buildParts P g T r (lsplice acc fd.offset ls)
def sliceParts (P : Program) (g : List (Nat × Bool)) (e : TypeId) (n : Nat) : List (Nat × Operand) → List (List LS) → Rd (List (List LS))
  | [], acc => .ret acc
  | (i, x) :: r, acc => (opLeaves P g e x).bind fun (_, ls) => (Rd.must (decide (ls.length = n) && decide (i < acc.length))).bind fun _ => (mapRd (seenLeaf g) ls).bind fun _ => sliceParts P g e n r (acc.set i ls)
def fieldsOk (P : Program) (T : TypeId) : Bool :=
  match P.underlying T with
  | some (.struct fs) => fs.toList.all fun f => (sizeT P f.type).isSome
  | _ => false
def scalarTy (P : Program) (T : TypeId) : Option Ty :=
  match P.underlying T with
  | some (.int k) => some (.int k)
  | some .bool => some .bool
  | some .string => some .str
  | _ => none
def eqTys (P : Program) (T : TypeId) : Option (List Ty) :=
  match P.underlying T with
  | some (.struct fs) => match decide (fs.toList.map (fun f => f.offset) = List.range fs.size) && decide (sh1Of P T = some (.agg fs.size)) && !P.stoodInHeld T && !P.eqGuardType P.depth T && fs.toList.all (fun f => f.name != "_") with
    | true => fs.toList.mapM fun f => scalarTy P f.type
    | false => none
  | _ => none
def isPtr : LTag → Bool
  | .ptr _ _ => true | .ep _ _ _ => true | .clo _ _ => true | _ => false
def ptrLeaf (P : Program) (g : List (Nat × Bool)) (x : Operand) : Rd (Nat × LTag) :=
  match x with
  | .tmp t => .get (lc t 0) fun e => match gdOk g e.gd && Nat.blt t 2000, e.sh with
    | true, some (.one .leaf) => res g 6 (lc t 0)
    | _, _ => .fail
  | _ => .fail
def slTag : LTag → Bool
  | .rd => true | .val => true | .own => true | _ => false
def optOp (P : Program) (g : List (Nat × Bool)) (T : TypeId) : Option Operand → Rd (Option Src)
  | none => .ret none
  | some x => (opLeaves P g T x).bind fun (s, ls) => match s, ls with
    | .leaf, [l] => (rdLeaf g l).bind fun r => .ret (some r)
    | _, _ => .fail
def sameOpd : Operand → Operand → Bool
  | .tmp a, .tmp b => a == b
  | .const (.int k n), .const (.int k' m) => decide (k = k') && decide (n = m)
  | _, _ => false
def rd1 (P : Program) (g : List (Nat × Bool)) (T : TypeId) (x : Operand) : Rd Src :=
  (opLeaves P g T x).bind fun (s, ls) => match s, ls with
    | .leaf, [l] => rdLeaf g l
    | _, _ => .fail
def subShape (l : List Sh1) (i : Nat) : Option (Sh1 × Nat) :=
  match l[i]? with
  | some s => some (s, ((l.take i).map Sh1.size).sum)
  | none => none
def sstep0 (P : Program) (Np : Nat) (gd : Option (Nat × Bool)) (g : List (Nat × Bool)) (o : Oper) : Rd Eff :=
  match o.dst with
  | none => match o.op with
    | .store T a x => (Rd.must (gd.isNone)).bind fun _ => (ptrLeaf P g a).bind fun (pl, tag) => (opLeaves P g T x).bind fun (s, ls) =>
      (Rd.must (decide (sh1Of P T = some s) && decide (ls.length = s.size))).bind fun _ =>
      match tag with
      | .ptr b off => .get (bm b) fun e => match e.sh with
        | some (.bx n) => (Rd.must (decide (off + s.size ≤ n))).bind fun _ => (mvAll g (bc b) off ls).bind fun ys =>
          let sf := ys.flatMap fun y => y.2.2
          (Rd.must (nodupN (softLocs sf) && ys.all fun y => decide (y.1 ≠ .dead))).bind fun _ =>
          .ret ⟨.cp (cpB b off (ys.map fun y => y.2.1)), hardB b off (ys.map fun y => y.1) ++ sf⟩
        | _ => .fail
      | .ep m off t => (res g 6 m).bind fun (m', tg) => (Rd.must (decide (tg = .own) && decide (off + s.size ≤ t.size))).bind fun _ =>
        (mapRd (fzLeaf g) ls).bind fun ys =>
          let sf := ys.flatMap fun y => y.2
          (Rd.must (!(softLocs sf).contains m')).bind fun _ =>
          .ret ⟨.setE m' pl off t (ys.map fun y => y.1), sf ++ [.soft m' .own]⟩
      | _ => .fail
    | _ => .fail
  | some d =>
    match o.op with
    | .move (.tmp t) => .get (lc t 0) fun e => match gdOk g e.gd && Nat.blt t 2000, e.sh with
      | true, some s => (mapRd (cpLeaf g) ((List.range s.size).map fun j => .loc (lc t j))).bind fun ys =>
        .ret ⟨.cp (cpT d 0 (ys.map fun y => y.2)), hardT d s gd (ys.map fun y => y.1)⟩
      | _, _ => .fail
    | .move x => (opLeaves P g o.type x).bind fun (s, ls) => (mapRd (cpLeaf g) ls).bind fun ys =>
      .ret ⟨.cp (cpT d 0 (ys.map fun y => y.2)), hardT d (.one s) gd (ys.map fun y => y.1)⟩
    | .assign x => (Rd.must (gd.isNone)).bind fun _ => (opLeaves P g o.type x).bind fun (s, ls) => (mvAll g (lc d) 0 ls).bind fun ys =>
      let sf := ys.flatMap fun y => y.2.2
      (Rd.must (nodupN (softLocs sf))).bind fun _ =>
      .ret ⟨.cp (cpT d 0 (ys.map fun y => y.2.1)), hardT d (.one s) gd (ys.map fun y => y.1) ++ sf⟩
    | .pick c a b => (rd1 P g o.type c).bind fun sc =>
      match sc with
      | .loc c' => (rd1 P ((c', true) :: g) o.type a).bind fun sa => (rd1 P ((c', false) :: g) o.type b).bind fun sb =>
        .ret ⟨.pick (lc d 0) sc sa sb, hardT d (.one .leaf) gd [.val]⟩
      | _ => .fail
    | .alloc T => (Rd.must (gd.isNone)).bind fun _ => (Rd.opt (zeroLS P T)).bind fun ls => (mvAll g (bc d) 0 ls).bind fun ys =>
      let sf := ys.flatMap fun y => y.2.2
      (Rd.must (ys.all fun y => decide (y.1 ≠ .dead) && !(y.1.refs.contains (bm d)))).bind fun _ =>
      .ret ⟨.cp (cpB d 0 (ys.map fun y => y.2.1)), .hard (bm d) ⟨.dead, some (.bx ls.length), none⟩ :: hardT d (.one .leaf) gd [.ptr d 0] ++ hardB d 0 (ys.map fun y => y.1) ++ sf⟩
    | .box T x => (Rd.must (gd.isNone)).bind fun _ => (opLeaves P g T x).bind fun (s, ls) =>
      (mvAll g (bc d) 0 ls).bind fun ys =>
      let sf := ys.flatMap fun y => y.2.2
      (Rd.must (ys.all fun y => decide (y.1 ≠ .dead) && !(y.1.refs.contains (bm d)))).bind fun _ =>
      .ret ⟨.cp (cpB d 0 (ys.map fun y => y.2.1)), .hard (bm d) ⟨.dead, some (.bx ls.length), none⟩ :: hardT d (.one .leaf) gd [.ptr d 0] ++ hardB d 0 (ys.map fun y => y.1) ++ sf⟩
    | .build T parts => (Rd.opt (zeroLS P T)).bind fun z => (Rd.must (fieldsOk P T)).bind fun _ => (buildParts P g T parts.toList z).bind fun ls => (mapRd (cpLeaf g) ls).bind fun ys =>
      .ret ⟨.cp (cpT d 0 (ys.map fun y => y.2)), hardT d (.one (.agg ls.length)) gd (ys.map fun y => y.1)⟩
    | .buildSlice T len parts => (Rd.opt (elTy P T)).bind fun (e, t) => (Rd.opt (zeroLS P e)).bind fun z =>
      (Rd.must (decide (z.length = t.size) && decide (len * t.size ≤ 16777216))).bind fun _ =>
      (sliceParts P g e t.size parts.toList (List.replicate len z)).bind fun rows => (mapRd (mapRd (fzLeaf g)) rows).bind fun ys =>
      .ret ⟨.mkSl (lc d 0) t (ys.map fun r => r.map fun y => y.1), hardT d (.one .leaf) gd [.own] ++ ys.flatMap fun r => r.flatMap fun y => y.2⟩
    | .load T a => (Rd.opt (sh1Of P T)).bind fun s => (ptrLeaf P g a).bind fun (pl, tag) =>
      match tag with
      | .ptr b off => .get (bm b) fun e => match e.sh with
        | some (.bx n) => (Rd.must (decide (off + s.size ≤ n))).bind fun _ => (mapRd (cpLeaf g) ((List.range s.size).map fun j => .loc (bc b (off + j)))).bind fun ys =>
          .ret ⟨.cp (cpT d 0 (ys.map fun y => y.2)), hardT d (.one s) gd (ys.map fun y => y.1)⟩
        | _ => .fail
      | .ep m off t => (res g 6 m).bind fun (m', tg) => (Rd.must (slTag tg && decide (off + s.size ≤ t.size))).bind fun _ =>
          .ret ⟨.getE m' pl off t ((List.range s.size).map fun j => lc d j), hardT d (.one s) gd (List.replicate s.size .val)⟩
      | _ => .fail
    | .nilCheck x => (ptrLeaf P g x).bind fun (m, tag) => (Rd.must (isPtr tag)).bind fun _ =>
      .ret ⟨.cp [(lc d 0, .loc m)], hardT d (.one .leaf) gd [tag]⟩
    | .binOp op xT x y yT => match isStruct P xT with
      | false => (rd1 P g xT x).bind fun a => (rd1 P g yT y).bind fun b => match P.underlying xT, op with
        | some (.int _), op => .ret ⟨.bin op (lc d 0) a b, hardT d (.one .leaf) gd [.val]⟩
        | some .string, op => .ret ⟨.bin op (lc d 0) a b, hardT d (.one .leaf) gd [.val]⟩
        | some .bool, .eql => .ret ⟨.beq false (lc d 0) a b, hardT d (.one .leaf) gd [.val]⟩
        | some .bool, .neq => .ret ⟨.beq true (lc d 0) a b, hardT d (.one .leaf) gd [.val]⟩
        | _, _ => .fail
      | true => (Rd.opt (eqTys P xT)).bind fun tys => (Rd.must (match op with | .eql => true | .neq => true | _ => false)).bind fun _ =>
        (opLeaves P g xT x).bind fun (s, ls) => (opLeaves P g xT y).bind fun (s', ls') => (Rd.must (decide (s = s') && decide (sh1Of P xT = some s))).bind fun _ =>
        (mapRd (rdLeaf g) ls).bind fun as => (mapRd (rdLeaf g) ls').bind fun bs =>
        .ret ⟨.eqL (lc d 0) (match op with | .neq => true | _ => false) tys as bs, hardT d (.one .leaf) gd [.val]⟩
    | .unOp op xT x => (rd1 P g xT x).bind fun a => .ret ⟨.un op (lc d 0) a, hardT d (.one .leaf) gd [.val]⟩
    | .convert src dst x => (rd1 P g src x).bind fun a =>
      match P.underlying src, P.underlying dst with
      | some (.int _), some (.int k) => .ret ⟨.conv k (lc d 0) a, hardT d (.one .leaf) gd [.val]⟩
      | some .string, some (.slice e) => (Rd.must (match P.underlying e with | some (.int .u8) => true | _ => false)).bind fun _ => .ret ⟨.s2b (lc d 0) a, hardT d (.one .leaf) gd [.val]⟩
      | some (.slice e), some .string => (Rd.must (match P.underlying e with | some (.int .u8) => true | _ => false)).bind fun _ => .ret ⟨.b2s (lc d 0) a, hardT d (.one .leaf) gd [.val]⟩
      | _, _ => .fail
    | .makeFunc (.func f) first captured => (Rd.must (first.size == 0)).bind fun _ => (mapRd (fun x => (ptrLeaf P g x).bind fun (_, tag) => match tag with | .ptr b off => Rd.ret (b, off) | _ => .fail) captured.toList).bind fun caps =>
      .ret ⟨.cp [], hardT d (.one .leaf) gd [.clo f caps]⟩
    | .makeSlice T len cap => (Rd.must (sameOpd len cap)).bind fun _ => (Rd.opt (elTy P T)).bind fun (e, t) =>
      (Rd.must (zeroFits P e t && (match P.info? e with | some i => decide (i.bytes ≤ 2048) | none => false))).bind fun _ =>
      (rd1 P g T len).bind fun n => .ret ⟨.makeS (lc d 0) t n, hardT d (.one .leaf) gd [.own]⟩
    | .slice T x lo hi mx => (Rd.must (mx.isNone)).bind fun _ => (optOp P g T lo).bind fun l => (optOp P g T hi).bind fun h =>
      (opLeaves P g T x).bind fun (s, ls) => match s, ls with
      | .leaf, [x'] => match P.underlying T with
        | some .string => (rdLeaf g x').bind fun a => .ret ⟨.subS (lc d 0) a l h, hardT d (.one .leaf) gd [.val]⟩
        | _ => (Rd.opt (elTy P T)).bind fun (_, t) => match x' with
          | .loc lx => (res g 6 lx).bind fun (m, tag) => match tag with
            | .rd => .ret ⟨.sub (lc d 0) t (.loc m) l h, hardT d (.one .leaf) gd [.rd]⟩
            | .val => .ret ⟨.sub (lc d 0) t (.loc m) l h, hardT d (.one .leaf) gd [.val]⟩
            | .own => .ret ⟨.sub (lc d 0) t (.loc m) l h, hardT d (.one .leaf) gd [.val] ++ [.soft m .val]⟩
            | _ => .fail
          | _ => .fail
      | _, _ => .fail
    | .fieldAddr T x f => (Rd.opt (field P T f)).bind fun (fd, _) => (ptrLeaf P g x).bind fun (m, tag) =>
      match tag with
      | .ptr b off => .ret ⟨.cp [], hardT d (.one .leaf) gd [.ptr b (off + fd.offset)]⟩
      | .ep m' off t => .ret ⟨.cp [(lc d 0, .loc m)], hardT d (.one .leaf) gd [.ep m' (off + fd.offset) t]⟩
      | _ => .fail
    | .indexAddr T x i => (Rd.opt (elTy P T)).bind fun (_, t) => (ptrLeaf P g x).bind fun (m, tag) => (Rd.must (slTag tag)).bind fun _ => (rd1 P g T i).bind fun si =>
      .ret ⟨.idx (lc d 0) m t si, hardT d (.one .leaf) gd [.ep m 0 t]⟩
    | .index T x i => (Rd.must (match P.underlying T with | some .string => true | _ => false)).bind fun _ => (rd1 P g T x).bind fun a => (rd1 P g T i).bind fun b =>
      .ret ⟨.sidx (lc d 0) a b, hardT d (.one .leaf) gd [.val]⟩
    | .extract x i => match x with
      | .tmp t => .get (lc t 0) fun e => match gdOk g e.gd && Nat.blt t 2000, e.sh with
        | true, some (.tup l) => (Rd.opt (subShape l i)).bind fun (s, off) => (mapRd (cpLeaf g) ((List.range s.size).map fun j => .loc (lc t (off + j)))).bind fun ys =>
          .ret ⟨.cp (cpT d 0 (ys.map fun y => y.2)), hardT d (.one s) gd (ys.map fun y => y.1)⟩
        | _, _ => .fail
      | _ => .fail
    | .field T x f => (Rd.opt (field P T f)).bind fun (fd, n) => (opLeaves P g T x).bind fun (s, ls) => (Rd.opt (sh1Of P fd.type)).bind fun s' =>
      (Rd.must (decide (fd.offset + n ≤ ls.length) && decide (s'.size = n) && decide (s = .agg ls.length))).bind fun _ => (mapRd (cpLeaf g) ((ls.drop fd.offset).take n)).bind fun ys =>
      .ret ⟨.cp (cpT d 0 (ys.map fun y => y.2)), hardT d (.one s') gd (ys.map fun y => y.1)⟩
    | .call c => match c.callee, c.args.toList, c.argTypes.toList with
      | .builtin .len, [x], [T] => (Rd.must (match P.underlying T with | some .string => true | some (.slice _) => true | _ => false)).bind fun _ =>
        (rd1 P g T x).bind fun a => .ret ⟨.len (match P.underlying T with | some .string => true | _ => false) (lc d 0) a, hardT d (.one .leaf) gd [.val]⟩
      | .builtin .min, [x, y], [T, _] => (Rd.must (decide (P.underlying T matches some (.int .i64)))).bind fun _ => (rd1 P g T x).bind fun a => (rd1 P g T y).bind fun b => .ret ⟨.mm true (lc d 0) a b, hardT d (.one .leaf) gd [.val]⟩
      | .builtin .max, [x, y], [T, _] => (Rd.must (decide (P.underlying T matches some (.int .i64)))).bind fun _ => (rd1 P g T x).bind fun a => (rd1 P g T y).bind fun b => .ret ⟨.mm false (lc d 0) a b, hardT d (.one .leaf) gd [.val]⟩
      | .builtin .append, [x, y], [T, T'] => (Rd.must (gd.isNone)).bind fun _ => (Rd.opt (elTy P T)).bind fun (e, t) =>
        (Rd.must (zeroFits P e t && (match P.info? e with | some i => decide (i.bytes ≤ 2048) | none => false))).bind fun _ =>
        (opLeaves P g T x).bind fun (s, ls) => match s, ls with
        | .leaf, [lx] => (mvLeaf g (lc d 0) lx).bind fun (tag, src, sf) => match tag, src with
          | .own, some a => match P.underlying T' with
            | some .string => (Rd.must (decide (t = .int .u8))).bind fun _ => (rd1 P g T' y).bind fun b => .ret ⟨.appS (lc d 0) a b, hardT d (.one .leaf) gd [.own] ++ sf.map fun w => .soft w.l .dead⟩
            | some (.slice _) => (rd1 P g T' y).bind fun b => .ret ⟨.app (lc d 0) t a b, hardT d (.one .leaf) gd [.own] ++ sf.map fun w => .soft w.l .dead⟩
            | _ => .fail
          | _, _ => .fail
        | _, _ => .fail
      | _, _, _ => .fail
    | _ => .fail
def POp.wr : POp → List Nat
  | .cp ps => ps.map fun p => p.1
  | .pick d _ _ _ => [d] | .bin _ d _ _ => [d] | .beq _ d _ _ => [d] | .un _ d _ => [d] | .conv _ d _ => [d] | .s2b d _ => [d] | .b2s d _ => [d] | .len _ d _ => [d]
  | .idx d _ _ _ => [d] | .sidx d _ _ => [d]
  | .getE _ _ _ _ ds => ds
  | .setE m _ _ _ _ => [m]
  | .app d _ _ _ => [d] | .appS d _ _ => [d] | .mkSl d _ _ => [d] | .makeS d _ _ => [d] | .sub d _ _ _ _ => [d] | .subS d _ _ _ => [d]
  | .eqL d _ _ _ _ => [d] | .mm _ d _ _ => [d]
  | .call _ _ ds => ds
def inT (d l : Nat) : Bool := Nat.ble (64 * d) l && Nat.blt l (64 * d + 64)
def hardsIn (dst : Option Nat) : List Wr1 → Bool
  | [] => true
  | .soft _ _ :: r => hardsIn dst r
  | .hard l _ :: r => ((Nat.ble 128000 l && (Nat.blt l 256000 || Nat.ble 384000 l)) || (match dst with | some d => inT d l | none => false)) && hardsIn dst r
def refsOk (all : List Wr1) (own : Nat) : List Wr1 → Bool
  | [] => true
  | .soft _ _ :: r => refsOk all own r
  | .hard _ e :: r => e.tag.refs.all (fun m => !isHard all m || Nat.beq m own) && refsOk all own r
def shOk (ws : List Wr1) (d : Nat) : Bool := match hfind ws (lc d 0) with
  | some e => match e.sh with
    | some (.bx _) => false
    | some s => Nat.ble s.size 64
    | none => false
  | none => false
def effOk (N : Nat) (g : Option (Nat × Bool)) (dst : Option Nat) (x : Eff) : Bool :=
  x.pop.wr.all (isDom x.ws) && nodupN x.pop.wr && hardsIn dst x.ws && !gdKilled x.ws g &&
  match dst with
  | some d => Nat.blt d N && Nat.blt d 2000 && shOk x.ws d && refsOk x.ws (bm d) x.ws
  | none => refsOk x.ws 0 x.ws
def softsOk (ws : List Wr1) : Bool := (softLocs ws).all (fun l => !isHard ws l) && nodupN (softLocs ws)
def okVar (Np d : Nat) : Bool := Nat.ble Np d && Nat.blt d 2000 && (Nat.blt d 300 || Nat.ble 1000 d)
def varsOk (Np : Nat) : List Wr1 → Bool
  | [] => true
  | .soft _ _ :: r => varsOk Np r
  | .hard l e :: r => (Nat.blt l 384000 || okVar Np (l / 64 - 6000)) && (match e.sh with | some (.bx n) => Nat.ble n 64 | _ => true) && varsOk Np r
def sstep (P : Program) (Np N : Nat) (gd : Option (Nat × Bool)) (g : List (Nat × Bool)) (o : Oper) : Rd Eff :=
  (sstep0 P Np gd g o).bind fun x => (Rd.must (effOk N gd o.dst x && softsOk x.ws && varsOk Np x.ws)).bind fun _ => .ret x
end Go.Proofs.Fw
set_option linter.unusedVariables false
set_option linter.unusedSimpArgs false
namespace Go.Proofs.Fw
inductive PM where
  | rd | val | own
  deriving DecidableEq
inductive OM where
  | same | val | own
  deriving DecidableEq
inductive PS where
  | v (s : Sh1) (ms : List PM)
  | p (cin : List PM) (cout : List OM)
  | f (fid : Nat) (caps : List (List PM))
inductive RT where
  | val | own
  | nb (cells : List PM)
structure Entry where
  fid : Nat
  ps : List PS
  rsh : Shape
  rts : List RT
def PM.tag : PM → LTag
  | .rd => .rd | .val => .val | .own => .own
@[reducible] def shd (i j : Nat) : Nat := 64 * (i + 4000) + j
@[reducible] def capB (i k : Nat) : Nat := 300 + 8 * i + k
@[reducible] def rl (j : Nat) : Nat := 64 * 9000 + j
structure LE where
  l : Nat
  tag : LTag
  sh : Option Shape
def envOf (es : List LE) : SEnv := fun l => match es.find? (fun e => Nat.beq e.l l) with
  | some e => ⟨e.tag, e.sh, none⟩
  | none => deadGC
def cellsIn (b i : Nat) : Nat → List PM → List LE
  | _, [] => []
  | j, m :: r => ⟨bc b j, .al (shd i j), none⟩ :: ⟨shd i j, m.tag, none⟩ :: cellsIn b i (j + 1) r
def leavesIn (i : Nat) (s : Sh1) : Nat → List PM → List LE
  | _, [] => []
  | j, m :: r => ⟨lc i j, m.tag, if j = 0 then some (.one s) else none⟩ :: leavesIn i s (j + 1) r
def capsIn (i : Nat) : Nat → List (List PM) → List LE
  | _, [] => []
  | k, c :: r => ⟨bm (capB i k), .dead, some (.bx c.length)⟩ :: cellsIn (capB i k) (capB i k) 0 c ++ capsIn i (k + 1) r
def psIn (i : Nat) : List PS → List LE
  | [] => []
  | .v s ms :: r => leavesIn i s 0 ms ++ psIn (i + 1) r
  | .p cin _ :: r => ⟨lc i 0, .ptr i 0, some (.one .leaf)⟩ :: ⟨bm i, .dead, some (.bx cin.length)⟩ :: cellsIn i i 0 cin ++ psIn (i + 1) r
  | .f fid caps :: r => ⟨lc i 0, .clo fid ((List.range caps.length).map fun k => (capB i k, 0)), some (.one .leaf)⟩ :: capsIn i 0 caps ++ psIn (i + 1) r
def rangeL (l n : Nat) : List Nat := (List.range n).map fun j => l + j
def psVin (i : Nat) : List PS → List Nat
  | [] => []
  | .v _ ms :: r => rangeL (lc i 0) ms.length ++ psVin (i + 1) r
  | .p cin _ :: r => rangeL (shd i 0) cin.length ++ psVin (i + 1) r
  | .f _ caps :: r => ((List.range caps.length).zip caps).flatMap (fun c => rangeL (shd (capB i c.1) 0) c.2.length) ++ psVin (i + 1) r
inductive PC where
  | op (g : Option (Nat × Bool)) (junk : Option Nat) (o : POp) (k : PC)
  | cond (c : Src) (a b : PC)
  | join (ps : List Nat) (tys : List Ty) (jb m : PC)
  | loop (ps : List Nat) (tys : List Ty) (init : List Src) (b : PC)
  | jump (lvl : Nat) (srcs : List Src)
  | ret (srcs : List Src)
def setS (S : PSt) (l : Nat) (u : Univ) : PSt := fun m => match Nat.beq m l with | true => u | false => S m
def mkS (ps : List Nat) (vals : List Univ) : PSt := upds (fun _ => uI 0) (ps.zip vals)
def loopFix {α R : Type} : Nat → ((α → Option R) → α → Option R) → α → Option R
  | 0, _, _ => none
  | n + 1, F, v => F (loopFix n F) v
@[reducible] def HT : List Ty → Type
  | [] => Unit
  | t :: r => t.T × HT r
def HT.list : (ts : List Ty) → HT ts → List Univ
  | [], _ => []
  | t :: r, x => ⟨t, x.1⟩ :: HT.list r x.2
def HT.of {R : Type} : (ts : List Ty) → List Univ → (HT ts → Option R) → Option R
  | [], [], k => k ()
  | t :: r, u :: us, k => bnd (u.cast t) fun x => HT.of r us fun y => k (x, y)
  | _, _, _ => none
def br {R : Type} (c : Bool) (a b : Option R) : Option R := match c with | true => a | false => b
def joinK {α R : Type} (f : α → Option R) (g : (α → Option R) → Option R) : Option R := g f
def junkS (S : PSt) : Option Nat → PSt
  | some l => setS S l (uI 0)
  | none => S
def refine (S : PSt) (c : Src) (b : Bool) : PSt := match c with
  | .loc l => setS S l (uB b)
  | .con _ => S
def den {R : Type} (sem : CSem) (fin : List Univ → Option R) (K : Nat) : List (List Univ → Option R) → PC → PSt → Option R
  | ρ, .op none _ o k, S => o.evalK sem S fun ws => den sem fin K ρ k (upds S ws)
  | ρ, .op (some (c, b)) jk o k, S => match (S c).cast .bool with
    | none => den sem fin K ρ k (junkS S jk)
    | some x => br x
      (match b with
        | true => o.evalK sem (setS S c (uB true)) fun ws => den sem fin K ρ k (upds (setS S c (uB true)) ws)
        | false => den sem fin K ρ k (junkS (setS S c (uB true)) jk))
      (match b with
        | false => o.evalK sem (setS S c (uB false)) fun ws => den sem fin K ρ k (upds (setS S c (uB false)) ws)
        | true => den sem fin K ρ k (junkS (setS S c (uB false)) jk))
  | ρ, .cond c a b, S => bnd ((c.get S).cast .bool) fun x => br x (den sem fin K ρ a (refine S c true)) (den sem fin K ρ b (refine S c false))
  | ρ, .join ps tys jb m, S => joinK (fun x : HT tys => den sem fin K ρ jb (mkS ps (HT.list tys x))) fun j => den sem fin K (ρ ++ [fun vals => HT.of tys vals j]) m S
  | ρ, .loop ps tys init b, S => HT.of tys (init.map fun s => s.get S) (loopFix K fun rec x => den sem fin K (ρ ++ [fun vals => HT.of tys vals rec]) b (mkS ps (HT.list tys x)))
  | ρ, .jump lvl srcs, S => match ρ[lvl]? with
    | some f => f (srcs.map fun s => s.get S)
    | none => none
  | _, .ret srcs, S => fin (srcs.map fun s => s.get S)
theorem HT.of_some {R : Type} : ∀ {ts : List Ty} {us : List Univ} {k : HT ts → Option R} {r : R}, HT.of ts us k = some r → ∃ x, us = HT.list ts x ∧ k x = some r
  | [], [], k, r, h => ⟨(), rfl, h⟩
  | [], _ :: _, k, r, h => by cases h
  | _ :: _, [], k, r, h => by cases h
  | t :: ts, u :: us, k, r, h => by
    obtain ⟨x, h1, h2⟩ := bnd_some (show bnd (u.cast t) _ = some r from h)
    obtain ⟨y, h3, h4⟩ := HT.of_some h2
    exact ⟨(x, y), by rw [Univ.cast_some h1, h3]; rfl, h4⟩
structure Hint where
  key : Nat
  ps : List Nat
  tys : List Ty
  es : List LE
def moveTo1 (e : LE) : Rd (List (Nat × Src) × List Wr1) :=
  .get e.l fun c => match c.gd with
  | some _ => .fail
  | none => match decide (c.sh = e.sh) || e.sh.isNone with
    | false => .fail
    | true => match decide (e.tag = .dead), decide (c.tag = e.tag), e.tag with
      | true, _, _ => .ret ([], [])
      | _, true, .al m => .ret ([], [])
      | _, true, .ptr b o => .ret ([], [])
      | _, true, .clo _ _ => .ret ([], [])
      | _, _, .val => (res [] 6 e.l).bind fun (m, t) => match t with
        | .val => .ret ([(e.l, .loc m)], [])
        | .own => .ret ([(e.l, .loc m)], [.soft m .val])
        | _ => .fail
      | _, _, .rd => (res [] 6 e.l).bind fun (m, t) => match t with
        | .val => .ret ([(e.l, .loc m)], [])
        | .rd => .ret ([(e.l, .loc m)], [])
        | .own => .ret ([(e.l, .loc m)], [.soft m .val])
        | _ => .fail
      | _, _, .own => (res [] 6 e.l).bind fun (m, t) => match t with
        | .own => .ret ([(e.l, .loc m)], [.soft m (.al e.l)])
        | _ => .fail
      | _, _, _ => .fail
def softOwn : List Wr1 → List Nat
  | [] => []
  | .soft l t :: r => match t with
    | .al _ => l :: softOwn r
    | _ => softOwn r
  | .hard _ _ :: r => softOwn r
def moveTo (es : List LE) : Rd (List (Nat × Src)) :=
  (Rd.must (nodupN (es.map fun e => e.l))).bind fun _ =>
  (mapRd moveTo1 es).bind fun ys =>
    let sf := ys.flatMap fun y => y.2
    (Rd.must (nodupN (softOwn sf) && (softLocs sf).all fun l => !(softOwn sf).contains l || (sf.all fun w => match w with | .soft m .val => !Nat.beq m l | _ => true))).bind fun _ =>
    .ret (ys.flatMap fun y => y.1)
def srcsFor (ps : List Nat) (mv : List (Nat × Src)) : Option (List Src) :=
  match mv.all fun x => ps.any (Nat.beq x.1) with
  | true => ps.mapM fun p => (mv.find? fun x => Nat.beq x.1 p).map fun x => x.2
  | false => none
structure Kont where
  norm : Nat → SEnv → Option PC
  ex : List (Nat × (Nat → SEnv → Option PC))
structure FInfo where
  P : Program
  Np : Nat
  N : Nat
  es : List Entry
  hints : List Hint
  fn : Func
  me : Entry
def findHint (hs : List Hint) (k : Nat) : Option Hint := hs.find? fun h => Nat.beq h.key k
def firstReg : Code → Option Nat
  | .region id _ _ => some id
  | .seq a b => match firstReg a with | some r => some r | none => firstReg b
  | .cond _ a b => match firstReg a with | some r => some r | none => firstReg b
  | .block _ c => firstReg c
  | .loop c => firstReg c
  | .scope c => firstReg c
  | _ => none
def loopKey (c : Code) : Option Nat := (firstReg c).map fun r => 2 * r + 1
def joinKey (c : Code) : Option Nat := (firstReg c).map fun r => 2 * r
def jumpTo (h : Hint) (lvl : Nat) : Nat → SEnv → Option PC := fun _ Γ =>
  ((moveTo h.es).run Γ).bind fun mv => (srcsFor h.ps mv).map fun ss => .jump lvl ss
@[reducible] def NB : Nat := 1999
def pmOwn : PM → Bool
  | .own => true
  | _ => false
def cellsNew : Nat → List PM → List LE
  | _, [] => []
  | k, m :: r => ⟨bc NB k, match pmOwn m with | true => .own | false => .val, none⟩ :: cellsNew (k + 1) r
def resEs : Nat → List RT → List LE
  | _, [] => []
  | j, .val :: r => ⟨rl j, .val, none⟩ :: resEs (j + 1) r
  | j, .own :: r => ⟨rl j, .own, none⟩ :: resEs (j + 1) r
  | j, .nb cells :: r => ⟨rl j, .ptr NB 0, none⟩ :: ⟨bm NB, .dead, some (.bx cells.length)⟩ :: cellsNew 0 cells ++ resEs (j + 1) r
def cellsOut (b i : Nat) : Nat → List OM → List LE
  | _, [] => []
  | j, .same :: r => ⟨bc b j, .al (shd i j), none⟩ :: cellsOut b i (j + 1) r
  | j, .val :: r => ⟨bc b j, .val, none⟩ :: cellsOut b i (j + 1) r
  | j, .own :: r => ⟨bc b j, .own, none⟩ :: cellsOut b i (j + 1) r
def capsOut (i : Nat) : Nat → List (List PM) → List LE
  | _, [] => []
  | k, c :: r => ⟨bm (capB i k), .dead, some (.bx c.length)⟩ :: cellsOut (capB i k) (capB i k) 0 (c.map fun _ => .same) ++ capsOut i (k + 1) r
def psEs (i : Nat) : List PS → List LE
  | [] => []
  | .v _ _ :: r => psEs (i + 1) r
  | .p cin cout :: r => ⟨bm i, .dead, some (.bx cin.length)⟩ :: cellsOut i i 0 cout ++ psEs (i + 1) r
  | .f _ caps :: r => capsOut i 0 caps ++ psEs (i + 1) r
def postEs (e : Entry) : List LE := resEs 0 e.rts ++ psEs 0 e.ps
def resLocs : Nat → List RT → List Nat
  | _, [] => []
  | j, .nb _ :: r => resLocs (j + 1) r
  | j, _ :: r => rl j :: resLocs (j + 1) r
def newLocs : List RT → List Nat
  | [] => []
  | .nb cells :: r => rangeL (bc NB 0) cells.length ++ newLocs r
  | _ :: r => newLocs r
def outLocs (b : Nat) : Nat → List OM → List Nat
  | _, [] => []
  | j, .same :: r => outLocs b (j + 1) r
  | j, _ :: r => bc b j :: outLocs b (j + 1) r
def psOut (i : Nat) : List PS → List Nat
  | [] => []
  | .p _ cout :: r => outLocs i 0 cout ++ psOut (i + 1) r
  | _ :: r => psOut (i + 1) r
def postLocs (e : Entry) : List Nat := resLocs 0 e.rts ++ newLocs e.rts ++ psOut 0 e.ps
inductive AOne where
  | v (ls : List LS)
  | p (b off : Nat)
  | f (cl : List (Nat × Nat))
def aPs (P : Program) (g : List (Nat × Bool)) : List PS → List (Operand × TypeId) → List (Nat × Nat) → Rd (List AOne)
  | [], [], [] => .ret []
  | .v s ms :: r, (x, T) :: xs, cs => (opLeaves P g T x).bind fun (s', ls) => (Rd.must (decide (s = s') && Nat.beq ls.length ms.length)).bind fun _ =>
    (aPs P g r xs cs).bind fun zs => .ret (.v ls :: zs)
  | .p cin _ :: r, (x, T) :: xs, cs => (ptrLeaf P g x).bind fun (_, tag) => match tag with
    | .ptr b off => .get (bm b) fun e => match e.sh with
      | some (.bx n) => (Rd.must (Nat.ble (off + cin.length) n)).bind fun _ => (aPs P g r xs cs).bind fun zs => .ret (.p b off :: zs)
      | _ => .fail
    | _ => .fail
  | .p cin _ :: r, [], (b, off) :: cs => .get (bm b) fun e => match e.sh with
      | some (.bx n) => (Rd.must (Nat.ble (off + cin.length) n)).bind fun _ => (aPs P g r [] cs).bind fun zs => .ret (.p b off :: zs)
      | _ => .fail
  | .f fid caps :: r, (x, T) :: xs, cs => (ptrLeaf P g x).bind fun (_, tag) => match tag with
    | .clo f cl => (Rd.must (Nat.beq f fid && Nat.beq cl.length caps.length)).bind fun _ =>
      (mapRd (fun c : (Nat × Nat) × List PM => .get (bm c.1.1) fun e => match e.sh with
        | some (.bx n) => Rd.must (Nat.ble (c.1.2 + c.2.length) n)
        | _ => .fail) (cl.zip caps)).bind fun _ => (aPs P g r xs cs).bind fun zs => .ret (.f cl :: zs)
    | _ => .fail
  | _, _, _ => .fail
structure AItem where
  l : Nat
  m : PM
  x : LS
def leafItems (i : Nat) : Nat → List PM → List LS → List AItem
  | j, m :: r, x :: s => ⟨lc i j, m, x⟩ :: leafItems i (j + 1) r s
  | _, _, _ => []
def varItems (i b off : Nat) : Nat → List PM → List AItem
  | _, [] => []
  | j, m :: r => ⟨shd i j, m, .loc (bc b (off + j))⟩ :: varItems i b off (j + 1) r
def cloItems (i : Nat) : Nat → List (List PM) → List (Nat × Nat) → List AItem
  | k, c :: r, x :: s => varItems (capB i k) x.1 x.2 0 c ++ cloItems i (k + 1) r s
  | _, _, _ => []
def itemsOf (i : Nat) : List PS → List AOne → List AItem
  | .v _ ms :: r, .v ls :: s => leafItems i 0 ms ls ++ itemsOf (i + 1) r s
  | .p cin _ :: r, .p b off :: s => varItems i b off 0 cin ++ itemsOf (i + 1) r s
  | .f _ caps :: r, .f cl :: s => cloItems i 0 caps cl ++ itemsOf (i + 1) r s
  | _, _ => []
structure AVar where
  i : Nat
  b : Nat
  off : Nat
  n : Nat
def cloVars (i : Nat) : Nat → List (List PM) → List (Nat × Nat) → List AVar
  | k, c :: r, x :: s => ⟨capB i k, x.1, x.2, c.length⟩ :: cloVars i (k + 1) r s
  | _, _, _ => []
def varsOf (i : Nat) : List PS → List AOne → List AVar
  | .v _ _ :: r, .v _ :: s => varsOf (i + 1) r s
  | .p cin _ :: r, .p b off :: s => ⟨i, b, off, cin.length⟩ :: varsOf (i + 1) r s
  | .f _ caps :: r, .f cl :: s => cloVars i 0 caps cl ++ varsOf (i + 1) r s
  | _, _ => []
structure ACh where
  l : Nat
  m : Nat
  own : Bool
def outCh (i b off : Nat) : Nat → List OM → List ACh
  | _, [] => []
  | j, .same :: r => outCh i b off (j + 1) r
  | j, .val :: r => ⟨bc i j, bc b (off + j), false⟩ :: outCh i b off (j + 1) r
  | j, .own :: r => ⟨bc i j, bc b (off + j), true⟩ :: outCh i b off (j + 1) r
def chOf (i : Nat) : List PS → List AOne → List ACh
  | .v _ _ :: r, .v _ :: s => chOf (i + 1) r s
  | .p _ cout :: r, .p b off :: s => outCh i b off 0 cout ++ chOf (i + 1) r s
  | .f _ _ :: r, .f _ :: s => chOf (i + 1) r s
  | _, _ => []
def aIt (g : List (Nat × Bool)) (m : PM) (tgt : Nat) (l : LS) : Rd (Src × List Wr1) := match m with
  | .rd => (rdLeaf g l).bind fun s => .ret (s, [])
  | .val => fzLeaf g l
  | .own => match l with
    | .con _ u t => match t with
      | .own => .ret (.con u, [])
      | _ => .fail
    | .loc l => (res g 6 l).bind fun (m, t) => match t with
      | .own => .ret (.loc m, [.soft m (.al tgt)])
      | _ => .fail
def rdsOf : List AItem → List (Src × List Wr1) → List Nat
  | it :: r, y :: s => match it.m, y.1 with
    | .rd, .loc m => m :: rdsOf r s
    | _, _ => rdsOf r s
  | _, _ => []
def behind (ch : List Nat) : List Wr1 → List Wr1
  | [] => []
  | .hard _ _ :: r => behind ch r
  | .soft m t :: r => match ch.any (Nat.beq m) with
    | true => behind ch r
    | false => .soft m (match t with | .val => .val | _ => .dead) :: behind ch r
def rtTags (d : Nat) : List RT → List LTag
  | [] => []
  | .val :: r => .val :: rtTags d r
  | .own :: r => .own :: rtTags d r
  | .nb _ :: r => .ptr d 0 :: rtTags d r
def rtLocs (d : Nat) : Nat → List RT → List Nat
  | _, [] => []
  | j, .nb _ :: r => rtLocs d (j + 1) r
  | j, _ :: r => lc d j :: rtLocs d (j + 1) r
def rtNew (d : Nat) : List RT → List Wr1
  | [] => []
  | .nb cells :: r => .hard (bm d) ⟨.dead, some (.bx cells.length), none⟩ :: hardB d 0 (cells.map fun m => match pmOwn m with | true => .own | false => .val) ++ rtNew d r
  | _ :: r => rtNew d r
def rtNewLocs (d : Nat) : List RT → List Nat
  | [] => []
  | .nb cells :: r => rangeL (bc d 0) cells.length ++ rtNewLocs d r
  | _ :: r => rtNewLocs d r
def noNew : List RT → Bool
  | [] => true
  | .nb _ :: _ => false
  | _ :: r => noNew r
def countNew : List RT → Nat
  | [] => 0
  | .nb _ :: r => countNew r + 1
  | _ :: r => countNew r
def chW (ch : List ACh) : List Wr1 := ch.map fun x => .hard x.m ⟨match x.own with | true => .own | false => .val, none, none⟩
def callChk (e : Entry) (items : List AItem) (vars : List AVar) (ch : List ACh) (sf : List Wr1) (rds : List Nat) : Bool :=
  nodupN (softLocs sf) && decide (items.map (fun x => x.l) = psVin 0 e.ps) && nodupN (psVin 0 e.ps) && nodupN (vars.map fun x => x.b) && nodupN (vars.map fun x => x.i) &&
  decide (ch.map (fun x => x.l) = psOut 0 e.ps) && nodupN (postLocs e) && nodupN ((postEs e).map fun x => x.l) && rds.all fun m => !(softOwn sf).any (Nat.beq m)
def callStep1 (P : Program) (Np : Nat) (gd : Option (Nat × Bool)) (g : List (Nat × Bool)) (o : Oper) (c : Call) (caps : List (Nat × Nat)) (ix : Nat) (e : Entry) : Rd Eff :=
  (aPs P g e.ps (c.args.toList.zip c.argTypes.toList) caps).bind fun as =>
  (mapRd (fun x : AItem => aIt g x.m x.l x.x) (itemsOf 0 e.ps as)).bind fun ys =>
  (Rd.must (callChk e (itemsOf 0 e.ps as) (varsOf 0 e.ps as) (chOf 0 e.ps as) (ys.flatMap fun y => y.2) (rdsOf (itemsOf 0 e.ps as) ys) && Nat.beq c.args.size c.argTypes.size)).bind fun _ =>
  match o.dst with
  | some d => (Rd.must ((gd.isNone || noNew e.rts) && Nat.ble (countNew e.rts) 1 && decide (e.rsh.size = e.rts.length) && (noNew e.rts || (varsOf 0 e.ps as).all fun v => !Nat.beq v.b d))).bind fun _ =>
    .ret ⟨.call ix (ys.map fun y => y.1) (rtLocs d 0 e.rts ++ rtNewLocs d e.rts ++ (chOf 0 e.ps as).map fun x => x.m),
      hardT d e.rsh gd (rtTags d e.rts) ++ (rtNew d e.rts ++ (chW (chOf 0 e.ps as) ++ behind ((chOf 0 e.ps as).map fun x => x.m) (ys.flatMap fun y => y.2)))⟩
  | none => (Rd.must (gd.isNone && e.rts.isEmpty)).bind fun _ =>
    .ret ⟨.call ix (ys.map fun y => y.1) ((chOf 0 e.ps as).map fun x => x.m), chW (chOf 0 e.ps as) ++ behind ((chOf 0 e.ps as).map fun x => x.m) (ys.flatMap fun y => y.2)⟩
def callStep0 (P : Program) (Np : Nat) (gd : Option (Nat × Bool)) (g : List (Nat × Bool)) (o : Oper) (c : Call) (f : Nat) (caps : List (Nat × Nat)) : Nat → List Entry → Rd Eff
  | _, [] => .fail
  | i, e :: r => match Nat.beq e.fid f with
    | true => (callStep1 P Np gd g o c caps i e).or (callStep0 P Np gd g o c f caps (i + 1) r)
    | false => callStep0 P Np gd g o c f caps (i + 1) r
def callStep (P : Program) (Np : Nat) (gd : Option (Nat × Bool)) (g : List (Nat × Bool)) (es : List Entry) (o : Oper) (c : Call) : Rd Eff :=
  match c.callee with
  | .value (.func f) => callStep0 P Np gd g o c f [] 0 es
  | .value (.tmp t) => (ptrLeaf P g (.tmp t)).bind fun (_, tag) => match tag with
    | .clo f caps => callStep0 P Np gd g o c f caps 0 es
    | _ => .fail
  | _ => .fail
def isCall (o : Oper) : Option Call := match o.op with
  | .call c => match c.callee with
    | .value _ => some c
    | _ => none
  | _ => none
def ostep (I : FInfo) (gd : Option (Nat × Bool)) (g : List (Nat × Bool)) (o : Oper) : Rd Eff :=
  match isCall o with
  | some c => (callStep I.P I.Np gd g I.es o c).bind fun x => (Rd.must (effOk I.N gd o.dst x && softsOk x.ws && varsOk I.Np x.ws)).bind fun _ => .ret x
  | none => sstep I.P I.Np I.N gd g o
def gdChain : Nat → Option (Nat × Bool) → Rd (List (Nat × Bool))
  | _, none => .ret []
  | 0, some x => .ret [x]
  | n + 1, some (c, b) => .get c fun e => match Nat.beq (64 * (c / 64)) c && Nat.blt c 128000 && decide (e.tag = .val), e.sh with
    | true, some (.one .leaf) => (gdChain n e.gd).bind fun r => .ret ((c, b) :: r)
    | _, _ => .fail
def skipChk (gd : Option (Nat × Bool)) (dst : Option Nat) : List Wr1 → Rd Unit
  | [] => .ret ()
  | .hard l e :: r => match decide (e.gd = gd) && (match dst with | some d => inT d l | none => false) with
    | true => skipChk gd dst r
    | false => .get l fun c => (Rd.must (e.gd.isNone && e.sh.isNone && c.gd.isNone && decide (c.tag = e.tag) && Nat.ble 128000 l && Nat.blt l 256000 && e.tag.refs.isEmpty)).bind fun _ => skipChk gd dst r
  | .soft l t :: r => match t with
    | .dead => skipChk gd dst r
    | .val => .get l fun e => (Rd.must (decide (e.tag = .own))).bind fun _ => skipChk gd dst r
    | _ => .fail
def opGuard (ops : Array Oper) (o : Oper) : Option (Option (Nat × Bool)) :=
  match o.guard with
  | none => some none
  | some (j, w) => match ops[j]? with
    | some oj => match oj.dst with
      | some d => some (some (lc d 0, w))
      | none => none
    | none => none
def junkOf (o : Oper) : Option Nat := o.dst.map fun d => lc d 0
def gstep (I : FInfo) (ops : Array Oper) (o : Oper) : Rd (Option (Nat × Bool) × Eff) :=
  (Rd.opt (opGuard ops o)).bind fun gd => (gdChain 3 gd).bind fun g => (ostep I gd g o).bind fun x =>
  (match gd with | none => (Rd.ret () : Rd Unit) | some _ => skipChk gd o.dst x.ws).bind fun _ => .ret (gd, x)
def genOps (I : FInfo) (ops : Array Oper) : List Oper → (SEnv → Option PC) → SEnv → Option PC
  | [], k, Γ => k Γ
  | o :: r, k, Γ => ((gstep I ops o).run Γ).bind fun (gd, x) => (genOps I ops r k (app x.ws Γ)).map fun pc => .op gd (junkOf o) x.pop pc
def Rd.logP {α : Type} (Γ : SEnv) : Rd α → List (Nat × GC)
  | .ret _ => []
  | .fail => []
  | .get l k => (l, Γ l) :: (k (Γ l)).logP Γ
structure RStep where
  i : Nat
  o : Oper
  gd : Option (Nat × Bool)
  x : Eff
  log : List (Nat × GC)
def regSteps (I : FInfo) (ops : Array Oper) : Nat → List Oper → SEnv → Option (List RStep)
  | _, [], _ => some []
  | i, o :: r, Γ => ((gstep I ops o).run Γ).bind fun (gd, x) => (regSteps I ops (i + 1) r (app x.ws Γ)).map fun l => ⟨i, o, gd, x, (gstep I ops o).logP Γ⟩ :: l
def Src.rd : Src → List Nat
  | .loc l => [l]
  | .con _ => []
def orRd : Option Src → List Nat
  | some s => s.rd
  | none => []
def POp.rd : POp → List Nat
  | .cp ps => ps.flatMap fun p => p.2.rd
  | .pick _ c a b => c.rd ++ (a.rd ++ b.rd)
  | .bin _ _ a b => a.rd ++ b.rd
  | .un _ _ a => a.rd
  | .beq _ _ a b => a.rd ++ b.rd
  | .conv _ _ a => a.rd
  | .s2b _ a => a.rd
  | .b2s _ a => a.rd
  | .len _ _ a => a.rd
  | .idx _ m _ i => m :: i.rd
  | .sidx _ s i => s.rd ++ i.rd
  | .getE m i _ _ _ => [m, i]
  | .setE m i _ _ srcs => m :: i :: srcs.flatMap Src.rd
  | .app _ _ a b => a.rd ++ b.rd
  | .appS _ a b => a.rd ++ b.rd
  | .mkSl _ _ rows => rows.flatMap fun r => r.flatMap Src.rd
  | .makeS _ _ n => n.rd
  | .sub _ _ a lo hi => a.rd ++ (orRd lo ++ orRd hi)
  | .subS _ a lo hi => a.rd ++ (orRd lo ++ orRd hi)
  | .eqL _ _ _ as bs => as.flatMap Src.rd ++ bs.flatMap Src.rd
  | .mm _ _ a b => a.rd ++ b.rd
  | .call _ args _ => args.flatMap Src.rd
def GC.isDead (e : GC) : Bool := decide (e.tag = .dead) && e.sh.isNone
def indep1 (a b : RStep) : Bool :=
  (a.x.ws.all fun x => match x with
    | .hard l e => !isDom b.x.ws l && !killed b.x.ws e
    | .soft l t => !isDom b.x.ws l && !(t.refs.any (isHard b.x.ws)) && a.log.any (fun p => Nat.beq p.1 l)) &&
  (a.log.all fun p => !isDom b.x.ws p.1 && !killed b.x.ws p.2 && !p.2.isDead) &&
  (a.x.pop.rd.all fun l => !isDom b.x.ws l) &&
  (match a.gd with | some (c, _) => !isDom b.x.ws c | none => true)
def indep (a b : RStep) : Bool := indep1 a b && indep1 b a
def directs (o : Oper) : List Nat := (o.after.toList.filter fun e => Region.binds .any e).map fun e => e.on
def addN (x : Nat) (l : List Nat) : List Nat := if l.any (Nat.beq x) then l else x :: l
def closures (cl : List (List Nat)) : List Oper → List (List Nat)
  | [] => cl
  | o :: r => closures (cl ++ [(directs o).foldl (fun acc k => (cl.getD k []).foldl (fun acc j => addN j acc) (addN k acc)) []]) r
def drawOk (cl : List (List Nat)) : List RStep → Bool
  | [] => true
  | b :: r => (r.all fun a => (cl.getD a.i []).any (Nat.beq b.i) || indep b a) && drawOk cl r
def pickR (M : List Nat) : List (Nat × List Nat) → Option (Nat × List (Nat × List Nat))
  | [] => none
  | (i, es) :: r => match es.all fun k => M.any (Nat.beq k) with
    | true => some (i, r)
    | false => (pickR M r).map fun x => (x.1, (i, es) :: x.2)
def topo : Nat → List Nat → List (Nat × List Nat) → Bool
  | _, _, [] => true
  | 0, _, _ :: _ => false
  | n + 1, M, r => match pickR M r with
    | some x => topo n (x.1 :: M) x.2
    | none => false
def edgesIn (md : Region.Mode) (o : Oper) : List Nat := (o.after.toList.filter fun e => Region.binds md e).map fun e => e.on
def numbered : Nat → List (List Nat) → List (Nat × List Nat)
  | _, [] => []
  | i, x :: r => (i, x) :: numbered (i + 1) r
def topoChk (md : Region.Mode) (ops : Array Oper) : Bool := topo ops.size [] (numbered 0 (ops.toList.map (edgesIn md)))
def drawChk (I : FInfo) (ops : Array Oper) (Γ : SEnv) : Bool := match regSteps I ops 0 ops.toList Γ with
  | some l => drawOk (closures [] ops.toList) l && topoChk .any ops && topoChk .text ops && topoChk .gc ops
  | none => false
def frzOf (Γ : SEnv) : List Wr1 → List Wr1
  | [] => []
  | .soft l .val :: r => if decide ((Γ l).tag = .own) && (Γ l).gd.isNone && !isDom (frzOf Γ r) l then .soft l .val :: frzOf Γ r else frzOf Γ r
  | _ :: r => frzOf Γ r
def regEnv (I : FInfo) (ops : Array Oper) (draw : Bool) (Γ : SEnv) : Option SEnv := match draw with
  | false => some Γ
  | true => match drawChk I ops Γ with
    | true => some Γ
    | false => (regSteps I ops 0 ops.toList Γ).bind fun l =>
      match drawChk I ops (app (frzOf Γ (l.flatMap fun s => s.x.ws)) Γ) with
      | true => some (app (frzOf Γ (l.flatMap fun s => s.x.ws)) Γ)
      | false => none
def retIt (own : Bool) (tgt : Nat) (l : LS) : Rd (Src × List Wr1) := match own with
  | false => fzLeaf [] l
  | true => match l with
    | .con _ u t => match t with
      | .own => .ret (.con u, [])
      | _ => .fail
    | .loc l => (res [] 6 l).bind fun (m, t) => match t with
      | .own => .ret (.loc m, [.soft m (.al tgt)])
      | _ => .fail
structure RItem where
  l : Nat
  own : Bool
  x : LS
def resItems : Nat → List RT → List LS → Option (List RItem)
  | _, [], [] => some []
  | j, .val :: r, l :: s => (resItems (j + 1) r s).map fun xs => ⟨rl j, false, l⟩ :: xs
  | j, .own :: r, l :: s => (resItems (j + 1) r s).map fun xs => ⟨rl j, true, l⟩ :: xs
  | j, .nb _ :: r, _ :: s => resItems (j + 1) r s
  | _, _, _ => none
def cellItems (b : Nat) : Nat → List PM → List RItem
  | _, [] => []
  | k, m :: r => ⟨bc NB k, pmOwn m, .loc (bc b k)⟩ :: cellItems b (k + 1) r
def newItems (Np : Nat) : List RT → List LS → Rd (List (Nat × List PM))
  | [], [] => .ret []
  | .nb cells :: r, .loc l :: s => (res [] 6 l).bind fun (m, t) => match t with
    | .ptr b 0 => .get (bm b) fun e => (Rd.must (decide (e.sh = some (.bx cells.length)) && okVar Np b)).bind fun _ =>
      (newItems Np r s).bind fun zs => .ret ((b, cells) :: zs)
    | _ => .fail
  | .nb _ :: _, _ => .fail
  | _ :: r, _ :: s => newItems Np r s
  | _, _ => .fail
def outItems (b i : Nat) : Nat → List OM → Rd (List RItem)
  | _, [] => .ret []
  | j, .same :: r => .get (bc b j) fun e => match decide (e.tag = .al (shd i j)) && e.gd.isNone with
    | true => outItems b i (j + 1) r
    | false => .fail
  | j, .val :: r => (outItems b i (j + 1) r).bind fun xs => .ret (⟨bc b j, false, .loc (bc b j)⟩ :: xs)
  | j, .own :: r => (outItems b i (j + 1) r).bind fun xs => .ret (⟨bc b j, true, .loc (bc b j)⟩ :: xs)
def capItems (i : Nat) : Nat → List (List PM) → Rd (List RItem)
  | _, [] => .ret []
  | k, c :: r => .get (bm (capB i k)) fun e => (Rd.must (decide (e.sh = some (.bx c.length)))).bind fun _ => (outItems (capB i k) (capB i k) 0 (c.map fun _ => .same)).bind fun xs => (capItems i (k + 1) r).bind fun ys => .ret (xs ++ ys)
def psItems (i : Nat) : List PS → Rd (List RItem)
  | [] => .ret []
  | .v _ _ :: r => psItems (i + 1) r
  | .p cin cout :: r => .get (bm i) fun e => (Rd.must (decide (e.sh = some (.bx cin.length)))).bind fun _ => (outItems i i 0 cout).bind fun xs => (psItems (i + 1) r).bind fun ys => .ret (xs ++ ys)
  | .f _ caps :: r => (capItems i 0 caps).bind fun xs => (psItems (i + 1) r).bind fun ys => .ret (xs ++ ys)
def resLeaves (P : Program) : List ResultVar → List Sh1 → Rd (List LS)
  | [], [] => .ret []
  | .tmp t :: r, s :: ss => .get (lc t 0) fun e => (Rd.must (e.gd.isNone && decide (e.sh = some (.one s)) && Nat.blt t 2000)).bind fun _ =>
    (resLeaves P r ss).bind fun ls => .ret ((List.range s.size).map (fun j => .loc (lc t j)) ++ ls)
  | .cell t T :: r, s :: ss => (ptrLeaf P [] (.tmp t)).bind fun (_, tag) => match tag with
    | .ptr b off => .get (bm b) fun e => match e.sh with
      | some (.bx n) => (Rd.must (decide (off + s.size ≤ n) && decide (sh1Of P T = some s))).bind fun _ => (resLeaves P r ss).bind fun ls => .ret ((List.range s.size).map (fun j => .loc (bc b (off + j))) ++ ls)
      | _ => .fail
    | _ => .fail
  | _, _ => .fail
def rshList : Shape → Option (List Sh1)
  | .one s => some [s]
  | .tup l => if l.length = 1 then none else some l
  | .bx _ => none
def genRet (I : FInfo) : Rd PC :=
  (Rd.opt (rshList I.me.rsh)).bind fun shs => (resLeaves I.P I.fn.results.toList shs).bind fun ls =>
  (Rd.opt (resItems 0 I.me.rts ls)).bind fun xs => (newItems I.Np I.me.rts ls).bind fun ns => (psItems 0 I.me.ps).bind fun cs =>
  let items := xs ++ ns.flatMap (fun n => cellItems n.1 0 n.2) ++ cs
  (mapRd (fun x : RItem => retIt x.own x.l x.x) items).bind fun ys =>
  (Rd.must (nodupN (softLocs (ys.flatMap fun y => y.2)) && Nat.ble ns.length 1 && nodupN (items.map fun x => x.l) && decide (items.map (fun x => x.l) = postLocs I.me) && decide (ls.length = I.me.rsh.size))).bind fun _ => .ret (.ret (ys.map fun y => y.1))
def gen (I : FInfo) : Code → Kont → Nat → SEnv → Option PC
  | .skip, κ, d, Γ => κ.norm d Γ
  | .label _, κ, d, Γ => κ.norm d Γ
  | .region _ ops draw, κ, d, Γ => (regEnv I ops draw Γ).bind fun Γ => genOps I ops ops.toList (fun Γ => κ.norm d Γ) Γ
  | .seq a b, κ, d, Γ => match (joinKey b).bind (findHint I.hints) with
    | none => gen I a { κ with norm := fun d Γ => gen I b κ d Γ } d Γ
    | some h => (gen I b κ d (envOf h.es)).bind fun jb => (gen I a { κ with norm := jumpTo h d } (d + 1) Γ).map fun m => .join h.ps h.tys jb m
  | .cond c a b, κ, d, Γ => ((rd1 I.P [] 0 c).run Γ).bind fun s => (gen I a κ d Γ).bind fun x => (gen I b κ d Γ).map fun y => .cond s x y
  | .block id c, κ, d, Γ => gen I c { κ with ex := (id, κ.norm) :: κ.ex } d Γ
  | .loop c, κ, d, Γ => ((loopKey c).bind (findHint I.hints)).bind fun h => ((moveTo h.es).run Γ).bind fun mv => (srcsFor h.ps mv).bind fun init =>
    (gen I c { κ with norm := jumpTo h d } (d + 1) (envOf h.es)).map fun b => .loop h.ps h.tys init b
  | .exit id, κ, d, Γ => match κ.ex.find? (fun x => Nat.beq x.1 id) with
    | some (_, f) => f d Γ
    | none => none
  | .ret, _, _, Γ => (genRet I).run Γ
  | _, _, _, _ => none
def mkInfo (P : Program) (es : List Entry) (hints : List Hint) (me : Entry) : Option FInfo :=
  match P.funcs[me.fid]? with
  | some fn => some ⟨P, me.ps.length, fn.ntmps, es, hints, fn, me⟩
  | none => none
def psOk1 : PS → Bool
  | .v s ms => Nat.ble s.size 64 && Nat.beq ms.length s.size
  | .p cin cout => Nat.ble cin.length 64 && Nat.beq cout.length cin.length
  | .f _ caps => Nat.ble caps.length 8 && caps.all fun c => Nat.ble c.length 64
def capsBs (i : Nat) : Nat → List (List PM) → List (Nat × Nat)
  | _, [] => []
  | k, c :: r => (capB i k, c.length) :: capsBs i (k + 1) r
def psBs (i : Nat) : List PS → List (Nat × Nat)
  | [] => []
  | .v _ _ :: r => psBs (i + 1) r
  | .p cin _ :: r => (i, cin.length) :: psBs (i + 1) r
  | .f _ caps :: r => capsBs i 0 caps ++ psBs (i + 1) r
def psOk (ps : List PS) : Bool := Nat.ble ps.length 80 && ps.all psOk1 && (psBs 0 ps).all fun p => match (envOf (psIn 0 ps) (bm p.1)).sh with
  | some (.bx n) => Nat.ble n p.2
  | _ => true
def genF (P : Program) (es : List Entry) (hints : List Hint) (me : Entry) : Option PC :=
  (mkInfo P es hints me).bind fun I => I.fn.body.bind fun c => match psOk me.ps && Nat.ble me.ps.length I.fn.ntmps with
  | false => none
  | true => gen I c { norm := fun _ Γ => (genRet I).run Γ, ex := [] } 0 (envOf (psIn 0 me.ps))
end Go.Proofs.Fw
set_option linter.unusedVariables false
set_option linter.unusedSimpArgs false
namespace Go.Proofs.Fw
theorem blt_lt {a b : Nat} (h : Nat.blt a b = true) : a < b := by
  unfold Nat.blt at h
  exact Nat.le_of_ble_eq_true h
def GHs (gs : List (Nat × Bool)) (S : PSt) : Prop := ∀ g ∈ gs, S g.1 = uB g.2
theorem live_of_gdOk {gs : List (Nat × Bool)} {S : PSt} {e : GC} (h : gdOk gs e.gd = true) (hg : GHs gs S) : live e S := by
  intro c b he
  rw [he] at h
  simp only [gdOk, List.contains_iff_mem] at h
  exact hg (c, b) h
theorem res_ok {Γ : SEnv} {S : PSt} {G : Gh} {w : World} {gs : List (Nat × Bool)} (R : HRel Γ S G w) (hg : GHs gs S) :
    ∀ {n l m : Nat} {t : LTag}, (res gs n l).run Γ = some (m, t) → G.V l = G.V m ∧ (Γ m).tag = t ∧ live (Γ m) S ∧ LOk w G S m t ∧ (∀ x, t ≠ .al x) ∧ gdOk gs (Γ m).gd = true
  | 0, l, m, t, h => by cases h
  | n + 1, l, m, t, h => by
    simp only [res, Rd.run] at h
    cases hk : gdOk gs (Γ l).gd with
    | false => rw [hk] at h; cases h
    | true =>
      rw [hk] at h
      simp only at h
      have hl := live_of_gdOk hk hg
      have hL := R.lok l hl
      cases ht : (Γ l).tag with
      | al m' =>
        rw [ht] at h hL
        obtain ⟨h1, h2⟩ := res_ok R hg h
        exact ⟨(show G.V l = G.V m' from hL).trans h1, h2⟩
      | _ =>
        rw [ht] at h hL
        simp only [Rd.run, Option.some.injEq, Prod.mk.injEq] at h
        obtain ⟨rfl, rfl⟩ := h
        exact ⟨rfl, ht, hl, hL, (by intro x hx; cases hx), hk⟩
def lsV (G : Gh) : LS → Value
  | .loc l => G.V l
  | .con v _ _ => v
def ConOk (v : Value) (u : Univ) : LTag → Prop
  | .val => ∀ w Ow, Rep w Ow v u
  | .own => v = .slice none 0 0 ∧ ∃ t, u = ⟨.sl t, []⟩
  | .clo f caps => caps = [] ∧ v = .func (.func f) #[] #[]
  | .dead => True
  | _ => False
def lsOk : LS → Prop
  | .loc _ => True
  | .con v u t => ConOk v u t
theorem constLeaf_ok (t : Option Ty) (v : Value) : lsOk (constLeaf t v) ∧ ∀ G, lsV G (constLeaf t v) = v := by
  unfold constLeaf
  split <;> refine ⟨?_, fun G => rfl⟩
  · exact fun w Ow => .int _ _
  · exact fun w Ow => .bool _
  · exact fun w Ow => .str _
  · exact ⟨rfl, _, rfl⟩
  · trivial
def LV (w : World) (G : Gh) (v : Value) (u : Univ) : LTag → Prop
  | .dead => True
  | .rd => RdV w G.Ow v u
  | .val => Rep w G.Ow v u
  | .own => v = .slice none 0 0 ∧ ∃ t, u = ⟨.sl t, []⟩
  | .al m => v = G.V m
  | .ptr b off => v = .pointer (some ⟨(G.B b).1, (G.B b).2 + off, none⟩)
  | .ep m off t => ∃ ad n c i, G.V m = .slice (some ad) n c ∧ u = uI i ∧ 0 ≤ i ∧ i < n ∧ ad.spot = none ∧
      v = .pointer (some ⟨ad.block, ad.off + (i.toNat * t.size + off), none⟩)
  | .clo f caps => v = .func (.func f) #[] (caps.map (capV G)).toArray
theorem LV.lok {w w' : World} {G G' : Gh} {S' : PSt} {v : Value} {u : Univ} {d : Nat} {t : LTag} (h : LV w G v u t) (hV : G'.V d = v) (hS : t = .dead ∨ S' d = u)
    (hr : ∀ m ∈ t.refs, G'.V m = G.V m ∧ ∀ b, m = bm b → G'.B b = G.B b) (hs : Still w G.Ow w' G'.Ow)
    (hrd : ∀ b, G.Ow b = .rd → w'.heap[b]? = w.heap[b]? ∧ G'.Ow b = .rd) : LOk w' G' S' d t := by
  cases t with
  | dead => trivial
  | rd => rcases hS with hS | hS; · cases hS
          show RdV _ _ _ _; rw [hV, hS]; exact RdV.still hs hrd h
  | val => rcases hS with hS | hS; · cases hS
           show Rep _ _ _ _; rw [hV, hS]; exact Rep.still hs h
  | own =>
    rcases hS with hS | hS; · cases hS
    obtain ⟨h1, t, h2⟩ := h
    exact ⟨t, [], hS.trans h2, .inl ⟨hV.trans h1, rfl⟩⟩
  | al m =>
    show G'.V d = G'.V m
    rw [hV, (hr m (by simp [LTag.refs])).1]; exact h
  | ptr b off =>
    show G'.V d = _
    rw [hV, (hr (bm b) (by simp [LTag.refs])).2 b rfl]; exact h
  | ep m off t =>
    rcases hS with hS | hS; · cases hS
    obtain ⟨ad, n, c, i, h1, h2, h3⟩ := h
    exact ⟨ad, n, c, i, (hr m (by simp [LTag.refs])).1.trans h1, hS.trans h2, h3.1, h3.2.1, h3.2.2.1, hV.trans h3.2.2.2⟩
  | clo f caps =>
    show G'.V d = _
    have e : caps.map (capV G') = caps.map (capV G) := List.map_congr_left fun c hc => by
      unfold capV
      rw [(hr (bm c.1) (by simp only [LTag.refs, List.mem_map]; exact ⟨c, hc, rfl⟩)).2 c.1 rfl]
    rw [hV, e]; exact h
theorem LOk.lv {w : World} {G : Gh} {S : PSt} {l : Nat} {t : LTag} (h : LOk w G S l t) (ht : t ≠ .own) : LV w G (G.V l) (S l) t := by
  cases t with
  | own => exact absurd rfl ht
  | _ => exact h
theorem ConOk.lv {w : World} {G : Gh} {v : Value} {u : Univ} {t : LTag} (h : ConOk v u t) : LV w G v u t := by
  cases t with
  | val => exact h w G.Ow
  | own => exact h
  | clo f caps => obtain ⟨rfl, rfl⟩ := h; rfl
  | dead => trivial
  | _ => exact h.elim
def needsS : LTag → Bool
  | .rd | .val | .own | .ep _ _ _ => true
  | _ => false
theorem LV.anyS {w : World} {G : Gh} {v : Value} {u u' : Univ} {t : LTag} (h : LV w G v u t) (ht : needsS t = false) : LV w G v u' t := by
  cases t <;> first | exact h | cases ht
theorem cpLeaf_ok {Γ : SEnv} {S : PSt} {G : Gh} {w : World} {gs : List (Nat × Bool)} (R : HRel Γ S G w) (hg : GHs gs S) {ls : LS} (hl : lsOk ls) {t : LTag} {src : Option Src}
    (h : (cpLeaf gs ls).run Γ = some (t, src)) (u : Univ) (hu : ∀ s, src = some s → u = s.get S) : LV w G (lsV G ls) u t ∧ (needsS t = true → src.isSome = true) := by
  cases ls with
  | con v u' t' =>
    simp only [cpLeaf, Rd.run, Option.some.injEq, Prod.mk.injEq] at h
    obtain ⟨rfl, rfl⟩ := h
    exact ⟨by rw [hu _ rfl]; exact ConOk.lv hl, fun _ => rfl⟩
  | loc l =>
    simp only [cpLeaf] at h
    obtain ⟨⟨m, tg⟩, h1, h2⟩ := Rd.run_bind h
    obtain ⟨hV, htag, hlive, hL, hna, _⟩ := res_ok R hg h1
    simp only [lsV, hV]
    cases tg with
    | own =>
      simp only [Rd.run, Option.some.injEq, Prod.mk.injEq] at h2
      obtain ⟨rfl, rfl⟩ := h2
      exact ⟨rfl, fun h => by cases h⟩
    | al x => exact absurd rfl (hna x)
    | _ =>
      simp only [Rd.run, Option.some.injEq, Prod.mk.injEq] at h2
      obtain ⟨rfl, rfl⟩ := h2
      exact ⟨by rw [hu _ rfl]; exact hL.lv (by intro h; cases h), fun _ => rfl⟩
theorem opLeaves_ok {Γ : SEnv} {S : PSt} {G : Gh} {N : Nat} {a : Act} {gs : List (Nat × Bool)} (T : TRel Γ S G N a) (hg : GHs gs S) {P : Program} {ty : TypeId} {x : Operand}
    {s : Sh1} {ls : List LS} (h : (opLeaves P gs ty x).run Γ = some (s, ls)) :
    a.eval x = asm1 s (fun j => ((ls[j]?).map (lsV G)).getD undef) ∧ ls.length = s.size ∧ (∀ y ∈ ls, lsOk y) := by
  unfold opLeaves at h
  split at h
  · rename_i t
    simp only [Rd.run] at h
    split at h
    · rename_i s' hk hsh
      simp only [Rd.run, Option.some.injEq, Prod.mk.injEq] at h
      obtain ⟨rfl, rfl⟩ := h
      simp only [Bool.and_eq_true] at hk
      have ht : t < 2000 := blt_lt hk.2
      have e := T.tmp t _ ht hsh (live_of_gdOk hk.1 hg)
      refine ⟨?_, by simp, by intro y hy; simp only [List.mem_map] at hy; obtain ⟨j, _, rfl⟩ := hy; trivial⟩
      show a.tmps.getD t undef = _
      rw [e]
      show asm1 s' _ = _
      cases s' with
      | leaf => simp [asm1, Sh1.size, lsV]
      | agg n =>
        simp only [asm1, Sh1.size]
        congr 2
        apply List.map_congr_left
        intro j hj
        simp [List.mem_range.1 hj, lsV]
    · cases h
  · rename_i cs
    split at h
    · rename_i ts hts
      split at h
      · rename_i hlen
        simp only [decide_eq_true_eq] at hlen
        simp only [Rd.run, Option.some.injEq, Prod.mk.injEq] at h
        obtain ⟨rfl, rfl⟩ := h
        refine ⟨?_, by simp [Sh1.size, hlen], ?_⟩
        · show Value.agg cs = _
          simp only [asm1]
          congr 1
          apply Array.toList_inj.1
          apply List.ext_getElem
          · simp
          · intro j h1 h2
            have hj : j < cs.size := by simpa using h1
            simp [hj, hlen, (constLeaf_ok _ _).2]
        · intro y hy
          simp only [List.mem_map] at hy
          obtain ⟨p, _, rfl⟩ := hy
          exact (constLeaf_ok _ _).1
      · cases h
    · cases h
  · cases h
  · rename_i v _ _
    simp only [Rd.run, Option.some.injEq, Prod.mk.injEq] at h
    obtain ⟨rfl, rfl⟩ := h
    refine ⟨?_, rfl, by intro y hy; simp only [List.mem_singleton] at hy; subst hy; exact (constLeaf_ok _ _).1⟩
    simp [asm1, (constLeaf_ok _ _).2, Act.eval]
  · simp only [Rd.run, Option.some.injEq, Prod.mk.injEq] at h
    obtain ⟨rfl, rfl⟩ := h
    exact ⟨rfl, rfl, by intro y hy; simp only [List.mem_singleton] at hy; subst hy; exact ⟨rfl, rfl⟩⟩
  · cases h
theorem mem_hardAt {t : Nat} {g : Option (Nat × Bool)} : ∀ {tags : List LTag} {j0 : Nat} {x : Wr1}, x ∈ hardAt t g j0 tags →
    ∃ j e, x = .hard (lc t (j0 + j)) e ∧ e.gd = g ∧ e.sh = none ∧ tags[j]? = some e.tag
  | [], _, x, h => by cases h
  | y :: r, j0, x, h => by
    simp only [hardAt, List.mem_cons] at h
    rcases h with h | h
    · exact ⟨0, _, h, rfl, rfl, rfl⟩
    · obtain ⟨j, e, h1, h2, h3, h4⟩ := mem_hardAt h
      exact ⟨j + 1, e, by rw [h1]; congr 2; omega, h2, h3, by simpa using h4⟩
theorem mem_hardT {d : Nat} {sh : Shape} {g : Option (Nat × Bool)} {tags : List LTag} {x : Wr1} (h : x ∈ hardT d sh g tags) :
    ∃ j e, x = .hard (lc d j) e ∧ e.gd = g ∧ (tags[j]? = some e.tag ∨ (tags = [] ∧ j = 0 ∧ e.tag = .dead)) ∧ (e.sh = none ∨ (j = 0 ∧ e.sh = some sh)) := by
  cases tags with
  | nil =>
    simp only [hardT, List.mem_singleton] at h
    exact ⟨0, _, h, rfl, .inr ⟨rfl, rfl, rfl⟩, .inr ⟨rfl, rfl⟩⟩
  | cons y r =>
    simp only [hardT, List.mem_cons] at h
    rcases h with h | h
    · exact ⟨0, _, h, rfl, .inl rfl, .inr ⟨rfl, rfl⟩⟩
    · obtain ⟨j, e, h1, h2, h3, h4⟩ := mem_hardAt h
      exact ⟨j + 1, e, by rw [h1]; congr 2; omega, h2, .inl (by simpa using h4), .inl h3⟩
theorem hfind_isSome {ws : List Wr1} {l : Nat} {e : GC} (h : Wr1.hard l e ∈ ws) : isHard ws l = true := by
  induction ws with
  | nil => cases h
  | cons x r ih =>
    unfold isHard at *
    cases x with
    | hard m e' =>
      simp only [hfind]
      split
      · rfl
      · rename_i hm
        rcases List.mem_cons.1 h with h | h
        · injection h with h1 h2
          subst h1
          simp at hm
        · exact ih h
    | soft m t =>
      rcases List.mem_cons.1 h with h | h
      · cases h
      · exact ih h
theorem hardAt_mem (t : Nat) (g : Option (Nat × Bool)) : ∀ (tags : List LTag) (j0 j : Nat), j < tags.length → ∃ e, Wr1.hard (lc t (j0 + j)) e ∈ hardAt t g j0 tags
  | [], _, _, h => by cases h
  | x :: r, j0, 0, _ => ⟨_, List.mem_cons_self⟩
  | x :: r, j0, j + 1, h => by
    obtain ⟨e, he⟩ := hardAt_mem t g r (j0 + 1) j (by simpa using h)
    exact ⟨e, by rw [show j0 + (j + 1) = j0 + 1 + j by omega]; exact List.mem_cons_of_mem _ he⟩
theorem hardT_mem (d : Nat) (sh : Shape) (g : Option (Nat × Bool)) (tags : List LTag) (j : Nat) (h : j < tags.length) : ∃ e, Wr1.hard (lc d j) e ∈ hardT d sh g tags := by
  cases tags with
  | nil => cases h
  | cons x r =>
    cases j with
    | zero => exact ⟨_, List.mem_cons_self⟩
    | succ j =>
      obtain ⟨e, he⟩ := hardAt_mem d g r 1 j (by simpa using h)
      exact ⟨e, by rw [show j + 1 = 1 + j by omega]; exact List.mem_cons_of_mem _ he⟩
theorem hardT_head (d : Nat) (sh : Shape) (g : Option (Nat × Bool)) (tags : List LTag) (sf : List Wr1) : ∃ e, hfind (hardT d sh g tags ++ sf) (lc d 0) = some e ∧ e.sh = some sh ∧ e.gd = g := by
  cases tags with
  | nil => exact ⟨⟨.dead, some sh, g⟩, by simp [hardT, hfind], rfl, rfl⟩
  | cons x r => exact ⟨⟨x, some sh, g⟩, by simp [hardT, hfind], rfl, rfl⟩
theorem upds_not {us : List (Nat × Univ)} : ∀ {S : PSt} {l : Nat}, l ∉ us.map (fun p => p.1) → upds S us l = S l := by
  induction us with
  | nil => intro S l _; rfl
  | cons x r ih =>
    intro S l h
    obtain ⟨m, u⟩ := x
    simp only [List.map_cons, List.mem_cons, not_or] at h
    show upds _ r l = _
    rw [ih h.2]
    have : Nat.beq l m = false := by
      cases e : Nat.beq l m with
      | false => rfl
      | true => exact absurd (Nat.eq_of_beq_eq_true e) h.1
    simp [this]
theorem upds_mem {us : List (Nat × Univ)} : ∀ {S : PSt} {l : Nat} {u : Univ}, (us.map (fun p => p.1)).Nodup → (l, u) ∈ us → upds S us l = u := by
  induction us with
  | nil => intro S l u _ h; cases h
  | cons x r ih =>
    intro S l u hn h
    obtain ⟨m, v⟩ := x
    simp only [List.map_cons, List.nodup_cons] at hn
    rcases List.mem_cons.1 h with h | h
    · injection h with h1 h2
      subst h1 h2
      show upds _ r l = _
      rw [upds_not hn.1]
      simp
    · exact ih hn.2 h
theorem nodupN_nodup : ∀ {l : List Nat}, nodupN l = true → l.Nodup
  | [], _ => List.nodup_nil
  | x :: r, h => by
    simp only [nodupN, Bool.and_eq_true, Bool.not_eq_true'] at h
    refine List.nodup_cons.2 ⟨?_, nodupN_nodup h.2⟩
    have := h.1
    simpa using this
def ren (ρ : Nat → Option Owner) : Owner → Owner
  | .loc m => (ρ m).getD (.loc m)
  | o => o
def stepG (G : Gh) (d : Nat) (ws : List Wr1) (vals : Nat → Value) (ρ : Nat → Option Owner) : Gh :=
  { V := fun l => if isHard ws l = true ∧ 64 * d ≤ l ∧ l < 64 * d + 64 then vals (l - 64 * d) else G.V l, Ow := fun b => ren ρ (G.Ow b), B := G.B }
theorem asm1_congr {s : Sh1} {f g : Nat → Value} (h : ∀ j, j < s.size → f j = g j) : asm1 s f = asm1 s g := by
  cases s with
  | leaf => exact h 0 (by simp [Sh1.size])
  | agg n =>
    simp only [asm1]
    congr 2
    exact List.map_congr_left fun j hj => h j (List.mem_range.1 hj)
theorem asmL_congr : ∀ {l : List Sh1} {f g : Nat → Value} {o : Nat}, (∀ j, j < o + (l.map Sh1.size).sum → f j = g j) → asmL l f o = asmL l g o
  | [], _, _, _, _ => rfl
  | s :: r, f, g, o, h => by
    simp only [List.map_cons, List.sum_cons] at h
    simp only [asmL]
    rw [asm1_congr (fun j hj => h (o + j) (by omega)), asmL_congr (fun j hj => h j (by omega))]
theorem asm_congr {s : Shape} {f g : Nat → Value} (h : ∀ j, j < s.size → f j = g j) : asm s f = asm s g := by
  cases s with
  | one s => exact asm1_congr h
  | tup l => simp only [asm]; rw [asmL_congr (fun j hj => h j (by simpa [Shape.size] using hj))]
  | bx n => rfl
theorem hardsIn_spec {dst : Option Nat} : ∀ {ws : List Wr1}, hardsIn dst ws = true → ∀ {l : Nat}, isHard ws l = true → (128000 ≤ l ∧ (l < 256000 ∨ 384000 ≤ l)) ∨ ∃ d, dst = some d ∧ 64 * d ≤ l ∧ l < 64 * d + 64
  | [], _, l, h => by cases h
  | .soft _ _ :: r, hh, l, h => hardsIn_spec (ws := r) hh h
  | .hard m e :: r, hh, l, h => by
    simp only [hardsIn, Bool.and_eq_true, Bool.or_eq_true] at hh
    simp only [isHard, hfind] at h
    split at h
    · rename_i hm
      simp only [beq_iff_eq] at hm
      subst hm
      rcases hh.1 with h1 | h1
      · rcases h1 with ⟨h1, h2⟩
        exact .inl ⟨Nat.le_of_ble_eq_true h1, h2.imp blt_lt Nat.le_of_ble_eq_true⟩
      · cases dst with
        | none => cases h1
        | some d =>
          simp only [inT, Bool.and_eq_true] at h1
          exact .inr ⟨d, rfl, Nat.le_of_ble_eq_true h1.1, blt_lt h1.2⟩
    · exact hardsIn_spec (ws := r) hh.2 h
theorem refsOk_spec {all : List Wr1} {own : Nat} : ∀ {ws : List Wr1}, refsOk all own ws = true → ∀ {l : Nat} {e : GC}, Wr1.hard l e ∈ ws → ∀ m ∈ e.tag.refs, isHard all m = true → m = own
  | [], _, l, e, h => by cases h
  | .soft _ _ :: r, hh, l, e, h => by
    rcases List.mem_cons.1 h with h | h
    · cases h
    · exact refsOk_spec (ws := r) hh h
  | .hard m' e' :: r, hh, l, e, h => by
    simp only [refsOk, Bool.and_eq_true] at hh
    rcases List.mem_cons.1 h with h | h
    · injection h with h1 h2
      subst h1 h2
      intro m hm hhard
      have := List.all_eq_true.1 hh.1 m hm
      rw [hhard] at this
      simpa using this
    · exact refsOk_spec (ws := r) hh.2 h
theorem stepA {Γ : SEnv} {S : PSt} {G : Gh} {w : World} {N : Nat} {a : Act} {gd : Option (Nat × Bool)} {d : Nat} {sh : Shape} {tags : List LTag} {sf : List Wr1} {pop : POp}
    {us : List (Nat × Univ)} {v : Value} {vals : Nat → Value} {ρ : Nat → Option Owner} (R : HRel Γ S G w) (T : TRel Γ S G N a)
    (hok : effOk N gd (some d) ⟨pop, hardT d sh gd tags ++ sf⟩ = true) (hgd : ∀ c b, gd = some (c, b) → S c = uB b)
    (hsf : ∀ l e, Wr1.hard l e ∉ sf) (hv : v = asm sh vals) (hlen : tags.length = sh.size)
    (hS : ∀ l, isHard (hardT d sh gd tags ++ sf) l = false → upds S us l = S l)
    (hρ : ∀ m o, ρ m = some o → isDom (hardT d sh gd tags ++ sf) m = true)
    (hl : ∀ j t, tags[j]? = some t → LOk w (stepG G d (hardT d sh gd tags ++ sf) vals ρ) (upds S us) (lc d j) t)
    (hsoft : ∀ l t, Wr1.soft l t ∈ sf → live (Γ l) S → LOk w (stepG G d (hardT d sh gd tags ++ sf) vals ρ) (upds S us) l t) :
    HRel (app (hardT d sh gd tags ++ sf) Γ) (upds S us) (stepG G d (hardT d sh gd tags ++ sf) vals ρ) w ∧
    TRel (app (hardT d sh gd tags ++ sf) Γ) (upds S us) (stepG G d (hardT d sh gd tags ++ sf) vals ρ) N (a.put (some d) v) := by
  generalize hws : hardT d sh gd tags ++ sf = ws at *
  simp only [effOk, Bool.and_eq_true] at hok
  obtain ⟨⟨⟨⟨_, _⟩, hin⟩, hgk⟩, ⟨⟨⟨hdN, hd2⟩, hsh⟩, hrefs⟩⟩ := hok
  have hdN := blt_lt hdN
  have hd2 := blt_lt hd2
  have hmem : ∀ l e, Wr1.hard l e ∈ ws → ∃ j, l = lc d j ∧ e.gd = gd ∧ (tags[j]? = some e.tag ∨ (tags = [] ∧ j = 0 ∧ e.tag = .dead)) ∧ (e.sh = none ∨ (j = 0 ∧ e.sh = some sh)) := by
    intro l e h
    rw [← hws] at h
    rcases List.mem_append.1 h with h | h
    · obtain ⟨j, e', h1, h2, h3, h4⟩ := mem_hardT h
      injection h1 with h1 h5
      subst h1 h5
      exact ⟨j, rfl, h2, h3, h4⟩
    · exact absurd h (hsf l e)
  have hsoft' : ∀ l t, Wr1.soft l t ∈ ws → Wr1.soft l t ∈ sf := by
    intro l t h
    rw [← hws] at h
    rcases List.mem_append.1 h with h | h
    · obtain ⟨j, e', h1, _⟩ := mem_hardT h
      cases h1
    · exact h
  obtain ⟨e0, he0, hs0, hg0⟩ := hardT_head d sh gd tags sf
  rw [hws] at he0
  have hsize : sh.size ≤ 64 := by
    unfold shOk at hsh
    rw [he0] at hsh
    simp only [hs0] at hsh
    cases sh with
    | bx n => cases hsh
    | one s => exact Nat.le_of_ble_eq_true hsh
    | tup l => exact Nat.le_of_ble_eq_true hsh
  have hhardd : ∀ j, j < tags.length → isHard ws (lc d j) = true := by
    intro j hj
    obtain ⟨e, he⟩ := hardT_mem d sh gd tags j hj
    exact hfind_isSome (hws ▸ List.mem_append_left _ he)
  have hVd : ∀ j, j < sh.size → (stepG G d ws vals ρ).V (lc d j) = vals j := by
    intro j hj
    simp only [stepG]
    rw [if_pos ⟨hhardd j (by omega), by simp [lc]; omega⟩]
    congr 1
    simp [lc]
  have hVo : ∀ l, isHard ws l = false → (stepG G d ws vals ρ).V l = G.V l := by
    intro l h
    simp [stepG, h]
  have hSd : ∀ l, isDom ws l = false → upds S us l = S l := by
    intro l h
    refine hS l ?_
    simp only [isDom, Bool.or_eq_false_iff] at h
    exact h.1
  have hbm : ∀ b, isHard ws (bm b) = false := by
    intro b
    cases h : isHard ws (bm b) with
    | false => rfl
    | true =>
      simp only [isHard, Option.isSome_iff_exists] at h
      obtain ⟨e, he⟩ := h
      obtain ⟨j, hj, _, h3, _⟩ := hmem _ _ (hfind_some he)
      exfalso
      have : j < 64 := by
        rcases h3 with h3 | h3
        · have := (List.getElem?_eq_some_iff.1 h3).1; omega
        · omega
      simp only [bm, lc] at hj
      omega
  refine ⟨HRel.step R (ws := ws) hVo hSd (fun _ _ => rfl) (fun b hb => ⟨rfl, by simp [stepG, hb, ren]⟩) (fun b hb => ⟨rfl, by simp [stepG, hb, ren]⟩) ?_ ?_ ?_ ?_ ?_ ?_ ?_, ?_⟩
  · intro l hl' b hb
    refine ⟨rfl, ?_⟩
    simp only [stepG, hb, ren]
    cases hr : ρ l with
    | none => rfl
    | some o => rw [hρ l o hr] at hl'; cases hl'
  · intro b n hb _
    obtain ⟨h1, h2⟩ := R.box b n hb
    refine ⟨by simp [stepG, h1, ren], fun j hj => ?_⟩
    rw [hVo (bc b j) ?_]
    · exact h2 j hj
    · cases h : isHard ws (bc b j) with
      | false => rfl
      | true =>
        exfalso
        simp only [isHard, Option.isSome_iff_exists] at h
        obtain ⟨e, he⟩ := h
        obtain ⟨j', hj', _, h3, _⟩ := hmem _ _ (hfind_some he)
        have : j' < 64 := by
          rcases h3 with h3 | h3
          · have := (List.getElem?_eq_some_iff.1 h3).1; omega
          · omega
        simp only [bc, lc] at hj'
        omega
  · intro l e he hlive
    obtain ⟨j, rfl, _, h3, _⟩ := hmem l e he
    rcases h3 with h3 | ⟨_, _, h3⟩
    · exact hl j _ h3
    · rw [h3]; trivial
  · intro b e n he _
    have := hfind_isSome he
    rw [hbm b] at this
    cases this
  · intro l t ht hlive
    exact hsoft l t (hsoft' l t ht) hlive
  · intro k hk
    simp only [stepG, R.new k hk, ren]
  · intro b e n he _
    have := hfind_isSome he
    rw [hbm b] at this
    cases this
  · have happ0 : app ws Γ (lc d 0) = e0 := by simp only [app, he0]
    have hother : ∀ t, t < 2000 → t ≠ d → isHard ws (lc t 0) = false ∧ ∀ j, j < 64 → isHard ws (lc t j) = false := by
      intro t ht htd
      have key : ∀ j, j < 64 → isHard ws (lc t j) = false := by
        intro j hj
        cases h : isHard ws (lc t j) with
        | false => rfl
        | true =>
          exfalso
          rcases hardsIn_spec hin h with h | ⟨d', hd', h1, h2⟩
          · simp only [lc] at h; omega
          · injection hd' with hd'
            subst hd'
            simp only [lc] at h1 h2
            omega
      exact ⟨key 0 (by omega), key⟩
    have hold : ∀ t, t < 2000 → t ≠ d → ∀ s, (app ws Γ (lc t 0)).sh = some s → (Γ (lc t 0)).sh = some s ∧ (app ws Γ (lc t 0)).gd = (Γ (lc t 0)).gd ∧ gdKilled ws (Γ (lc t 0)).gd = false := by
      intro t ht htd s hs
      have hh := (hother t ht htd).1
      have hf : hfind ws (lc t 0) = none := by simpa [isHard] using hh
      simp only [app, hf] at hs ⊢
      cases hg : sfind ws (lc t 0) with
      | some tg =>
        rw [hg] at hs
        simp only at hs ⊢
        cases hk : gdKilled ws (Γ (lc t 0)).gd with
        | true => rw [hk] at hs; cases hs
        | false => rw [hk] at hs; exact ⟨hs, rfl, rfl⟩
      | none =>
        rw [hg] at hs
        simp only at hs ⊢
        cases hk : killed ws (Γ (lc t 0)) with
        | true => rw [hk] at hs; cases hs
        | false => rw [hk] at hs; simp only [killed, Bool.or_eq_false_iff] at hk; exact ⟨hs, rfl, hk.2⟩
    refine ⟨by simp [Act.put, T.size], ?_, ?_, ?_, T.defers⟩
    · intro t s ht hs
      by_cases htd : t = d
      · subst htd
        rw [happ0, hs0] at hs
        injection hs with hs
        exact hs ▸ hsize
      · exact T.small t s ht (hold t ht htd s hs).1
    · intro t s ht hs hlive
      by_cases htd : t = d
      · subst htd
        rw [happ0, hs0] at hs
        injection hs with hs
        subst hs
        have : (a.put (some t) v).tmps.getD t undef = v := by
          simp [Act.put, T.size, hdN]
        rw [this, hv]
        exact asm_congr fun j hj => (hVd j hj).symm
      · obtain ⟨h1, h2, h3⟩ := hold t ht htd s hs
        have hlive0 : live (Γ (lc t 0)) S := by
          intro c b hc
          have := hlive c b (h2 ▸ hc)
          rw [hSd c (by rw [hc] at h3; exact h3)] at this
          exact this
        have : (a.put (some d) v).tmps.getD t undef = a.tmps.getD t undef := by
          simp [Act.put, Array.getD_eq_getD_getElem?, Array.getElem?_setIfInBounds, Ne.symm htd]
        rw [this, T.tmp t s ht h1 hlive0]
        refine asm_congr fun j hj => (hVo _ ((hother t ht htd).2 j ?_)).symm
        have := T.small t s ht h1
        omega
    · intro t c b ht hg hne
      by_cases htd : t = d
      · subst htd
        rw [happ0, hg0] at hg
        have := hgd c b hg
        rw [hSd c ?_] at hne
        · exact absurd this hne
        · rw [hg] at hgk
          simpa [gdKilled] using hgk
      · have hh := (hother t ht htd).1
        have hf : hfind ws (lc t 0) = none := by simpa [isHard] using hh
        have hold2 : (Γ (lc t 0)).gd = some (c, b) ∧ gdKilled ws (Γ (lc t 0)).gd = false := by
          simp only [app, hf] at hg
          cases hgs : sfind ws (lc t 0) with
          | some tg =>
            rw [hgs] at hg
            simp only at hg
            cases hk : gdKilled ws (Γ (lc t 0)).gd with
            | true => rw [hk] at hg; cases hg
            | false => rw [hk] at hg; exact ⟨hg, rfl⟩
          | none =>
            rw [hgs] at hg
            simp only at hg
            cases hk : killed ws (Γ (lc t 0)) with
            | true => rw [hk] at hg; cases hg
            | false => rw [hk] at hg; simp only [killed, Bool.or_eq_false_iff] at hk; exact ⟨hg, hk.2⟩
        rw [hSd c (by have := hold2.2; rw [hold2.1] at this; exact this)] at hne
        have := T.und t c b ht hold2.1 hne
        have e : (a.put (some d) v).tmps.getD t undef = a.tmps.getD t undef := by
          simp [Act.put, Array.getD_eq_getD_getElem?, Array.getElem?_setIfInBounds, Ne.symm htd]
        rw [e, hS _ hh]
        exact this
end Go.Proofs.Fw
set_option linter.unusedVariables false
set_option linter.unusedSimpArgs false
namespace Go.Proofs.Fw
structure Fr (bs : List (Nat × Nat)) (G : Gh) (w : World) (G' : Gh) (w' : World) : Prop where
  os : w'.os = w.os
  tape : w'.tape = w.tape
  output : w'.output = w.output
  size : w.heap.size ≤ w'.heap.size
  keep : ∀ b, b < w.heap.size → (G.Ow b = .imm ∨ G.Ow b = .rd ∨ G.Ow b = .foreign) → w'.heap[b]? = w.heap[b]? ∧ G'.Ow b = G.Ow b
  shd : ∀ l, 256000 ≤ l → l < 384000 → G'.V l = G.V l
  bx : ∀ p ∈ bs, G'.B p.1 = G.B p.1 ∧ (G.Ow (G.B p.1).1 = .box p.1 → G'.Ow (G.B p.1).1 = .box p.1 ∧
    (∀ o, o < (G.B p.1).2 ∨ (G.B p.1).2 + p.2 ≤ o → w'.cell? ⟨(G.B p.1).1, o, none⟩ = w.cell? ⟨(G.B p.1).1, o, none⟩) ∧
    ∀ o, w'.frozen? ⟨(G.B p.1).1, o, none⟩ = w.frozen? ⟨(G.B p.1).1, o, none⟩)
theorem Fr.refl (bs : List (Nat × Nat)) (G : Gh) (w : World) : Fr bs G w G w :=
  ⟨rfl, rfl, rfl, Nat.le_refl _, fun _ _ _ => ⟨rfl, rfl⟩, fun _ _ _ => rfl, fun _ _ => ⟨rfl, fun h => ⟨h, fun _ _ => rfl, fun _ => rfl⟩⟩⟩
theorem Fr.trans {bs : List (Nat × Nat)} {G G1 G2 : Gh} {w w1 w2 : World} (h : Fr bs G w G1 w1) (k : Fr bs G1 w1 G2 w2) : Fr bs G w G2 w2 := by
  refine ⟨k.os.trans h.os, k.tape.trans h.tape, k.output.trans h.output, Nat.le_trans h.size k.size, ?_, fun l h1 h2 => (k.shd l h1 h2).trans (h.shd l h1 h2), ?_⟩
  · intro b hb ho
    obtain ⟨h1, h2⟩ := h.keep b hb ho
    obtain ⟨k1, k2⟩ := k.keep b (Nat.lt_of_lt_of_le hb h.size) (by rw [h2]; exact ho)
    exact ⟨k1.trans h1, k2.trans h2⟩
  · intro p hp
    obtain ⟨h1, h2⟩ := h.bx p hp
    obtain ⟨k1, k2⟩ := k.bx p hp
    refine ⟨k1.trans h1, fun ho => ?_⟩
    obtain ⟨a1, a2, a3⟩ := h2 ho
    rw [h1] at k2
    obtain ⟨b1, b2, b3⟩ := k2 a1
    exact ⟨b1, fun o h => (b2 o h).trans (a2 o h), fun o => (b3 o).trans (a3 o)⟩
theorem Fr.stepG {bs : List (Nat × Nat)} {G : Gh} {w : World} {d : Nat} {ws : List Wr1} {vals : Nat → Value} {ρ : Nat → Option Owner} (hd : d < 2000) : Fr bs G w (stepG G d ws vals ρ) w := by
  refine ⟨rfl, rfl, rfl, Nat.le_refl _, ?_, ?_, ?_⟩
  · intro b _ h
    refine ⟨rfl, ?_⟩
    rcases h with h | h | h <;> simp [Fw.stepG, h, ren]
  · intro l h1 h2
    simp only [Fw.stepG]
    rw [if_neg]
    intro h
    omega
  · intro p hp
    refine ⟨rfl, fun h => ⟨by simp [Fw.stepG, h, ren], fun _ _ => rfl, fun _ => rfl⟩⟩
theorem stepG_V {G : Gh} {d : Nat} {ws : List Wr1} {vals : Nat → Value} {ρ : Nat → Option Owner} {l : Nat} (h : isHard ws l = false) : (stepG G d ws vals ρ).V l = G.V l := by
  simp only [Fw.stepG]
  rw [if_neg]
  rw [h]
  simp
def Outc (P : Program) (o : Oper) (a : Act) (w : World) (bs : List (Nat × Nat)) (Γ' : SEnv) (S' : PSt) (N : Nat) (G : Gh) : Prop :=
  ∃ v w' G', ((execOp a.eval o).run P w = .ok (.value v) w' ∨ ((execOp a.eval o).run P w = .ok .skip w' ∧ v = undef)) ∧
    HRel Γ' S' G' w' ∧ TRel Γ' S' G' N (a.put o.dst v) ∧ Fr bs G w G' w'
theorem mem_cpT {t : Nat} : ∀ {srcs : List (Option Src)} {j0 : Nat} {p : Nat × Src}, p ∈ cpT t j0 srcs → ∃ j, p.1 = lc t (j0 + j) ∧ srcs[j]? = some (some p.2)
  | [], _, p, h => by cases h
  | some s :: r, j0, p, h => by
    simp only [cpT, List.mem_cons] at h
    rcases h with h | h
    · subst h; exact ⟨0, rfl, rfl⟩
    · obtain ⟨j, h1, h2⟩ := mem_cpT h
      exact ⟨j + 1, by rw [h1]; simp only [lc]; omega, by simpa using h2⟩
  | none :: r, j0, p, h => by
    simp only [cpT] at h
    obtain ⟨j, h1, h2⟩ := mem_cpT h
    exact ⟨j + 1, by rw [h1]; simp only [lc]; omega, by simpa using h2⟩
theorem cpT_mem (t : Nat) : ∀ (srcs : List (Option Src)) (j0 j : Nat) (s : Src), srcs[j]? = some (some s) → (lc t (j0 + j), s) ∈ cpT t j0 srcs
  | [], _, _, _, h => by cases h
  | x :: r, j0, 0, s, h => by
    simp only [List.getElem?_cons_zero, Option.some.injEq] at h
    subst h
    exact List.mem_cons_self
  | x :: r, j0, j + 1, s, h => by
    have := cpT_mem t r (j0 + 1) j s (by simpa using h)
    rw [show j0 + (j + 1) = j0 + 1 + j by omega]
    cases x with
    | none => exact this
    | some y => exact List.mem_cons_of_mem _ this
theorem cpT_nodup (t : Nat) : ∀ (srcs : List (Option Src)) (j0 : Nat), ((cpT t j0 srcs).map fun p => p.1).Nodup
  | [], _ => List.nodup_nil
  | none :: r, j0 => cpT_nodup t r (j0 + 1)
  | some s :: r, j0 => by
    simp only [cpT, List.map_cons, List.nodup_cons]
    refine ⟨?_, cpT_nodup t r (j0 + 1)⟩
    intro h
    simp only [List.mem_map] at h
    obtain ⟨p, hp, he⟩ := h
    obtain ⟨j, h1, _⟩ := mem_cpT hp
    rw [h1] at he
    simp only [lc] at he
    omega
theorem cpG_step {Γ : SEnv} {S : PSt} {G : Gh} {w : World} {N : Nat} {a : Act} {gd : Option (Nat × Bool)} {d : Nat} {sh : Shape} {tags : List LTag} {srcs : List (Option Src)}
    {v : Value} {vals : Nat → Value} (bs : List (Nat × Nat)) (R : HRel Γ S G w) (T : TRel Γ S G N a)
    (hok : effOk N gd (some d) ⟨.cp (cpT d 0 srcs), hardT d sh gd tags⟩ = true) (hgd : ∀ c b, gd = some (c, b) → S c = uB b)
    (hlen : tags.length = sh.size) (hlen2 : srcs.length = tags.length) (hv : v = asm sh vals)
    (hl : ∀ j t src, tags[j]? = some t → srcs[j]? = some src → (∀ u, (∀ s, src = some s → u = s.get S) → LV w G (vals j) u t) ∧ (needsS t = true → src.isSome = true)) :
    ∃ G', HRel (app (hardT d sh gd tags) Γ) (upds S ((cpT d 0 srcs).map fun p => (p.1, p.2.get S))) G' w ∧
      TRel (app (hardT d sh gd tags) Γ) (upds S ((cpT d 0 srcs).map fun p => (p.1, p.2.get S))) G' N (a.put (some d) v) ∧ Fr bs G w G' w := by
  have hok' := hok
  rw [← List.append_nil (hardT d sh gd tags)] at hok ⊢
  have hok2 := hok
  simp only [effOk, Bool.and_eq_true] at hok2
  obtain ⟨_, ⟨⟨_, hd2⟩, _⟩, hrefs⟩ := hok2
  have key := stepA (us := (cpT d 0 srcs).map fun p => (p.1, p.2.get S)) (vals := vals) (ρ := fun _ => none) R T hok hgd (by simp) hv hlen ?_ (by simp) ?_ (by simp)
  · exact ⟨_, key.1, key.2, Fr.stepG (blt_lt hd2)⟩
  · intro l hl
    apply upds_not
    intro hm
    simp only [List.map_map, List.mem_map] at hm
    obtain ⟨p, hp, rfl⟩ := hm
    obtain ⟨j, h1, h2⟩ := mem_cpT hp
    obtain ⟨e, he⟩ := hardT_mem d sh gd tags j (by have := (List.getElem?_eq_some_iff.1 h2).1; omega)
    have := hfind_isSome (List.mem_append_left [] he)
    simp only [Function.comp, h1, Nat.zero_add] at hl
    rw [this] at hl
    cases hl
  · intro j t ht
    have hj : j < tags.length := (List.getElem?_eq_some_iff.1 ht).1
    have hj2 : j < srcs.length := by omega
    obtain ⟨h1, h2⟩ := hl j t srcs[j] ht (List.getElem?_eq_getElem hj2)
    obtain ⟨e, he⟩ := hardT_mem d sh gd tags j hj
    have hhard := hfind_isSome (List.mem_append_left [] he)
    have hj64 : j < 64 := by
      simp only [effOk, Bool.and_eq_true] at hok
      obtain ⟨⟨⟨⟨_, _⟩, hin⟩, _⟩, ⟨⟨⟨_, _⟩, hsh⟩, _⟩⟩ := hok
      obtain ⟨e0, he0, hs0, _⟩ := hardT_head d sh gd tags []
      unfold shOk at hsh
      rw [he0] at hsh
      simp only [hs0] at hsh
      cases sh with
      | bx n => cases hsh
      | one s => have := Nat.le_of_ble_eq_true hsh; omega
      | tup l => have := Nat.le_of_ble_eq_true hsh; omega
    have htag : e.tag = t := by
      have hm := he
      obtain ⟨j', e', h5, _, h6, _⟩ := mem_hardT hm
      injection h5 with h5 h7
      subst h7
      have : j' = j := by simp only [lc] at h5; omega
      subst this
      rcases h6 with h6 | ⟨h6, _⟩
      · rw [ht] at h6; injection h6 with h6; exact h6.symm
      · rw [h6] at hj; cases hj
    refine LV.lok (u := upds S ((cpT d 0 srcs).map fun p => (p.1, p.2.get S)) (lc d j)) (h1 _ ?_) ?_ (.inr rfl) ?_ (fun b hb => ⟨rfl, by simp [Fw.stepG, hb, ren]⟩) (fun b hb => ⟨rfl, by simp [Fw.stepG, hb, ren]⟩)
    · intro s hs
      have hm := cpT_mem d srcs 0 j s (by rw [List.getElem?_eq_getElem hj2, hs])
      rw [Nat.zero_add] at hm
      refine upds_mem ?_ (List.mem_map.2 ⟨_, hm, rfl⟩)
      rw [List.map_map]
      exact cpT_nodup d srcs 0
    · simp only [Fw.stepG]
      rw [if_pos ⟨hhard, by simp only [lc]; omega⟩]
      congr 1
      simp only [lc]
      omega
    · intro m hm
      have hm' : isHard (hardT d sh gd tags ++ []) m = false := by
        cases h : isHard (hardT d sh gd tags ++ []) m with
        | false => rfl
        | true =>
          have := refsOk_spec hrefs (List.mem_append_left [] he) m (htag ▸ hm) h
          subst this
          exfalso
          obtain ⟨e9, he9⟩ := Option.isSome_iff_exists.1 h
          obtain ⟨j', e', h5, _, h6, _⟩ := mem_hardT (List.append_nil (hardT d sh gd tags) ▸ hfind_some he9)
          injection h5 with h5
          have : j' < 64 := by
            rcases h6 with h6 | h6
            · have := (List.getElem?_eq_some_iff.1 h6).1
              simp only [effOk, Bool.and_eq_true] at hok
              obtain ⟨⟨⟨⟨_, _⟩, hin⟩, _⟩, ⟨⟨⟨_, _⟩, hsh⟩, _⟩⟩ := hok
              obtain ⟨e0, he0, hs0, _⟩ := hardT_head d sh gd tags []
              unfold shOk at hsh
              rw [he0] at hsh
              simp only [hs0] at hsh
              cases sh with
              | bx n => cases hsh
              | one s => have := Nat.le_of_ble_eq_true hsh; omega
              | tup l => have := Nat.le_of_ble_eq_true hsh; omega
            · omega
          have := blt_lt hd2
          simp only [bm, lc] at h5
          omega
      exact ⟨stepG_V hm', fun _ _ => rfl⟩
theorem mapRd_run {α β : Type} {Γ : SEnv} {f : α → Rd β} : ∀ {l : List α} {ys : List β}, (mapRd f l).run Γ = some ys → ys.length = l.length ∧ ∀ (j : Nat) (x : α), l[j]? = some x → ∃ y : β, ys[j]? = some y ∧ (f x).run Γ = some y
  | [], ys, h => by
    simp only [mapRd, Rd.run, Option.some.injEq] at h
    subst h
    exact ⟨rfl, by intro j x h; cases h⟩
  | x :: r, ys, h => by
    simp only [mapRd] at h
    obtain ⟨y, h1, h2⟩ := Rd.run_bind h
    obtain ⟨zs, h3, h4⟩ := Rd.run_bind h2
    simp only [Rd.run, Option.some.injEq] at h4
    subst h4
    obtain ⟨h5, h6⟩ := mapRd_run h3
    refine ⟨by simp [h5], ?_⟩
    intro j x' hx
    cases j with
    | zero => simp only [List.getElem?_cons_zero, Option.some.injEq] at hx; subst hx; exact ⟨y, rfl, h1⟩
    | succ j => exact h6 j x' (by simpa using hx)
theorem cp_step {Γ : SEnv} {S : PSt} {G : Gh} {w : World} {N : Nat} {a : Act} {gd : Option (Nat × Bool)} {gs : List (Nat × Bool)} {d : Nat} {sh : Shape} {ls : List LS} {ys : List (LTag × Option Src)}
    {v : Value} (bs : List (Nat × Nat)) (R : HRel Γ S G w) (T : TRel Γ S G N a) (hg : GHs gs S) (hm : (mapRd (cpLeaf gs) ls).run Γ = some ys) (hls : ∀ y ∈ ls, lsOk y)
    (hok : effOk N gd (some d) ⟨.cp (cpT d 0 (ys.map fun y => y.2)), hardT d sh gd (ys.map fun y => y.1)⟩ = true) (hgd : ∀ c b, gd = some (c, b) → S c = uB b)
    (hlen : ls.length = sh.size) (hv : v = asm sh (fun j => ((ls[j]?).map (lsV G)).getD undef)) :
    ∃ G', HRel (app (hardT d sh gd (ys.map fun y => y.1)) Γ) (upds S ((cpT d 0 (ys.map fun y => y.2)).map fun p => (p.1, p.2.get S))) G' w ∧
      TRel (app (hardT d sh gd (ys.map fun y => y.1)) Γ) (upds S ((cpT d 0 (ys.map fun y => y.2)).map fun p => (p.1, p.2.get S))) G' N (a.put (some d) v) ∧ Fr bs G w G' w := by
  obtain ⟨h1, h2⟩ := mapRd_run hm
  refine cpG_step bs R T hok hgd (by simp [h1, hlen]) (by simp) hv ?_
  intro j t src ht hsrc
  have hj : j < ls.length := by
    have := (List.getElem?_eq_some_iff.1 ht).1
    simpa [h1] using this
  obtain ⟨y, hy, hr⟩ := h2 j _ (List.getElem?_eq_getElem hj)
  simp only [List.getElem?_map, hy, Option.map_some, Option.some.injEq] at ht hsrc
  subst ht hsrc
  simp only [List.getElem?_eq_getElem hj, Option.map_some, Option.getD_some]
  obtain ⟨t, src⟩ := y
  refine ⟨fun u hu => (cpLeaf_ok R hg (hls _ (List.getElem_mem hj)) hr u hu).1, fun hn => ?_⟩
  cases src with
  | some s => rfl
  | none => exact (cpLeaf_ok R hg (hls _ (List.getElem_mem hj)) hr (uB false) (by intro s h; cases h)).2 hn
end Go.Proofs.Fw
set_option linter.unusedVariables false
set_option linter.unusedSimpArgs false
namespace Go.Proofs.Fw
def AnyV (w : World) (Ow : Nat → Owner) (v : Value) (u : Univ) : Prop :=
  match u with
  | ⟨.sl t, xs⟩ => SlV (fun _ => True) w Ow v t xs
  | u => Rep w Ow v u
theorem RdV.any {w : World} {Ow : Nat → Owner} {v : Value} {u : Univ} (h : RdV w Ow v u) : AnyV w Ow v u := by
  obtain ⟨t, x⟩ := u
  cases t with
  | sl t => exact SlV.imp (p := fun b => Ow b = .imm ∨ Ow b = .rd) (q := fun _ => True) h fun _ _ => trivial
  | _ => exact h
theorem OwnV.any {w : World} {Ow : Nat → Owner} {l : Nat} {v : Value} {t : Ty} {xs : List t.T} (h : OwnV w Ow l v t xs) : AnyV w Ow v ⟨.sl t, xs⟩ :=
  OwnV.slv (p := fun _ => True) h fun _ _ => trivial
theorem any_int {w : World} {Ow : Nat → Owner} {v : Value} {k : IntKind} {n : Int} (h : AnyV w Ow v ⟨.int k, n⟩) : v = .int k n := by
  have h : Rep w Ow v ⟨.int k, n⟩ := h
  cases h; rfl
theorem any_bool {w : World} {Ow : Nat → Owner} {v : Value} {b : Bool} (h : AnyV w Ow v ⟨.bool, b⟩) : v = .bool b := by
  have h : Rep w Ow v ⟨.bool, b⟩ := h
  cases h; rfl
theorem any_str {w : World} {Ow : Nat → Owner} {v : Value} {l : List Int} (h : AnyV w Ow v ⟨.str, l⟩) : ∃ s, v = .string s ∧ bytesOf s = l := by
  have h : Rep w Ow v ⟨.str, l⟩ := h
  cases h; exact ⟨_, rfl, rfl⟩
theorem rdLeaf_ok {Γ : SEnv} {S : PSt} {G : Gh} {w : World} {gs : List (Nat × Bool)} (R : HRel Γ S G w) (hg : GHs gs S) {ls : LS} (hl : lsOk ls) {src : Src}
    (h : (rdLeaf gs ls).run Γ = some src) : AnyV w G.Ow (lsV G ls) (src.get S) := by
  cases ls with
  | con v u t =>
    simp only [rdLeaf] at h
    cases t with
    | val =>
      simp only [Rd.run, Option.some.injEq] at h
      subst h
      exact (Rep.rdv (hl w G.Ow)).any
    | own =>
      simp only [Rd.run, Option.some.injEq] at h
      subst h
      obtain ⟨rfl, t, rfl⟩ := hl
      exact .inl ⟨rfl, _, _, rfl⟩
    | _ => cases h
  | loc l =>
    simp only [rdLeaf] at h
    obtain ⟨⟨m, tg⟩, h1, h2⟩ := Rd.run_bind h
    obtain ⟨hV, _, _, hL, _⟩ := res_ok R hg h1
    simp only [lsV, hV]
    cases tg with
    | val => simp only [Rd.run, Option.some.injEq] at h2; subst h2; exact (Rep.rdv hL).any
    | rd => simp only [Rd.run, Option.some.injEq] at h2; subst h2; exact RdV.any hL
    | own =>
      simp only [Rd.run, Option.some.injEq] at h2; subst h2
      obtain ⟨t, xs, h3, h4⟩ := hL
      show AnyV _ _ _ (S m)
      rw [h3]
      exact h4.any
    | _ => cases h2
theorem rd1_ok {Γ : SEnv} {S : PSt} {G : Gh} {w : World} {N : Nat} {a : Act} {gs : List (Nat × Bool)} (R : HRel Γ S G w) (T : TRel Γ S G N a) (hg : GHs gs S) {P : Program} {ty : TypeId} {x : Operand}
    {src : Src} (h : (rd1 P gs ty x).run Γ = some src) : AnyV w G.Ow (a.eval x) (src.get S) := by
  unfold rd1 at h
  obtain ⟨⟨s, ls⟩, h1, h2⟩ := Rd.run_bind h
  obtain ⟨e, hlen, hls⟩ := opLeaves_ok T hg h1
  simp only at h2
  split at h2
  · rename_i l
    rw [e]
    have := rdLeaf_ok R hg (hls l (List.mem_singleton.2 rfl)) h2
    simpa [asm1] using this
  · cases h2
theorem one_step {Γ : SEnv} {S : PSt} {G : Gh} {w : World} {N : Nat} {a : Act} {gd : Option (Nat × Bool)} {d : Nat} {t : LTag} {pop : POp} {us : List (Nat × Univ)} {v : Value} {u : Univ}
    (bs : List (Nat × Nat)) (R : HRel Γ S G w) (T : TRel Γ S G N a)
    (hok : effOk N gd (some d) ⟨pop, hardT d (.one .leaf) gd [t]⟩ = true) (hgd : ∀ c b, gd = some (c, b) → S c = uB b)
    (hus : us = [(lc d 0, u)] ∨ (us = [] ∧ needsS t = false)) (hl : LV w G v u t) :
    ∃ G', HRel (app (hardT d (.one .leaf) gd [t]) Γ) (upds S us) G' w ∧ TRel (app (hardT d (.one .leaf) gd [t]) Γ) (upds S us) G' N (a.put (some d) v) ∧ Fr bs G w G' w := by
  rw [← List.append_nil (hardT d (.one .leaf) gd [t])] at hok ⊢
  have hok2 := hok
  simp only [effOk, Bool.and_eq_true] at hok2
  obtain ⟨_, ⟨⟨_, hd2⟩, _⟩, hrefs⟩ := hok2
  have hd2 := blt_lt hd2
  have hhard : ∀ l, isHard (hardT d (.one .leaf) gd [t] ++ []) l = true ↔ l = lc d 0 := by
    intro l
    simp only [hardT, hardAt, List.append_nil, isHard, hfind]
    by_cases h : lc d 0 = l
    · subst h; simp
    · have : (lc d 0 == l) = false := by simpa using h
      simp only [this, Bool.false_eq_true, if_false, Option.isSome_none, false_iff]
      exact fun h' => h h'.symm
  have key := stepA (us := us) (vals := fun _ => v) (ρ := fun _ => none) (v := v) R T hok hgd (by simp) (by rfl) (by rfl) ?_ (by simp) ?_ (by simp)
  · exact ⟨_, key.1, key.2, Fr.stepG hd2⟩
  · intro l hl
    rcases hus with rfl | ⟨rfl, _⟩
    · apply upds_not
      simp only [List.map_cons, List.map_nil, List.mem_singleton]
      intro h
      rw [(hhard l).2 h] at hl
      cases hl
    · rfl
  · intro j t' ht
    cases j with
    | succ j => simp at ht
    | zero =>
      simp only [List.getElem?_cons_zero, Option.some.injEq] at ht
      subst ht
      have hl' : LV w G v (upds S us (lc d 0)) t := by
        rcases hus with rfl | ⟨rfl, hn⟩
        · rw [upds_mem (by simp) (List.mem_singleton.2 rfl)]; exact hl
        · exact hl.anyS hn
      refine LV.lok hl' ?_ (.inr rfl) ?_ (fun b hb => ⟨rfl, by simp [Fw.stepG, hb, ren]⟩) (fun b hb => ⟨rfl, by simp [Fw.stepG, hb, ren]⟩)
      · simp only [Fw.stepG]
        rw [if_pos ⟨(hhard _).2 rfl, by simp only [lc]; omega⟩]
      · intro m hm
        have hm' : isHard (hardT d (.one .leaf) gd [t] ++ []) m = false := by
          cases h : isHard (hardT d (.one .leaf) gd [t] ++ []) m with
          | false => rfl
          | true =>
            have := refsOk_spec hrefs (l := lc d 0) (e := ⟨t, some (.one .leaf), gd⟩) (by simp [hardT]) m hm h
            subst this
            have := (hhard _).1 h
            simp only [bm, lc] at this
            omega
        exact ⟨stepG_V hm', fun _ _ => rfl⟩
theorem bytesOf_inj {a b : ByteArray} (h : bytesOf a = bytesOf b) : a.data.toList = b.data.toList := by
  unfold bytesOf at h
  generalize a.data.toList = x at h
  generalize b.data.toList = y at h
  induction x generalizing y with
  | nil => cases y with
    | nil => rfl
    | cons _ _ => cases h
  | cons c r ih =>
    cases y with
    | nil => cases h
    | cons c' r' =>
      simp only [List.map_cons, List.cons.injEq] at h
      rw [ih r' h.2]
      have : c = c' := by
        apply UInt8.toNat_inj.1
        exact Int.ofNat_inj.1 h.1
      rw [this]
theorem bytes_eq (a b : ByteArray) : (a.toList == b.toList) = decide (bytesOf a = bytesOf b) := by
  rw [ByteArray.toList_eq, ByteArray.toList_eq, Bool.eq_iff_iff, beq_iff_eq, decide_eq_true_iff]
  exact ⟨fun h => by unfold bytesOf; rw [h], bytesOf_inj⟩
theorem bytes_less (a b : ByteArray) : Op.bytesLess a.toList b.toList = lessI (bytesOf a) (bytesOf b) := by
  rw [ByteArray.toList_eq, ByteArray.toList_eq]
  unfold bytesOf
  generalize a.data.toList = x
  generalize b.data.toList = y
  induction x generalizing y with
  | nil => cases y <;> simp [Op.bytesLess, lessI]
  | cons c r ih =>
    cases y with
    | nil => simp [Op.bytesLess, lessI]
    | cons c' r' =>
      simp only [Op.bytesLess, List.map_cons, lessI, ih]
      have h1 : decide (c < c') = decide ((c.toNat : Int) < (c'.toNat : Int)) := by
        rw [decide_eq_decide, UInt8.lt_iff_toNat_lt]; omega
      have h2 : (c == c') = decide ((c.toNat : Int) = (c'.toNat : Int)) := by
        by_cases h : c = c'
        · simp [h]
        · have : ¬ ((c.toNat : Int) = (c'.toNat : Int)) := fun e => h (UInt8.toNat_inj.1 (by omega))
          simp [h, this]
      rw [h1, h2]
theorem bytesOf_length (s : ByteArray) : (bytesOf s).length = s.size := by
  unfold bytesOf; rw [List.length_map]; rfl
theorem bytesOf_append (a b : ByteArray) : bytesOf (a ++ b) = bytesOf a ++ bytesOf b := by
  have h : (a ++ b).data.toList = a.data.toList ++ b.data.toList := by
    rw [ByteArray.data_append]; exact Array.toList_append
  unfold bytesOf
  rw [h, List.map_append]
end Go.Proofs.Fw
set_option linter.unusedVariables false
set_option linter.unusedSimpArgs false
namespace Go.Proofs.Fw
theorem bind_one {R : Type} {o : Option R} {f : R → List (Nat × Univ)} {us : List (Nat × Univ)} (h : (o.bind fun u => some (f u)) = some us) : ∃ u, o = some u ∧ us = f u := by
  cases o with
  | none => cases h
  | some u => simp only [Option.bind_some, Option.some.injEq] at h; exact ⟨u, rfl, h.symm⟩
theorem int_run {P : Program} {w : World} {op : BinOp} {k k' : IntKind} {x y : Int} {u : Univ} (h : binK op ⟨.int k, x⟩ ⟨.int k', y⟩ some = some u) (xT : TypeId) (ox oy : Operand) (Ow : Nat → Owner) :
    ∃ v, (do eqGuard op xT ox oy (.int k x) (.int k' y); binOp op xT (.int k x) (.int k' y) : Sem Value).run P w = .ok v w ∧ Rep w Ow v u := by
  unfold binK at h
  cases op with
  | shl =>
    obtain ⟨h1, h2⟩ := chk_some (show chk _ _ = some u from h)
    injection h2 with h2
    subst h2
    simp only [decide_eq_true_eq] at h1
    refine ⟨_, ?_, .int _ _⟩
    simp [eqGuard, binOp, Op.shift, Int.not_lt.2 h1]
  | shr =>
    obtain ⟨h1, h2⟩ := chk_some (show chk _ _ = some u from h)
    injection h2 with h2
    subst h2
    simp only [decide_eq_true_eq] at h1
    refine ⟨_, ?_, .int _ _⟩
    simp [eqGuard, binOp, Op.shift, Int.not_lt.2 h1]
  | quo =>
    simp only [isSh] at h
    split at h
    · rename_i hk
      subst hk
      obtain ⟨h1, h2⟩ := chk_some (show chk _ _ = some u from h)
      injection h2 with h2
      subst h2
      simp only [decide_eq_true_eq] at h1
      refine ⟨_, ?_, .int _ _⟩
      simp [eqGuard, binOp, Op.intDiv, h1]
    · cases h
  | rem =>
    simp only [isSh] at h
    split at h
    · rename_i hk
      subst hk
      obtain ⟨h1, h2⟩ := chk_some (show chk _ _ = some u from h)
      injection h2 with h2
      subst h2
      simp only [decide_eq_true_eq] at h1
      refine ⟨_, ?_, .int _ _⟩
      simp [eqGuard, binOp, Op.intDiv, h1]
    · cases h
  | eql =>
    simp only [isSh] at h
    split at h
    · rename_i hk
      subst hk
      injection h with h
      subst h
      refine ⟨.bool (decide (x = y)), ?_, .bool _⟩
      simp [eqGuard, binOp, Op.intCmp, Bool.beq_eq_decide_eq]
    · cases h
  | neq =>
    simp only [isSh] at h
    split at h
    · rename_i hk
      subst hk
      injection h with h
      subst h
      refine ⟨.bool (decide (x ≠ y)), ?_, .bool _⟩
      by_cases hxy : x = y <;> simp [eqGuard, binOp, Op.intCmp, hxy]
    · cases h
  | _ =>
    simp only [isSh] at h
    split at h
    · rename_i hk
      subst hk
      injection h with h
      subst h
      first
        | (refine ⟨_, ?_, .int _ _⟩; simp [eqGuard, binOp, Op.intArith, Op.intBits, bitsI]; done)
        | (refine ⟨_, ?_, .bool _⟩; simp [eqGuard, binOp, Op.intCmp]; done)
    · cases h
theorem str_run {P : Program} {w : World} {op : BinOp} {a b : ByteArray} {u : Univ} (h : binK op ⟨.str, bytesOf a⟩ ⟨.str, bytesOf b⟩ some = some u) (xT : TypeId) (ox oy : Operand) (Ow : Nat → Owner) :
    ∃ v, (do eqGuard op xT ox oy (.string a) (.string b); binOp op xT (.string a) (.string b) : Sem Value).run P w = .ok v w ∧ Rep w Ow v u := by
  have h : strK op (bytesOf a) (bytesOf b) some = some u := h
  cases op with
  | add =>
    unfold strK appK at h
    obtain ⟨h1, h2⟩ := chk_some h
    injection h2 with h2
    subst h2
    simp only [decide_eq_true_eq, bytesOf_length, LIM] at h1
    refine ⟨.string (a ++ b), ?_, ?_⟩
    · have h3 : ¬ (IntKind.i64.max < (a.size : Int) + (b.size : Int)) := by
        have : IntKind.i64.max = 9223372036854775807 := by decide
        rw [this]; omega
      simp [eqGuard, binOp, Op.stringOp, h3]; omega
    · rw [← bytesOf_append]; exact .str _
  | eql => injection h with h; subst h; refine ⟨.bool (decide (bytesOf a = bytesOf b)), ?_, .bool _⟩; simp [eqGuard, binOp, Op.stringOp, bytes_eq]
  | neq => injection h with h; subst h; refine ⟨.bool (decide (bytesOf a ≠ bytesOf b)), ?_, .bool _⟩; simp [eqGuard, binOp, Op.stringOp, bytes_eq]
  | lss => injection h with h; subst h; refine ⟨.bool (lessI (bytesOf a) (bytesOf b)), ?_, .bool _⟩; simp [eqGuard, binOp, Op.stringOp, bytes_less]
  | leq => injection h with h; subst h; refine ⟨.bool (lessI (bytesOf a) (bytesOf b) || decide (bytesOf a = bytesOf b)), ?_, .bool _⟩; simp [eqGuard, binOp, Op.stringOp, bytes_less, bytes_eq]
  | gtr => injection h with h; subst h; refine ⟨.bool (!(lessI (bytesOf a) (bytesOf b) || decide (bytesOf a = bytesOf b))), ?_, .bool _⟩; simp [eqGuard, binOp, Op.stringOp, bytes_less, bytes_eq]
  | geq => injection h with h; subst h; refine ⟨.bool (!(lessI (bytesOf a) (bytesOf b))), ?_, .bool _⟩; simp [eqGuard, binOp, Op.stringOp, bytes_less]
  | _ => cases h
theorem bin_run {P : Program} {w : World} {Ow : Nat → Owner} {op : BinOp} {va vb : Value} {ua ub u : Univ} (ha : AnyV w Ow va ua) (hb : AnyV w Ow vb ub) (h : binK op ua ub some = some u)
    (xT : TypeId) (ox oy : Operand) : ∃ v, (do eqGuard op xT ox oy va vb; binOp op xT va vb : Sem Value).run P w = .ok v w ∧ Rep w Ow v u := by
  obtain ⟨t, x⟩ := ua
  obtain ⟨t', y⟩ := ub
  cases t <;> cases t' <;> try (cases h; done)
  · rw [any_int ha, any_int hb]
    exact int_run h xT ox oy Ow
  · obtain ⟨s, rfl, rfl⟩ := any_str ha
    obtain ⟨s', rfl, rfl⟩ := any_str hb
    exact str_run h xT ox oy Ow
theorem un_run {P : Program} {w : World} {Ow : Nat → Owner} {op : UnOp} {va : Value} {ua u : Univ} (ha : AnyV w Ow va ua) (h : unK op ua some = some u) :
    ∃ v, (Op.unary op va).run P w = .ok v w ∧ Rep w Ow v u := by
  obtain ⟨t, x⟩ := ua
  cases t <;> cases op <;> try (cases h; done)
  · rw [any_int ha]
    injection h with h
    subst h
    exact ⟨_, by simp [Op.unary, Op.intArith], .int _ _⟩
  · rw [any_int ha]
    injection h with h
    subst h
    exact ⟨_, by simp [Op.unary, Op.intBits, bitsI], .int _ _⟩
  · rw [any_bool ha]
    injection h with h
    subst h
    exact ⟨_, by simp [Op.unary], .bool _⟩
theorem equal_bool {P : Program} {w : World} {T : TypeId} (hT : P.underlying T = some .bool) (a b : Bool) : (Op.equal T (.bool a) (.bool b)).run P w = .ok (a == b) w := by
  unfold Op.equal
  rw [show Op.maxDepth = Nat.succ 9999 from rfl]
  unfold Op.equalIn
  simp [underlying, hT]
end Go.Proofs.Fw
set_option linter.unusedVariables false
set_option linter.unusedSimpArgs false
namespace Go.Proofs.Fw
theorem add_eq {a : Addr} (h : a.spot = none) (n : Nat) : a.add n = ⟨a.block, a.off + n, none⟩ := by
  unfold Addr.add
  split
  · rename_i hn
    subst hn
    cases a
    simp_all
  · rfl
theorem sizeT_run {P : Program} {T : TypeId} {n : Nat} {w : World} (h : sizeT P T = some n) : (sizeOf T).run P w = .ok n w := by
  unfold sizeT at h
  cases hi : P.info? T with
  | none => rw [hi] at h; cases h
  | some i =>
    rw [hi] at h
    simp only [Option.map_some, Option.some.injEq] at h
    simp [sizeOf, typeInfo, hi, h]
theorem underlying_run {P : Program} {T : TypeId} {d : TypeDesc} {w : World} (h : P.underlying T = some d) : (underlying T).run P w = .ok d w := by
  simp [underlying, h]
theorem elTy_ok {P : Program} {T e : TypeId} {t : Ty} (h : elTy P T = some (e, t)) : P.underlying T = some (.slice e) ∧ sizeT P e = some t.size := by
  unfold elTy at h
  split at h
  · rename_i e' t' hu _
    split at h
    · rename_i hs
      injection h with h
      injection h with h1 h2
      subst h1 h2
      exact ⟨hu, hs⟩
    · cases h
  · cases h
theorem sh1Of_run {P : Program} {T : TypeId} {s : Sh1} {w : World} (h : sh1Of P T = some s) : (isAgg T).run P w = .ok (match s with | .leaf => false | .agg _ => true) w ∧ sizeT P T = some s.size := by
  unfold sh1Of at h
  split at h
  · rename_i n hu hn
    injection h with h
    subst h
    exact ⟨by simp [isAgg, underlying, hu], hn⟩
  · cases h
  · rename_i d n hna hns hu hn
    split at h
    · rename_i h1
      injection h with h
      subst h
      subst h1
      refine ⟨?_, hn⟩
      simp only [isAgg, Sem.run_bind, underlying_run hu, Result.andThen_ok]
      cases d <;> first | rfl | (exact absurd hu (by first | exact hna _ | exact hns _ _)) | skip
      all_goals (first | exact absurd rfl (hna _) | exact absurd rfl (hns _ _))
    · cases h
  · cases h
theorem loadVar_run {P : Program} {T : TypeId} {s : Sh1} {w : World} {b o : Nat} {f : Nat → Value} (h : sh1Of P T = some s)
    (hc : ∀ j, j < s.size → w.cell? ⟨b, o + j, none⟩ = some (f j)) : (loadVar T ⟨b, o, none⟩).run P w = .ok (asm1 s f) w := by
  obtain ⟨h1, h2⟩ := sh1Of_run (w := w) h
  unfold loadVar
  simp only [Sem.run_bind, h1, Result.andThen_ok]
  cases s with
  | leaf =>
    have := hc 0 (by simp [Sh1.size])
    simp only [Nat.add_zero] at this
    simp [this, asm1]
  | agg n =>
    have hl := run_loadCells (P := P) (w := w) ⟨b, o, none⟩ n f (by
      intro j hj
      rw [add_eq rfl]
      exact hc j hj)
    simp only [Sh1.size] at h2
    simp only [if_true, Sem.run_bind, sizeT_run h2, Result.andThen_ok, hl]
    simp [asm1]
theorem loadAt_run {P : Program} {T : TypeId} {s : Sh1} {w : World} {b o : Nat} {f : Nat → Value} (h : sh1Of P T = some s)
    (hc : ∀ j, j < s.size → w.cell? ⟨b, o + j, none⟩ = some (f j)) : (Instr.loadAt T (.pointer (some ⟨b, o, none⟩))).run P w = .ok (asm1 s f) w := by
  simp only [Instr.loadAt, Instr.sureAddr, Sem.run_bind, Sem.run_pure, Result.andThen_ok, loadVar_run h hc]
theorem field_ok {P : Program} {T : TypeId} {f : Nat} {fd : Field} {n : Nat} (h : field P T f = some (fd, n)) :
    ∃ fs, P.underlying T = some (.struct fs) ∧ fs[f]? = some fd ∧ sizeT P fd.type = some n ∧ n ≠ 0 := by
  unfold field at h
  split at h
  · rename_i fs hu
    split at h
    · rename_i fd' hf
      split at h
      · rename_i n' hn
        split at h
        · cases h
        · rename_i hz
          injection h with h
          injection h with h1 h2
          subst h1 h2
          exact ⟨fs, hu, hf, hn, hz⟩
      · cases h
    · cases h
  · cases h
theorem fieldAt_run {P : Program} {T : TypeId} {f : Nat} {fd : Field} {n : Nat} {w : World} {b o : Nat} (h : field P T f = some (fd, n)) :
    (Instr.fieldAt T (.pointer (some ⟨b, o, none⟩)) f).run P w = .ok (.pointer (some ⟨b, o + fd.offset, none⟩)) w := by
  obtain ⟨fs, h1, h2, h3, h4⟩ := field_ok h
  simp only [Instr.fieldAt, Sem.run_bind, underlying_run h1, Result.andThen_ok, h2, Instr.sureAddr, Sem.run_pure, fieldPlace, sizeT_run h3, if_neg h4]
  rw [add_eq rfl]
theorem indexAt_run {P : Program} {T e : TypeId} {t : Ty} {w : World} {ad : Addr} {n c : Nat} {i : Int} (h : elTy P T = some (e, t)) (hs : ad.spot = none) (h0 : 0 ≤ i) (h1 : i < n) :
    (Instr.indexAt T (.slice (some ad) n c) (.int .i64 i)).run P w = .ok (.pointer (some ⟨ad.block, ad.off + (i.toNat * t.size + 0), none⟩)) w := by
  obtain ⟨hu, hz⟩ := elTy_ok h
  simp only [Instr.indexAt, asIntOf, Sem.run_bind, Sem.run_pure, Result.andThen_ok, underlying_run hu, h0, h1, and_self, if_true, sizeT_run hz]
  rw [add_eq hs]
  rfl
end Go.Proofs.Fw
set_option linter.unusedVariables false
set_option linter.unusedSimpArgs false
namespace Go.Proofs.Fw
structure Pre (Γ : SEnv) (S : PSt) (G : Gh) (w : World) (N : Nat) (a : Act) (gd : Option (Nat × Bool)) (gs : List (Nat × Bool)) : Prop where
  R : HRel Γ S G w
  T : TRel Γ S G N a
  gd : ∀ c b, gd = some (c, b) → S c = uB b
  gs : GHs gs S
variable {P : Program} {Γ : SEnv} {S : PSt} {G : Gh} {w : World} {N : Nat} {a : Act} {gd : Option (Nat × Bool)} {gs : List (Nat × Bool)} {o : Oper} {bs : List (Nat × Nat)} {d : Nat} {sem : CSem} {us : List (Nat × Univ)}
theorem outc_val {Γ' : SEnv} {S' : PSt} {v : Value} (hd : o.dst = some d) (hx : (execOp a.eval o).run P w = .ok (.value v) w)
    (h : ∃ G', HRel Γ' S' G' w ∧ TRel Γ' S' G' N (a.put (some d) v) ∧ Fr bs G w G' w) : Outc P o a w bs Γ' S' N G := by
  obtain ⟨G', h1, h2, h3⟩ := h
  exact ⟨v, w, G', .inl hx, h1, by rw [hd]; exact h2, h3⟩
theorem range_map_get {α : Type} (f : Nat → α) (n j : Nat) (h : j < n) : ((List.range n).map f)[j]? = some (f j) := by
  simp [h]
theorem tmp_eval (p : Pre Γ S G w N a gd gs) {t : Nat} {s : Shape} (ht : t < 2000) (hs : (Γ (lc t 0)).sh = some s) (hk : gdOk gs (Γ (lc t 0)).gd = true) :
    a.eval (.tmp t) = asm s fun j => (((List.range s.size).map fun j => LS.loc (lc t j))[j]?.map (lsV G)).getD undef := by
  show a.tmps.getD t undef = _
  rw [p.T.tmp t s ht hs (live_of_gdOk hk p.gs)]
  refine asm_congr fun j hj => ?_
  rw [range_map_get _ _ _ hj]
  rfl
theorem op_move_tmp (p : Pre Γ S G w N a gd gs) (hd : o.dst = some d) {t : Nat} (ho : o.op = .move (.tmp t)) {s : Shape} {ys : List (LTag × Option Src)} (ht : t < 2000)
    (hs : (Γ (lc t 0)).sh = some s) (hk : gdOk gs (Γ (lc t 0)).gd = true) (hm : (mapRd (cpLeaf gs) ((List.range s.size).map fun j => .loc (lc t j))).run Γ = some ys)
    (hok : effOk N gd (some d) ⟨.cp (cpT d 0 (ys.map fun y => y.2)), hardT d s gd (ys.map fun y => y.1)⟩ = true)
    (hus : (POp.cp (cpT d 0 (ys.map fun y => y.2))).eval sem S = some us) :
    Outc P o a w bs (app (hardT d s gd (ys.map fun y => y.1)) Γ) (upds S us) N G := by
  injection hus with hus
  subst hus
  refine outc_val hd (v := a.eval (.tmp t)) (by simp [execOp, ho]) (cp_step bs p.R p.T p.gs hm ?_ hok p.gd (by simp) (tmp_eval p ht hs hk))
  intro y hy
  simp only [List.mem_map] at hy
  obtain ⟨j, _, rfl⟩ := hy
  trivial
theorem op_move (p : Pre Γ S G w N a gd gs) (hd : o.dst = some d) {x : Operand} (ho : o.op = .move x) {s : Sh1} {ls : List LS} {ys : List (LTag × Option Src)} {ty : TypeId}
    (hx : (opLeaves P gs ty x).run Γ = some (s, ls)) (hm : (mapRd (cpLeaf gs) ls).run Γ = some ys)
    (hok : effOk N gd (some d) ⟨.cp (cpT d 0 (ys.map fun y => y.2)), hardT d (.one s) gd (ys.map fun y => y.1)⟩ = true)
    (hus : (POp.cp (cpT d 0 (ys.map fun y => y.2))).eval sem S = some us) :
    Outc P o a w bs (app (hardT d (.one s) gd (ys.map fun y => y.1)) Γ) (upds S us) N G := by
  injection hus with hus
  subst hus
  obtain ⟨e, hlen, hls⟩ := opLeaves_ok p.T p.gs hx
  exact outc_val hd (v := a.eval x) (by simp [execOp, ho]) (cp_step bs p.R p.T p.gs hm hls hok p.gd hlen e)
theorem op_one (p : Pre Γ S G w N a gd gs) (hd : o.dst = some d) {pop : POp} {v : Value} {u : Univ} (hx : (execOp a.eval o).run P w = .ok (.value v) w)
    (hok : effOk N gd (some d) ⟨pop, hardT d (.one .leaf) gd [.val]⟩ = true) (hus : us = [(lc d 0, u)]) (hv : Rep w G.Ow v u) :
    Outc P o a w bs (app (hardT d (.one .leaf) gd [.val]) Γ) (upds S us) N G :=
  outc_val hd hx (one_step bs p.R p.T hok p.gd (.inl hus) hv)
theorem op_bin (p : Pre Γ S G w N a gd gs) (hd : o.dst = some d) {op : BinOp} {xT yT T1 T2 : TypeId} {x y : Operand} (ho : o.op = .binOp op xT x y yT) {sa sb : Src}
    (ha : (rd1 P gs T1 x).run Γ = some sa) (hb : (rd1 P gs T2 y).run Γ = some sb)
    (hok : effOk N gd (some d) ⟨.bin op (lc d 0) sa sb, hardT d (.one .leaf) gd [.val]⟩ = true) (hus : (POp.bin op (lc d 0) sa sb).eval sem S = some us) :
    Outc P o a w bs (app (hardT d (.one .leaf) gd [.val]) Γ) (upds S us) N G := by
  have h : (binK op (sa.get S) (sb.get S) some).bind (fun u => some [(lc d 0, u)]) = some us := by
    rw [binK_nat]; exact hus
  obtain ⟨u, h1, h2⟩ := bind_one (f := fun u => [(lc d 0, u)]) h
  obtain ⟨v, h3, h4⟩ := bin_run (P := P) (rd1_ok p.R p.T p.gs ha) (rd1_ok p.R p.T p.gs hb) h1 xT x y
  refine op_one p hd ?_ hok h2 h4
  simp only [execOp, ho]
  rw [Sem.run_bind, h3]
  rfl
theorem op_beq (p : Pre Γ S G w N a gd gs) (hd : o.dst = some d) {neg : Bool} {op : BinOp} (hop : op = if neg then .neq else .eql) {xT yT T1 T2 : TypeId} {x y : Operand} (ho : o.op = .binOp op xT x y yT)
    (hu : P.underlying xT = some .bool) {sa sb : Src}
    (ha : (rd1 P gs T1 x).run Γ = some sa) (hb : (rd1 P gs T2 y).run Γ = some sb)
    (hok : effOk N gd (some d) ⟨.beq neg (lc d 0) sa sb, hardT d (.one .leaf) gd [.val]⟩ = true) (hus : (POp.beq neg (lc d 0) sa sb).eval sem S = some us) :
    Outc P o a w bs (app (hardT d (.one .leaf) gd [.val]) Γ) (upds S us) N G := by
  obtain ⟨b1, e1, hus⟩ := bnd_some (show bnd _ _ = some us from hus)
  obtain ⟨b2, e2, hus⟩ := bnd_some hus
  injection hus with hus
  have ha := rd1_ok p.R p.T p.gs ha
  have hb := rd1_ok p.R p.T p.gs hb
  rw [Univ.cast_some e1] at ha
  rw [Univ.cast_some e2] at hb
  have ha := any_bool ha
  have hb := any_bool hb
  refine op_one p hd (v := .bool (neg ^^ (b1 == b2))) ?_ hok hus.symm (.bool _)
  simp only [execOp, ho, ha, hb]
  cases neg with
  | false =>
    simp only [Bool.false_eq_true, if_false] at hop
    subst hop
    have := equal_bool (w := w) hu b1 b2
    simp [eqGuard, binOp, this]
  | true =>
    simp only [if_true] at hop
    subst hop
    have := equal_bool (w := w) hu b1 b2
    simp [eqGuard, binOp, this]
theorem op_un (p : Pre Γ S G w N a gd gs) (hd : o.dst = some d) {op : UnOp} {xT T1 : TypeId} {x : Operand} (ho : o.op = .unOp op xT x) {sa : Src}
    (ha : (rd1 P gs T1 x).run Γ = some sa)
    (hok : effOk N gd (some d) ⟨.un op (lc d 0) sa, hardT d (.one .leaf) gd [.val]⟩ = true) (hus : (POp.un op (lc d 0) sa).eval sem S = some us) :
    Outc P o a w bs (app (hardT d (.one .leaf) gd [.val]) Γ) (upds S us) N G := by
  have h : (unK op (sa.get S) some).bind (fun u => some [(lc d 0, u)]) = some us := by
    rw [unK_nat]; exact hus
  obtain ⟨u, h1, h2⟩ := bind_one (f := fun u => [(lc d 0, u)]) h
  obtain ⟨v, h3, h4⟩ := un_run (P := P) (rd1_ok p.R p.T p.gs ha) h1
  refine op_one p hd ?_ hok h2 h4
  simp only [execOp, ho]
  rw [Sem.run_bind, h3]
  rfl
theorem op_conv (p : Pre Γ S G w N a gd gs) (hd : o.dst = some d) {src dst T1 : TypeId} {x : Operand} (ho : o.op = .convert src dst x) {k k' : IntKind} (h1 : P.underlying src = some (.int k')) (h2 : P.underlying dst = some (.int k)) {sa : Src}
    (ha : (rd1 P gs T1 x).run Γ = some sa)
    (hok : effOk N gd (some d) ⟨.conv k (lc d 0) sa, hardT d (.one .leaf) gd [.val]⟩ = true) (hus : (POp.conv k (lc d 0) sa).eval sem S = some us) :
    Outc P o a w bs (app (hardT d (.one .leaf) gd [.val]) Γ) (upds S us) N G := by
  have ha := rd1_ok p.R p.T p.gs ha
  have hus : convK k (sa.get S) (fun u => some [(lc d 0, u)]) = some us := hus
  generalize sa.get S = u at ha hus
  obtain ⟨t, n⟩ := u
  cases t <;> try (cases hus; done)
  injection hus with hus
  have hv := any_int ha
  refine op_one p hd (v := .int k (k.wrap n)) ?_ hok hus.symm (.int _ _)
  simp only [execOp, ho, hv, convert, Sem.run_bind, underlying_run h1, underlying_run h2, Result.andThen_ok]
  rfl
theorem op_len (p : Pre Γ S G w N a gd gs) (hd : o.dst = some d) {c : Call} {x : Operand} {T T1 : TypeId} (ho : o.op = .call c) (hc : c.callee = .builtin .len) (hx : c.args = #[x]) (hT : c.argTypes = #[T])
    {st : Bool} (hu : P.underlying T = some .string ∧ st = true ∨ ∃ e, P.underlying T = some (.slice e) ∧ st = false) {sa : Src}
    (ha : (rd1 P gs T1 x).run Γ = some sa)
    (hok : effOk N gd (some d) ⟨.len st (lc d 0) sa, hardT d (.one .leaf) gd [.val]⟩ = true) (hus : (POp.len st (lc d 0) sa).eval sem S = some us) :
    Outc P o a w bs (app (hardT d (.one .leaf) gd [.val]) Γ) (upds S us) N G := by
  have ha := rd1_ok p.R p.T p.gs ha
  have hus : lenK st (sa.get S) (fun n => some [(lc d 0, uI n)]) = some us := hus
  generalize sa.get S = u at ha hus
  obtain ⟨t, y⟩ := u
  rcases hu with ⟨hu, rfl⟩ | ⟨e, hu, rfl⟩
  · cases t <;> try (cases hus; done)
    obtain ⟨s, hv, rfl⟩ := any_str ha
    injection hus with hus
    refine op_one p hd (v := goInt s.size) ?_ hok hus.symm (by rw [bytesOf_length]; exact .int _ _)
    simp [execOp, ho, resolve, hc, hx, hT, invoke, builtin, Builtin.len_, hv, underlying_run hu]
  · cases t <;> try (cases hus; done)
    injection hus with hus
    rename_i t
    have hv : ∃ A c, a.eval x = .slice A y.length c := by
      rcases (show SlV (fun _ => True) w G.Ow (a.eval x) t y from ha) with ⟨rfl, A, c, h⟩ | ⟨ad, c, h, _⟩
      · exact ⟨A, c, h⟩
      · exact ⟨some ad, c, h⟩
    obtain ⟨A, cc, hv⟩ := hv
    refine op_one p hd (v := goInt y.length) ?_ hok hus.symm (.int _ _)
    simp [execOp, ho, resolve, hc, hx, hT, invoke, builtin, Builtin.len_, hv, underlying_run hu]
theorem min_if (a b : Int) : (if b < a then b else a) = min a b := by rw [Int.min_def]; split <;> split <;> omega
theorem max_if (a b : Int) : (if a < b then b else a) = max a b := by rw [Int.max_def]; split <;> split <;> omega
theorem op_mm (p : Pre Γ S G w N a gd gs) (hd : o.dst = some d) {c : Call} {x y : Operand} {T T' T1 T2 : TypeId} {mn : Bool} (ho : o.op = .call c) (hc : c.callee = .builtin (if mn then .min else .max)) (hx : c.args = #[x, y])
    (hT : c.argTypes = #[T, T']) {sa sb : Src} (ha : (rd1 P gs T1 x).run Γ = some sa) (hb : (rd1 P gs T2 y).run Γ = some sb)
    (hok : effOk N gd (some d) ⟨.mm mn (lc d 0) sa sb, hardT d (.one .leaf) gd [.val]⟩ = true) (hus : (POp.mm mn (lc d 0) sa sb).eval sem S = some us) :
    Outc P o a w bs (app (hardT d (.one .leaf) gd [.val]) Γ) (upds S us) N G := by
  obtain ⟨n1, e1, hus⟩ := bnd_some (show bnd _ _ = some us from hus)
  obtain ⟨n2, e2, hus⟩ := bnd_some hus
  injection hus with hus
  have ha := rd1_ok p.R p.T p.gs ha
  have hb := rd1_ok p.R p.T p.gs hb
  rw [Univ.cast_some e1] at ha
  rw [Univ.cast_some e2] at hb
  have ha := any_int ha
  have hb := any_int hb
  cases mn with
  | true =>
    refine op_one p hd (v := .int .i64 (min n1 n2)) ?_ hok hus.symm (.int _ _)
    simp only [if_true] at hc
    have e := min_if n1 n2
    simp [execOp, ho, resolve, hc, hx, hT, invoke, builtin, ha, hb, Builtin.min_, Builtin.min2, e]
  | false =>
    refine op_one p hd (v := .int .i64 (max n1 n2)) ?_ hok hus.symm (.int _ _)
    simp only [Bool.false_eq_true, if_false] at hc
    have e := max_if n1 n2
    simp [execOp, ho, resolve, hc, hx, hT, invoke, builtin, ha, hb, Builtin.max_, Builtin.max2, e]
theorem ptrLeaf_ok (p : Pre Γ S G w N a gd gs) {x : Operand} {m : Nat} {tag : LTag} (h : (ptrLeaf P gs x).run Γ = some (m, tag)) :
    a.eval x = G.V m ∧ LOk w G S m tag ∧ (Γ m).tag = tag ∧ live (Γ m) S := by
  unfold ptrLeaf at h
  split at h
  · rename_i t
    simp only [Rd.run] at h
    split at h
    · rename_i hk hsh
      simp only [Bool.and_eq_true] at hk
      have e := p.T.tmp t _ (blt_lt hk.2) hsh (live_of_gdOk hk.1 p.gs)
      obtain ⟨hV, ht, hl, hL, _⟩ := res_ok p.R p.gs h
      refine ⟨?_, hL, ht, hl⟩
      show a.tmps.getD t undef = _
      rw [e, ← hV]
      rfl
    · cases h
  · cases h
theorem op_nilCheck (p : Pre Γ S G w N a gd gs) (hd : o.dst = some d) {x : Operand} (ho : o.op = .nilCheck x) {m : Nat} {tag : LTag} (hx : (ptrLeaf P gs x).run Γ = some (m, tag)) (ht : isPtr tag = true)
    (hok : effOk N gd (some d) ⟨.cp [(lc d 0, .loc m)], hardT d (.one .leaf) gd [tag]⟩ = true) (hus : (POp.cp [(lc d 0, .loc m)]).eval sem S = some us) :
    Outc P o a w bs (app (hardT d (.one .leaf) gd [tag]) Γ) (upds S us) N G := by
  injection hus with hus
  obtain ⟨e, hL, _, _⟩ := ptrLeaf_ok p hx
  refine outc_val hd (v := a.eval x) ?_ (one_step bs p.R p.T hok p.gd (.inl hus.symm) ?_)
  · rw [execOp, ho]
    cases tag with
    | ptr b off =>
      have hL : G.V m = _ := hL
      simp [e, hL]
    | ep m' off t =>
      obtain ⟨ad, n, c, i, _, _, _, _, _, hL⟩ := hL
      simp [e, hL]
    | clo f caps =>
      have hL : G.V m = _ := hL
      simp [e, hL]
    | _ => cases ht
  · rw [e]
    exact hL.lv (by rintro rfl; cases ht)
theorem op_fieldAddr_ptr (p : Pre Γ S G w N a gd gs) (hd : o.dst = some d) {T : TypeId} {x : Operand} {f : Nat} (ho : o.op = .fieldAddr T x f) {fd : Field} {n : Nat} (hf : field P T f = some (fd, n)) {m b off : Nat}
    (hx : (ptrLeaf P gs x).run Γ = some (m, .ptr b off))
    (hok : effOk N gd (some d) ⟨.cp [], hardT d (.one .leaf) gd [.ptr b (off + fd.offset)]⟩ = true) (hus : (POp.cp []).eval sem S = some us) :
    Outc P o a w bs (app (hardT d (.one .leaf) gd [.ptr b (off + fd.offset)]) Γ) (upds S us) N G := by
  injection hus with hus
  obtain ⟨e, hL, _, _⟩ := ptrLeaf_ok p hx
  have hL : G.V m = _ := hL
  refine outc_val hd (v := .pointer (some ⟨(G.B b).1, (G.B b).2 + off + fd.offset, none⟩)) ?_ (one_step bs p.R p.T hok p.gd (.inr ⟨hus.symm, rfl⟩) (u := uB false) ?_)
  · simp only [execOp, ho, e, hL, Sem.run_bind, fieldAt_run hf, Result.andThen_ok, Sem.run_pure]
  · show _ = _
    rw [Nat.add_assoc]
theorem op_fieldAddr_ep (p : Pre Γ S G w N a gd gs) (hd : o.dst = some d) {T : TypeId} {x : Operand} {f : Nat} (ho : o.op = .fieldAddr T x f) {fd : Field} {n : Nat} (hf : field P T f = some (fd, n)) {m m' off : Nat} {t : Ty}
    (hx : (ptrLeaf P gs x).run Γ = some (m, .ep m' off t))
    (hok : effOk N gd (some d) ⟨.cp [(lc d 0, .loc m)], hardT d (.one .leaf) gd [.ep m' (off + fd.offset) t]⟩ = true) (hus : (POp.cp [(lc d 0, .loc m)]).eval sem S = some us) :
    Outc P o a w bs (app (hardT d (.one .leaf) gd [.ep m' (off + fd.offset) t]) Γ) (upds S us) N G := by
  injection hus with hus
  obtain ⟨e, hL, _, _⟩ := ptrLeaf_ok p hx
  obtain ⟨ad, n', c, i, h1, h2, h3, h4, h5, h6⟩ := hL
  refine outc_val hd (v := .pointer (some ⟨ad.block, ad.off + (i.toNat * t.size + off) + fd.offset, none⟩)) ?_ (one_step bs p.R p.T hok p.gd (.inl hus.symm) ?_)
  · simp only [execOp, ho, e, h6, Sem.run_bind, fieldAt_run hf, Result.andThen_ok, Sem.run_pure]
  · exact ⟨ad, n', c, i, h1, h2, h3, h4, h5, by congr 3; omega⟩
theorem op_indexAddr (p : Pre Γ S G w N a gd gs) (hd : o.dst = some d) {T e : TypeId} {t : Ty} {x i : Operand} (ho : o.op = .indexAddr T x i) (hT : elTy P T = some (e, t)) {m : Nat} {tag : LTag}
    (hx : (ptrLeaf P gs x).run Γ = some (m, tag)) (ht : slTag tag = true) {si : Src} {T1 : TypeId} (hi : (rd1 P gs T1 i).run Γ = some si)
    (hok : effOk N gd (some d) ⟨.idx (lc d 0) m t si, hardT d (.one .leaf) gd [.ep m 0 t]⟩ = true) (hus : (POp.idx (lc d 0) m t si).eval sem S = some us) :
    Outc P o a w bs (app (hardT d (.one .leaf) gd [.ep m 0 t]) Γ) (upds S us) N G := by
  obtain ⟨xs, e1, hus⟩ := bnd_some (show bnd _ _ = some us from hus)
  obtain ⟨n, e2, hus⟩ := bnd_some hus
  obtain ⟨h0, hus⟩ := chk_some hus
  obtain ⟨h1, hus⟩ := chk_some hus
  injection hus with hus
  simp only [decide_eq_true_eq] at h0 h1
  obtain ⟨ev, hL, _, _⟩ := ptrLeaf_ok p hx
  have hi := rd1_ok p.R p.T p.gs hi
  rw [Univ.cast_some e2] at hi
  have hi := any_int hi
  have hA : AnyV w G.Ow (G.V m) ⟨.sl t, xs⟩ := by
    rw [← Univ.cast_some e1]
    cases tag with
    | rd => exact RdV.any hL
    | val => exact (Rep.rdv hL).any
    | own => obtain ⟨t', ys, h3, h4⟩ := hL; rw [h3]; exact h4.any
    | _ => cases ht
  rcases (show SlV (fun _ => True) w G.Ow (G.V m) t xs from hA) with ⟨rfl, _⟩ | ⟨ad, c, hv, hc, _, hs, _⟩
  · exact absurd (show (n : Int) < 0 from h1) (Int.not_lt.2 h0)
  refine outc_val hd (v := .pointer (some ⟨ad.block, ad.off + (n.toNat * t.size + 0), none⟩)) ?_ (one_step bs p.R p.T hok p.gd (.inl hus.symm) ⟨ad, _, c, n, hv, rfl, h0, h1, hs, rfl⟩)
  simp only [execOp, ho, ev, hv, hi, Sem.run_bind, indexAt_run hT hs h0 h1, Result.andThen_ok, Sem.run_pure]
theorem op_index (p : Pre Γ S G w N a gd gs) (hd : o.dst = some d) {T : TypeId} {x i : Operand} (ho : o.op = .index T x i) (hT : P.underlying T = some .string) {sa si : Src} {T1 T2 : TypeId}
    (hx : (rd1 P gs T1 x).run Γ = some sa) (hi : (rd1 P gs T2 i).run Γ = some si)
    (hok : effOk N gd (some d) ⟨.sidx (lc d 0) sa si, hardT d (.one .leaf) gd [.val]⟩ = true) (hus : (POp.sidx (lc d 0) sa si).eval sem S = some us) :
    Outc P o a w bs (app (hardT d (.one .leaf) gd [.val]) Γ) (upds S us) N G := by
  obtain ⟨xs, e1, hus⟩ := bnd_some (show bnd _ _ = some us from hus)
  obtain ⟨n, e2, hus⟩ := bnd_some hus
  obtain ⟨h0, hus⟩ := chk_some (show chk _ _ = some us from hus)
  obtain ⟨y, e3, hus⟩ := bnd_some hus
  injection hus with hus
  simp only [decide_eq_true_eq] at h0
  have hx := rd1_ok p.R p.T p.gs hx
  have hi := rd1_ok p.R p.T p.gs hi
  rw [Univ.cast_some e1] at hx
  rw [Univ.cast_some e2] at hi
  have hi := any_int hi
  obtain ⟨s, hv, rfl⟩ := any_str hx
  simp only [bytesOf, List.getElem?_map, Option.map_eq_some_iff] at e3
  obtain ⟨c, e3, rfl⟩ := e3
  refine op_one p hd (v := .int .u8 c.toNat) ?_ hok hus.symm (.int _ _)
  have e4 : s[n.toNat]? = some c := by
    rw [Array.getElem?_toList] at e3
    exact e3
  simp only [execOp, ho, hv, hi, Instr.index, asIntOf, Sem.run_bind, Sem.run_pure, Result.andThen_ok, underlying_run hT, h0, if_true, e4]
end Go.Proofs.Fw
set_option linter.unusedVariables false
set_option linter.unusedSimpArgs false
namespace Go.Proofs.Fw
variable {P : Program} {Γ : SEnv} {S : PSt} {G : Gh} {w : World} {N : Nat} {a : Act} {gd : Option (Nat × Bool)} {gs : List (Nat × Bool)} {o : Oper} {bs : List (Nat × Nat)} {d : Nat} {sem : CSem} {us : List (Nat × Univ)}
theorem op_pick (p : Pre Γ S G w N a gd gs) (hd : o.dst = some d) {c x y : Operand} (ho : o.op = .pick c x y) {c' : Nat} {sa sb : Src} {T1 T2 T3 : TypeId}
    (hc : (rd1 P gs T1 c).run Γ = some (.loc c')) (ha : (rd1 P ((c', true) :: gs) T2 x).run Γ = some sa) (hb : (rd1 P ((c', false) :: gs) T3 y).run Γ = some sb)
    (hok : effOk N gd (some d) ⟨.pick (lc d 0) (.loc c') sa sb, hardT d (.one .leaf) gd [.val]⟩ = true) (hus : (POp.pick (lc d 0) (.loc c') sa sb).eval sem S = some us) :
    Outc P o a w bs (app (hardT d (.one .leaf) gd [.val]) Γ) (upds S us) N G := by
  obtain ⟨z, e1, hus⟩ := bnd_some (show bnd _ _ = some us from hus)
  have hcv := rd1_ok p.R p.T p.gs hc
  rw [Univ.cast_some e1] at hcv
  have hcv := any_bool hcv
  have hz : S c' = uB z := Univ.cast_some e1
  cases z with
  | true =>
    obtain ⟨y1, e2, hus⟩ := bnd_some hus
    injection hus with hus
    have hv := rd1_ok p.R p.T (gs := (c', true) :: gs) (by intro g hg; rcases List.mem_cons.1 hg with rfl | hg; exact hz; exact p.gs g hg) ha
    rw [Univ.cast_some e2] at hv
    have hv := any_bool hv
    refine op_one p hd (v := .bool y1) ?_ hok hus.symm (.bool _)
    simp [execOp, ho, hcv, hv, asBool]
  | false =>
    obtain ⟨y1, e2, hus⟩ := bnd_some hus
    injection hus with hus
    have hv := rd1_ok p.R p.T (gs := (c', false) :: gs) (by intro g hg; rcases List.mem_cons.1 hg with rfl | hg; exact hz; exact p.gs g hg) hb
    rw [Univ.cast_some e2] at hv
    have hv := any_bool hv
    refine op_one p hd (v := .bool y1) ?_ hok hus.symm (.bool _)
    simp [execOp, ho, hcv, hv, asBool]
theorem asmL_get : ∀ (l : List Sh1) (f : Nat → Value) (o i : Nat), (asmL l f o)[i]? = (l[i]?).map fun s => asm1 s fun j => f (o + ((l.take i).map Sh1.size).sum + j)
  | [], _, _, _ => by simp [asmL]
  | s :: r, f, o, 0 => by simp [asmL]
  | s :: r, f, o, i + 1 => by
    simp only [asmL, List.getElem?_cons_succ, asmL_get r f (o + s.size) i, List.take_succ_cons, List.map_cons, List.sum_cons]
    congr 1
    funext s'
    congr 1
    funext j
    congr 1
    omega
theorem op_extract (p : Pre Γ S G w N a gd gs) (hd : o.dst = some d) {t i : Nat} (ho : o.op = .extract (.tmp t) i) {l : List Sh1} {s : Sh1} {off : Nat} {ys : List (LTag × Option Src)} (ht : t < 2000)
    (hs : (Γ (lc t 0)).sh = some (.tup l)) (hk : gdOk gs (Γ (lc t 0)).gd = true) (hi : subShape l i = some (s, off))
    (hm : (mapRd (cpLeaf gs) ((List.range s.size).map fun j => .loc (lc t (off + j)))).run Γ = some ys)
    (hok : effOk N gd (some d) ⟨.cp (cpT d 0 (ys.map fun y => y.2)), hardT d (.one s) gd (ys.map fun y => y.1)⟩ = true)
    (hus : (POp.cp (cpT d 0 (ys.map fun y => y.2))).eval sem S = some us) :
    Outc P o a w bs (app (hardT d (.one s) gd (ys.map fun y => y.1)) Γ) (upds S us) N G := by
  injection hus with hus
  subst hus
  unfold subShape at hi
  split at hi
  · rename_i s' hs'
    injection hi with hi
    injection hi with h1 h2
    subst h1 h2
    have e := p.T.tmp t _ ht hs (live_of_gdOk hk p.gs)
    have e2 : (asmL l (fun j => G.V (lc t j)) 0)[i]? = some (asm1 s' fun j => G.V (lc t (((l.take i).map Sh1.size).sum + j))) := by
      rw [asmL_get, hs']; simp
    refine outc_val hd (v := asm1 s' fun j => G.V (lc t (((l.take i).map Sh1.size).sum + j))) ?_ (cp_step bs p.R p.T p.gs hm ?_ hok p.gd (by simp [Shape.size]) ?_)
    · have e3 : a.eval (.tmp t) = .tuple (asmL l (fun j => G.V (lc t j)) 0).toArray := e
      simp only [execOp, ho, e3, Instr.extract, Sem.run_bind]
      rw [List.getElem?_toArray, e2]
      rfl
    · intro y hy
      simp only [List.mem_map] at hy
      obtain ⟨j, _, rfl⟩ := hy
      trivial
    · refine asm_congr (s := .one s') fun j hj => ?_
      rw [range_map_get _ _ _ (by simpa [Shape.size] using hj)]
      rfl
  · cases hi
theorem op_load_ptr (p : Pre Γ S G w N a gd gs) (hd : o.dst = some d) {T : TypeId} {x : Operand} (ho : o.op = .load T x) {s : Sh1} (hs : sh1Of P T = some s) {m b off n : Nat}
    (hx : (ptrLeaf P gs x).run Γ = some (m, .ptr b off)) (hb : (Γ (bm b)).sh = some (.bx n)) (hn : off + s.size ≤ n) {ys : List (LTag × Option Src)}
    (hm : (mapRd (cpLeaf gs) ((List.range s.size).map fun j => .loc (bc b (off + j)))).run Γ = some ys)
    (hok : effOk N gd (some d) ⟨.cp (cpT d 0 (ys.map fun y => y.2)), hardT d (.one s) gd (ys.map fun y => y.1)⟩ = true)
    (hus : (POp.cp (cpT d 0 (ys.map fun y => y.2))).eval sem S = some us) :
    Outc P o a w bs (app (hardT d (.one s) gd (ys.map fun y => y.1)) Γ) (upds S us) N G := by
  injection hus with hus
  subst hus
  obtain ⟨e, hL, _, _⟩ := ptrLeaf_ok p hx
  have hL : G.V m = _ := hL
  obtain ⟨_, hc⟩ := p.R.box b n hb
  refine outc_val hd (v := asm1 s fun j => G.V (bc b (off + j))) ?_ (cp_step bs p.R p.T p.gs hm ?_ hok p.gd (by simp [Shape.size]) ?_)
  · simp only [execOp, ho, e, hL, Sem.run_bind]
    rw [loadAt_run hs (f := fun j => G.V (bc b (off + j)))]
    · rfl
    · intro j hj
      have := (hc (off + j) (by omega)).1
      rw [← Nat.add_assoc] at this
      exact this
  · intro y hy
    simp only [List.mem_map] at hy
    obtain ⟨j, _, rfl⟩ := hy
    trivial
  · refine asm_congr (s := .one s) fun j hj => ?_
    rw [range_map_get _ _ _ (by simpa [Shape.size] using hj)]
    rfl
theorem slTag_any {m : Nat} {tag : LTag} {t : Ty} {xs : List t.T} (hL : LOk w G S m tag) (ht : slTag tag = true) (hS : S m = ⟨.sl t, xs⟩) : SlV (fun _ => True) w G.Ow (G.V m) t xs := by
  have : AnyV w G.Ow (G.V m) ⟨.sl t, xs⟩ := by
    rw [← hS]
    cases tag with
    | rd => exact RdV.any hL
    | val => exact (Rep.rdv hL).any
    | own => obtain ⟨t', ys, h3, h4⟩ := hL; rw [h3]; exact h4.any
    | _ => cases ht
  exact this
theorem zip_get {α β : Type} : ∀ {l : List α} {r : List β} {j : Nat} {x : α} {y : β}, (l.zip r)[j]? = some (x, y) ↔ l[j]? = some x ∧ r[j]? = some y := by
  intro l r j x y
  rw [List.getElem?_zip_eq_some]
theorem vals_step {gd : Option (Nat × Bool)} {sh : Sh1} {pop : POp} {v : Value} {vals : Nat → Value} {uv : List Univ}
    (bs : List (Nat × Nat)) (R : HRel Γ S G w) (T : TRel Γ S G N a)
    (hok : effOk N gd (some d) ⟨pop, hardT d (.one sh) gd (List.replicate sh.size .val)⟩ = true) (hgd : ∀ c b, gd = some (c, b) → S c = uB b)
    (hus : us = (((List.range sh.size).map fun j => lc d j).zip uv)) (hlu : sh.size ≤ uv.length) (hv : v = asm1 sh vals)
    (hl : ∀ j u, j < sh.size → uv[j]? = some u → Rep w G.Ow (vals j) u) :
    ∃ G', HRel (app (hardT d (.one sh) gd (List.replicate sh.size .val)) Γ) (upds S us) G' w ∧
      TRel (app (hardT d (.one sh) gd (List.replicate sh.size .val)) Γ) (upds S us) G' N (a.put (some d) v) ∧ Fr bs G w G' w := by
  rw [← List.append_nil (hardT d (.one sh) gd _)] at hok ⊢
  have hok2 := hok
  simp only [effOk, Bool.and_eq_true] at hok2
  obtain ⟨_, ⟨⟨_, hd2⟩, hsh⟩, hrefs⟩ := hok2
  have hsz : sh.size ≤ 64 := by
    obtain ⟨e0, he0, hs0, _⟩ := hardT_head d (.one sh) gd (List.replicate sh.size .val) []
    unfold shOk at hsh
    rw [he0] at hsh
    simp only [hs0] at hsh
    exact Nat.le_of_ble_eq_true hsh
  have key := stepA (us := us) (vals := vals) (ρ := fun _ => none) R T hok hgd (by simp) hv (by simp [Shape.size]) ?_ (by simp) ?_ (by simp)
  · exact ⟨_, key.1, key.2, Fr.stepG (blt_lt hd2)⟩
  · intro l hl
    apply upds_not
    subst hus
    intro hm
    simp only [List.mem_map] at hm
    obtain ⟨⟨l', u⟩, hp, rfl⟩ := hm
    obtain ⟨hp1, _⟩ := List.of_mem_zip hp
    simp only [List.mem_map, List.mem_range] at hp1
    obtain ⟨j, hj, rfl⟩ := hp1
    obtain ⟨e, he⟩ := hardT_mem d (.one sh) gd (List.replicate sh.size .val) j (by simpa using hj)
    have := hfind_isSome (List.mem_append_left [] he)
    simp only at hl
    rw [this] at hl
    cases hl
  · intro j t ht
    simp only [List.getElem?_replicate] at ht
    split at ht
    · rename_i hj
      injection ht with ht
      subst ht
      have hj2 : j < uv.length := by omega
      obtain ⟨e, he⟩ := hardT_mem d (.one sh) gd (List.replicate sh.size .val) j (by simpa using hj)
      have hhard := hfind_isSome (List.mem_append_left [] he)
      have hS : upds S us (lc d j) = uv[j] := by
        subst hus
        refine upds_mem ?_ ?_
        · rw [List.map_fst_zip (by simpa using hlu)]
          exact List.pairwise_map.2 (List.Pairwise.imp (fun h e => h (by simp only [lc] at e; omega)) List.nodup_range)
        · refine List.mem_of_getElem? (i := j) ?_
          rw [zip_get]
          exact ⟨by simp [hj], List.getElem?_eq_getElem hj2⟩
      show Rep w _ _ _
      rw [hS]
      have hV : (stepG G d (hardT d (.one sh) gd (List.replicate sh.size .val) ++ []) vals fun _ => none).V (lc d j) = vals j := by
        simp only [Fw.stepG]
        rw [if_pos ⟨hhard, by simp only [lc]; omega⟩]
        congr 1
        simp only [lc]
        omega
      rw [hV]
      exact Rep.still (fun b hb => ⟨rfl, by simp [Fw.stepG, hb, ren]⟩) (hl j _ hj (List.getElem?_eq_getElem hj2))
    · cases ht
theorem op_load_ep (p : Pre Γ S G w N a gd gs) (hd : o.dst = some d) {T : TypeId} {x : Operand} (ho : o.op = .load T x) {s : Sh1} (hs : sh1Of P T = some s) {pl m m' off : Nat} {t : Ty} {tg : LTag}
    (hx : (ptrLeaf P gs x).run Γ = some (pl, .ep m off t)) (hm : (res gs 6 m).run Γ = some (m', tg)) (htg : slTag tg = true) (hn : off + s.size ≤ t.size)
    (hok : effOk N gd (some d) ⟨.getE m' pl off t ((List.range s.size).map fun j => lc d j), hardT d (.one s) gd (List.replicate s.size .val)⟩ = true)
    (hus : (POp.getE m' pl off t ((List.range s.size).map fun j => lc d j)).eval sem S = some us) :
    Outc P o a w bs (app (hardT d (.one s) gd (List.replicate s.size .val)) Γ) (upds S us) N G := by
  obtain ⟨xs, e1, hus⟩ := bnd_some (show bnd _ _ = some us from hus)
  obtain ⟨i, e2, hus⟩ := bnd_some hus
  simp only [List.length_map, List.length_range, hn, decide_true] at hus
  obtain ⟨h0, hus⟩ := chk_some (show chk _ _ = some us from hus)
  obtain ⟨row, e3, hus2⟩ := bnd_some hus
  have hus3 : ((List.range s.size).map fun j => lc d j).zip ((leaves t row).drop off) = us := Option.some.inj hus2
  obtain ⟨e, hL, _, _⟩ := ptrLeaf_ok p hx
  obtain ⟨ad, n, c, i', h1, h2, h3, h4, h5, h6⟩ := hL
  obtain ⟨hV, _, _, hL', _⟩ := res_ok p.R p.gs hm
  have hi : i' = i := by
    rw [h2] at e2
    have := Univ.cast_some e2
    simpa using this
  subst hi
  rcases slTag_any hL' htg (Univ.cast_some e1) with ⟨rfl, _⟩ | ⟨ad', c', hv, hc, _, hsp, val, hcell, hrep⟩
  · simp at e3
  rw [← hV, h1] at hv
  injection hv with hv1 hv2 hv3
  injection hv1 with hv1
  subst hv1
  have hlt : i'.toNat < xs.length := (List.getElem?_eq_some_iff.1 e3).1
  refine outc_val hd (v := asm1 s fun j => val i'.toNat (off + j)) ?_ (vals_step (uv := (leaves t row).drop off) bs p.R p.T hok p.gd hus3.symm (by simp [leaves_length]; omega) rfl ?_)
  · simp only [execOp, ho, e, h6, Sem.run_bind]
    rw [loadAt_run hs (f := fun j => val i'.toNat (off + j))]
    · rfl
    · intro j hj
      have := hcell i'.toNat (off + j) hlt (by omega)
      rw [← this]
      congr 2
      omega
  · intro j u hj hu
    rw [List.getElem?_drop] at hu
    exact hrep _ _ row u e3 hu
theorem op_makeFunc (p : Pre Γ S G w N a gd gs) (hd : o.dst = some d) {f : FuncId} {first captured : Array Operand} (ho : o.op = .makeFunc (.func f) first captured) (hf : first.size = 0) {caps : List (Nat × Nat)}
    (hm : (mapRd (fun x => (ptrLeaf P gs x).bind fun (_, tag) => match tag with | .ptr b off => Rd.ret (b, off) | _ => .fail) captured.toList).run Γ = some caps)
    (hok : effOk N gd (some d) ⟨.cp [], hardT d (.one .leaf) gd [.clo f caps]⟩ = true) (hus : (POp.cp []).eval sem S = some us) :
    Outc P o a w bs (app (hardT d (.one .leaf) gd [.clo f caps]) Γ) (upds S us) N G := by
  injection hus with hus
  obtain ⟨h1, h2⟩ := mapRd_run hm
  refine outc_val hd (v := .func (.func f) #[] (caps.map (capV G)).toArray) ?_ (one_step bs p.R p.T hok p.gd (.inr ⟨hus.symm, rfl⟩) (u := uB false) rfl)
  have e1 : first.map a.eval = #[] := by
    have : first = #[] := Array.size_eq_zero_iff.1 hf
    simp [this]
  have e2 : captured.map a.eval = (caps.map (capV G)).toArray := by
    apply Array.toList_inj.1
    simp only [Array.toList_map]
    apply List.ext_getElem?
    intro j
    by_cases hj : j < captured.toList.length
    · obtain ⟨y, hy, hr⟩ := h2 j _ (List.getElem?_eq_getElem hj)
      obtain ⟨⟨m, tag⟩, hr1, hr2⟩ := Rd.run_bind hr
      simp only at hr2
      split at hr2
      · rename_i b off
        simp only [Rd.run, Option.some.injEq] at hr2
        subst hr2
        obtain ⟨ev, hL, _, _⟩ := ptrLeaf_ok p hr1
        have hL : G.V m = _ := hL
        simp only [List.getElem?_map, List.getElem?_eq_getElem hj, hy, Option.map_some, ev, hL, capV]
      · cases hr2
    · rw [List.getElem?_eq_none (by simpa using hj), List.getElem?_eq_none (by simp; simpa [h1] using hj)]
  simp only [execOp, ho, e1, e2, Instr.makeFunc]
  rfl
end Go.Proofs.Fw
set_option linter.unusedVariables false
set_option linter.unusedSimpArgs false
namespace Go.Proofs.Fw
variable {P : Program} {Γ : SEnv} {S : PSt} {G : Gh} {w : World} {N : Nat} {a : Act} {gd : Option (Nat × Bool)} {gs : List (Nat × Bool)} {o : Oper} {bs : List (Nat × Nat)} {d : Nat} {sem : CSem} {us : List (Nat × Univ)}
def BndIs (v : Option Value) (dflt n : Int) : Prop := (v = none ∧ n = dflt) ∨ v = some (.int .i64 n)
theorem optOp_ok (p : Pre Γ S G w N a gd gs) {T : TypeId} {x : Option Operand} {r : Option Src} (h : (optOp P gs T x).run Γ = some r) {dflt n : Int}
    (hn : (match optG S r with | some u => u.cast (.int .i64) | none => some dflt) = some n) : BndIs (x.map a.eval) dflt n := by
  cases x with
  | none =>
    simp only [optOp, Rd.run, Option.some.injEq] at h
    subst h
    simp only [optG, Option.some.injEq] at hn
    exact .inl ⟨rfl, hn.symm⟩
  | some x =>
    simp only [optOp] at h
    obtain ⟨⟨s, ls⟩, h1, h2⟩ := Rd.run_bind h
    simp only at h2
    split at h2
    · rename_i l
      obtain ⟨src, h3, h4⟩ := Rd.run_bind h2
      simp only [Rd.run, Option.some.injEq] at h4
      subst h4
      obtain ⟨e, _, hls⟩ := opLeaves_ok p.T p.gs h1
      have hv := rdLeaf_ok p.R p.gs (hls l (List.mem_singleton.2 rfl)) h3
      simp only [optG] at hn
      rw [Univ.cast_some hn] at hv
      have hv := any_int hv
      refine .inr ?_
      simp only [Option.map_some, e, asm1]
      simpa using hv
    · cases h2
theorem sliceBounds_run {P : Program} {w : World} {isS : Bool} {len cap : Nat} {lo hi : Option Value} {l h : Int} (hl : BndIs lo 0 l) (hh : BndIs hi len h) (h0 : 0 ≤ l) (h1 : l ≤ h) (h2 : h ≤ len) (h3 : len ≤ cap) :
    (Instr.sliceBounds isS len cap lo hi none).run P w = .ok (l.toNat, h.toNat, cap) w := by
  have b1 : h ≤ (cap : Int) := by omega
  have b2 : 0 ≤ h := by omega
  have b3 : l ≤ ((h.toNat : Nat) : Int) := by omega
  rcases hl with ⟨rfl, rfl⟩ | rfl <;> rcases hh with ⟨rfl, rfl⟩ | rfl
  · simp [Instr.sliceBounds]
  · simp [Instr.sliceBounds, Instr.sliceBound, asIntOf, b1, b2]
  · simp only [Int.toNat_natCast] at b3
    simp [Instr.sliceBounds, Instr.sliceBound, asIntOf, h0, b3]
  · simp [Instr.sliceBounds, Instr.sliceBound, asIntOf, b1, b2, h0, b3]
    intro hc
    exact absurd hc (by omega)
theorem slice_run {P : Program} {w : World} {T e : TypeId} {t : Ty} {A : Option Addr} {len cap : Nat} {lo hi : Option Value} {l h : Int} (hT : elTy P T = some (e, t)) (hl : BndIs lo 0 l) (hh : BndIs hi len h)
    (h0 : 0 ≤ l) (h1 : l ≤ h) (h2 : h ≤ len) (h3 : len ≤ cap) :
    (Instr.sliceAt T (.slice A len cap) lo hi none).run P w = .ok (.slice (if cap = l.toNat then A else A.map (·.add (l.toNat * t.size))) (h.toNat - l.toNat) (cap - l.toNat)) w := by
  obtain ⟨hu, hz⟩ := elTy_ok hT
  simp only [Instr.sliceAt, Instr.slice, Sem.run_bind, underlying_run hu, Result.andThen_ok, sliceBounds_run hl hh h0 h1 h2 h3, sizeT_run hz, Sem.run_pure]
theorem rows_sub {Ow : Nat → Owner} {b off : Nat} {t : Ty} {xs : List t.T} {l h : Nat} (hr : Rows w Ow b off t xs) (h2 : h ≤ xs.length) : Rows w Ow b (off + l * t.size) t ((xs.take h).drop l) := by
  obtain ⟨val, hc, hv⟩ := hr
  refine ⟨fun i j => val (l + i) j, ?_, ?_⟩
  · intro i j hi hj
    simp only [List.length_drop, List.length_take] at hi
    rw [← hc (l + i) j (by omega) hj]
    congr 2
    rw [Nat.add_mul]
    omega
  · intro i j x u hx hu
    rw [List.getElem?_drop, List.getElem?_take] at hx
    split at hx
    · exact hv _ _ x u hx hu
    · cases hx
theorem slv_sub {q : Nat → Prop} {A : Option Addr} {len cap : Nat} {t : Ty} {xs : List t.T} {l h : Int} {Ow : Nat → Owner} (hv : SlV q w Ow (.slice A len cap) t xs) (h0 : 0 ≤ l) (h1 : l ≤ h) (h2 : h ≤ len)
    (hlen : len = xs.length) : SlV q w Ow (.slice (if cap = l.toNat then A else A.map (·.add (l.toNat * t.size))) (h.toNat - l.toNat) (cap - l.toNat)) t ((xs.take h.toNat).drop l.toNat) := by
  have hlen2 : ((xs.take h.toNat).drop l.toNat).length = h.toNat - l.toNat := by
    rw [List.length_drop, List.length_take]; omega
  by_cases hz : h.toNat - l.toNat = 0
  · left
    refine ⟨List.eq_nil_of_length_eq_zero (by omega), _, _, by rw [hz]⟩
  · rcases hv with ⟨rfl, _⟩ | ⟨ad, c, hv, hc, hq, hs, hr⟩
    · simp at hlen; omega
    · injection hv with hA hn hcap
      subst hA hcap
      right
      have hne : cap ≠ l.toNat := by omega
      rw [if_neg hne]
      refine ⟨ad.add (l.toNat * t.size), cap - l.toNat, by rw [hlen2]; rfl, by omega, ?_, ?_, ?_⟩
      · rw [add_eq hs]; exact hq
      · rw [add_eq hs]
      · rw [add_eq hs]
        exact rows_sub hr (by omega)
theorem slv_len {q : Nat → Prop} {v : Value} {t : Ty} {xs : List t.T} {Ow : Nat → Owner} (hv : SlV q w Ow v t xs) : ∃ A c, v = .slice A xs.length c ∧ (xs.length ≤ c) := by
  rcases hv with ⟨rfl, A, c, rfl⟩ | ⟨ad, c, rfl, hc, _⟩
  · exact ⟨A, c, rfl, Nat.zero_le _⟩
  · exact ⟨some ad, c, rfl, hc⟩
theorem subK_some {α R : Type} {xs : List α} {lo hi : Int} {k : List α → Option R} {r : R} (h : subK xs lo hi k = some r) :
    0 ≤ lo ∧ lo ≤ hi ∧ hi ≤ xs.length ∧ k ((xs.take hi.toNat).drop lo.toNat) = some r := by
  unfold subK at h
  obtain ⟨h1, h⟩ := chk_some h
  obtain ⟨h2, h⟩ := chk_some h
  obtain ⟨h3, h⟩ := chk_some h
  simp only [decide_eq_true_eq] at h1 h2 h3
  exact ⟨h1, h2, h3, h⟩
theorem op_sub (p : Pre Γ S G w N a gd gs) (hd : o.dst = some d) {T : TypeId} {x : Operand} {lo hi mx : Option Operand} (ho : o.op = .slice T x lo hi mx) (hmx : mx.isNone = true) {e : TypeId} {t : Ty} (hT : elTy P T = some (e, t))
    {T1 T2 : TypeId} {l h : Option Src} (hl : (optOp P gs T1 lo).run Γ = some l) (hh : (optOp P gs T2 hi).run Γ = some h) {lx m : Nat} {tag : LTag} {s : Sh1} {ty : TypeId}
    (hx : (opLeaves P gs ty x).run Γ = some (.leaf, [.loc lx])) (hm : (res gs 6 lx).run Γ = some (m, tag)) (htag : tag = .rd ∨ tag = .val)
    (hok : effOk N gd (some d) ⟨.sub (lc d 0) t (.loc m) l h, hardT d (.one .leaf) gd [tag]⟩ = true) (hus : (POp.sub (lc d 0) t (.loc m) l h).eval sem S = some us) :
    Outc P o a w bs (app (hardT d (.one .leaf) gd [tag]) Γ) (upds S us) N G := by
  obtain ⟨xs, e1, hus⟩ := bnd_some (show bnd _ _ = some us from hus)
  obtain ⟨i, e2, hus⟩ := bnd_some hus
  obtain ⟨j, e3, hus⟩ := bnd_some hus
  obtain ⟨h0, h1, h2, hus⟩ := subK_some hus
  have hus2 := Option.some.inj hus
  have b1 := optOp_ok p hl e2
  obtain ⟨ev, _, _⟩ := opLeaves_ok p.T p.gs hx
  obtain ⟨hV, _, _, hL, _⟩ := res_ok p.R p.gs hm
  have ev : a.eval x = G.V m := by rw [ev, ← hV]; rfl
  have hS : S m = ⟨.sl t, xs⟩ := Univ.cast_some e1
  have hmx : mx = none := by cases mx with | none => rfl | some _ => cases hmx
  obtain ⟨A, c, hv, hc⟩ := slv_len (slTag_any (tag := tag) hL (by rcases htag with rfl | rfl <;> rfl) hS)
  have b2 : BndIs (hi.map a.eval) (xs.length : Int) j := optOp_ok p hh e3
  refine outc_val hd (v := .slice (if c = i.toNat then A else A.map (·.add (i.toNat * t.size))) (j.toNat - i.toNat) (c - i.toNat)) ?_ (one_step bs p.R p.T hok p.gd (.inl hus2.symm) ?_)
  · simp only [execOp, ho, ev, hv, hmx, Sem.run_bind, Option.map_none, slice_run hT b1 b2 h0 h1 h2 hc, Result.andThen_ok, Sem.run_pure]
  · rcases htag with rfl | rfl
    · have hL : RdV w G.Ow (G.V m) (S m) := hL
      rw [hS, hv] at hL
      exact slv_sub (q := fun b => G.Ow b = .imm ∨ G.Ow b = .rd) hL h0 h1 h2 rfl
    · have hL : Rep w G.Ow (G.V m) (S m) := hL
      rw [hS, hv] at hL
      exact rep_sl.2 (slv_sub (rep_sl.1 hL) h0 h1 h2 rfl)
theorem bytesOf_extract (s : ByteArray) (l h : Nat) : bytesOf (s.extract l h) = ((bytesOf s).take h).drop l := by
  unfold bytesOf
  have : (s.extract l h).data.toList = (s.data.toList.take h).drop l := by
    rw [ByteArray.data_extract, Array.toList_extract, List.extract_eq_take_drop, List.take_drop]
    rcases Nat.le_total l h with hlh | hlh
    · rw [Nat.add_sub_cancel' hlh]
    · rw [List.drop_eq_nil_of_le (by rw [List.length_take]; omega), List.drop_eq_nil_of_le (by rw [List.length_take]; omega)]
  rw [this, List.map_drop, List.map_take]
theorem op_subS (p : Pre Γ S G w N a gd gs) (hd : o.dst = some d) {T : TypeId} {x : Operand} {lo hi mx : Option Operand} (ho : o.op = .slice T x lo hi mx) (hmx : mx.isNone = true) (hT : P.underlying T = some .string)
    {T1 T2 T3 : TypeId} {l h : Option Src} (hl : (optOp P gs T1 lo).run Γ = some l) (hh : (optOp P gs T2 hi).run Γ = some h) {x' : LS} {sa : Src}
    (hx : (opLeaves P gs T3 x).run Γ = some (.leaf, [x'])) (hm : (rdLeaf gs x').run Γ = some sa)
    (hok : effOk N gd (some d) ⟨.subS (lc d 0) sa l h, hardT d (.one .leaf) gd [.val]⟩ = true) (hus : (POp.subS (lc d 0) sa l h).eval sem S = some us) :
    Outc P o a w bs (app (hardT d (.one .leaf) gd [.val]) Γ) (upds S us) N G := by
  obtain ⟨xs, e1, hus⟩ := bnd_some (show bnd _ _ = some us from hus)
  obtain ⟨i, e2, hus⟩ := bnd_some hus
  obtain ⟨j, e3, hus⟩ := bnd_some hus
  obtain ⟨h0, h1, h2, hus⟩ := subK_some hus
  have hus2 := Option.some.inj hus
  have b1 := optOp_ok p hl e2
  have b2 := optOp_ok p hh e3
  obtain ⟨ev, _, hls⟩ := opLeaves_ok p.T p.gs hx
  have hv := rdLeaf_ok p.R p.gs (hls x' (List.mem_singleton.2 rfl)) hm
  rw [Univ.cast_some e1] at hv
  obtain ⟨s, hv2, rfl⟩ := any_str hv
  have ev : a.eval x = .string s := by rw [ev]; simpa [asm1] using hv2
  have hmx : mx = none := by cases mx with | none => rfl | some _ => cases hmx
  rw [bytesOf_length] at b2 h2
  refine op_one p hd (v := .string (s.extract i.toNat j.toNat)) ?_ hok hus2.symm (by rw [← bytesOf_extract]; exact .str _)
  simp only [execOp, ho, ev, hmx, Sem.run_bind, Option.map_none, Instr.sliceAt, Instr.slice, underlying_run hT, Result.andThen_ok, sliceBounds_run b1 b2 h0 h1 h2 (Nat.le_refl _), Option.isSome_none, Bool.false_eq_true, if_false, Sem.run_pure]
end Go.Proofs.Fw
set_option linter.unusedVariables false
set_option linter.unusedSimpArgs false
namespace Go.Proofs.Fw
variable {P : Program} {Γ : SEnv} {S : PSt} {G : Gh} {w : World} {N : Nat} {a : Act} {gd : Option (Nat × Bool)} {gs : List (Nat × Bool)} {o : Oper} {bs : List (Nat × Nat)} {d : Nat} {sem : CSem} {us : List (Nat × Univ)}
theorem OwnV.frz {Ow Ow' : Nat → Owner} {l : Nat} {v : Value} {t : Ty} {xs : List t.T} {w' : World} (h : OwnV w Ow l v t xs) (hs : Still w Ow w' Ow') (hi : ∀ b, Ow b = .loc l → w'.heap[b]? = w.heap[b]? ∧ Ow' b = .imm) :
    Rep w' Ow' v ⟨.sl t, xs⟩ :=
  rep_sl.2 (SlV.still (p := fun b => Ow b = .loc l) hs hi (h.slv fun b hb => hb))
def rhoOf (sf : List Wr1) (m : Nat) : Option Owner :=
  match sfind sf m with
  | some (.al d) => some (.loc d)
  | some .val => some .imm
  | _ => none
theorem rhoOf_dom {sf : List Wr1} {m : Nat} {o : Owner} (h : rhoOf sf m = some o) : ∃ t, Wr1.soft m t ∈ sf := by
  unfold rhoOf at h
  split at h
  · rename_i d hs; exact ⟨_, sfind_some hs⟩
  · rename_i hs; exact ⟨_, sfind_some hs⟩
  · cases h
theorem softLocs_mem {sf : List Wr1} {m : Nat} {t : LTag} (h : Wr1.soft m t ∈ sf) : m ∈ softLocs sf := by
  induction sf with
  | nil => cases h
  | cons x r ih =>
    cases x with
    | soft l t' =>
      rcases List.mem_cons.1 h with h | h
      · injection h with h1 h2; subst h1; exact List.mem_cons_self
      · exact List.mem_cons_of_mem _ (ih h)
    | hard l e =>
      rcases List.mem_cons.1 h with h | h
      · cases h
      · exact ih h
theorem sfind_of_mem {sf : List Wr1} {m : Nat} {t : LTag} (hn : (softLocs sf).Nodup) (h : Wr1.soft m t ∈ sf) : sfind sf m = some t := by
  induction sf with
  | nil => cases h
  | cons x r ih =>
    cases x with
    | soft l t' =>
      simp only [softLocs, List.nodup_cons] at hn
      rcases List.mem_cons.1 h with h | h
      · injection h with h1 h2; subst h1 h2; simp [sfind]
      · have : l ≠ m := fun e => hn.1 (e ▸ softLocs_mem h)
        simp only [sfind]
        rw [if_neg (by simpa using this)]
        exact ih hn.2 h
    | hard l e =>
      rcases List.mem_cons.1 h with h | h
      · cases h
      · exact ih hn h
def MV (w : World) (G : Gh) (ρ : Nat → Option Owner) (d : Nat) (v : Value) (u : Univ) (t : LTag) : Prop :=
  LV w G v u t ∨ (t = .own ∧ ∃ m ty xs, u = ⟨.sl ty, xs⟩ ∧ OwnV w G.Ow m v ty xs ∧ (ρ m = some (.loc d) ∨ (m = d ∧ ρ m = none)))
theorem MV.lok {ρ : Nat → Option Owner} {w' : World} {G' : Gh} {S' : PSt} {v : Value} {u : Univ} {t : LTag} (h : MV w G ρ d v u t) (hV : G'.V d = v) (hS : S' d = u)
    (hr : ∀ m ∈ t.refs, G'.V m = G.V m ∧ ∀ b, m = bm b → G'.B b = G.B b) (hs : Still w G.Ow w' G'.Ow)
    (hrd : ∀ b, G.Ow b = .rd → w'.heap[b]? = w.heap[b]? ∧ G'.Ow b = .rd) (ho : ∀ b m, G.Ow b = .loc m → w'.heap[b]? = w.heap[b]? ∧ G'.Ow b = ren ρ (.loc m)) : LOk w' G' S' d t := by
  rcases h with h | ⟨rfl, m, ty, xs, rfl, hO, hρ⟩
  · exact h.lok hV (.inr hS) hr hs hrd
  · refine ⟨ty, xs, hS, ?_⟩
    rw [hV]
    refine hO.still hs fun b hb => ?_
    obtain ⟨h1, h2⟩ := ho b m hb
    refine ⟨h1, ?_⟩
    rw [h2]
    rcases hρ with hρ | ⟨rfl, hρ⟩
    · simp [ren, hρ]
    · simp [ren, hρ]
theorem mvLeaf_ok (R : HRel Γ S G w) (hg : GHs gs S) {ls : LS} (hl : lsOk ls) {t : LTag} {src : Option Src} {sf : List Wr1} {ρ : Nat → Option Owner} {dl : Nat}
    (h : (mvLeaf gs dl ls).run Γ = some (t, src, sf)) (hρ : ∀ m, Wr1.soft m (.al dl) ∈ sf → ρ m = some (.loc dl)) (hρd : sf = [] → ρ dl = none) (u : Univ) (hu : ∀ s, src = some s → u = s.get S) :
    MV w G ρ dl (lsV G ls) u t ∧ (needsS t = true → src.isSome = true) ∧ ∀ m tg, Wr1.soft m tg ∈ sf → tg = .al dl ∧ lsV G ls = G.V m ∧ t = .own := by
  cases ls with
  | con v u' t' =>
    simp only [mvLeaf, Rd.run, Option.some.injEq, Prod.mk.injEq] at h
    obtain ⟨rfl, rfl, rfl⟩ := h
    exact ⟨.inl (by rw [hu _ rfl]; exact ConOk.lv hl), fun _ => rfl, fun m tg h => by cases h⟩
  | loc l =>
    simp only [mvLeaf] at h
    obtain ⟨⟨m, tg⟩, h1, h2⟩ := Rd.run_bind h
    obtain ⟨hV, htag, hlive, hL, hna, _⟩ := res_ok R hg h1
    simp only [lsV, hV]
    cases tg with
    | own =>
      simp only [Rd.run, Option.some.injEq, Prod.mk.injEq] at h2
      obtain ⟨rfl, rfl, rfl⟩ := h2
      obtain ⟨ty, xs, h3, h4⟩ := hL
      refine ⟨.inr ⟨rfl, m, ty, xs, (hu _ rfl).trans h3, h4, ?_⟩, fun _ => rfl, ?_⟩
      · by_cases hm : m = dl
        · exact .inr ⟨hm, by subst hm; exact hρd (by simp)⟩
        · exact .inl (hρ m (by simp [hm]))
      · intro m' tg' hmem
        split at hmem
        · cases hmem
        · simp only [List.mem_singleton, Wr1.soft.injEq] at hmem
          obtain ⟨rfl, rfl⟩ := hmem
          exact ⟨rfl, rfl, rfl⟩
    | al x => exact absurd rfl (hna x)
    | _ =>
      simp only [Rd.run, Option.some.injEq, Prod.mk.injEq] at h2
      obtain ⟨rfl, rfl, rfl⟩ := h2
      exact ⟨.inl (by rw [hu _ rfl]; exact hL.lv (by intro h; cases h)), fun _ => rfl, fun m tg h => by cases h⟩
theorem mvAll_run {loc : Nat → Nat} : ∀ {ls : List LS} {j0 : Nat} {ys : List (LTag × Option Src × List Wr1)}, (mvAll gs loc j0 ls).run Γ = some ys →
    ys.length = ls.length ∧ ∀ (j : Nat) (x : LS), ls[j]? = some x → ∃ y, ys[j]? = some y ∧ (mvLeaf gs (loc (j0 + j)) x).run Γ = some y
  | [], j0, ys, h => by
    simp only [mvAll, Rd.run, Option.some.injEq] at h
    subst h
    exact ⟨rfl, by intro j x h; cases h⟩
  | x :: r, j0, ys, h => by
    simp only [mvAll] at h
    obtain ⟨y, h1, h2⟩ := Rd.run_bind h
    obtain ⟨zs, h3, h4⟩ := Rd.run_bind h2
    simp only [Rd.run, Option.some.injEq] at h4
    subst h4
    obtain ⟨h5, h6⟩ := mvAll_run h3
    refine ⟨by simp [h5], ?_⟩
    intro j x' hx
    cases j with
    | zero => simp only [List.getElem?_cons_zero, Option.some.injEq] at hx; subst hx; exact ⟨y, rfl, h1⟩
    | succ j =>
      obtain ⟨z, h7, h8⟩ := h6 j x' (by simpa using hx)
      exact ⟨z, h7, by rw [show j0 + (j + 1) = j0 + 1 + j by omega]; exact h8⟩
theorem mvAll_ok (R : HRel Γ S G w) (hg : GHs gs S) {loc : Nat → Nat} (hinj : ∀ i j, loc i = loc j → i = j) {ls : List LS} {j0 : Nat} {ys : List (LTag × Option Src × List Wr1)} (h : (mvAll gs loc j0 ls).run Γ = some ys) (hls : ∀ y ∈ ls, lsOk y)
    {ws : List Wr1} (hsf : ∀ x ∈ ys.flatMap (fun y => y.2.2), x ∈ ws) (hsf2 : ∀ m t, Wr1.soft m t ∈ ws → Wr1.soft m t ∈ ys.flatMap fun y => y.2.2) (hso : softsOk ws = true) (hhard : ∀ j, j < ls.length → isHard ws (loc (j0 + j)) = true) :
    ys.length = ls.length ∧
    (∀ j (x : LS) (y : LTag × Option Src × List Wr1), ls[j]? = some x → ys[j]? = some y → (∀ u, (∀ s, y.2.1 = some s → u = s.get S) → MV w G (rhoOf ws) (loc (j0 + j)) (lsV G x) u y.1) ∧ (needsS y.1 = true → y.2.1.isSome = true)) ∧
    (∀ m t, Wr1.soft m t ∈ ws → ∃ j x, ls[j]? = some x ∧ t = .al (loc (j0 + j)) ∧ lsV G x = G.V m) := by
  obtain ⟨h1, h2⟩ := mvAll_run h
  simp only [softsOk, Bool.and_eq_true, List.all_eq_true, Bool.not_eq_true'] at hso
  have hnd := nodupN_nodup hso.2
  have key : ∀ j (x : LS) (y : LTag × Option Src × List Wr1), ls[j]? = some x → ys[j]? = some y → (mvLeaf gs (loc (j0 + j)) x).run Γ = some y := by
    intro j x y hx hy
    obtain ⟨y', hy', hr⟩ := h2 j x hx
    rw [hy] at hy'
    injection hy' with hy'
    rw [hy']
    exact hr
  have hmem : ∀ (j : Nat) (y : LTag × Option Src × List Wr1) (x : Wr1), ys[j]? = some y → x ∈ y.2.2 → x ∈ ws := by
    intro j y x hy hx
    exact hsf x (List.mem_flatMap.2 ⟨y, List.mem_of_getElem? hy, hx⟩)
  have hρ : ∀ (j : Nat) (y : LTag × Option Src × List Wr1), ys[j]? = some y → ∀ m dl, Wr1.soft m (.al dl) ∈ y.2.2 → rhoOf ws m = some (.loc dl) := by
    intro j y hy m dl hm
    have := sfind_of_mem hnd (hmem j y _ hy hm)
    simp [rhoOf, this]
  have hnone : ∀ l, isHard ws l = true → rhoOf ws l = none := by
    intro l hl
    cases hr : rhoOf ws l with
    | none => rfl
    | some o =>
      obtain ⟨t, ht⟩ := rhoOf_dom hr
      rw [hso.1 l (softLocs_mem ht)] at hl
      cases hl
  refine ⟨h1, ?_, ?_⟩
  · intro j x y hx hy
    have hr := key j x y hx hy
    have hj : j < ls.length := (List.getElem?_eq_some_iff.1 hx).1
    obtain ⟨t, src, sf⟩ := y
    refine ⟨fun u hu => ?_, fun hn => ?_⟩
    · exact (mvLeaf_ok R hg (hls x (List.mem_of_getElem? hx)) hr (fun m hm => hρ j _ hy m _ hm) (fun _ => hnone _ (hhard j hj)) u hu).1
    · cases src with
      | some s => rfl
      | none => exact (mvLeaf_ok R hg (hls x (List.mem_of_getElem? hx)) hr (fun m hm => hρ j _ hy m _ hm) (fun _ => hnone _ (hhard j hj)) (uB false) (by intro s h; cases h)).2.1 hn
  · intro m t hm
    obtain ⟨y, hy, hmy⟩ := List.mem_flatMap.1 (hsf2 m t hm)
    obtain ⟨j, hj⟩ := List.getElem?_of_mem hy
    have hjl : j < ls.length := by have := (List.getElem?_eq_some_iff.1 hj).1; omega
    have hr := key j _ y (List.getElem?_eq_getElem hjl) hj
    obtain ⟨tg, src, sf⟩ := y
    have := (mvLeaf_ok R hg (hls _ (List.getElem_mem hjl)) hr (fun m hm => hρ j _ hj m _ hm) (fun _ => hnone _ (hhard j hjl)) (match src with | some s => s.get S | none => uB false) (by intro s h; subst h; rfl)).2.2 m t hmy
    exact ⟨j, _, List.getElem?_eq_getElem hjl, this.1, this.2.1⟩
theorem op_assign (p : Pre Γ S G w N a none gs) (hd : o.dst = some d) {x : Operand} (ho : o.op = .assign x) {s : Sh1} {ls : List LS} {ys : List (LTag × Option Src × List Wr1)} {ty : TypeId}
    (hx : (opLeaves P gs ty x).run Γ = some (s, ls)) (hm : (mvAll gs (lc d) 0 ls).run Γ = some ys)
    (hok : effOk N none (some d) ⟨.cp (cpT d 0 (ys.map fun y => y.2.1)), hardT d (.one s) none (ys.map fun y => y.1) ++ ys.flatMap fun y => y.2.2⟩ = true)
    (hso : softsOk (hardT d (.one s) none (ys.map fun y => y.1) ++ ys.flatMap fun y => y.2.2) = true)
    (hsoft0 : ∀ l e, Wr1.hard l e ∉ ys.flatMap fun y => y.2.2)
    (hus : (POp.cp (cpT d 0 (ys.map fun y => y.2.1))).eval sem S = some us) :
    Outc P o a w bs (app (hardT d (.one s) none (ys.map fun y => y.1) ++ ys.flatMap fun y => y.2.2) Γ) (upds S us) N G := by
  injection hus with hus
  obtain ⟨e, hlen, hls⟩ := opLeaves_ok p.T p.gs hx
  generalize hws : hardT d (.one s) none (ys.map fun y => y.1) ++ ys.flatMap (fun y => y.2.2) = ws at *
  have hlen0 := (mvAll_run hm).1
  have hhard : ∀ j, j < ls.length → isHard ws (lc d j) = true := by
    intro j hj
    obtain ⟨e, he⟩ := hardT_mem d (.one s) none (ys.map fun y => y.1) j (by simpa [hlen0] using hj)
    exact hfind_isSome (hws ▸ List.mem_append_left _ he)
  have hsf2 : ∀ m t, Wr1.soft m t ∈ ws → Wr1.soft m t ∈ ys.flatMap fun y => y.2.2 := by
    intro m t h
    rw [← hws] at h
    rcases List.mem_append.1 h with h | h
    · obtain ⟨j, e', h1, _⟩ := mem_hardT h
      cases h1
    · exact h
  obtain ⟨h1, h2, h3⟩ := mvAll_ok p.R p.gs (by intro i j h; simp only [lc] at h; omega) hm hls (ws := ws) (fun x hx => hws ▸ List.mem_append_right _ hx) hsf2 hso (by simpa using hhard)
  have hok2 := hok
  simp only [effOk, Bool.and_eq_true] at hok2
  obtain ⟨_, ⟨⟨_, hd2⟩, hsh⟩, hrefs⟩ := hok2
  have hd2 := blt_lt hd2
  have hsz : s.size ≤ 64 := by
    obtain ⟨e0, he0, hs0, _⟩ := hardT_head d (.one s) none (ys.map fun y => y.1) (ys.flatMap fun y => y.2.2)
    rw [hws] at he0
    unfold shOk at hsh
    rw [he0] at hsh
    simp only [hs0] at hsh
    exact Nat.le_of_ble_eq_true hsh
  simp only [softsOk, Bool.and_eq_true, List.all_eq_true, Bool.not_eq_true'] at hso
  rw [← hws] at hok
  have hVs : ∀ j, j < ls.length → (stepG G d ws (fun j => ((ls[j]?).map (lsV G)).getD undef) (rhoOf ws)).V (lc d j) = ((ls[j]?).map (lsV G)).getD undef := by
    intro j hj
    simp only [Fw.stepG]
    rw [if_pos ⟨hhard j hj, by simp only [lc]; omega⟩]
    have : lc d j - 64 * d = j := by simp only [lc]; omega
    rw [this]
  have key := stepA (us := us) (vals := fun j => ((ls[j]?).map (lsV G)).getD undef) (ρ := rhoOf ws) (v := a.eval x) p.R p.T hok p.gd hsoft0 e (by simp [Shape.size, hlen0, hlen]) ?_ ?_ ?_ ?_
  · rw [hws] at key
    exact outc_val hd (by simp [execOp, ho]) ⟨_, key.1, key.2, Fr.stepG hd2⟩
  · rw [hws]
    intro l hl
    apply upds_not
    subst hus
    intro hm
    simp only [List.map_map, List.mem_map] at hm
    obtain ⟨q, hq, rfl⟩ := hm
    obtain ⟨j, h5, h6⟩ := mem_cpT hq
    have hj : j < ls.length := by have := (List.getElem?_eq_some_iff.1 h6).1; simpa [hlen0] using this
    have := hhard j hj
    simp only [Function.comp, h5, Nat.zero_add] at hl
    rw [this] at hl
    cases hl
  · rw [hws]
    intro m o' hr
    obtain ⟨t, ht⟩ := rhoOf_dom hr
    simp only [isDom, Bool.or_eq_true]
    have := sfind_of_mem (nodupN_nodup hso.2) ht
    rw [this]
    exact .inr rfl
  · rw [hws]
    intro j t ht
    have hj : j < ls.length := by have := (List.getElem?_eq_some_iff.1 ht).1; simpa [hlen0] using this
    have hj2 : j < ys.length := by omega
    obtain ⟨h5, h6⟩ := h2 j _ _ (List.getElem?_eq_getElem hj) (List.getElem?_eq_getElem hj2)
    simp only [List.getElem?_map, List.getElem?_eq_getElem hj2, Option.map_some, Option.some.injEq] at ht
    subst ht
    rw [Nat.zero_add] at h5
    refine MV.lok (h5 (upds S us (lc d j)) ?_) ?_ rfl ?_ (fun b hb => ⟨rfl, by simp [Fw.stepG, hb, ren]⟩) (fun b hb => ⟨rfl, by simp [Fw.stepG, hb, ren]⟩) (fun b m hb => ⟨rfl, by simp only [Fw.stepG, hb]⟩)
    · intro s' hs'
      subst hus
      have hmem := cpT_mem d (ys.map fun y => y.2.1) 0 j s' (by simp [List.getElem?_eq_getElem hj2, hs'])
      rw [Nat.zero_add] at hmem
      refine upds_mem ?_ (List.mem_map.2 ⟨_, hmem, rfl⟩)
      rw [List.map_map]
      exact cpT_nodup d _ 0
    · rw [hVs j hj, List.getElem?_eq_getElem hj]; rfl
    · intro m hm
      obtain ⟨e9, he9⟩ := hardT_mem d (.one s) none (ys.map fun y => y.1) j (by simpa using hj2)
      have htag : e9.tag = (ys[j]).1 := by
        obtain ⟨j', e', h7, _, h8, _⟩ := mem_hardT he9
        injection h7 with h7 h10
        subst h10
        have : j' = j := by simp only [lc] at h7; omega
        subst this
        rcases h8 with h8 | ⟨h8, _⟩
        · simp only [List.getElem?_map, List.getElem?_eq_getElem hj2, Option.map_some, Option.some.injEq] at h8
          exact h8.symm
        · simp only [List.map_eq_nil_iff] at h8
          rw [h8] at hj2
          cases hj2
      have hm' : isHard ws m = false := by
        cases h : isHard ws m with
        | false => rfl
        | true =>
          have := refsOk_spec hrefs (hws ▸ List.mem_append_left _ he9) m (htag ▸ hm) h
          subst this
          exfalso
          rcases hardsIn_spec (by have := hok; rw [hws] at this; simp only [effOk, Bool.and_eq_true] at this; exact this.1.1.2) h with h9 | ⟨d', h9, h10, h11⟩
          · obtain ⟨e8, he8⟩ := Option.isSome_iff_exists.1 h
            have := hfind_some he8
            rw [← hws] at this
            rcases List.mem_append.1 this with h12 | h12
            · obtain ⟨j', e', h7, _, h8, _⟩ := mem_hardT h12
              injection h7 with h7 _
              have hj' : j' < 64 := by
                rcases h8 with h8 | h8
                · have := (List.getElem?_eq_some_iff.1 h8).1
                  simp only [List.length_map] at this
                  omega
                · omega
              simp only [bm, lc] at h7
              omega
            · exact hsoft0 _ _ h12
          · injection h9 with h9
            subst h9
            simp only [bm] at h10 h11
            omega
      exact ⟨stepG_V hm', fun _ _ => rfl⟩
  · rw [hws]
    intro l t ht _
    obtain ⟨j, x', hx', rfl, hv⟩ := h3 l t (hws ▸ List.mem_append_right _ ht)
    have hj : j < ls.length := (List.getElem?_eq_some_iff.1 hx').1
    rw [Nat.zero_add]
    show (stepG G d ws _ (rhoOf ws)).V l = (stepG G d ws _ (rhoOf ws)).V (lc d j)
    rw [hVs j hj, hx', stepG_V (hso.1 l (softLocs_mem (hws ▸ List.mem_append_right _ ht)))]
    exact hv.symm
end Go.Proofs.Fw
set_option linter.unusedVariables false
set_option linter.unusedSimpArgs false
namespace Go.Proofs.Fw
variable {P : Program} {Γ : SEnv} {S : PSt} {G : Gh} {w : World} {N : Nat} {a : Act} {gd : Option (Nat × Bool)} {gs : List (Nat × Bool)} {o : Oper} {bs : List (Nat × Nat)} {d : Nat} {sem : CSem} {us : List (Nat × Univ)}
theorem app_old {ws : List Wr1} {l : Nat} (hh : isHard ws l = false) :
    ((app ws Γ l).sh = (Γ l).sh ∧ (app ws Γ l).gd = (Γ l).gd ∧ gdKilled ws (Γ l).gd = false) ∨ app ws Γ l = deadGC := by
  have hf : hfind ws l = none := by simpa [isHard] using hh
  unfold app
  rw [hf]
  simp only
  cases hg : sfind ws l with
  | some tg =>
    simp only
    cases hk : gdKilled ws (Γ l).gd with
    | true => right; simp
    | false => left; simp
  | none =>
    simp only
    cases hk : killed ws (Γ l) with
    | true => right; simp
    | false => left; simp only [killed, Bool.or_eq_false_iff] at hk; simp [hk.2]
theorem TRel.step (T : TRel Γ S G N a) {ws : List Wr1} {dst : Option Nat} {S' : PSt} {G' : Gh} {v : Value} (hin : hardsIn dst ws = true)
    (hV : ∀ l, isHard ws l = false → G'.V l = G.V l) (hS : ∀ l, isDom ws l = false → S' l = S l) (hS2 : ∀ t, t < 2000 → dst ≠ some t → S' (lc t 0) = S (lc t 0) ∨ ∀ x, S' (lc t 0) ≠ uB x)
    (hd : ∀ d, dst = some d → d < N ∧ d < 2000 ∧ ∃ e sh, hfind ws (lc d 0) = some e ∧ e.sh = some sh ∧ sh.size ≤ 64 ∧ v = asm sh (fun j => G'.V (lc d j)) ∧ ∀ c b, e.gd = some (c, b) → S' c = uB b) :
    TRel (app ws Γ) S' G' N (a.put dst v) := by
  have hother : ∀ t, t < 2000 → dst ≠ some t → ∀ j, j < 64 → isHard ws (lc t j) = false := by
    intro t ht htd j hj
    cases h : isHard ws (lc t j) with
    | false => rfl
    | true =>
      exfalso
      rcases hardsIn_spec hin h with h | ⟨d', hd', h1, h2⟩
      · simp only [lc] at h; omega
      · subst hd'
        have : t ≠ d' := fun e => htd (by rw [e])
        simp only [lc] at h1 h2
        omega
  have hget : ∀ t, dst ≠ some t → (a.put dst v).tmps.getD t undef = a.tmps.getD t undef := by
    intro t ht
    cases dst with
    | none => rfl
    | some d =>
      have : ¬ d = t := fun e => ht (by rw [e])
      simp [Act.put, Array.getD_eq_getD_getElem?, Array.getElem?_setIfInBounds, this]
  refine ⟨?_, ?_, ?_, ?_, ?_⟩
  · cases dst with
    | none => exact T.size
    | some d => simp [Act.put, T.size]
  · intro t s ht hs
    by_cases htd : dst = some t
    · obtain ⟨_, _, e, sh, h1, h2, h3, _⟩ := hd t htd
      have : app ws Γ (lc t 0) = e := by simp only [app, h1]
      rw [this, h2] at hs
      injection hs with hs
      exact hs ▸ h3
    · rcases app_old (Γ := Γ) (hother t ht htd 0 (by omega)) with ⟨h1, _, _⟩ | h1
      · rw [h1] at hs; exact T.small t s ht hs
      · rw [h1] at hs; cases hs
  · intro t s ht hs hlive
    by_cases htd : dst = some t
    · obtain ⟨hN, _, e, sh, h1, h2, _, h4, _⟩ := hd t htd
      have : app ws Γ (lc t 0) = e := by simp only [app, h1]
      rw [this, h2] at hs
      injection hs with hs
      subst hs
      have e2 : (a.put dst v).tmps.getD t undef = v := by
        subst htd
        simp [Act.put, T.size, hN]
      rw [e2]
      exact h4
    · rcases app_old (Γ := Γ) (hother t ht htd 0 (by omega)) with ⟨h1, h2, h3⟩ | h1
      · rw [h1] at hs
        have hlive0 : live (Γ (lc t 0)) S := by
          intro c b hc
          have := hlive c b (h2 ▸ hc)
          rw [hS c (by rw [hc] at h3; exact h3)] at this
          exact this
        rw [hget t htd, T.tmp t s ht hs hlive0]
        refine asm_congr fun j hj => (hV _ (hother t ht htd j ?_)).symm
        have := T.small t s ht hs
        omega
      · rw [h1] at hs; cases hs
  · intro t c b ht hg hne
    by_cases htd : dst = some t
    · obtain ⟨_, _, e, sh, h1, _, _, _, h5⟩ := hd t htd
      have : app ws Γ (lc t 0) = e := by simp only [app, h1]
      rw [this] at hg
      exact absurd (h5 c b hg) hne
    · rcases app_old (Γ := Γ) (hother t ht htd 0 (by omega)) with ⟨_, h2, h3⟩ | h1
      · rw [h2] at hg
        have hne' : S c ≠ uB b := by
          rw [← hS c (by rw [hg] at h3; exact h3)]
          exact hne
        obtain ⟨u1, u2⟩ := T.und t c b ht hg hne'
        refine ⟨by rw [hget t htd]; exact u1, ?_⟩
        rcases hS2 t ht htd with h | h
        · rw [h]; exact u2
        · exact h
      · rw [h1] at hg; cases hg
  · cases dst with
    | none => exact T.defers
    | some d => exact T.defers
theorem mem_hardB {b : Nat} : ∀ {tags : List LTag} {j0 : Nat} {x : Wr1}, x ∈ hardB b j0 tags → ∃ j e, x = .hard (bc b (j0 + j)) e ∧ e.gd = none ∧ e.sh = none ∧ tags[j]? = some e.tag
  | [], _, x, h => by cases h
  | y :: r, j0, x, h => by
    simp only [hardB, List.mem_cons] at h
    rcases h with h | h
    · exact ⟨0, _, h, rfl, rfl, rfl⟩
    · obtain ⟨j, e, h1, h2, h3, h4⟩ := mem_hardB h
      exact ⟨j + 1, e, by rw [h1]; congr 2; omega, h2, h3, by simpa using h4⟩
theorem hardB_mem (b : Nat) : ∀ (tags : List LTag) (j0 j : Nat) (t : LTag), tags[j]? = some t → Wr1.hard (bc b (j0 + j)) ⟨t, none, none⟩ ∈ hardB b j0 tags
  | [], _, _, _, h => by cases h
  | x :: r, j0, 0, t, h => by simp only [List.getElem?_cons_zero, Option.some.injEq] at h; subst h; exact List.mem_cons_self
  | x :: r, j0, j + 1, t, h => by
    have := hardB_mem b r (j0 + 1) j t (by simpa using h)
    rw [show j0 + (j + 1) = j0 + 1 + j by omega]
    exact List.mem_cons_of_mem _ this
theorem mem_cpB {b : Nat} : ∀ {srcs : List (Option Src)} {j0 : Nat} {p : Nat × Src}, p ∈ cpB b j0 srcs → ∃ j, p.1 = bc b (j0 + j) ∧ srcs[j]? = some (some p.2)
  | [], _, p, h => by cases h
  | some s :: r, j0, p, h => by
    simp only [cpB, List.mem_cons] at h
    rcases h with h | h
    · subst h; exact ⟨0, rfl, rfl⟩
    · obtain ⟨j, h1, h2⟩ := mem_cpB h
      exact ⟨j + 1, by rw [h1]; simp only [bc]; omega, by simpa using h2⟩
  | none :: r, j0, p, h => by
    simp only [cpB] at h
    obtain ⟨j, h1, h2⟩ := mem_cpB h
    exact ⟨j + 1, by rw [h1]; simp only [bc]; omega, by simpa using h2⟩
theorem cpB_mem (b : Nat) : ∀ (srcs : List (Option Src)) (j0 j : Nat) (s : Src), srcs[j]? = some (some s) → (bc b (j0 + j), s) ∈ cpB b j0 srcs
  | [], _, _, _, h => by cases h
  | x :: r, j0, 0, s, h => by
    simp only [List.getElem?_cons_zero, Option.some.injEq] at h
    subst h
    exact List.mem_cons_self
  | x :: r, j0, j + 1, s, h => by
    have := cpB_mem b r (j0 + 1) j s (by simpa using h)
    rw [show j0 + (j + 1) = j0 + 1 + j by omega]
    cases x with
    | none => exact this
    | some y => exact List.mem_cons_of_mem _ this
theorem cpB_nodup (b : Nat) : ∀ (srcs : List (Option Src)) (j0 : Nat), ((cpB b j0 srcs).map fun p => p.1).Nodup
  | [], _ => List.nodup_nil
  | none :: r, j0 => cpB_nodup b r (j0 + 1)
  | some s :: r, j0 => by
    simp only [cpB, List.map_cons, List.nodup_cons]
    refine ⟨?_, cpB_nodup b r (j0 + 1)⟩
    intro h
    simp only [List.mem_map] at h
    obtain ⟨p, hp, he⟩ := h
    obtain ⟨j, h1, _⟩ := mem_cpB hp
    rw [h1] at he
    simp only [bc] at he
    omega
theorem isHard_mem {ws : List Wr1} {l : Nat} (h : isHard ws l = true) : ∃ e, Wr1.hard l e ∈ ws := by
  obtain ⟨e, he⟩ := Option.isSome_iff_exists.1 h
  exact ⟨e, hfind_some he⟩
end Go.Proofs.Fw
set_option linter.unusedVariables false
set_option linter.unusedSimpArgs false
namespace Go.Proofs.Fw
variable {P : Program} {Γ : SEnv} {S : PSt} {G : Gh} {w : World} {N : Nat} {a : Act} {gd : Option (Nat × Bool)} {gs : List (Nat × Bool)} {o : Oper} {bs : List (Nat × Nat)} {d : Nat} {sem : CSem} {us : List (Nat × Univ)}
theorem HRel.mod2 (R : HRel Γ S G w) {ws : List Wr1} {S' : PSt} {G' : Gh} {w' : World} {ρ : Nat → Option Owner} (b0 : Nat)
    (hV : ∀ l, isHard ws l = false → G'.V l = G.V l) (hS : ∀ l, isDom ws l = false → S' l = S l)
    (hB : ∀ b, isHard ws (bm b) = false → G'.B b = G.B b)
    (hh : ∀ b, b < w.heap.size → b ≠ b0 → w'.heap[b]? = w.heap[b]? ∧ G'.Ow b = ren ρ (G.Ow b))
    (hρ : ∀ m o, ρ m = some o → isDom ws m = true)
    (hi : G.Ow b0 ≠ .imm) (hr : G.Ow b0 ≠ .rd) (ho : ∀ m, G.Ow b0 = .loc m → isDom ws m = true)
    (hbx : ∀ c n, G.Ow b0 = .box c → (Γ (bm c)).sh = some (.bx n) → isHard ws (bm c) = false → (G.B c).1 = b0 → G'.Ow b0 = .box c ∧
      ∀ j, j < n → w'.cell? ⟨b0, (G.B c).2 + j, none⟩ = some (G'.V (bc c j)) ∧ w'.frozen? ⟨b0, (G.B c).2 + j, none⟩ = false)
    (hbc : ∀ b n j, (Γ (bm b)).sh = some (.bx n) → isHard ws (bm b) = false → (G.B b).1 ≠ b0 → j < n → G'.V (bc b j) = G.V (bc b j))
    (hhard : ∀ l e, Wr1.hard l e ∈ ws → live e S' → LOk w' G' S' l e.tag)
    (hhbox : ∀ b e n, Wr1.hard (bm b) e ∈ ws → e.sh = some (.bx n) → G'.Ow (G'.B b).1 = .box b ∧
      ∀ j, j < n → w'.cell? ⟨(G'.B b).1, (G'.B b).2 + j, none⟩ = some (G'.V (bc b j)) ∧ w'.frozen? ⟨(G'.B b).1, (G'.B b).2 + j, none⟩ = false)
    (hsm : ∀ b e n, Wr1.hard (bm b) e ∈ ws → e.sh = some (.bx n) → n ≤ 64 ∧ b < 2000)
    (hsoft : ∀ l t, Wr1.soft l t ∈ ws → live (Γ l) S → LOk w' G' S' l t)
    (hnew : ∀ k, w'.heap.size ≤ k → G'.Ow k = .foreign) : HRel (app ws Γ) S' G' w' := by
  have hlt : ∀ b, G.Ow b ≠ .foreign → b < w.heap.size := by
    intro b hb
    apply Nat.lt_of_not_le
    intro h
    exact hb (R.new b h)
  have still : Still w G.Ow w' G'.Ow := by
    intro b hb
    obtain ⟨h1, h2⟩ := hh b (hlt b (by rw [hb]; intro h; cases h)) (fun e => hi (e ▸ hb))
    exact ⟨h1, by rw [h2, hb]; rfl⟩
  refine HRel.step R hV hS hB still ?_ ?_ ?_ hhard hhbox hsoft hnew hsm
  · intro b hb
    obtain ⟨h1, h2⟩ := hh b (hlt b (by rw [hb]; intro h; cases h)) (fun e => hr (e ▸ hb))
    exact ⟨h1, by rw [h2, hb]; rfl⟩
  · intro l hl b hb
    obtain ⟨h1, h2⟩ := hh b (hlt b (by rw [hb]; intro h; cases h)) (fun e => by subst e; rw [ho l hb] at hl; cases hl)
    refine ⟨h1, ?_⟩
    rw [h2, hb]
    simp only [ren]
    cases hρl : ρ l with
    | none => rfl
    | some x => rw [hρ l x hρl] at hl; cases hl
  · intro b n hb hhb
    obtain ⟨h1, h2⟩ := R.box b n hb
    by_cases he : (G.B b).1 = b0
    · rw [he] at h1 ⊢
      exact hbx b n h1 hb hhb he
    · obtain ⟨h3, h4⟩ := hh (G.B b).1 (hlt _ (by rw [h1]; intro h; cases h)) he
      refine ⟨by rw [h4, h1]; rfl, fun j hj => ?_⟩
      rw [cell?_eq_of_heap h3, frozen?_eq_of_heap h3, hbc b n j hb hhb he hj]
      exact h2 j hj
theorem HRel.mod (R : HRel Γ S G w) {ws : List Wr1} {S' : PSt} {G' : Gh} {w' : World} {ρ : Nat → Option Owner} (b0 : Nat)
    (hV : ∀ l, isHard ws l = false → G'.V l = G.V l) (hS : ∀ l, isDom ws l = false → S' l = S l)
    (hB : ∀ b, isHard ws (bm b) = false → G'.B b = G.B b)
    (hh : ∀ b, b < w.heap.size → b ≠ b0 → w'.heap[b]? = w.heap[b]? ∧ G'.Ow b = ren ρ (G.Ow b))
    (hρ : ∀ m o, ρ m = some o → isDom ws m = true)
    (hi : G.Ow b0 ≠ .imm) (hr : G.Ow b0 ≠ .rd) (ho : ∀ m, G.Ow b0 = .loc m → isDom ws m = true)
    (hbx : ∀ c n, G.Ow b0 = .box c → (Γ (bm c)).sh = some (.bx n) → isHard ws (bm c) = false → (G.B c).1 = b0 → G'.Ow b0 = .box c ∧
      ∀ j, j < n → w'.cell? ⟨b0, (G.B c).2 + j, none⟩ = some (G'.V (bc c j)) ∧ w'.frozen? ⟨b0, (G.B c).2 + j, none⟩ = false)
    (hbc : ∀ b n j, (Γ (bm b)).sh = some (.bx n) → isHard ws (bm b) = false → (G.B b).1 ≠ b0 → j < n → isHard ws (bc b j) = false)
    (hhard : ∀ l e, Wr1.hard l e ∈ ws → live e S' → LOk w' G' S' l e.tag)
    (hhbox : ∀ b e n, Wr1.hard (bm b) e ∈ ws → e.sh = some (.bx n) → G'.Ow (G'.B b).1 = .box b ∧
      ∀ j, j < n → w'.cell? ⟨(G'.B b).1, (G'.B b).2 + j, none⟩ = some (G'.V (bc b j)) ∧ w'.frozen? ⟨(G'.B b).1, (G'.B b).2 + j, none⟩ = false)
    (hsm : ∀ b e n, Wr1.hard (bm b) e ∈ ws → e.sh = some (.bx n) → n ≤ 64 ∧ b < 2000)
    (hsoft : ∀ l t, Wr1.soft l t ∈ ws → live (Γ l) S → LOk w' G' S' l t)
    (hnew : ∀ k, w'.heap.size ≤ k → G'.Ow k = .foreign) : HRel (app ws Γ) S' G' w' :=
  HRel.mod2 R b0 hV hS hB hh hρ hi hr ho hbx (fun b n j h1 h2 h3 h4 => hV _ (hbc b n j h1 h2 h3 h4)) hhard hhbox hsm hsoft hnew
def BsOk (Np : Nat) (bs : List (Nat × Nat)) (Γ : SEnv) : Prop := ∀ p ∈ bs, okVar Np p.1 = false ∧ p.1 < 2000 ∧ ∀ n, (Γ (bm p.1)).sh = some (.bx n) → n ≤ p.2
theorem varsOk_spec {Np : Nat} : ∀ {ws : List Wr1}, varsOk Np ws = true → ∀ {l : Nat} {e : GC}, Wr1.hard l e ∈ ws → (l < 384000 ∨ okVar Np (l / 64 - 6000) = true) ∧ ∀ n, e.sh = some (.bx n) → n ≤ 64
  | [], _, l, e, h => by cases h
  | .soft _ _ :: r, hh, l, e, h => by
    rcases List.mem_cons.1 h with h | h
    · cases h
    · exact varsOk_spec (ws := r) hh h
  | .hard m e' :: r, hh, l, e, h => by
    simp only [varsOk, Bool.and_eq_true, Bool.or_eq_true] at hh
    rcases List.mem_cons.1 h with h | h
    · injection h with h1 h2
      subst h1 h2
      refine ⟨hh.1.1.imp blt_lt id, fun n hn => ?_⟩
      have := hh.1.2
      rw [hn] at this
      exact Nat.le_of_ble_eq_true this
    · exact varsOk_spec (ws := r) hh.2 h
theorem okVar_bm {Np b : Nat} (h : okVar Np (bm b / 64 - 6000) = true) : okVar Np b = true := by
  have : bm b / 64 - 6000 = b := by
    show 64 * (b + 6000) / 64 - 6000 = b
    rw [Nat.mul_comm, Nat.mul_div_cancel _ (by omega : 0 < 64)]
    omega
  rw [this] at h
  exact h
theorem varsOk_bm {Np b : Nat} {ws : List Wr1} (hv : varsOk Np ws = true) (h : isHard ws (bm b) = true) : okVar Np b = true := by
  obtain ⟨e, he⟩ := isHard_mem h
  rcases (varsOk_spec hv he).1 with h1 | h1
  · simp only [bm] at h1; omega
  · exact okVar_bm h1
theorem okVar_lt {Np b : Nat} (h : okVar Np b = true) : b < 2000 := by
  simp only [okVar, Bool.and_eq_true] at h
  exact blt_lt h.1.2
theorem BsOk.step {Np : Nat} {ws : List Wr1} (h : BsOk Np bs Γ) (hv : varsOk Np ws = true) : BsOk Np bs (app ws Γ) := by
  intro p hp
  obtain ⟨h1, h2, h3⟩ := h p hp
  refine ⟨h1, h2, fun n hn => ?_⟩
  have hh : isHard ws (bm p.1) = false := by
    cases e : isHard ws (bm p.1) with
    | false => rfl
    | true => rw [varsOk_bm hv e] at h1; cases h1
  rcases app_old (Γ := Γ) hh with ⟨h4, _⟩ | h4
  · exact h3 n (h4 ▸ hn)
  · rw [h4] at hn; cases hn
theorem Fr.mod (R : HRel Γ S G w) {Np : Nat} (hb : BsOk Np bs Γ) {ws : List Wr1} {G' : Gh} {w' : World} {ρ : Nat → Option Owner} {dst : Option Nat} (b0 : Nat) (hin : hardsIn dst ws = true) (hd : ∀ d, dst = some d → d < 2000) (hvo : varsOk Np ws = true)
    (hV : ∀ l, isHard ws l = false → G'.V l = G.V l)
    (hB : ∀ b, isHard ws (bm b) = false → G'.B b = G.B b)
    (hh : ∀ b, b < w.heap.size → b ≠ b0 → w'.heap[b]? = w.heap[b]? ∧ G'.Ow b = ren ρ (G.Ow b))
    (hos : w'.os = w.os) (htape : w'.tape = w.tape) (hout : w'.output = w.output) (hsize : w.heap.size ≤ w'.heap.size)
    (hi : G.Ow b0 ≠ .imm) (hr : G.Ow b0 ≠ .rd) (hf : b0 < w.heap.size → G.Ow b0 ≠ .foreign)
    (hbx : ∀ p ∈ bs, (G.B p.1).1 = b0 → G.Ow b0 = .box p.1 → G'.Ow b0 = .box p.1 ∧
      (∀ o, o < (G.B p.1).2 ∨ (G.B p.1).2 + p.2 ≤ o → w'.cell? ⟨b0, o, none⟩ = w.cell? ⟨b0, o, none⟩) ∧ ∀ o, w'.frozen? ⟨b0, o, none⟩ = w.frozen? ⟨b0, o, none⟩) : Fr bs G w G' w' := by
  refine ⟨hos, htape, hout, hsize, ?_, ?_, ?_⟩
  · intro b hb ho
    have hne : b ≠ b0 := by
      rintro rfl
      rcases ho with ho | ho | ho
      · exact hi ho
      · exact hr ho
      · exact hf hb ho
    obtain ⟨h1, h2⟩ := hh b hb hne
    refine ⟨h1, ?_⟩
    rw [h2]
    rcases ho with ho | ho | ho <;> rw [ho] <;> rfl
  · intro l h1 h2
    refine hV l ?_
    cases h : isHard ws l with
    | false => rfl
    | true =>
      rcases hardsIn_spec hin h with h3 | ⟨d, h3, h4, h5⟩
      · omega
      · have := hd d h3
        omega
  · intro p hp
    obtain ⟨h1, h2, h3⟩ := hb p hp
    have hhp : isHard ws (bm p.1) = false := by
      cases e : isHard ws (bm p.1) with
      | false => rfl
      | true => rw [varsOk_bm hvo e] at h1; cases h1
    refine ⟨hB _ hhp, fun hbox => ?_⟩
    by_cases he : (G.B p.1).1 = b0
    · rw [he] at hbox ⊢
      exact hbx p hp he hbox
    · have hlt : (G.B p.1).1 < w.heap.size := by
        apply Nat.lt_of_not_le
        intro h
        rw [R.new _ h] at hbox
        cases hbox
      obtain ⟨h4, h5⟩ := hh _ hlt he
      exact ⟨by rw [h5, hbox]; rfl, fun o _ => cell?_eq_of_heap h4 o, fun o => frozen?_eq_of_heap h4 o⟩
theorem softsOk_spec {ws : List Wr1} (h : softsOk ws = true) : (∀ l t, Wr1.soft l t ∈ ws → isHard ws l = false ∧ sfind ws l = some t) := by
  simp only [softsOk, Bool.and_eq_true, List.all_eq_true, Bool.not_eq_true'] at h
  intro l t hl
  exact ⟨h.1 l (softLocs_mem hl), sfind_of_mem (nodupN_nodup h.2) hl⟩
theorem alloc_heap (w : World) (o : Obj) (b : Nat) (h : b < w.heap.size) : (w.alloc o).heap[b]? = w.heap[b]? := by
  show (w.heap.push o)[b]? = _
  rw [Array.getElem?_push, if_neg (Nat.ne_of_lt h)]
end Go.Proofs.Fw
set_option linter.unusedVariables false
set_option linter.unusedSimpArgs false
namespace Go.Proofs.Fw
variable {P : Program} {Γ : SEnv} {S : PSt} {G : Gh} {w : World} {N : Nat} {a : Act} {gd : Option (Nat × Bool)} {gs : List (Nat × Bool)} {o : Oper} {bs : List (Nat × Nat)} {d : Nat} {sem : CSem} {us : List (Nat × Univ)} {Np : Nat}
theorem mvLeaf_soft {dl : Nat} {x : LS} {t : LTag} {src : Option Src} {sf : List Wr1} (h : (mvLeaf gs dl x).run Γ = some (t, src, sf)) : ∀ l e, Wr1.hard l e ∉ sf := by
  cases x with
  | con v u' t' =>
    simp only [mvLeaf, Rd.run, Option.some.injEq, Prod.mk.injEq] at h
    obtain ⟨_, _, rfl⟩ := h
    simp
  | loc l =>
    simp only [mvLeaf] at h
    obtain ⟨⟨m, tg⟩, h1, h2⟩ := Rd.run_bind h
    cases tg with
    | al x => cases h2
    | own =>
      simp only [Rd.run, Option.some.injEq, Prod.mk.injEq] at h2
      obtain ⟨_, _, rfl⟩ := h2
      intro l e hm
      split at hm <;> simp at hm
    | _ =>
      simp only [Rd.run, Option.some.injEq, Prod.mk.injEq] at h2
      obtain ⟨_, _, rfl⟩ := h2
      simp
theorem mvAll_soft {loc : Nat → Nat} {j0 : Nat} {ls : List LS} {ys : List (LTag × Option Src × List Wr1)} (h : (mvAll gs loc j0 ls).run Γ = some ys) : ∀ l e, Wr1.hard l e ∉ ys.flatMap fun y => y.2.2 := by
  intro l e hm
  obtain ⟨y, hy, hmy⟩ := List.mem_flatMap.1 hm
  obtain ⟨j, hj⟩ := List.getElem?_of_mem hy
  obtain ⟨h1, h2⟩ := mvAll_run h
  have hjl : j < ls.length := by have := (List.getElem?_eq_some_iff.1 hj).1; omega
  obtain ⟨y', hy', hr⟩ := h2 j _ (List.getElem?_eq_getElem hjl)
  rw [hj] at hy'
  injection hy' with hy'
  subst hy'
  exact mvLeaf_soft hr l e hmy
theorem rhoOf_isDom {ws : List Wr1} (hso : softsOk ws = true) {m : Nat} {o' : Owner} (h : rhoOf ws m = some o') : isDom ws m = true := by
  obtain ⟨t, ht⟩ := rhoOf_dom h
  have := (softsOk_spec hso m t ht).2
  simp only [isDom, this, Option.isSome_some, Bool.or_true]
theorem op_newvar (p : Pre Γ S G w N a none gs) (hb : BsOk Np bs Γ) (hd : o.dst = some d) {ls : List LS} {ys : List (LTag × Option Src × List Wr1)} {T : TypeId}
    (hx : (execOp a.eval o).run P w = .ok (.value (.pointer (some ⟨w.heap.size, 0, none⟩))) (w.alloc (.cells (ls.map (lsV G)).toArray T)))
    (hls : ∀ y ∈ ls, lsOk y) (hm : (mvAll gs (bc d) 0 ls).run Γ = some ys) (hal : (ys.all fun y => decide (y.1 ≠ .dead) && !(y.1.refs.contains (bm d))) = true) {ws : List Wr1}
    (hws : ws = .hard (bm d) ⟨.dead, some (.bx ls.length), none⟩ :: hardT d (.one .leaf) none [.ptr d 0] ++ hardB d 0 (ys.map fun y => y.1) ++ ys.flatMap fun y => y.2.2)
    (hok : effOk N none (some d) ⟨.cp (cpB d 0 (ys.map fun y => y.2.1)), ws⟩ = true) (hso : softsOk ws = true) (hvo : varsOk Np ws = true)
    (hus : (POp.cp (cpB d 0 (ys.map fun y => y.2.1))).eval sem S = some us) : Outc P o a w bs (app ws Γ) (upds S us) N G := by
  injection hus with hus
  simp only [effOk, Bool.and_eq_true] at hok
  obtain ⟨⟨⟨_, hin⟩, _⟩, ⟨⟨hdN, hd2⟩, _⟩, hrefs⟩ := hok
  have hdN := blt_lt hdN
  have hd2 := blt_lt hd2
  obtain ⟨hylen, hyrun⟩ := mvAll_run hm
  have hsoft0 := mvAll_soft hm
  have hmem : ∀ x ∈ ws, x = .hard (bm d) ⟨.dead, some (.bx ls.length), none⟩ ∨ x = .hard (lc d 0) ⟨.ptr d 0, some (.one .leaf), none⟩ ∨ x ∈ hardB d 0 (ys.map fun y => y.1) ∨ x ∈ ys.flatMap fun y => y.2.2 := by
    intro x hx
    rw [hws] at hx
    rcases List.mem_append.1 hx with hx | hx
    · rcases List.mem_append.1 hx with hx | hx
      · rcases List.mem_cons.1 hx with hx | hx
        · exact .inl hx
        · exact .inr (.inl (by simpa [hardT, hardAt] using hx))
      · exact .inr (.inr (.inl hx))
    · exact .inr (.inr (.inr hx))
  have hbmin : Wr1.hard (bm d) ⟨.dead, some (.bx ls.length), none⟩ ∈ ws := by rw [hws]; simp
  have hn64 : ls.length ≤ 64 := (varsOk_spec hvo hbmin).2 _ rfl
  have hbmh : isHard ws (bm d) = true := hfind_isSome hbmin
  have hlch : isHard ws (lc d 0) = true := hfind_isSome (e := ⟨.ptr d 0, some (.one .leaf), none⟩) (by rw [hws]; simp [hardT])
  have hbch : ∀ j, j < ls.length → isHard ws (bc d j) = true := by
    intro j hj
    have h1 := hardB_mem d (ys.map fun y => y.1) 0 j _ (List.getElem?_eq_getElem (by simp [hylen]; exact hj))
    rw [Nat.zero_add] at h1
    exact hfind_isSome (hws ▸ List.mem_append_left _ (List.mem_append_right _ h1))
  have hcase : ∀ l, isHard ws l = true → l = bm d ∨ l = lc d 0 ∨ ∃ j, j < ls.length ∧ l = bc d j := by
    intro l hl
    obtain ⟨e, he⟩ := isHard_mem hl
    rcases hmem _ he with h | h | h | h
    · injection h with h _; exact .inl h
    · injection h with h _; exact .inr (.inl h)
    · obtain ⟨j, e', h1, _, _, h4⟩ := mem_hardB h
      injection h1 with h1 _
      exact .inr (.inr ⟨j, by have := (List.getElem?_eq_some_iff.1 h4).1; simpa [hylen] using this, by rw [h1, Nat.zero_add]⟩)
    · exact absurd h (hsoft0 _ _)
  have hsf2 : ∀ m t, Wr1.soft m t ∈ ws → Wr1.soft m t ∈ ys.flatMap fun y => y.2.2 := by
    intro m t h
    rcases hmem _ h with h | h | h | h
    · cases h
    · cases h
    · obtain ⟨j, e', h1, _⟩ := mem_hardB h; cases h1
    · exact h
  obtain ⟨_, h2, h3⟩ := mvAll_ok p.R p.gs (by intro i j h; simp only [bc] at h; omega) hm hls (ws := ws) (fun x hx => hws ▸ List.mem_append_right _ hx) hsf2 hso (by simpa using hbch)
  let G' : Gh := { V := fun l => if isHard ws l = true then (if l = lc d 0 then .pointer (some ⟨w.heap.size, 0, none⟩) else ((ls[l - bc d 0]?).map (lsV G)).getD undef) else G.V l
                   Ow := fun b => if b = w.heap.size then .box d else ren (rhoOf ws) (G.Ow b)
                   B := fun b => if b = d then (w.heap.size, 0) else G.B b }
  have hV : ∀ l, isHard ws l = false → G'.V l = G.V l := by
    intro l hl
    show (if isHard ws l = true then _ else _) = _
    rw [if_neg (by rw [hl]; simp)]
  have hVlc : G'.V (lc d 0) = .pointer (some ⟨w.heap.size, 0, none⟩) := by
    show (if isHard ws (lc d 0) = true then _ else _) = _
    rw [if_pos hlch, if_pos rfl]
  have hVbc : ∀ j, j < ls.length → G'.V (bc d j) = ((ls[j]?).map (lsV G)).getD undef := by
    intro j hj
    show (if isHard ws (bc d j) = true then _ else _) = _
    rw [if_pos (hbch j hj), if_neg (by simp only [bc, lc]; omega)]
    have : bc d j - bc d 0 = j := by simp only [bc]; omega
    rw [this]
  have hSus : ∀ l, (∀ j, j < ls.length → l ≠ bc d j) → upds S us l = S l := by
    intro l hl
    apply upds_not
    subst hus
    intro hm'
    simp only [List.map_map, List.mem_map] at hm'
    obtain ⟨q, hq, rfl⟩ := hm'
    obtain ⟨j, h5, h6⟩ := mem_cpB hq
    have hj : j < ls.length := by have := (List.getElem?_eq_some_iff.1 h6).1; simpa [hylen] using this
    exact hl j hj (by simp only [Function.comp, h5, Nat.zero_add])
  have hS : ∀ l, isDom ws l = false → upds S us l = S l := by
    intro l hl
    refine hSus l fun j hj e => ?_
    subst e
    simp only [isDom, hbch j hj, Bool.true_or] at hl
    cases hl
  have hB : ∀ b, isHard ws (bm b) = false → G'.B b = G.B b := by
    intro b hl
    show (if b = d then _ else _) = _
    rw [if_neg (fun e => by subst e; rw [hbmh] at hl; cases hl)]
  have hh : ∀ b, b < w.heap.size → b ≠ w.heap.size → (w.alloc (.cells (ls.map (lsV G)).toArray T)).heap[b]? = w.heap[b]? ∧ G'.Ow b = ren (rhoOf ws) (G.Ow b) := by
    intro b hb hne
    refine ⟨alloc_heap _ _ _ hb, ?_⟩
    show (if b = w.heap.size then _ else _) = _
    rw [if_neg hne]
  have hof : G.Ow w.heap.size = .foreign := p.R.new _ (Nat.le_refl _)
  have hsmz : (w.alloc (.cells (ls.map (lsV G)).toArray T)).heap.size = w.heap.size + 1 := World.size_alloc _ _
  have hnoref : ∀ (j : Nat) (y : LTag × Option Src × List Wr1), ys[j]? = some y → ∀ m ∈ y.1.refs, G'.V m = G.V m ∧ ∀ b, m = bm b → G'.B b = G.B b := by
    intro j y hy m hmr
    have hne : m ≠ bm d := by
      have := List.all_eq_true.1 hal y (List.mem_of_getElem? hy)
      simp only [Bool.and_eq_true, Bool.not_eq_true'] at this
      intro e
      subst e
      have h := this.2
      rw [List.contains_iff_mem.2 hmr] at h
      cases h
    have hnh : isHard ws m = false := by
      cases h : isHard ws m with
      | false => rfl
      | true =>
        have h1 := hardB_mem d (ys.map fun y => y.1) 0 j y.1 (by simp [hy])
        exact absurd (refsOk_spec hrefs (hws ▸ List.mem_append_left _ (List.mem_append_right _ h1)) m hmr h) hne
    exact ⟨hV m hnh, fun b hb => hB b (hb ▸ hnh)⟩
  have still : Still w G.Ow (w.alloc (.cells (ls.map (lsV G)).toArray T)) G'.Ow := by
    intro b hb
    have hlt : b < w.heap.size := by
      apply Nat.lt_of_not_le
      intro h
      rw [p.R.new b h] at hb
      cases hb
    obtain ⟨h5, h6⟩ := hh b hlt (Nat.ne_of_lt hlt)
    exact ⟨h5, by rw [h6, hb]; rfl⟩
  have hown : ∀ b x, G.Ow b = x → x ≠ .foreign → (w.alloc (.cells (ls.map (lsV G)).toArray T)).heap[b]? = w.heap[b]? ∧ G'.Ow b = ren (rhoOf ws) x := by
    intro b x hb hx
    have hlt : b < w.heap.size := by
      apply Nat.lt_of_not_le
      intro h
      rw [p.R.new b h] at hb
      exact hx hb.symm
    obtain ⟨h5, h6⟩ := hh b hlt (Nat.ne_of_lt hlt)
    exact ⟨h5, by rw [h6, hb]⟩
  have hR : HRel (app ws Γ) (upds S us) G' (w.alloc (.cells (ls.map (lsV G)).toArray T)) := by
    refine HRel.mod (ρ := rhoOf ws) p.R w.heap.size hV hS hB hh (fun m o' h => rhoOf_isDom hso h) (by rw [hof]; simp) (by rw [hof]; simp) (by rw [hof]; simp) (by rw [hof]; simp) ?_ ?_ ?_ ?_ ?_ ?_
    · intro b n j hbs hnh _ hj
      cases h : isHard ws (bc b j) with
      | false => rfl
      | true =>
        exfalso
        obtain ⟨hn', hb'⟩ := p.R.bsm b n hbs
        rcases hcase _ h with h | h | ⟨j', hj', h⟩
        · simp only [bc, bm] at h; omega
        · simp only [bc, lc] at h; omega
        · simp only [bc] at h
          have : b = d := by omega
          subst this
          rw [hbmh] at hnh
          cases hnh
    · intro l e he hlive
      rcases hmem _ he with h | h | h | h
      · injection h with h1 h2'; subst h2'; trivial
      · injection h with h1 h2'
        subst h1 h2'
        show G'.V (lc d 0) = .pointer (some ⟨(G'.B d).1, (G'.B d).2 + 0, none⟩)
        rw [hVlc]
        show _ = Value.pointer (some ⟨(if d = d then (w.heap.size, 0) else G.B d).1, (if d = d then (w.heap.size, 0) else G.B d).2 + 0, none⟩)
        rw [if_pos rfl]
      · obtain ⟨j, e', h1, _, _, h4⟩ := mem_hardB h
        injection h1 with h1 h5
        subst h1 h5
        rw [Nat.zero_add]
        have hj : j < ls.length := by have := (List.getElem?_eq_some_iff.1 h4).1; simpa [hylen] using this
        have hj2 : j < ys.length := by omega
        simp only [List.getElem?_map, List.getElem?_eq_getElem hj2, Option.map_some, Option.some.injEq] at h4
        obtain ⟨h6, h7⟩ := h2 j _ _ (List.getElem?_eq_getElem hj) (List.getElem?_eq_getElem hj2)
        rw [Nat.zero_add] at h6
        rw [← h4]
        refine MV.lok (h6 (upds S us (bc d j)) ?_) ?_ rfl (hnoref j _ (List.getElem?_eq_getElem hj2)) still (fun b hb => ?_) (fun b m hb => hown b _ hb (by simp))
        · intro s' hs'
          subst hus
          have hmem' := cpB_mem d (ys.map fun y => y.2.1) 0 j s' (by simp [List.getElem?_eq_getElem hj2, hs'])
          rw [Nat.zero_add] at hmem'
          refine upds_mem ?_ (List.mem_map.2 ⟨_, hmem', rfl⟩)
          rw [List.map_map]
          exact cpB_nodup d _ 0
        · rw [hVbc j hj, List.getElem?_eq_getElem hj]; rfl
        · obtain ⟨h8, h9⟩ := hown b _ hb (by simp)
          exact ⟨h8, h9⟩
      · exact absurd h (hsoft0 _ _)
    · intro b e n he hes
      have hbd : b = d ∧ n = ls.length := by
        rcases hmem _ he with h | h | h | h
        · injection h with h1 h2'
          subst h2'
          simp only [Option.some.injEq, Shape.bx.injEq] at hes
          exact ⟨bm_inj h1, hes.symm⟩
        · injection h with h1 h2'; subst h2'; cases hes
        · obtain ⟨j, e', h1, _, h3', _⟩ := mem_hardB h
          injection h1 with h1 h2'
          subst h2'
          rw [h3'] at hes; cases hes
        · exact absurd h (hsoft0 _ _)
      obtain ⟨rfl, rfl⟩ := hbd
      have hBd : G'.B b = (w.heap.size, 0) := if_pos rfl
      rw [hBd]
      refine ⟨if_pos rfl, fun j hj => ?_⟩
      rw [hVbc j hj]
      simp only [Nat.zero_add]
      rw [World.cell?_alloc_new, World.frozen?_alloc_new]
      simp [List.getElem?_eq_getElem hj]
    · intro b e n he hes
      refine ⟨(varsOk_spec hvo he).2 n hes, ?_⟩
      exact okVar_lt (varsOk_bm hvo (hfind_isSome he))
    · intro l t ht _
      obtain ⟨j, x', hx', rfl, hv⟩ := h3 l t ht
      have hj : j < ls.length := (List.getElem?_eq_some_iff.1 hx').1
      rw [Nat.zero_add]
      show G'.V l = G'.V (bc d j)
      rw [hVbc j hj, hx', hV l (softsOk_spec hso l _ ht).1]
      exact hv.symm
    · intro k hk
      rw [hsmz] at hk
      show (if k = w.heap.size then _ else _) = _
      rw [if_neg (by omega), p.R.new k (by omega)]
      rfl
  refine ⟨_, _, G', .inl hx, hR, ?_, ?_⟩
  · rw [hd]
    refine TRel.step p.T hin hV hS ?_ ?_
    · intro t ht htd
      left
      exact hSus _ fun j hj e => by simp only [lc, bc] at e; omega
    · rintro d' hd'
      injection hd' with hd'
      subst hd'
      refine ⟨hdN, hd2, ⟨.ptr d 0, some (.one .leaf), none⟩, .one .leaf, ?_, rfl, by simp [Shape.size, Sh1.size], hVlc.symm, by intro c b h; cases h⟩
      rw [hws]
      have hne : (bm d == lc d 0) = false := by
        rw [beq_eq_false_iff_ne]
        simp only [bm, lc]
        omega
      simp only [hardT, List.cons_append, hfind, hne]
      simp
  · exact Fr.mod (ρ := rhoOf ws) p.R hb w.heap.size hin (fun d' hd' => by injection hd' with hd'; omega) hvo hV hB hh rfl rfl rfl (by rw [hsmz]; omega) (by rw [hof]; simp) (by rw [hof]; simp) (fun h => absurd h (Nat.lt_irrefl _)) (fun p' _ _ h => by rw [hof] at h; cases h)
end Go.Proofs.Fw
set_option linter.unusedVariables false
set_option linter.unusedSimpArgs false
namespace Go.Proofs.Fw
variable {P : Program} {Γ : SEnv} {S : PSt} {G : Gh} {w : World} {N : Nat} {a : Act} {gd : Option (Nat × Bool)} {gs : List (Nat × Bool)} {o : Oper} {bs : List (Nat × Nat)} {d : Nat} {sem : CSem} {us : List (Nat × Univ)} {Np : Nat}
theorem Rep.one {Ow : Nat → Owner} {v : Value} {u : Univ} (h : Rep w Ow v u) : v.oneCell' = true := by cases h <;> rfl
theorem SlV.one {q : Nat → Prop} {Ow : Nat → Owner} {v : Value} {t : Ty} {xs : List t.T} (h : SlV q w Ow v t xs) : v.oneCell' = true := by
  rcases h with ⟨_, A, c, rfl⟩ | ⟨ad, c, rfl, _⟩ <;> rfl
theorem AnyV.one {Ow : Nat → Owner} {v : Value} {u : Univ} (h : AnyV w Ow v u) : v.oneCell' = true := by
  obtain ⟨t, x⟩ := u
  cases t with
  | sl t => exact SlV.one (q := fun _ => True) h
  | _ => exact Rep.one h
theorem LOk.one {l : Nat} {t : LTag} (h : LOk w G S l t) (h1 : t ≠ .dead) (h2 : ∀ m, t ≠ .al m) : (G.V l).oneCell' = true := by
  cases t with
  | dead => exact absurd rfl h1
  | al m => exact absurd rfl (h2 m)
  | rd => exact (RdV.any h).one
  | val => exact Rep.one h
  | own => obtain ⟨t, xs, _, h⟩ := h; exact h.any.one
  | ptr b off => have h : G.V l = _ := h; rw [h]; rfl
  | ep m off t => obtain ⟨ad, n, c, i, _, _, _, _, _, h⟩ := h; rw [h]; rfl
  | clo f caps => have h : G.V l = _ := h; rw [h]; rfl
theorem mvLeaf_one (R : HRel Γ S G w) (hg : GHs gs S) {dl : Nat} {x : LS} (hl : lsOk x) {t : LTag} {src : Option Src} {sf : List Wr1} (h : (mvLeaf gs dl x).run Γ = some (t, src, sf)) (ht : t ≠ .dead) : (lsV G x).oneCell' = true := by
  cases x with
  | con v u' t' =>
    simp only [mvLeaf, Rd.run, Option.some.injEq, Prod.mk.injEq] at h
    obtain ⟨rfl, _, _⟩ := h
    show v.oneCell' = true
    have hl : ConOk v u' t' := hl
    cases t' with
    | val => exact Rep.one (hl w G.Ow)
    | own => rw [hl.1]; rfl
    | clo f caps => rw [hl.2]; rfl
    | dead => exact absurd rfl ht
    | _ => exact hl.elim
  | loc l =>
    simp only [mvLeaf] at h
    obtain ⟨⟨m, tg⟩, h1, h2⟩ := Rd.run_bind h
    obtain ⟨hV, _, _, hL, hna, _⟩ := res_ok R hg h1
    show (G.V l).oneCell' = true
    rw [hV]
    cases tg with
    | al x => cases h2
    | own => exact hL.one (by simp) (by simp)
    | dead =>
      simp only [Rd.run, Option.some.injEq, Prod.mk.injEq] at h2
      exact absurd h2.1.symm ht
    | _ => exact hL.one (by simp) (by simp)
theorem cells_of_one {v : Value} (h : v.oneCell' = true) : v.cells = #[v] := by
  cases v <;> first | rfl | cases h
theorem asm1_cells {s : Sh1} {ls : List LS} (hlen : ls.length = s.size) (h1 : ∀ x ∈ ls, (lsV G x).oneCell' = true) :
    (asm1 s (fun j => ((ls[j]?).map (lsV G)).getD undef)).cells = (ls.map (lsV G)).toArray := by
  cases s with
  | leaf =>
    simp only [Sh1.size] at hlen
    match ls, hlen with
    | [x], _ =>
      simp only [asm1, List.getElem?_cons_zero, Option.map_some, Option.getD_some]
      rw [cells_of_one (h1 x (List.mem_singleton.2 rfl))]
      rfl
  | agg n =>
    simp only [Sh1.size] at hlen
    simp only [asm1, Value.cells]
    congr 1
    apply List.ext_getElem
    · simp [hlen]
    · intro j h2 h3
      have hj : j < ls.length := by simpa using h3
      simp [List.getElem?_eq_getElem hj]
theorem zeroLS_ok {T : TypeId} {ls : List LS} (h : zeroLS P T = some ls) : (∀ y ∈ ls, lsOk y) ∧ ∃ i z, P.info? T = some i ∧ i.zero = some z ∧ ls.map (lsV G) = z.cells.toList ∧ ls.length = i.size := by
  unfold zeroLS at h
  split at h
  · rename_i i ts hi hts
    split at h
    · rename_i z hz
      split at h
      · rename_i hb
        simp only [Bool.and_eq_true, decide_eq_true_eq] at hb
        injection h with h
        have hva : ∀ (l : List Value) (m : List Univ), valsAre l m = true → l.length = m.length := by
          intro l
          induction l with
          | nil => intro m hm; cases m with | nil => rfl | cons _ _ => cases hm
          | cons x r ih =>
            intro m hm
            cases m with
            | nil => cases hm
            | cons y s =>
              simp only [valsAre, Bool.and_eq_true] at hm
              simp [ih s hm.2]
        have hlen := hva _ _ hb.1
        simp only [List.length_map, Array.length_toList] at hlen
        subst h
        refine ⟨?_, i, z, hi, hz, ?_, ?_⟩
        · intro y hy
          simp only [List.mem_map] at hy
          obtain ⟨q, _, rfl⟩ := hy
          exact (constLeaf_ok _ _).1
        · rw [List.map_map]
          apply List.ext_getElem
          · simp [hlen]
          · intro j h1 h2
            simp only [List.getElem_map, Function.comp, List.getElem_zip]
            exact (constLeaf_ok _ _).2 G
        · simp only [List.length_map, List.length_zip, Array.length_toList]
          omega
      · cases h
    · cases h
  · cases h
theorem op_alloc (p : Pre Γ S G w N a none gs) (hb : BsOk Np bs Γ) (hd : o.dst = some d) {T : TypeId} (ho : o.op = .alloc T) {ls : List LS} {ys : List (LTag × Option Src × List Wr1)}
    (hz : zeroLS P T = some ls) (hm : (mvAll gs (bc d) 0 ls).run Γ = some ys) (hal : (ys.all fun y => decide (y.1 ≠ .dead) && !(y.1.refs.contains (bm d))) = true) {ws : List Wr1}
    (hws : ws = .hard (bm d) ⟨.dead, some (.bx ls.length), none⟩ :: hardT d (.one .leaf) none [.ptr d 0] ++ hardB d 0 (ys.map fun y => y.1) ++ ys.flatMap fun y => y.2.2)
    (hok : effOk N none (some d) ⟨.cp (cpB d 0 (ys.map fun y => y.2.1)), ws⟩ = true) (hso : softsOk ws = true) (hvo : varsOk Np ws = true)
    (hus : (POp.cp (cpB d 0 (ys.map fun y => y.2.1))).eval sem S = some us) : Outc P o a w bs (app ws Γ) (upds S us) N G := by
  obtain ⟨hls, i, z, hi, hzz, hc, _⟩ := zeroLS_ok (G := G) hz
  refine op_newvar (T := T) p hb hd ?_ hls hm hal hws hok hso hvo hus
  rw [hc]
  simp [execOp, ho, Instr.alloc, zeroValue, typeInfo, hi, hzz, newVar, newRow]
theorem mvAll_one (R : HRel Γ S G w) (hg : GHs gs S) {loc : Nat → Nat} {j0 : Nat} {ls : List LS} {ys : List (LTag × Option Src × List Wr1)} (hls : ∀ y ∈ ls, lsOk y) (hm : (mvAll gs loc j0 ls).run Γ = some ys)
    (hnd : ∀ y ∈ ys, y.1 ≠ .dead) : ∀ x ∈ ls, (lsV G x).oneCell' = true := by
  intro x hx
  obtain ⟨j, hj⟩ := List.getElem?_of_mem hx
  obtain ⟨_, h2⟩ := mvAll_run hm
  obtain ⟨⟨t, src, sf⟩, hy, hr⟩ := h2 j x hj
  exact mvLeaf_one R hg (hls x hx) hr (hnd _ (List.mem_of_getElem? hy))
theorem op_box (p : Pre Γ S G w N a none gs) (hb : BsOk Np bs Γ) (hd : o.dst = some d) {T T1 : TypeId} {x : Operand} (ho : o.op = .box T x) {s : Sh1} {ls : List LS} {ys : List (LTag × Option Src × List Wr1)}
    (hx : (opLeaves P gs T1 x).run Γ = some (s, ls)) (hm : (mvAll gs (bc d) 0 ls).run Γ = some ys) (hal : (ys.all fun y => decide (y.1 ≠ .dead) && !(y.1.refs.contains (bm d))) = true) {ws : List Wr1}
    (hws : ws = .hard (bm d) ⟨.dead, some (.bx ls.length), none⟩ :: hardT d (.one .leaf) none [.ptr d 0] ++ hardB d 0 (ys.map fun y => y.1) ++ ys.flatMap fun y => y.2.2)
    (hok : effOk N none (some d) ⟨.cp (cpB d 0 (ys.map fun y => y.2.1)), ws⟩ = true) (hso : softsOk ws = true) (hvo : varsOk Np ws = true)
    (hus : (POp.cp (cpB d 0 (ys.map fun y => y.2.1))).eval sem S = some us) : Outc P o a w bs (app ws Γ) (upds S us) N G := by
  obtain ⟨e, hlen, hls⟩ := opLeaves_ok p.T p.gs hx
  refine op_newvar (T := T) p hb hd ?_ hls hm hal hws hok hso hvo hus
  have h1 := mvAll_one p.R p.gs hls hm (fun y hy => by
    have := List.all_eq_true.1 hal y hy
    simp only [Bool.and_eq_true, decide_eq_true_eq] at this
    exact this.1)
  simp only [execOp, ho, Instr.box, newVar, newRow, e, asm1_cells hlen h1]
  simp
theorem size_setCells (b : Nat) : ∀ (vs : List Value) (o : Nat) (w : World), (w.setCells b o vs).heap.size = w.heap.size
  | [], _, _ => rfl
  | v :: r, o, w => by rw [World.setCells, size_setCells b r, World.size_setCell]
theorem heap_setCell (w : World) (x : Addr) (v : Value) (b : Nat) (h : b ≠ x.block) : (w.setCell x v).heap[b]? = w.heap[b]? := by
  unfold World.setCell
  simp only
  rw [Array.getElem?_modify, if_neg (Ne.symm h)]
theorem heap_setCells (b0 : Nat) : ∀ (vs : List Value) (o : Nat) (w : World) (b : Nat), b ≠ b0 → (w.setCells b0 o vs).heap[b]? = w.heap[b]?
  | [], _, _, _, _ => rfl
  | v :: r, o, w, b, h => by rw [World.setCells, heap_setCells b0 r (o + 1) _ b h, heap_setCell _ _ _ _ h]
theorem rest_setCells (b0 : Nat) : ∀ (vs : List Value) (o : Nat) (w : World), (w.setCells b0 o vs).os = w.os ∧ (w.setCells b0 o vs).tape = w.tape ∧ (w.setCells b0 o vs).output = w.output
  | [], _, _ => ⟨rfl, rfl, rfl⟩
  | v :: r, o, w => by
    rw [World.setCells]
    exact rest_setCells b0 r (o + 1) (w.setCell ⟨b0, o, none⟩ v)
theorem storeVar_run {T : TypeId} {s : Sh1} {b0 o0 : Nat} {v : Value} {vs : List Value} (hs : sh1Of P T = some s) (hv : v.cells = vs.toArray) (hlen : vs.length = s.size)
    (hc : ∀ j, j < vs.length → (w.cell? ⟨b0, o0 + j, none⟩).isSome = true ∧ w.frozen? ⟨b0, o0 + j, none⟩ = false) (h1 : ∀ v ∈ vs, v.oneCell' = true) :
    (storeVar T ⟨b0, o0, none⟩ v).run P w = .ok () (w.setCells b0 o0 vs) := by
  obtain ⟨_, hn⟩ := sh1Of_run (w := w) hs
  have hst := run_storeCells_cells (P := P) b0 o0 vs 0 w (by simpa using fun j hj => (hc j hj).1) (by simpa using fun j hj => (hc j hj).2) h1
  simp only [Nat.add_zero] at hst
  simp only [storeVar, Sem.run_bind, sizeT_run hn, Result.andThen_ok, hv, List.size_toArray, hlen, ne_eq, not_true_eq_false, if_false, Sem.run_pure, hst]
end Go.Proofs.Fw
set_option linter.unusedVariables false
set_option linter.unusedSimpArgs false
namespace Go.Proofs.Fw
variable {P : Program} {Γ : SEnv} {S : PSt} {G : Gh} {w : World} {N : Nat} {a : Act} {gd : Option (Nat × Bool)} {gs : List (Nat × Bool)} {o : Oper} {bs : List (Nat × Nat)} {d : Nat} {sem : CSem} {us : List (Nat × Univ)} {Np : Nat}
theorem lt_of_own {b : Nat} {x : Owner} (R : HRel Γ S G w) (h : G.Ow b = x) (hx : x ≠ .foreign) : b < w.heap.size := by
  apply Nat.lt_of_not_le
  intro h'
  rw [R.new b h'] at h
  exact hx h.symm
theorem op_store_ptr (p : Pre Γ S G w N a none gs) (hb : BsOk Np bs Γ) (hd : o.dst = none) {T T1 : TypeId} {x y : Operand} (ho : o.op = .store T x y) {s : Sh1} (hs : sh1Of P T = some s) {m b off n : Nat}
    (hx : (ptrLeaf P gs x).run Γ = some (m, .ptr b off)) (hbn : (Γ (bm b)).sh = some (.bx n)) (hn : off + s.size ≤ n) {ls : List LS} {ys : List (LTag × Option Src × List Wr1)}
    (hy : (opLeaves P gs T1 y).run Γ = some (s, ls)) (hm : (mvAll gs (bc b) off ls).run Γ = some ys) (hal : (ys.all fun y => decide (y.1 ≠ .dead)) = true) {ws : List Wr1}
    (hws : ws = hardB b off (ys.map fun y => y.1) ++ ys.flatMap fun y => y.2.2)
    (hok : effOk N none none ⟨.cp (cpB b off (ys.map fun y => y.2.1)), ws⟩ = true) (hso : softsOk ws = true) (hvo : varsOk Np ws = true)
    (hus : (POp.cp (cpB b off (ys.map fun y => y.2.1))).eval sem S = some us) : Outc P o a w bs (app ws Γ) (upds S us) N G := by
  injection hus with hus
  simp only [effOk, Bool.and_eq_true] at hok
  obtain ⟨⟨⟨_, hin⟩, _⟩, hrefs⟩ := hok
  obtain ⟨ev, hL, _, _⟩ := ptrLeaf_ok p hx
  have hL : G.V m = _ := hL
  obtain ⟨e, hlen, hls⟩ := opLeaves_ok p.T p.gs hy
  obtain ⟨hylen, hyrun⟩ := mvAll_run hm
  have hsoft0 := mvAll_soft hm
  have h1 := mvAll_one p.R p.gs hls hm (fun y hy => by have := List.all_eq_true.1 hal y hy; simpa using this)
  obtain ⟨hbown, hbc0⟩ := p.R.box b n hbn
  obtain ⟨hn64, hb2⟩ := p.R.bsm b n hbn
  have hmem : ∀ x ∈ ws, x ∈ hardB b off (ys.map fun y => y.1) ∨ x ∈ ys.flatMap fun y => y.2.2 := by
    intro x hx
    rw [hws] at hx
    exact List.mem_append.1 hx
  have hbch : ∀ j, j < ls.length → isHard ws (bc b (off + j)) = true := by
    intro j hj
    have h1 := hardB_mem b (ys.map fun y => y.1) off j _ (List.getElem?_eq_getElem (by simp [hylen]; exact hj))
    exact hfind_isSome (hws ▸ List.mem_append_left _ h1)
  have hcase : ∀ l, isHard ws l = true → ∃ j, j < ls.length ∧ l = bc b (off + j) := by
    intro l hl
    obtain ⟨e, he⟩ := isHard_mem hl
    rcases hmem _ he with h | h
    · obtain ⟨j, e', h1, _, _, h4⟩ := mem_hardB h
      injection h1 with h1 _
      exact ⟨j, by have := (List.getElem?_eq_some_iff.1 h4).1; simpa [hylen] using this, h1⟩
    · exact absurd h (hsoft0 _ _)
  have hbmh : ∀ c, isHard ws (bm c) = false := by
    intro c
    cases h : isHard ws (bm c) with
    | false => rfl
    | true =>
      obtain ⟨j, hj, h⟩ := hcase _ h
      simp only [bm, bc] at h
      omega
  have hsf2 : ∀ m t, Wr1.soft m t ∈ ws → Wr1.soft m t ∈ ys.flatMap fun y => y.2.2 := by
    intro m t h
    rcases hmem _ h with h | h
    · obtain ⟨j, e', h1, _⟩ := mem_hardB h; cases h1
    · exact h
  obtain ⟨_, h2, h3⟩ := mvAll_ok p.R p.gs (by intro i j h; simp only [bc] at h; omega) hm hls (ws := ws) (fun x hx => hws ▸ List.mem_append_right _ hx) hsf2 hso hbch
  generalize hw' : w.setCells (G.B b).1 ((G.B b).2 + off) (ls.map (lsV G)) = w'
  let G' : Gh := { V := fun l => if isHard ws l = true then ((ls[l - bc b off]?).map (lsV G)).getD undef else G.V l
                   Ow := fun b => ren (rhoOf ws) (G.Ow b)
                   B := G.B }
  have hV : ∀ l, isHard ws l = false → G'.V l = G.V l := by
    intro l hl
    show (if isHard ws l = true then _ else _) = _
    rw [if_neg (by rw [hl]; simp)]
  have hVbc : ∀ j, j < ls.length → G'.V (bc b (off + j)) = ((ls[j]?).map (lsV G)).getD undef := by
    intro j hj
    show (if isHard ws (bc b (off + j)) = true then _ else _) = _
    rw [if_pos (hbch j hj)]
    have : bc b (off + j) - bc b off = j := by simp only [bc]; omega
    rw [this]
  have hSus : ∀ l, (∀ j, j < ls.length → l ≠ bc b (off + j)) → upds S us l = S l := by
    intro l hl
    apply upds_not
    subst hus
    intro hm'
    simp only [List.map_map, List.mem_map] at hm'
    obtain ⟨q, hq, rfl⟩ := hm'
    obtain ⟨j, h5, h6⟩ := mem_cpB hq
    have hj : j < ls.length := by have := (List.getElem?_eq_some_iff.1 h6).1; simpa [hylen] using this
    exact hl j hj (by simp only [Function.comp, h5])
  have hS : ∀ l, isDom ws l = false → upds S us l = S l := by
    intro l hl
    refine hSus l fun j hj e => ?_
    subst e
    simp only [isDom, hbch j hj, Bool.true_or] at hl
    cases hl
  have hB : ∀ c, isHard ws (bm c) = false → G'.B c = G.B c := fun _ _ => rfl
  have hsz : w'.heap.size = w.heap.size := by rw [← hw']; exact size_setCells _ _ _ _
  have hh : ∀ c, c < w.heap.size → c ≠ (G.B b).1 → w'.heap[c]? = w.heap[c]? ∧ G'.Ow c = ren (rhoOf ws) (G.Ow c) := by
    intro c _ hne
    exact ⟨by rw [← hw']; exact heap_setCells _ _ _ _ _ hne, rfl⟩
  have hnoref : ∀ (j : Nat) (y : LTag × Option Src × List Wr1), ys[j]? = some y → ∀ m ∈ y.1.refs, G'.V m = G.V m ∧ ∀ b, m = bm b → G'.B b = G.B b := by
    intro j y hy m hmr
    have hnh : isHard ws m = false := by
      cases h : isHard ws m with
      | false => rfl
      | true =>
        have h1 := hardB_mem b (ys.map fun y => y.1) off j y.1 (by simp [hy])
        have := refsOk_spec hrefs (hws ▸ List.mem_append_left _ h1) m hmr h
        obtain ⟨j', _, h'⟩ := hcase _ h
        simp only [bc] at h'
        omega
    exact ⟨hV m hnh, fun b hb => rfl⟩
  have hown : ∀ c x, G.Ow c = x → x ≠ .foreign → x ≠ .box b → w'.heap[c]? = w.heap[c]? ∧ G'.Ow c = ren (rhoOf ws) x := by
    intro c x hc hx hx2
    obtain ⟨h5, h6⟩ := hh c (lt_of_own p.R hc hx) (fun e => by subst e; rw [hbown] at hc; exact hx2 hc.symm)
    exact ⟨h5, by rw [h6, hc]⟩
  have still : Still w G.Ow w' G'.Ow := by
    intro c hc
    obtain ⟨h5, h6⟩ := hown c _ hc (by simp) (by simp)
    exact ⟨h5, h6⟩
  have hcell : ∀ j, j < n → w'.cell? ⟨(G.B b).1, (G.B b).2 + j, none⟩ = some (G'.V (bc b j)) := by
    intro j hj
    by_cases hin' : off ≤ j ∧ j < off + ls.length
    · have hj' : j - off < ls.length := by omega
      have := World.cell?_setCells_in (G.B b).1 (ls.map (lsV G)) ((G.B b).2 + off) w (fun i hi => by
        rw [Nat.add_assoc, (hbc0 (off + i) (by simp only [List.length_map] at hi; omega)).1]; rfl) (j - off) (by simpa using hj')
      rw [hw'] at this
      have ej : (G.B b).2 + off + (j - off) = (G.B b).2 + j := by omega
      rw [ej] at this
      rw [this]
      have ej2 : bc b j = bc b (off + (j - off)) := by
        have : off + (j - off) = j := by omega
        rw [this]
      rw [ej2, hVbc _ hj']
      simp [List.getElem?_eq_getElem hj']
    · rw [← hw', World.cell?_setCells_out _ _ _ _ _ (fun _ _ => by simp only [List.length_map]; omega), (hbc0 j hj).1, hV]
      cases h : isHard ws (bc b j) with
      | false => rfl
      | true =>
        exfalso
        obtain ⟨j', hj', h⟩ := hcase _ h
        simp only [bc] at h
        omega
  have hfro : ∀ q, w'.frozen? q = w.frozen? q := by
    intro q
    rw [← hw']
    exact World.frozen?_setCells _ _ _ _ _
  have hR : HRel (app ws Γ) (upds S us) G' w' := by
    refine HRel.mod (ρ := rhoOf ws) p.R (G.B b).1 hV hS hB hh (fun m o' h => rhoOf_isDom hso h) (by rw [hbown]; simp) (by rw [hbown]; simp) (by rw [hbown]; simp) ?_ ?_ ?_ ?_ ?_ ?_ ?_
    · intro c n' hc hbs _ _
      rw [hbown] at hc
      injection hc with hc
      subst hc
      rw [hbn] at hbs
      simp only [Option.some.injEq, Shape.bx.injEq] at hbs
      subst hbs
      refine ⟨by show ren _ (G.Ow _) = _; rw [hbown]; rfl, fun j hj => ⟨hcell j hj, ?_⟩⟩
      rw [hfro]
      exact (hbc0 j hj).2
    · intro c n' j hbs hnh hne hj
      cases h : isHard ws (bc c j) with
      | false => rfl
      | true =>
        exfalso
        obtain ⟨hn', hc'⟩ := p.R.bsm c n' hbs
        obtain ⟨j', hj', h⟩ := hcase _ h
        simp only [bc] at h
        have : c = b := by omega
        subst this
        exact hne rfl
    · intro l e he hlive
      rcases hmem _ he with h | h
      · obtain ⟨j, e', h1, _, _, h4⟩ := mem_hardB h
        injection h1 with h1 h5
        subst h1 h5
        have hj : j < ls.length := by have := (List.getElem?_eq_some_iff.1 h4).1; simpa [hylen] using this
        have hj2 : j < ys.length := by omega
        simp only [List.getElem?_map, List.getElem?_eq_getElem hj2, Option.map_some, Option.some.injEq] at h4
        obtain ⟨h6, h7⟩ := h2 j _ _ (List.getElem?_eq_getElem hj) (List.getElem?_eq_getElem hj2)
        rw [← h4]
        refine MV.lok (h6 (upds S us (bc b (off + j))) ?_) ?_ rfl (hnoref j _ (List.getElem?_eq_getElem hj2)) still (fun c hc => ?_) (fun c m hc => hown c _ hc (by simp) (by simp))
        · intro s' hs'
          subst hus
          have hmem' := cpB_mem b (ys.map fun y => y.2.1) off j s' (by simp [List.getElem?_eq_getElem hj2, hs'])
          refine upds_mem ?_ (List.mem_map.2 ⟨_, hmem', rfl⟩)
          rw [List.map_map]
          exact cpB_nodup b _ off
        · rw [hVbc j hj, List.getElem?_eq_getElem hj]; rfl
        · obtain ⟨h8, h9⟩ := hown c _ hc (by simp) (by simp)
          exact ⟨h8, h9⟩
      · exact absurd h (hsoft0 _ _)
    · intro c e n' he hes
      have := hfind_isSome he
      rw [hbmh c] at this
      cases this
    · intro c e n' he hes
      have := hfind_isSome he
      rw [hbmh c] at this
      cases this
    · intro l t ht _
      obtain ⟨j, x', hx', rfl, hv⟩ := h3 l t ht
      have hj : j < ls.length := (List.getElem?_eq_some_iff.1 hx').1
      show G'.V l = G'.V (bc b (off + j))
      rw [hVbc j hj, hx', hV l (softsOk_spec hso l _ ht).1]
      exact hv.symm
    · intro k hk
      rw [hsz] at hk
      show ren _ (G.Ow k) = _
      rw [p.R.new k hk]
      rfl
  refine ⟨undef, w', G', .inr ⟨?_, rfl⟩, hR, ?_, ?_⟩
  · have hst := storeVar_run (P := P) (w := w) (b0 := (G.B b).1) (o0 := (G.B b).2 + off) (v := a.eval y) (vs := ls.map (lsV G)) hs (by rw [e]; exact asm1_cells hlen h1) (by simpa using hlen)
      (fun j hj => by
        simp only [List.length_map] at hj
        have := hbc0 (off + j) (by omega)
        rw [Nat.add_assoc, this.1]
        exact ⟨rfl, this.2⟩)
      (fun v hv => by
        simp only [List.mem_map] at hv
        obtain ⟨x', hx', rfl⟩ := hv
        exact h1 x' hx')
    rw [hw'] at hst
    simp only [execOp, ho, Instr.storeAt, ev, hL, Instr.sureAddr, Sem.run_bind, Sem.run_pure, Result.andThen_ok, hst]
  · rw [hd]
    refine TRel.step p.T hin hV hS ?_ (by intro d' h; cases h)
    intro t ht _
    left
    exact hSus _ fun j hj e => by simp only [lc, bc] at e; omega
  · obtain ⟨r1, r2, r3⟩ := rest_setCells (G.B b).1 (ls.map (lsV G)) ((G.B b).2 + off) w
    rw [hw'] at r1 r2 r3
    refine Fr.mod (ρ := rhoOf ws) p.R hb (G.B b).1 hin (fun d' hd' => by cases hd') hvo hV hB hh r1 r2 r3 (by rw [hsz]; exact Nat.le_refl _) (by rw [hbown]; simp) (by rw [hbown]; simp) (fun _ => by rw [hbown]; simp) ?_
    intro q hq he hbox
    rw [hbown] at hbox
    injection hbox with hbox
    obtain ⟨_, _, hq3⟩ := hb q hq
    rw [← hbox] at hq3 ⊢
    have := hq3 n hbn
    refine ⟨by show ren _ (G.Ow _) = _; rw [hbown]; rfl, ?_, fun o' => hfro _⟩
    intro o' ho'
    rw [← hw', World.cell?_setCells_out]
    intro _ _
    simp only [List.length_map]
    omega
end Go.Proofs.Fw
