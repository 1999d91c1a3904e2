/- How a law's argument is read at the call: of each type that may come in, its kind (as the printed walks have it), and what its datum says of the value. -/
import Derived.Deep.Slices
import Derived.ChangeArms
import Derived.DataElems
import Derived.DataReads
import Derived.ProofKit
import Derived.SizedLaws
import Derived.Test.YtoclacnhckpkfaaDoorRows
import Derived.Test.YtoclacnhckpkfaaDoorWWords
namespace Go.Proofs.YtoclacnhckpkfaaDoor.Rd
open Go.RowKit Go.Proofs.YtoclacnhckpkfaaDoorW.PrintWords

structure Rdg (P : Program) (α : Type) where
  t : TypeId
  d : Kd α
  G : (H : Type) → α → DataW H → Prop
  size : P.cellsOf t = d.sz
  opens : ∀ (H : Type) (enc : TypeId × Value → H) (W : World) (fuel : Nat) (cs : List Value) (x : DataW H) (ps : List MemPlace),
    DataW.trod enc P W 0 (fun _ => true) true fuel t cs = some (x, ps) → ∃ a, d.K W a cs ∧ G H a x
  ok : α → Prop
  ok_of : ∀ (H : Type) (a : α) (x : DataW H), G H a x → ok a
  b : α → Nat
  b_of : ∀ (H : Type) (a : α) (x : DataW H), G H a x → b a ≤ Rows.uptoBulk x
  wt : α → Prop
  wt_of : ∀ (H : Type) (a : α) (x : DataW H), G H a x → (∀ n ∈ DataW.weights P t x, n ≤ reachBytes) → wt a

section
variable {P : Program}
def int (t : TypeId) (k : IntKind) (ht : P.underlying t = some (.int k)) (hc : P.cellsOf t = 1) : Rdg P Int where
  t := t
  d := Kd.int k
  G := fun _ n x => x = .lit (.int k n) ∧ (Lit.int k n).wf = true
  size := hc
  opens := fun H enc W fuel cs x ps h => by
    obtain ⟨n, rfl, hx, hw⟩ := DataW.trod_int ht h
    simp only [Prod.mk.injEq] at hx
    exact ⟨n, rfl, hx.1, hw⟩
  ok := fun n => (Lit.int k n).wf = true
  ok_of := fun _ _ _ h => h.2
  b := fun _ => 1
  b_of := fun _ _ _ h => by rw [h.1]; simp [Rows.uptoBulk]
  wt := fun _ => True
  wt_of := fun _ _ _ _ _ => trivial
def bool (t : TypeId) (ht : P.underlying t = some .bool) (hc : P.cellsOf t = 1) : Rdg P Bool where
  t := t
  d := Kd.bool
  G := fun _ b x => x = .lit (.bool b)
  size := hc
  opens := fun H enc W fuel cs x ps h => by
    obtain ⟨b, rfl, hx⟩ := DataW.trod_bool ht h
    simp only [Prod.mk.injEq] at hx
    exact ⟨b, rfl, hx.1⟩
  ok := fun _ => True
  ok_of := fun _ _ _ _ => trivial
  b := fun _ => 1
  b_of := fun _ _ _ h => by rw [h]; simp [Rows.uptoBulk]
  wt := fun _ => True
  wt_of := fun _ _ _ _ _ => trivial
def string (t : TypeId) (ht : P.underlying t = some .string) (hc : P.cellsOf t = 1) : Rdg P ByteArray where
  t := t
  d := Kd.string
  G := fun _ s x => x = .lit (.string s.data.toList) ∧ s.size ≤ maxLen
  size := hc
  opens := fun H enc W fuel cs x ps h => by
    obtain ⟨s, rfl, hx, hs⟩ := DataW.trod_string ht h
    simp only [Prod.mk.injEq] at hx
    exact ⟨s, rfl, hx.1, hs⟩
  ok := fun s => s.size ≤ maxLen
  ok_of := fun _ _ _ h => h.2
  b := fun s => s.size + 1
  b_of := fun _ s _ h => by rw [h.1]; simp [Rows.uptoBulk]
  wt := fun s => s.size ≤ reachBytes
  wt_of := fun _ s _ h hw => by
    rw [h.1] at hw
    have := hw s.data.toList.length (by simp [DataW.weights])
    simpa using this

/-- Element by element. -/
def All2 {α β : Type} (G : α → β → Prop) : List α → List β → Prop
  | [], [] => True
  | a :: l, b :: m => G a b ∧ All2 G l m
  | _, _ => False
theorem All2.of_index {α β : Type} {G : α → β → Prop} : ∀ (l : List α) (m : List β), l.length = m.length → (∀ (i : Nat) (a : α) (b : β), l[i]? = some a → m[i]? = some b → G a b) → All2 G l m
  | [], [], _, _ => trivial
  | a :: l, b :: m, hl, h => ⟨h 0 a b rfl rfl, All2.of_index l m (by simpa using hl) fun i x y hx hy => h (i + 1) x y hx hy⟩
  | [], _ :: _, hl, _ => by simp at hl
  | _ :: _, [], hl, _ => by simp at hl
theorem All2.length {α β : Type} {G : α → β → Prop} : ∀ {l : List α} {m : List β}, All2 G l m → l.length = m.length
  | [], [], _ => rfl
  | _ :: l, _ :: m, h => by simp [All2.length (l := l) (m := m) h.2]
theorem All2.left {α β : Type} {G : α → β → Prop} {Q : α → Prop} (hq : ∀ a b, G a b → Q a) : ∀ {l : List α} {m : List β}, All2 G l m → ∀ a ∈ l, Q a
  | [], _, _, _, ha => by simp at ha
  | x :: l, [], h, _, _ => h.elim
  | x :: l, y :: m, h, a, ha => by
    rcases List.mem_cons.1 ha with rfl | ha
    · exact hq _ _ h.1
    · exact All2.left hq (l := l) (m := m) h.2 a ha

theorem All2.left2 {α β : Type} {G : α → β → Prop} {R : β → Prop} {Q : α → Prop} (hq : ∀ a b, G a b → R b → Q a) : ∀ {l : List α} {m : List β}, All2 G l m → (∀ b ∈ m, R b) → ∀ a ∈ l, Q a
  | [], _, _, _, _, ha => by simp at ha
  | x :: l, [], h, _, _, _ => h.elim
  | x :: l, y :: m, h, hr, a, ha => by
    rcases List.mem_cons.1 ha with rfl | ha
    · exact hq _ _ h.1 (hr _ (by simp))
    · exact All2.left2 hq (l := l) (m := m) h.2 (fun b hb => hr b (by simp [hb])) a ha
/-- The sum of what each bears. -/
def bs {α : Type} (b : α → Nat) : List α → Nat
  | [] => 0
  | a :: l => b a + bs b l
theorem bs_le {H α : Type} {G : α → DataW H → Prop} {b : α → Nat} (hb : ∀ a x, G a x → b a ≤ Rows.uptoBulk x) : ∀ {l : List α} {m : List (DataW H)}, All2 G l m → bs b l ≤ Rows.uptoBulkAll m
  | [], [], _ => by simp [bs]
  | a :: l, x :: m, h => by
    have h1 := hb a x h.1
    have h2 := bs_le hb (l := l) (m := m) h.2
    simp only [bs, Rows.uptoBulkAll]
    omega
theorem weightsAll_mem {H : Type} {P : Program} {e : TypeId} : ∀ {m : List (DataW H)} {x : DataW H} {n : Nat}, x ∈ m → n ∈ DataW.weights P e x → n ∈ DataW.weightsAll P e m
  | y :: m, x, n, hx, hn => by
    simp only [DataW.weightsAll, List.mem_append]
    rcases List.mem_cons.1 hx with rfl | hx
    · exact .inl hn
    · exact .inr (weightsAll_mem hx hn)
def sliceG {α : Type} (G : (H : Type) → α → DataW H → Prop) (H : Type) (l : List α) (x : DataW H) : Prop :=
  (l = [] ∧ x = .nil) ∨ ∃ elems spare, x = .slice elems spare ∧ All2 (G H) l elems

def slice {α : Type} [Inhabited α] (t : TypeId) (r : Rdg P α) (ht : P.underlying t = some (.slice r.t)) (hc : P.cellsOf t = 1) : Rdg P (List α) where
  t := t
  d := Kd.slice r.t r.d
  G := sliceG r.G
  size := hc
  opens := fun H enc W fuel cs x ps h => by
    rcases Go.Deep.open_slice ht h with ⟨rfl, hx⟩ | ⟨a, len, cap, m, n, D, Pl, rfl, _, hl, hm, hmm, hx, hel⟩
    · simp only [Prod.mk.injEq] at hx
      exact ⟨[], ⟨none, 0, rfl, Nat.le_refl _, rfl, by simp, fun h0 => absurd h0 (by simp)⟩, .inl ⟨rfl, hx.1⟩⟩
    · simp only [Prod.mk.injEq] at hx
      have hlm : len ≤ m := by rw [hmm]; simpa using hl
      have each : ∀ i, i < len → ∃ a', ∃ cs', W.cells? 0 (a.add (i * P.cellsOf r.t)) (P.cellsOf r.t) = some cs' ∧ r.d.K W a' cs' ∧ r.G H a' (D i) := fun i hi => by
        obtain ⟨cs', h1, h2⟩ := hel i (by omega)
        obtain ⟨a', hk, hg⟩ := r.opens H enc W n cs' _ _ h2
        exact ⟨a', cs', h1, hk, hg⟩
      obtain ⟨f, hf⟩ := Go.Deep.choose_lt each
      refine ⟨(List.range len).map f, ⟨some a, cap, by simp, by simpa using hl, by simp, by simp only [maxLen] at hm; simp; omega, fun _ => ⟨a, rfl, fun j p hj => ?_⟩⟩, .inr ⟨_, _, hx.1, ?_⟩⟩
      · simp only [List.getElem?_map, Option.map_eq_some_iff] at hj
        obtain ⟨j', hj', rfl⟩ := hj
        have hjl : j < len := by
          have := (List.getElem?_eq_some_iff.1 hj').1
          simpa using this
        obtain rfl : j = j' := by
          rw [List.getElem?_range hjl] at hj'
          simpa using hj'
        obtain ⟨cs', h1, hk, _⟩ := hf j hjl
        obtain ⟨_, hlen, hcell⟩ := World.cells?_some h1
        refine ⟨cs', by rw [hlen, r.size], hk, fun i u hu => ?_⟩
        have hi : i < P.cellsOf r.t := by rw [← hlen]; exact (List.getElem?_eq_some_iff.1 hu).1
        have := hcell i hi
        rw [Go.Deep.add_add, r.size] at this
        rw [this, hu]
      · refine All2.of_index _ _ (by simp) fun i x y hx hy => ?_
        simp only [List.getElem?_map, Option.map_eq_some_iff] at hx hy
        obtain ⟨i1, hi1, rfl⟩ := hx
        obtain ⟨i2, hi2, rfl⟩ := hy
        have hil : i < len := by
          have := (List.getElem?_eq_some_iff.1 hi1).1
          simpa using this
        rw [List.getElem?_range hil] at hi1 hi2
        obtain rfl : i = i1 := by simpa using hi1
        obtain rfl : i = i2 := by simpa using hi2
        obtain ⟨_, _, _, hg⟩ := hf i hil
        exact hg
  ok := fun l => ∀ a ∈ l, r.ok a
  ok_of := fun H l x h => by
    rcases h with ⟨rfl, _⟩ | ⟨_, _, _, h⟩
    · simp
    · exact All2.left (fun a b => r.ok_of H a b) h
  b := fun l => bs r.b l + 1
  b_of := fun H l x h => by
    rcases h with ⟨rfl, rfl⟩ | ⟨elems, spare, rfl, h⟩
    · simp [bs, Rows.uptoBulk]
    · have := bs_le (r.b_of H) h
      simp only [Rows.uptoBulk]
      omega
  wt := fun l => l.length * P.bytesOf r.t ≤ reachBytes ∧ ∀ a ∈ l, r.wt a
  wt_of := fun H l x h hw => by
    rcases h with ⟨rfl, rfl⟩ | ⟨elems, spare, rfl, h⟩
    · simp
    · simp only [DataW.weights, ht] at hw
      refine ⟨?_, All2.left2 (fun a y hg hy => r.wt_of H a y hg hy) h fun y hy n hn => hw n (by simp [weightsAll_mem hy hn])⟩
      have h1 := hw ((elems.length + spare.length) * P.bytesOf r.t) (by simp)
      rw [All2.length h]
      exact Nat.le_trans (Nat.mul_le_mul_right _ (Nat.le_add_right _ _)) h1

/-- A struct's fields from number i on. -/
structure Fds (P : Program) (fs : Array Field) (total i off : Nat) (β : Type) where
  d : Kd β
  G : (H : Type) → β → List (DataW H) → Prop
  size : off + d.sz = total
  opens : ∀ (H : Type) (enc : TypeId × Value → H) (W : World) (n : Nat) (cs : List Value) (xs : List (DataW H × List MemPlace)), cs.length = total → xs.length = fs.size →
    (∀ (j : Nat) (f : Field), fs[j]? = some f → DataW.trod enc P W 0 (fun _ => true) true n f.type ((cs.drop f.offset).take (P.cellsOf f.type)) = xs[j]?) →
    ∃ b, d.K W b (cs.drop off) ∧ G H b ((xs.drop i).map (·.1))
  ok : β → Prop
  ok_of : ∀ (H : Type) (a : β) (l : List (DataW H)), G H a l → ok a
  b : β → Nat
  b_of : ∀ (H : Type) (a : β) (l : List (DataW H)), G H a l → b a ≤ Rows.uptoBulkAll l
  wt : β → Prop
  wt_of : ∀ (H : Type) (a : β) (l : List (DataW H)), G H a l → (∀ n ∈ DataW.weightsEach P ((fs.toList.drop i).map (·.type)) l, n ≤ reachBytes) → wt a

theorem fields_drop {fs : Array Field} {i : Nat} {f : Field} (hf : fs[i]? = some f) : fs.toList.drop i = f :: fs.toList.drop (i + 1) := by
  obtain ⟨h1, h2⟩ := Array.getElem?_eq_some_iff.1 hf
  rw [List.drop_eq_getElem_cons (by simpa using h1)]
  simp [h2]
def last {α : Type} {fs : Array Field} {total i off : Nat} (r : Rdg P α) (f : Field) (hf : fs[i]? = some f) (hi : fs.size = i + 1) (ho : f.offset = off) (ht : f.type = r.t) (hs : off + r.d.sz = total) : Fds P fs total i off α where
  d := r.d
  G := fun H a l => ∃ x, l = [x] ∧ r.G H a x
  size := hs
  opens := fun H enc W n cs xs hcs hxs h => by
    have h1 := h i f hf
    have hlt : i < xs.length := by omega
    rw [List.getElem?_eq_getElem hlt, ht, ho, r.size, List.take_of_length_le (by rw [List.length_drop]; omega)] at h1
    obtain ⟨a, hk, hg⟩ := r.opens H enc W n _ (xs[i]).1 (xs[i]).2 h1
    refine ⟨a, hk, (xs[i]).1, ?_, hg⟩
    have : xs.drop i = [xs[i]] := by
      rw [List.drop_eq_getElem_cons hlt, List.drop_of_length_le (by omega)]
    rw [this]
    rfl
  ok := r.ok
  ok_of := fun H a l h => by
    obtain ⟨x, rfl, h⟩ := h
    exact r.ok_of H a x h
  b := r.b
  b_of := fun H a l h => by
    obtain ⟨x, rfl, h⟩ := h
    have := r.b_of H a x h
    simp only [Rows.uptoBulkAll]
    omega
  wt := r.wt
  wt_of := fun H a l h hw => by
    obtain ⟨x, rfl, h⟩ := h
    rw [fields_drop hf] at hw
    refine r.wt_of H a x h fun n hn => hw n ?_
    simp only [List.map_cons, DataW.weightsEach, List.mem_append]
    exact .inl (by rw [ht]; exact hn)

def cons {α β : Type} {fs : Array Field} {total i off off' : Nat} (r : Rdg P α) (f : Field) (hf : fs[i]? = some f) (hi : i < fs.size) (ho : f.offset = off) (ht : f.type = r.t) (hs : off + r.d.sz = off') (rest : Fds P fs total (i + 1) off' β) : Fds P fs total i off (α × β) where
  d := Kd.pair r.d rest.d
  G := fun H p l => ∃ x m, l = x :: m ∧ r.G H p.1 x ∧ rest.G H p.2 m
  size := by
    have := rest.size
    show off + (r.d.sz + rest.d.sz) = total
    omega
  opens := fun H enc W n cs xs hcs hxs h => by
    have h1 := h i f hf
    have hlt : i < xs.length := by omega
    rw [List.getElem?_eq_getElem hlt, ht, ho, r.size] at h1
    obtain ⟨a, hk, hg⟩ := r.opens H enc W n _ (xs[i]).1 (xs[i]).2 h1
    obtain ⟨b, hk2, hg2⟩ := rest.opens H enc W n cs xs hcs hxs h
    refine ⟨(a, b), ⟨_, _, ?_, hk, hk2⟩, (xs[i]).1, _, ?_, hg, hg2⟩
    · rw [← hs, ← List.drop_drop, List.take_append_drop]
    · rw [List.drop_eq_getElem_cons hlt]
      rfl
  ok := fun p => r.ok p.1 ∧ rest.ok p.2
  ok_of := fun H p l h => by
    obtain ⟨x, m, rfl, h1, h2⟩ := h
    exact ⟨r.ok_of H _ x h1, rest.ok_of H _ m h2⟩
  b := fun p => r.b p.1 + rest.b p.2
  b_of := fun H p l h => by
    obtain ⟨x, m, rfl, h1, h2⟩ := h
    have e1 := r.b_of H _ x h1
    have e2 := rest.b_of H _ m h2
    simp only [Rows.uptoBulkAll]
    omega
  wt := fun p => r.wt p.1 ∧ rest.wt p.2
  wt_of := fun H p l h hw => by
    obtain ⟨x, m, rfl, h1, h2⟩ := h
    rw [fields_drop hf] at hw
    simp only [List.map_cons, DataW.weightsEach, List.mem_append, ht] at hw
    exact ⟨r.wt_of H _ x h1 fun n hn => hw n (.inl hn), rest.wt_of H _ m h2 fun n hn => hw n (.inr hn)⟩

def struct {α β : Type} {fs : Array Field} {total : Nat} (t : TypeId) (ht : P.underlying t = some (.struct fs)) (hc : P.cellsOf t = total) (fd : Fds P fs total 0 0 β) (f : α → β) (g : β → α) (hfg : ∀ b, f (g b) = b) : Rdg P α where
  t := t
  d := Kd.iso fd.d f
  G := fun H a x => ∃ l, x = .agg l ∧ fd.G H (f a) l
  size := by
    have h1 := fd.size
    rw [Nat.zero_add] at h1
    exact hc.trans h1.symm
  opens := fun H enc W fuel cs x ps h => by
    obtain ⟨xs, n, _, hx, hcs, hxs, he⟩ := DataW.trod_struct ht h
    simp only [Prod.mk.injEq] at hx
    obtain ⟨b, hk, hg⟩ := fd.opens H enc W n cs xs (by rw [hcs, hc]) hxs he
    refine ⟨g b, ?_, _, hx.1, ?_⟩
    · show fd.d.K W (f (g b)) cs
      rw [hfg]
      simpa using hk
    · rw [hfg]
      simpa using hg
  ok := fun a => fd.ok (f a)
  ok_of := fun H a x h => by
    obtain ⟨l, rfl, h⟩ := h
    exact fd.ok_of H _ l h
  b := fun a => fd.b (f a) + 1
  b_of := fun H a x h => by
    obtain ⟨l, rfl, h⟩ := h
    have := fd.b_of H _ l h
    simp only [Rows.uptoBulk]
    omega
  wt := fun a => fd.wt (f a)
  wt_of := fun H a x h hw => by
    obtain ⟨l, rfl, h⟩ := h
    simp only [DataW.weights, ht] at hw
    exact fd.wt_of H _ l h (by simpa using hw)
end
theorem cell_agg {v : Value} {cs : List Value} {P : Program} {W : World} {t : TypeId} {fs : Array Field} (ht : P.underlying t = some (.struct fs)) (hv : Value.okWide P W .any 0 t v) (h : v.cells.toList = cs) : v = .agg cs.toArray := by
  unfold Value.okWide at hv
  rw [ht] at hv
  obtain ⟨c, rfl, _⟩ := hv
  subst h
  simp [Value.cells]
end Go.Proofs.YtoclacnhckpkfaaDoor.Rd
