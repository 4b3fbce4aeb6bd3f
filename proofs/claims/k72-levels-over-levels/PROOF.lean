import PyProof.Rows.All
import Wide.All
import OpenK.AllK
import Wide.FinOn
import HandS.ForMost
import HandS.ForExc
import HandS.Zip
import HandS.Deep
import HandS.Style
import HandS.TupAny
import HandS.Conv
import HandS.TryMany
import HandS.RevTup
import HandS.Walk
import KE.GoesNew
import PySem.Challenge.RW_leafturner_k72_whole_levels_over_levels
/-! Plain mathematics: graphs given by rows, layers, parts, one graph over another. No program here. -/
namespace LT
/-! ### lists -/
theorem len_le_rel (R : Nat → Nat → Prop) : ∀ (A B : List Nat), A.Nodup → (∀ a ∈ A, ∃ b ∈ B, R a b) → (∀ a a' b, a ∈ A → a' ∈ A → R a b → R a' b → a = a') → A.length ≤ B.length
  | [], _, _, _, _ => Nat.zero_le _
  | a :: A, B, hn, h, inj => by
    obtain ⟨h1, h2⟩ := List.nodup_cons.mp hn
    obtain ⟨b, hb, rab⟩ := h a List.mem_cons_self
    have ih := len_le_rel R A (B.erase b) h2 (fun a' ha' => by
      obtain ⟨b', hb', r'⟩ := h a' (List.mem_cons_of_mem _ ha')
      refine ⟨b', ?_, r'⟩
      have hne : b' ≠ b := fun e => by
        subst e
        have := inj a a' b' List.mem_cons_self (List.mem_cons_of_mem _ ha') rab r'
        subst this
        exact h1 ha'
      exact (List.mem_erase_of_ne hne).mpr hb') (fun a1 a2 b' m1 m2 => inj a1 a2 b' (List.mem_cons_of_mem _ m1) (List.mem_cons_of_mem _ m2))
    have hl := List.length_erase_of_mem hb
    have hp : 0 < B.length := List.length_pos_of_mem hb
    rw [List.length_cons]
    omega
theorem sorted_eq {l₁ l₂ : List Nat} (h₁ : l₁.Pairwise (· < ·)) (h₂ : l₂.Pairwise (· < ·)) (h : ∀ a, a ∈ l₁ ↔ a ∈ l₂) : l₁ = l₂ := by
  have n₁ : l₁.Nodup := h₁.imp fun {a b} q => Nat.ne_of_lt q
  have n₂ : l₂.Nodup := h₂.imp fun {a b} q => Nat.ne_of_lt q
  have p := (List.perm_ext_iff_of_nodup n₁ n₂).mpr h
  exact p.eq_of_pairwise (le := (· < ·)) (fun a b _ _ x y => absurd (Nat.lt_trans x y) (Nat.lt_irrefl _)) h₁ h₂
theorem strict_of {l : List Nat} (hn : l.Nodup) (h : l.Pairwise (· ≤ ·)) : l.Pairwise (· < ·) := by
  induction l with
  | nil => exact .nil
  | cons a r ih =>
    obtain ⟨h1, h2⟩ := List.nodup_cons.mp hn
    obtain ⟨p1, p2⟩ := List.pairwise_cons.mp h
    refine List.pairwise_cons.mpr ⟨fun b hb => ?_, ih h2 p2⟩
    have := p1 b hb
    rcases Nat.lt_or_eq_of_le this with q | q
    · exact q
    · subst q; exact absurd hb h1
theorem exists_least {P : Nat → Prop} : ∀ n, P n → ∃ m, m ≤ n ∧ P m ∧ ∀ j, j < m → ¬ P j := by
  intro n
  induction n using Nat.strongRecOn with
  | _ n ih =>
    intro hn
    by_cases h : ∃ j, j < n ∧ P j
    · obtain ⟨j, hj, pj⟩ := h
      obtain ⟨m, hm, pm, q⟩ := ih j hj pj
      exact ⟨m, by omega, pm, q⟩
    · exact ⟨n, Nat.le_refl _, hn, fun j hj pj => h ⟨j, hj, pj⟩⟩

/-! ### graphs -/
/-- a step: along a row, forwards or backwards -/
def Adj (G : List (List Nat)) (x y : Nat) : Prop := ∃ row ∈ G, row[x]? = some y ∨ row[y]? = some x
inductive Reach (G : List (List Nat)) (x : Nat) : Nat → Nat → Prop
  | zero : Reach G x 0 x
  | stay {r y : Nat} : Reach G x r y → Reach G x (r + 1) y
  | step {r y z : Nat} : Reach G x r y → Adj G y z → Reach G x (r + 1) z
def Comp (G : List (List Nat)) (x y : Nat) : Prop := ∃ r, Reach G x r y
structure GraphOk (G : List (List Nat)) (N : Nat) : Prop where
  rows : ∀ row ∈ G, row.Perm (List.range N)
  lo : 1 ≤ G.length
  hi : G.length ≤ 6
  n1 : 1 ≤ N
  n2 : N ≤ 1024
theorem Adj.symm {G : List (List Nat)} {x y : Nat} (h : Adj G x y) : Adj G y x := by
  obtain ⟨row, hr, h⟩ := h
  exact ⟨row, hr, h.symm⟩
section
variable {G : List (List Nat)} {N : Nat}
theorem GraphOk.len (g : GraphOk G N) {row : List Nat} (h : row ∈ G) : row.length = N := by
  have := (g.rows row h).length_eq
  rw [List.length_range] at this
  exact this
theorem GraphOk.nodup (g : GraphOk G N) {row : List Nat} (h : row ∈ G) : row.Nodup := (g.rows row h).nodup_iff.mpr List.nodup_range
theorem GraphOk.lt (g : GraphOk G N) {row : List Nat} (h : row ∈ G) {y : Nat} (m : y ∈ row) : y < N := List.mem_range.mp ((g.rows row h).mem_iff.mp m)
theorem GraphOk.mem (g : GraphOk G N) {row : List Nat} (h : row ∈ G) {y : Nat} (m : y < N) : y ∈ row := (g.rows row h).mem_iff.mpr (List.mem_range.mpr m)
theorem GraphOk.at_ (g : GraphOk G N) {row : List Nat} (h : row ∈ G) {x : Nat} (m : x < N) : ∃ y, row[x]? = some y ∧ y < N := by
  have hl : x < row.length := by rw [g.len h]; exact m
  exact ⟨row[x], List.getElem?_eq_getElem hl, g.lt h (List.getElem_mem hl)⟩
theorem GraphOk.back (g : GraphOk G N) {row : List Nat} (h : row ∈ G) {y : Nat} (m : y < N) : ∃ x, row[x]? = some y ∧ x < N := by
  obtain ⟨x, hx, e⟩ := List.mem_iff_getElem.mp (g.mem h m)
  exact ⟨x, by rw [List.getElem?_eq_getElem hx, e], by rw [← g.len h]; exact hx⟩
theorem nodup_at {l : List Nat} (hN : l.Nodup) {i j x : Nat} (a : l[i]? = some x) (b : l[j]? = some x) : i = j := by
  obtain ⟨h1, e1⟩ := List.getElem?_eq_some_iff.mp a
  obtain ⟨h2, e2⟩ := List.getElem?_eq_some_iff.mp b
  exact (List.getElem_inj hN).mp (e1.trans e2.symm)
theorem GraphOk.adj (g : GraphOk G N) {x y : Nat} (h : Adj G x y) : x < N ∧ y < N := by
  obtain ⟨row, hr, h | h⟩ := h
  · exact ⟨by rw [← g.len hr]; exact (List.getElem?_eq_some_iff.mp h).1, g.lt hr (List.mem_of_getElem? h)⟩
  · exact ⟨g.lt hr (List.mem_of_getElem? h), by rw [← g.len hr]; exact (List.getElem?_eq_some_iff.mp h).1⟩
theorem GraphOk.reach (g : GraphOk G N) {x r y : Nat} (hx : x < N) (h : Reach G x r y) : y < N := by
  induction h with
  | zero => exact hx
  | stay _ ih => exact ih
  | step _ a _ => exact (g.adj a).2
theorem Reach.mono {x r y : Nat} (h : Reach G x r y) : ∀ {s : Nat}, r ≤ s → Reach G x s y := by
  intro s hs
  induction s with
  | zero => have : r = 0 := by omega
            subst this; exact h
  | succ s ih =>
    by_cases e : r = s + 1
    · subst e; exact h
    · exact .stay (ih (by omega))
theorem Reach.trans {x y z r s : Nat} (h : Reach G x r y) (h' : Reach G y s z) : Reach G x (r + s) z := by
  induction h' with
  | zero => exact h
  | stay _ ih => exact .stay ih
  | step _ a ih => exact .step ih a
theorem Reach.symm {x r y : Nat} (h : Reach G x r y) : Reach G y r x := by
  induction h with
  | zero => exact .zero
  | stay _ ih => exact .stay ih
  | @step r y z _ a ih =>
    have h1 : Reach G z 1 y := .step .zero a.symm
    have := h1.trans ih
    rw [Nat.add_comm] at this
    exact this
theorem Comp.refl {x : Nat} : Comp G x x := ⟨0, .zero⟩
theorem Comp.symm {x y : Nat} (h : Comp G x y) : Comp G y x := let ⟨r, h⟩ := h; ⟨r, h.symm⟩
theorem Comp.trans {x y z : Nat} (h : Comp G x y) (h' : Comp G y z) : Comp G x z := let ⟨_, h⟩ := h; let ⟨_, h'⟩ := h'; ⟨_, h.trans h'⟩
end

/-! ### layers, parts, distances -/
structure IsLayers (G : List (List Nat)) (x : Nat) (Ls : List (List Nat)) : Prop where
  ne : Ls ≠ []
  lay : ∀ (i : Nat) (L : List Nat), Ls[i]? = some L → L ≠ [] ∧ L.Pairwise (· < ·) ∧ ∀ y, y ∈ L ↔ (Reach G x i y ∧ ∀ j, j < i → ¬ Reach G x j y)
  clo : ∀ y, Reach G x Ls.length y → ∃ j, j < Ls.length ∧ Reach G x j y
section
variable {G : List (List Nat)} {x : Nat} {Ls : List (List Nat)}
theorem IsLayers.pos (h : IsLayers G x Ls) : 0 < Ls.length := by
  cases Ls with
  | nil => exact absurd rfl h.ne
  | cons _ _ => exact Nat.succ_pos _
theorem IsLayers.all (h : IsLayers G x Ls) {r y : Nat} (q : Reach G x r y) : ∃ j, j < Ls.length ∧ Reach G x j y := by
  induction q with
  | zero => exact ⟨0, h.pos, .zero⟩
  | stay _ ih => exact ih
  | @step r y z _ a ih =>
    obtain ⟨j, hj, q⟩ := ih
    by_cases e : j + 1 < Ls.length
    · exact ⟨j + 1, e, .step q a⟩
    · have e' : Ls.length = j + 1 := by omega
      exact h.clo z (by rw [e']; exact .step q a)
theorem IsLayers.least (h : IsLayers G x Ls) {r y : Nat} (q : Reach G x r y) : ∃ j L, j ≤ r ∧ Ls[j]? = some L ∧ y ∈ L := by
  obtain ⟨m, hm, pm, hl⟩ := exists_least (P := fun r => Reach G x r y) r q
  obtain ⟨j, hj, pj⟩ := h.all q
  have hmj : m < Ls.length := by
    by_cases e : m ≤ j
    · omega
    · exact absurd pj (hl j (by omega))
  exact ⟨m, Ls[m], hm, List.getElem?_eq_getElem hmj, ((h.lay m _ (List.getElem?_eq_getElem hmj)).2.2 y).mpr ⟨pm, hl⟩⟩
theorem mem_take_flatten {Ls : List (List Nat)} {m y : Nat} : y ∈ (Ls.take m).flatten ↔ ∃ j L, j < m ∧ Ls[j]? = some L ∧ y ∈ L := by
  constructor
  · intro h
    obtain ⟨L, hL, hy⟩ := List.mem_flatten.mp h
    obtain ⟨j, hj, e⟩ := List.mem_iff_getElem.mp hL
    rw [List.length_take] at hj
    refine ⟨j, L, by omega, ?_, hy⟩
    rw [List.getElem_take] at e
    rw [List.getElem?_eq_getElem (by omega), e]
  · rintro ⟨j, L, hj, e, hy⟩
    refine List.mem_flatten.mpr ⟨L, ?_, hy⟩
    exact List.mem_of_getElem? (i := j) (by rw [List.getElem?_take, if_pos hj]; exact e)
theorem IsLayers.mem_take (h : IsLayers G x Ls) {m y : Nat} : y ∈ (Ls.take (m + 1)).flatten ↔ Reach G x m y := by
  rw [mem_take_flatten]
  constructor
  · rintro ⟨j, L, hj, e, hy⟩
    exact (((h.lay j L e).2.2 y).mp hy).1.mono (by omega)
  · intro q
    obtain ⟨j, L, hj, e, hy⟩ := h.least q
    exact ⟨j, L, by omega, e, hy⟩
theorem IsLayers.mem_all (h : IsLayers G x Ls) {y : Nat} : y ∈ Ls.flatten ↔ Comp G x y := by
  constructor
  · intro hy
    obtain ⟨L, hL, hy⟩ := List.mem_flatten.mp hy
    obtain ⟨j, hj, e⟩ := List.mem_iff_getElem.mp hL
    exact ⟨j, (((h.lay j L (by rw [List.getElem?_eq_getElem hj, e])).2.2 y).mp hy).1⟩
  · rintro ⟨r, q⟩
    obtain ⟨j, L, hj, e, hy⟩ := h.least q
    exact List.mem_flatten.mpr ⟨L, List.mem_of_getElem? e, hy⟩
theorem IsLayers.nodup_take (h : IsLayers G x Ls) (m : Nat) : (Ls.take m).flatten.Nodup := by
  unfold List.Nodup
  rw [List.pairwise_flatten]
  refine ⟨fun L hL => ?_, ?_⟩
  · obtain ⟨j, hj, e⟩ := List.mem_iff_getElem.mp hL
    rw [List.length_take] at hj
    rw [List.getElem_take] at e
    exact ((h.lay j L (by rw [List.getElem?_eq_getElem (by omega), e])).2.1).imp fun {a b} q => Nat.ne_of_lt q
  · rw [List.pairwise_iff_getElem]
    intro i j hi hj hij a ha b hb e
    subst e
    rw [List.length_take] at hi hj
    rw [List.getElem_take] at ha hb
    have h1 := ((h.lay i _ (List.getElem?_eq_getElem (by omega))).2.2 a).mp ha
    have h2 := ((h.lay j _ (List.getElem?_eq_getElem (by omega))).2.2 a).mp hb
    exact h2.2 i hij h1.1
theorem IsLayers.nodup (h : IsLayers G x Ls) : Ls.flatten.Nodup := by
  have := h.nodup_take Ls.length
  rw [List.take_length] at this
  exact this
end
structure IsParts (G : List (List Nat)) (N : Nat) (ps : List (List Nat)) : Prop where
  part : ∀ p ∈ ps, p.Pairwise (· < ·) ∧ ∃ x, x < N ∧ ∀ y, y ∈ p ↔ Comp G x y
  cov : ∀ x, x < N → ∃ p ∈ ps, x ∈ p
def IsDist (G : List (List Nat)) (x y : Nat) : Option Nat → Prop
  | some r => Reach G x r y ∧ ∀ j, j < r → ¬ Reach G x j y
  | none => ∀ r, ¬ Reach G x r y

/-! ### one graph over another -/
structure Over (U L : List (List Nat)) (k N : Nat) : Prop where
  kp : 1 ≤ k
  up : GraphOk U (k * N)
  low : GraphOk L N
  len : U.length = L.length
  proj : ∀ (i : Nat) (u l : List Nat) (x y : Nat), U[i]? = some u → L[i]? = some l → u[x]? = some y → l[x / k]? = some (y / k)
section
variable {U L : List (List Nat)} {k N : Nat}
theorem Over.div_lt (o : Over U L k N) {x : Nat} (h : x < k * N) : x / k < N := Nat.div_lt_of_lt_mul h
theorem Over.rowL (o : Over U L k N) {u : List Nat} (h : u ∈ U) : ∃ l, l ∈ L ∧ ∀ x y, u[x]? = some y → l[x / k]? = some (y / k) := by
  obtain ⟨i, hi, e⟩ := List.mem_iff_getElem.mp h
  have hi' : i < L.length := by rw [← o.len]; exact hi
  exact ⟨L[i], List.getElem_mem hi', fun x y => o.proj i u _ x y (by rw [List.getElem?_eq_getElem hi, e]) (List.getElem?_eq_getElem hi')⟩
theorem Over.rowU (o : Over U L k N) {l : List Nat} (h : l ∈ L) : ∃ u, u ∈ U ∧ ∀ x y, u[x]? = some y → l[x / k]? = some (y / k) := by
  obtain ⟨i, hi, e⟩ := List.mem_iff_getElem.mp h
  have hi' : i < U.length := by rw [o.len]; exact hi
  exact ⟨U[i], List.getElem_mem hi', fun x y => o.proj i _ l x y (List.getElem?_eq_getElem hi') (by rw [List.getElem?_eq_getElem hi, e])⟩
theorem Over.adj (o : Over U L k N) {x y : Nat} (h : Adj U x y) : Adj L (x / k) (y / k) := by
  obtain ⟨u, hu, h⟩ := h
  obtain ⟨l, hl, p⟩ := o.rowL hu
  rcases h with h | h
  · exact ⟨l, hl, .inl (p _ _ h)⟩
  · exact ⟨l, hl, .inr (p _ _ h)⟩
theorem Over.reach (o : Over U L k N) {x r y : Nat} (h : Reach U x r y) : Reach L (x / k) r (y / k) := by
  induction h with
  | zero => exact .zero
  | stay _ ih => exact .stay ih
  | step _ a ih => exact .step ih (o.adj a)
theorem Over.lift1 (o : Over U L k N) {x b : Nat} (hx : x < k * N) (h : Adj L (x / k) b) : ∃ z, Adj U x z ∧ z / k = b := by
  obtain ⟨l, hl, h⟩ := h
  obtain ⟨u, hu, p⟩ := o.rowU hl
  rcases h with h | h
  · obtain ⟨z, hz, _⟩ := o.up.at_ hu hx
    refine ⟨z, ⟨u, hu, .inl hz⟩, ?_⟩
    have q := p _ _ hz
    rw [h] at q
    exact (Option.some.inj q).symm
  · obtain ⟨z, hz, _⟩ := o.up.back hu hx
    refine ⟨z, ⟨u, hu, .inr hz⟩, ?_⟩
    exact nodup_at (o.low.nodup hl) (p _ _ hz) h
theorem Over.lift (o : Over U L k N) {x r b : Nat} (hx : x < k * N) (h : Reach L (x / k) r b) : ∃ z, Reach U x r z ∧ z / k = b := by
  generalize ea : x / k = a at h
  induction h with
  | zero => exact ⟨x, .zero, ea⟩
  | stay _ ih =>
    obtain ⟨z, h1, h2⟩ := ih
    exact ⟨z, .stay h1, h2⟩
  | step _ a ih =>
    obtain ⟨z, h1, h2⟩ := ih
    subst h2
    obtain ⟨z', h3, h4⟩ := o.lift1 (o.up.reach hx h1) a
    exact ⟨z', .step h1 h3, h4⟩
theorem Over.comp (o : Over U L k N) {x b : Nat} (hx : x < k * N) : Comp L (x / k) b ↔ ∃ z, Comp U x z ∧ z / k = b := by
  constructor
  · rintro ⟨r, h⟩
    obtain ⟨z, h1, h2⟩ := o.lift hx h
    exact ⟨z, ⟨r, h1⟩, h2⟩
  · rintro ⟨z, ⟨r, h⟩, rfl⟩
    exact ⟨r, o.reach h⟩
/-- distances -/
theorem Over.dist (o : Over U L k N) {x y r : Nat} {d : Option Nat} (h : IsDist U x y (some r)) (h' : IsDist L (x / k) (y / k) d) : ∃ s, d = some s ∧ s ≤ r := by
  have q := o.reach h.1
  cases d with
  | none => exact absurd q (h' r)
  | some s =>
    refine ⟨s, rfl, ?_⟩
    by_cases e : s ≤ r
    · exact e
    · exact absurd q (h'.2 r (by omega))
/-- balls -/
theorem sum_take_len (Ls : List (List Nat)) (m : Nat) : ((Ls.map List.length).take m).sum = (Ls.take m).flatten.length := by
  rw [List.length_flatten, List.map_take]
theorem Over.balls (o : Over U L k N) {x : Nat} (hx : x < k * N) {Us Ws : List (List Nat)} (hu : IsLayers U x Us) (hl : IsLayers L (x / k) Ws) (m : Nat) :
    ((Ws.map List.length).take (m + 1)).sum ≤ ((Us.map List.length).take (m + 1)).sum := by
  rw [sum_take_len, sum_take_len]
  refine len_le_rel (fun b z => z / k = b) _ _ (hl.nodup_take _) (fun b hb => ?_) (fun a a' b _ _ h1 h2 => h1.symm.trans h2)
  obtain ⟨z, h1, h2⟩ := o.lift hx (hl.mem_take.mp hb)
  exact ⟨z, hu.mem_take.mpr h1, h2⟩
/-- what lies under a part is a part -/
theorem Over.under (o : Over U L k N) {ps qs : List (List Nat)} (hp : IsParts U (k * N) ps) (hq : IsParts L N qs) {p w : List Nat} (h : p ∈ ps) (hw : w.Pairwise (· < ·)) (hm : ∀ b, b ∈ w ↔ ∃ z ∈ p, z / k = b) : w ∈ qs := by
  obtain ⟨_, x, hx, hpx⟩ := hp.part p h
  obtain ⟨q, hqm, hxq⟩ := hq.cov (x / k) (o.div_lt hx)
  obtain ⟨hqs, x', hx', hqx⟩ := hq.part q hqm
  have e : w = q := by
    refine sorted_eq hw hqs fun b => ?_
    rw [hm, hqx]
    have h1 : Comp L x' (x / k) := (hqx _).mp hxq
    constructor
    · rintro ⟨z, hz, rfl⟩
      exact h1.trans ((o.comp hx).mpr ⟨z, (hpx z).mp hz, rfl⟩)
    · intro hb
      obtain ⟨z, h2, h3⟩ := (o.comp hx).mp (h1.symm.trans hb)
      exact ⟨z, (hpx z).mpr h2, h3⟩
  rw [e]
  exact hqm
/-- how many of a list lie over b -/
def fibre (k : Nat) (p : List Nat) (b : Nat) : List Nat := p.filter fun z => z / k == b
theorem mem_fibre {k : Nat} {p : List Nat} {b z : Nat} : z ∈ fibre k p b ↔ z ∈ p ∧ z / k = b := by
  unfold fibre
  rw [List.mem_filter, beq_iff_eq]
theorem Over.fib_le (o : Over U L k N) {x : Nat} {p : List Nat} (hx : x < k * N) (hn : p.Nodup) (hp : ∀ y, y ∈ p ↔ Comp U x y) {b c : Nat} (h : Adj L b c) : (fibre k p b).length ≤ (fibre k p c).length := by
  have hlt : ∀ z, z ∈ p → z < k * N := fun z hz => let ⟨_, q⟩ := (hp z).mp hz; o.up.reach hx q
  have cl : ∀ y z, y ∈ p → Adj U y z → z ∈ p := fun y z hy a => by
    obtain ⟨r, q⟩ := (hp y).mp hy
    exact (hp z).mpr ⟨r + 1, .step q a⟩
  have hnf : (fibre k p b).Nodup := hn.filter _
  obtain ⟨l, hl, h⟩ := h
  obtain ⟨u, hu, pr⟩ := o.rowU hl
  rcases h with h | h
  · refine len_le_rel (fun y z => u[y]? = some z) _ _ hnf (fun y hy => ?_) (fun a a' z _ _ h1 h2 => nodup_at (o.up.nodup hu) h1 h2)
    obtain ⟨hy1, hy2⟩ := mem_fibre.mp hy
    obtain ⟨z, hz, _⟩ := o.up.at_ hu (hlt y hy1)
    refine ⟨z, mem_fibre.mpr ⟨cl y z hy1 ⟨u, hu, .inl hz⟩, ?_⟩, hz⟩
    have q := pr _ _ hz
    rw [hy2, h] at q
    exact (Option.some.inj q).symm
  · refine len_le_rel (fun y z => u[z]? = some y) _ _ hnf (fun y hy => ?_) (fun a a' z _ _ h1 h2 => Option.some.inj (h1.symm.trans h2))
    obtain ⟨hy1, hy2⟩ := mem_fibre.mp hy
    obtain ⟨z, hz, _⟩ := o.up.back hu (hlt y hy1)
    refine ⟨z, mem_fibre.mpr ⟨cl y z hy1 ⟨u, hu, .inr hz⟩, ?_⟩, hz⟩
    have q := pr _ _ hz
    rw [hy2] at q
    exact nodup_at (o.low.nodup hl) q h
theorem Over.fib_eq (o : Over U L k N) {x : Nat} {p : List Nat} (hx : x < k * N) (hn : p.Nodup) (hp : ∀ y, y ∈ p ↔ Comp U x y) {b c : Nat} (h : Comp L b c) : (fibre k p b).length = (fibre k p c).length := by
  obtain ⟨r, h⟩ := h
  induction h with
  | zero => rfl
  | stay _ ih => exact ih
  | step _ a ih => exact ih.trans (Nat.le_antisymm (o.fib_le hx hn hp a) (o.fib_le hx hn hp a.symm))
theorem fib_le_k {p : List Nat} (hk : 1 ≤ k) (hn : p.Nodup) (b : Nat) : (fibre k p b).length ≤ k := by
  have h : (fibre k p b).length ≤ ((List.range k).map fun d => k * b + d).length := by
    refine List.Nodup.length_le_of_subset (hn.filter _) fun z hz => ?_
    obtain ⟨_, e⟩ := mem_fibre.mp hz
    refine List.mem_map.mpr ⟨z % k, List.mem_range.mpr (Nat.mod_lt _ (by omega)), ?_⟩
    rw [← e]
    exact Nat.div_add_mod z k
  rw [List.length_map, List.length_range] at h
  exact h
/-- over each string under a part lie equally many, at least one and at most k -/
theorem Over.even (o : Over U L k N) {ps : List (List Nat)} (hp : IsParts U (k * N) ps) {p : List Nat} (h : p ∈ ps) :
    ∃ c, 1 ≤ c ∧ c ≤ k ∧ ∀ z ∈ p, (fibre k p (z / k)).length = c := by
  obtain ⟨hs, x, hx, hpx⟩ := hp.part p h
  have hn : p.Nodup := hs.imp fun {a b} q => Nat.ne_of_lt q
  refine ⟨(fibre k p (x / k)).length, ?_, fib_le_k o.kp hn _, fun z hz => ?_⟩
  · exact List.length_pos_of_mem (mem_fibre.mpr ⟨(hpx x).mpr Comp.refl, rfl⟩)
  · exact (o.fib_eq hx hn hpx ((o.comp hx).mpr ⟨z, (hpx z).mp hz, rfl⟩)).symm
end
end LT
/-! Plain mathematics: machines, words, and the graphs of two levels. No program here. -/
namespace LT
abbrev Letter := Nat × Bool
abbrev Rows := List (List (Nat × Nat))
structure MachOk (k : Nat) (rows : Rows) : Prop where
  k2 : 2 ≤ k
  k3 : k ≤ 3
  n1 : 1 ≤ rows.length
  n4 : rows.length ≤ 4
  perm : ∀ row ∈ rows, (row.map Prod.fst).Perm (List.range k)
  fol : ∀ row ∈ rows, ∀ e ∈ row, e.2 < rows.length
/-- the table of what undoes a row -/
def backRow (k : Nat) (row : List (Nat × Nat)) : List (Nat × Nat) :=
  (List.range k).map fun o => ((row.map Prod.fst).idxOf o, (row.getD ((row.map Prod.fst).idxOf o) (0, 0)).2)
def tbl (k : Nat) (rows : Rows) (l : Letter) : List (Nat × Nat) := if l.2 then backRow k (rows.getD l.1 []) else rows.getD l.1 []
def stepF (k : Nat) (rows : Rows) (p : Nat × List Letter) (l : Letter) : Nat × List Letter :=
  (((tbl k rows l).getD p.1 (0, 0)).1, p.2 ++ [(((tbl k rows l).getD p.1 (0, 0)).2, l.2)])
def stepW (k : Nat) (rows : Rows) (w : List Letter) (d : Nat) : Nat × List Letter := w.foldl (stepF k rows) (d, [])
def moveF (k : Nat) (rows : Rows) (p : List Nat × List Letter) (d : Nat) : List Nat × List Letter :=
  (p.1 ++ [(stepW k rows p.2 d).1], (stepW k rows p.2 d).2)
def moveW (k : Nat) (rows : Rows) (w : List Letter) (ds : List Nat) : List Nat × List Letter := ds.foldl (moveF k rows) ([], w)
def digs (k : Nat) : Nat → Nat → List Nat
  | 0, _ => []
  | n + 1, x => digs k n (x / k) ++ [x % k]
def num (k : Nat) (ds : List Nat) : Nat := ds.foldl (fun a d => a * k + d) 0
def entry (k : Nat) (rows : Rows) (w : List Letter) (n x : Nat) : Nat := num k (moveW k rows w (digs k n x)).1
def levelRow (k : Nat) (rows : Rows) (n : Nat) (w : List Letter) : List Nat := (List.range (k ^ n)).map (entry k rows w n)
def levelG (k : Nat) (rows : Rows) (ws : List (List Letter)) (n : Nat) : List (List Nat) := ws.map (levelRow k rows n)
def WordOk (rows : Rows) (w : List Letter) : Prop := ∀ l ∈ w, l.1 < rows.length

section
variable {k : Nat} {rows : Rows}
theorem MachOk.rowLen (m : MachOk k rows) {row : List (Nat × Nat)} (h : row ∈ rows) : row.length = k := by
  have := (m.perm row h).length_eq
  rw [List.length_map, List.length_range] at this
  exact this
theorem MachOk.rowAt (m : MachOk k rows) {row : List (Nat × Nat)} (h : row ∈ rows) {d : Nat} (hd : d < k) : ∃ o f, row[d]? = some (o, f) ∧ o < k ∧ f < rows.length := by
  have hl : d < row.length := by rw [m.rowLen h]; exact hd
  have hm := List.getElem_mem hl
  refine ⟨row[d].1, row[d].2, List.getElem?_eq_getElem hl, ?_, m.fol row h _ hm⟩
  exact List.mem_range.mp ((m.perm row h).mem_iff.mp (List.mem_map.mpr ⟨_, hm, rfl⟩))
theorem MachOk.rowInj (m : MachOk k rows) {row : List (Nat × Nat)} (h : row ∈ rows) {d d' o f f' : Nat} (a : row[d]? = some (o, f)) (b : row[d']? = some (o, f')) : d = d' := by
  have hn : (row.map Prod.fst).Nodup := (m.perm row h).nodup_iff.mpr List.nodup_range
  exact nodup_at (l := row.map Prod.fst) hn (by rw [List.getElem?_map, a]; rfl) (by rw [List.getElem?_map, b]; rfl)
theorem MachOk.rowBack (m : MachOk k rows) {row : List (Nat × Nat)} (h : row ∈ rows) {o : Nat} (ho : o < k) : ∃ d f, row[d]? = some (o, f) ∧ d < k ∧ f < rows.length := by
  have hm : o ∈ row.map Prod.fst := (m.perm row h).mem_iff.mpr (List.mem_range.mpr ho)
  obtain ⟨e, he, eo⟩ := List.mem_map.mp hm
  obtain ⟨d, hd, ed⟩ := List.mem_iff_getElem.mp he
  refine ⟨d, e.2, ?_, by rw [← m.rowLen h]; exact hd, m.fol row h e he⟩
  rw [List.getElem?_eq_getElem hd, ed, ← eo]
theorem MachOk.backAt (m : MachOk k rows) {row : List (Nat × Nat)} (h : row ∈ rows) {d o f : Nat} (a : row[d]? = some (o, f)) : (backRow k row)[o]? = some (d, f) := by
  have hd : d < row.length := (List.getElem?_eq_some_iff.mp a).1
  obtain ⟨o', f', a', ho, hf⟩ := m.rowAt h (by rw [← m.rowLen h]; exact hd)
  rw [a] at a'
  cases a'
  have hn : (row.map Prod.fst).Nodup := (m.perm row h).nodup_iff.mpr List.nodup_range
  have hm : o ∈ row.map Prod.fst := (m.perm row h).mem_iff.mpr (List.mem_range.mpr ho)
  have hi : (row.map Prod.fst).idxOf o = d := by
    have hl := List.idxOf_lt_length_iff.mpr hm
    refine nodup_at hn (i := (row.map Prod.fst).idxOf o) (j := d) (x := o) ?_ (by rw [List.getElem?_map, a]; rfl)
    rw [List.getElem?_eq_getElem hl, List.getElem_idxOf]
  unfold backRow
  rw [List.getElem?_map, List.getElem?_range ho]
  show some ((row.map Prod.fst).idxOf o, (row.getD ((row.map Prod.fst).idxOf o) (0, 0)).2) = _
  rw [hi, List.getD_eq_getElem?_getD, a]
  rfl
theorem backRow_length {row : List (Nat × Nat)} : (backRow k row).length = k := by
  unfold backRow
  rw [List.length_map, List.length_range]
theorem MachOk.tblLen (m : MachOk k rows) {l : Letter} (h : l.1 < rows.length) : (tbl k rows l).length = k := by
  unfold tbl
  split
  · exact backRow_length
  · rw [List.getD_eq_getElem?_getD, List.getElem?_eq_getElem h]
    exact m.rowLen (List.getElem_mem h)
theorem MachOk.tblAt (m : MachOk k rows) {l : Letter} (h : l.1 < rows.length) {d : Nat} (hd : d < k) : ∃ o f, (tbl k rows l)[d]? = some (o, f) ∧ o < k ∧ f < rows.length := by
  unfold tbl
  have e : rows.getD l.1 [] = rows[l.1] := by rw [List.getD_eq_getElem?_getD, List.getElem?_eq_getElem h]; rfl
  have hm := List.getElem_mem h
  rw [e]
  split
  · obtain ⟨x, f, a, hx, hf⟩ := m.rowBack hm hd
    exact ⟨x, f, m.backAt hm a, hx, hf⟩
  · exact m.rowAt hm hd
theorem MachOk.tblInj (m : MachOk k rows) {l : Letter} (h : l.1 < rows.length) {d d' o f f' : Nat} (a : (tbl k rows l)[d]? = some (o, f)) (b : (tbl k rows l)[d']? = some (o, f')) : d = d' := by
  have e : rows.getD l.1 [] = rows[l.1] := by rw [List.getD_eq_getElem?_getD, List.getElem?_eq_getElem h]; rfl
  have hm := List.getElem_mem h
  unfold tbl at a b
  rw [e] at a b
  split at a
  · rename_i c
    rw [if_pos c] at b
    have hd : d < k := by have := (List.getElem?_eq_some_iff.mp a).1; rw [backRow_length] at this; exact this
    have hd' : d' < k := by have := (List.getElem?_eq_some_iff.mp b).1; rw [backRow_length] at this; exact this
    obtain ⟨x, g, p, _, _⟩ := m.rowBack hm hd
    obtain ⟨x', g', p', _, _⟩ := m.rowBack hm hd'
    have q := m.backAt hm p
    have q' := m.backAt hm p'
    rw [a] at q
    rw [b] at q'
    cases q
    cases q'
    rw [p] at p'
    cases p'
    rfl
  · rename_i c
    rw [if_neg c] at b
    exact m.rowInj hm a b
theorem stepW_nil (d : Nat) : stepW k rows [] d = (d, []) := rfl
theorem stepW_snoc (w : List Letter) (l : Letter) (d : Nat) : stepW k rows (w ++ [l]) d = stepF k rows (stepW k rows w d) l := by
  unfold stepW
  rw [List.foldl_append]
  rfl
/-- induction from the right -/
theorem snocInd {α : Type} {P : List α → Prop} (h0 : P []) (h1 : ∀ l a, P l → P (l ++ [a])) (l : List α) : P l := by
  have : ∀ n (l : List α), l.length = n → P l := by
    intro n
    induction n with
    | zero => intro l e; rw [List.eq_nil_of_length_eq_zero e]; exact h0
    | succ n ih =>
      intro l e
      have hne : l ≠ [] := fun z => by subst z; cases e
      rw [← List.dropLast_concat_getLast hne]
      exact h1 _ _ (ih _ (by rw [List.length_dropLast, e]; rfl))
  exact this _ l rfl
theorem MachOk.stepOk (m : MachOk k rows) {w : List Letter} (hw : WordOk rows w) {d : Nat} (hd : d < k) : (stepW k rows w d).1 < k ∧ WordOk rows (stepW k rows w d).2 ∧ (stepW k rows w d).2.length = w.length := by
  induction w using snocInd with
  | h0 => exact ⟨hd, fun _ h => (by cases h), rfl⟩
  | h1 w l ih =>
    obtain ⟨h1, h2, h3⟩ := ih fun x hx => hw x (List.mem_append_left _ hx)
    have hl : l.1 < rows.length := hw l (List.mem_append_right _ List.mem_cons_self)
    rw [stepW_snoc]
    obtain ⟨o, f, a, ho, hf⟩ := m.tblAt hl h1
    have e : (tbl k rows l).getD (stepW k rows w d).1 (0, 0) = (o, f) := by rw [List.getD_eq_getElem?_getD, a]; rfl
    unfold stepF
    rw [e]
    refine ⟨ho, fun x hx => ?_, by simp [h3]⟩
    rcases List.mem_append.mp hx with hx | hx
    · exact h2 x hx
    · rw [List.mem_singleton.mp hx]
      exact hf
theorem MachOk.stepInj (m : MachOk k rows) {w : List Letter} (hw : WordOk rows w) {d d' : Nat} (hd : d < k) (hd' : d' < k) (h : (stepW k rows w d).1 = (stepW k rows w d').1) : d = d' := by
  induction w using snocInd with
  | h0 => exact h
  | h1 w l ih =>
    have hw' : WordOk rows w := fun x hx => hw x (List.mem_append_left _ hx)
    have hl : l.1 < rows.length := hw l (List.mem_append_right _ List.mem_cons_self)
    refine ih hw' ?_
    rw [stepW_snoc, stepW_snoc] at h
    obtain ⟨o, f, a, ho, hf⟩ := m.tblAt hl (m.stepOk hw' hd).1
    obtain ⟨o', f', a', ho', hf'⟩ := m.tblAt hl (m.stepOk hw' hd').1
    have e : (tbl k rows l).getD (stepW k rows w d).1 (0, 0) = (o, f) := by rw [List.getD_eq_getElem?_getD, a]; rfl
    have e' : (tbl k rows l).getD (stepW k rows w d').1 (0, 0) = (o', f') := by rw [List.getD_eq_getElem?_getD, a']; rfl
    unfold stepF at h
    rw [e, e'] at h
    have h : o = o' := h
    subst h
    exact m.tblInj hl a a'
theorem moveW_snoc (w : List Letter) (ds : List Nat) (d : Nat) : moveW k rows w (ds ++ [d]) = moveF k rows (moveW k rows w ds) d := by
  unfold moveW
  rw [List.foldl_append]
  rfl
theorem num_snoc (ds : List Nat) (d : Nat) : num k (ds ++ [d]) = num k ds * k + d := by
  unfold num
  rw [List.foldl_append]
  rfl
theorem MachOk.moveOk (m : MachOk k rows) {w : List Letter} (hw : WordOk rows w) {ds : List Nat} (hd : ∀ d ∈ ds, d < k) : (∀ d ∈ (moveW k rows w ds).1, d < k) ∧ WordOk rows (moveW k rows w ds).2 ∧ (moveW k rows w ds).1.length = ds.length ∧ (moveW k rows w ds).2.length = w.length := by
  induction ds using snocInd with
  | h0 => exact ⟨fun _ h => (by cases h), hw, rfl, rfl⟩
  | h1 ds d ih =>
    obtain ⟨h1, h2, h3, h4⟩ := ih fun x hx => hd x (List.mem_append_left _ hx)
    have hdk : d < k := hd d (List.mem_append_right _ List.mem_cons_self)
    rw [moveW_snoc]
    unfold moveF
    obtain ⟨s1, s2, s3⟩ := m.stepOk h2 hdk
    refine ⟨fun x hx => ?_, s2, by simp [h3], s3.trans h4⟩
    rcases List.mem_append.mp hx with hx | hx
    · exact h1 x hx
    · rw [List.mem_singleton.mp hx]
      exact s1
theorem digs_lt (hk : 1 ≤ k) : ∀ (n x : Nat), ∀ d ∈ digs k n x, d < k
  | 0, _, d, h => by cases h
  | n + 1, x, d, h => by
    rcases List.mem_append.mp h with h | h
    · exact digs_lt hk n _ d h
    · rw [List.mem_singleton.mp h]
      exact Nat.mod_lt _ hk
theorem digs_length : ∀ (n x : Nat), (digs k n x).length = n
  | 0, _ => rfl
  | n + 1, x => by
    show (digs k n (x / k) ++ [x % k]).length = n + 1
    rw [List.length_append, digs_length n]
    rfl
theorem num_lt : ∀ (ds : List Nat), (∀ d ∈ ds, d < k) → num k ds < k ^ ds.length := by
  intro ds
  induction ds using snocInd with
  | h0 => intro _; exact Nat.one_pos
  | h1 ds d ih =>
    intro h
    have h1 := ih fun x hx => h x (List.mem_append_left _ hx)
    have h2 := h d (List.mem_append_right _ List.mem_cons_self)
    rw [num_snoc, List.length_append, List.length_singleton, Nat.pow_succ]
    have : (num k ds + 1) * k ≤ k ^ ds.length * k := Nat.mul_le_mul_right _ h1
    rw [Nat.add_mul] at this
    omega
theorem MachOk.entry_lt (m : MachOk k rows) {w : List Letter} (hw : WordOk rows w) (n x : Nat) : entry k rows w n x < k ^ n := by
  unfold entry
  obtain ⟨h1, _, h3, _⟩ := m.moveOk hw (digs_lt (k := k) (by have := m.k2; omega) n x)
  have := num_lt _ h1
  rw [h3, digs_length] at this
  exact this
theorem MachOk.entry_succ (m : MachOk k rows) {w : List Letter} (hw : WordOk rows w) (n x : Nat) : ∃ e w', e < k ∧ WordOk rows w' ∧ w' = (moveW k rows w (digs k n (x / k))).2 ∧ e = (stepW k rows w' (x % k)).1 ∧ entry k rows w (n + 1) x = entry k rows w n (x / k) * k + e := by
  have hk : 0 < k := by have := m.k2; omega
  obtain ⟨_, h2, _, _⟩ := m.moveOk hw (digs_lt (k := k) hk n (x / k))
  refine ⟨_, _, (m.stepOk h2 (Nat.mod_lt x hk)).1, h2, rfl, rfl, ?_⟩
  unfold entry
  show num k (moveW k rows w (digs k n (x / k) ++ [x % k])).1 = _
  rw [moveW_snoc]
  exact num_snoc _ _
theorem MachOk.entry_div (m : MachOk k rows) {w : List Letter} (hw : WordOk rows w) (n x : Nat) : entry k rows w (n + 1) x / k = entry k rows w n (x / k) := by
  obtain ⟨e, w', he, _, _, _, h⟩ := m.entry_succ hw n x
  rw [h, Nat.add_comm, Nat.add_mul_div_right _ _ (by omega), Nat.div_eq_of_lt he, Nat.zero_add]
theorem MachOk.entry_inj (m : MachOk k rows) {w : List Letter} (hw : WordOk rows w) : ∀ (n x y : Nat), x < k ^ n → y < k ^ n → entry k rows w n x = entry k rows w n y → x = y
  | 0, x, y, hx, hy, _ => by
    rw [Nat.pow_zero] at hx hy
    omega
  | n + 1, x, y, hx, hy, h => by
    have hk : 0 < k := by have := m.k2; omega
    have hx' : x / k < k ^ n := Nat.div_lt_of_lt_mul (by rw [Nat.mul_comm, ← Nat.pow_succ]; exact hx)
    have hy' : y / k < k ^ n := Nat.div_lt_of_lt_mul (by rw [Nat.mul_comm, ← Nat.pow_succ]; exact hy)
    have hq : x / k = y / k := m.entry_inj hw n _ _ hx' hy' (by rw [← m.entry_div hw, ← m.entry_div hw, h])
    obtain ⟨e, w', he, hw', ew, ee, e1⟩ := m.entry_succ hw n x
    obtain ⟨e', w'', he', hw'', ew', ee', e1'⟩ := m.entry_succ hw n y
    rw [e1, e1', hq] at h
    have hee : e = e' := by omega
    have hww : w'' = w' := by rw [ew, ew', hq]
    rw [ee, ee', hww] at hee
    have hr : x % k = y % k := m.stepInj hw' (Nat.mod_lt _ hk) (Nat.mod_lt _ hk) hee
    rw [← Nat.div_add_mod x k, ← Nat.div_add_mod y k, hq, hr]
theorem perm_range {l : List Nat} {n : Nat} (hn : l.Nodup) (hl : l.length = n) (hm : ∀ x ∈ l, x < n) : l.Perm (List.range n) := by
  refine (List.perm_ext_iff_of_nodup hn List.nodup_range).mpr fun a => ⟨fun h => List.mem_range.mpr (hm a h), fun h => ?_⟩
  by_cases c : a ∈ l
  · exact c
  · have hs : l ⊆ (List.range n).erase a := fun x hx => (List.mem_erase_of_ne (fun e => c (by rw [← e]; exact hx))).mpr (List.mem_range.mpr (hm x hx))
    have h1 := hn.length_le_of_subset hs
    have h2 := List.length_erase_of_mem h
    rw [List.length_range] at h2
    have h3 := List.mem_range.mp h
    omega
theorem nodup_map_range {n : Nat} {f : Nat → Nat} (h : ∀ x y, x < n → y < n → f x = f y → x = y) : ((List.range n).map f).Nodup := by
  unfold List.Nodup
  rw [List.pairwise_map]
  refine List.Pairwise.imp_of_mem (fun {a b} ha hb hne e => hne ?_) List.nodup_range
  exact h a b (List.mem_range.mp ha) (List.mem_range.mp hb) e
theorem MachOk.rowPerm (m : MachOk k rows) {w : List Letter} (hw : WordOk rows w) (n : Nat) : (levelRow k rows n w).Perm (List.range (k ^ n)) := by
  refine perm_range (nodup_map_range fun x y hx hy h => m.entry_inj hw n x y hx hy h) (by unfold levelRow; rw [List.length_map, List.length_range]) fun x hx => ?_
  obtain ⟨y, _, rfl⟩ := List.mem_map.mp hx
  exact m.entry_lt hw n y
theorem MachOk.graph (m : MachOk k rows) {ws : List (List Letter)} (h1 : 1 ≤ ws.length) (h2 : ws.length ≤ 6) (hw : ∀ w ∈ ws, WordOk rows w) {n : Nat} (hN : k ^ n ≤ 1024) : GraphOk (levelG k rows ws n) (k ^ n) := by
  refine ⟨fun row hr => ?_, by unfold levelG; rw [List.length_map]; exact h1, by unfold levelG; rw [List.length_map]; exact h2, Nat.pow_pos (by have := m.k2; omega), hN⟩
  obtain ⟨w, hw', rfl⟩ := List.mem_map.mp hr
  exact m.rowPerm (hw w hw') n
theorem MachOk.over (m : MachOk k rows) {ws : List (List Letter)} (h1 : 1 ≤ ws.length) (h2 : ws.length ≤ 6) (hw : ∀ w ∈ ws, WordOk rows w) {n : Nat} (hN : k ^ (n + 1) ≤ 1024) : Over (levelG k rows ws (n + 1)) (levelG k rows ws n) k (k ^ n) := by
  have hk : 0 < k := by have := m.k2; omega
  have e : k ^ (n + 1) = k * k ^ n := by rw [Nat.pow_succ, Nat.mul_comm]
  have hle : k ^ n ≤ k ^ (n + 1) := Nat.pow_le_pow_right hk (Nat.le_succ n)
  refine ⟨hk, by rw [← e]; exact m.graph h1 h2 hw hN, m.graph h1 h2 hw (Nat.le_trans hle hN), by unfold levelG; rw [List.length_map, List.length_map], fun i u l x y hu hl hx => ?_⟩
  unfold levelG at hu hl
  rw [List.getElem?_map] at hu hl
  cases ew : ws[i]? with
  | none => rw [ew] at hu; cases hu
  | some w =>
    rw [ew] at hu hl
    cases hu
    cases hl
    have hw' := hw w (List.mem_of_getElem? ew)
    unfold levelRow at hx ⊢
    rw [List.getElem?_map] at hx ⊢
    have hxl : x < k ^ (n + 1) := by
      by_cases c : x < k ^ (n + 1)
      · exact c
      · rw [List.getElem?_eq_none (by rw [List.length_range]; omega)] at hx
        cases hx
    have hxl' : x / k < k ^ n := Nat.div_lt_of_lt_mul (by rw [← e]; exact hxl)
    rw [List.getElem?_range hxl] at hx
    rw [List.getElem?_range hxl']
    cases hx
    show some (entry k rows w n (x / k)) = some (entry k rows w (n + 1) x / k)
    rw [m.entry_div hw']
end
end LT
/-! Plain mathematics: the search by layers; backs; parts as they are found. -/
namespace LT
structure BfsInv (G : List (List Nat)) (x m : Nat) (Ls : List (List Nat)) (ks : List Nat) : Prop where
  len : Ls.length = m + 1
  nd : ks.Nodup
  met : ∀ y, y ∈ ks ↔ Reach G x m y
  lay : ∀ (i : Nat) (L : List Nat), Ls[i]? = some L → L.Pairwise (· < ·) ∧ ∀ y, y ∈ L ↔ (Reach G x i y ∧ ∀ j, j < i → ¬ Reach G x j y)
  ne : ∀ (i : Nat) (L : List Nat), i < m → Ls[i]? = some L → L ≠ []
section
variable {G : List (List Nat)} {x m : Nat} {Ls : List (List Nat)} {ks : List Nat}
theorem reach0 {y : Nat} (h : Reach G x 0 y) : y = x := by cases h; rfl
theorem BfsInv.start : BfsInv G x 0 [[x]] [x] := by
  refine ⟨rfl, by simp, fun y => ⟨fun h => by rw [List.mem_singleton.mp h]; exact .zero, fun h => by rw [reach0 h]; simp⟩, fun i L h => ?_, fun i L h => absurd h (Nat.not_lt_zero _)⟩
  cases i with
  | zero =>
    cases h
    exact ⟨by simp, fun y => ⟨fun h => by rw [List.mem_singleton.mp h]; exact ⟨.zero, fun j hj => absurd hj (Nat.not_lt_zero _)⟩, fun h => by rw [reach0 h.1]; simp⟩⟩
  | succ i => simp at h
theorem BfsInv.bound {N : Nat} (b : BfsInv G x m Ls ks) (g : GraphOk G N) (hx : x < N) : ks.length ≤ N := by
  have := b.nd.length_le_of_subset (l₂ := List.range N) fun y hy => List.mem_range.mpr (g.reach hx ((b.met y).mp hy))
  rw [List.length_range] at this
  exact this
theorem BfsInv.step (b : BfsInv G x m Ls ks) {last fs ms : List Nat} (hl : Ls[m]? = some last) (hne : last ≠ []) (hnd : (ks ++ fs).Nodup) (hf : ∀ y, y ∈ fs ↔ (y ∉ ks ∧ ∃ one ∈ last, Adj G one y)) (hp : ms.Perm fs) (hs : ms.Pairwise (· ≤ ·)) :
    BfsInv G x (m + 1) (Ls ++ [ms]) (ks ++ fs) := by
  have hlast := (b.lay m last hl).2
  have key : ∀ y, y ∈ fs ↔ (Reach G x (m + 1) y ∧ ¬ Reach G x m y) := fun y => by
    rw [hf]
    constructor
    · rintro ⟨h1, one, h2, h3⟩
      exact ⟨.step ((hlast one).mp h2).1 h3, fun z => h1 ((b.met y).mpr z)⟩
    · rintro ⟨h1, h2⟩
      refine ⟨fun z => h2 ((b.met y).mp z), ?_⟩
      cases h1 with
      | stay h => exact absurd h h2
      | @step _ z _ h a =>
        refine ⟨z, (hlast z).mpr ⟨h, fun j hj hr => h2 ?_⟩, a⟩
        exact (Reach.step hr a).mono (by omega)
  refine ⟨by rw [List.length_append, b.len]; rfl, hnd, fun y => ?_, fun i L h => ?_, fun i L hi h => ?_⟩
  · rw [List.mem_append, b.met, key]
    constructor
    · rintro (h | h)
      · exact .stay h
      · exact h.1
    · intro h
      by_cases c : Reach G x m y
      · exact .inl c
      · exact .inr ⟨h, c⟩
  · by_cases c : i < Ls.length
    · rw [List.getElem?_append_left c] at h
      exact b.lay i L h
    · have e : i = Ls.length := by
        have := (List.getElem?_eq_some_iff.mp h).1
        rw [List.length_append, List.length_singleton] at this
        omega
      subst e
      rw [List.getElem?_append_right (Nat.le_refl _), Nat.sub_self] at h
      cases h
      have hnf : fs.Nodup := (List.nodup_append.mp hnd).2.1
      refine ⟨strict_of (hp.nodup_iff.mpr hnf) hs, fun y => ?_⟩
      rw [hp.mem_iff, key, b.len]
      constructor
      · rintro ⟨h1, h2⟩
        exact ⟨h1, fun j hj hr => h2 (hr.mono (by omega))⟩
      · rintro ⟨h1, h2⟩
        exact ⟨h1, h2 m (by omega)⟩
  · by_cases c : i < m
    · rw [List.getElem?_append_left (by rw [b.len]; omega)] at h
      exact b.ne i L c h
    · have e : i = m := by omega
      subst e
      rw [List.getElem?_append_left (by rw [b.len]; omega), hl] at h
      cases h
      exact hne
theorem BfsInv.fin (b : BfsInv G x m Ls ks) (hl : Ls[m]? = some []) : IsLayers G x Ls.dropLast := by
  have hm : 0 < m := by
    cases m with
    | zero =>
      have := ((b.lay 0 [] hl).2 x).mpr ⟨.zero, fun j hj => absurd hj (Nat.not_lt_zero _)⟩
      cases this
    | succ m => exact Nat.succ_pos _
  have hlen : Ls.dropLast.length = m := by rw [List.length_dropLast, b.len]; rfl
  have hat : ∀ (i : Nat) (L : List Nat), Ls.dropLast[i]? = some L → i < m ∧ Ls[i]? = some L := fun i L h => by
    have hi := (List.getElem?_eq_some_iff.mp h).1
    rw [hlen] at hi
    rw [List.getElem?_dropLast, if_pos (by rw [b.len]; omega)] at h
    exact ⟨hi, h⟩
  refine ⟨fun e => ?_, fun i L h => ?_, fun y hy => ?_⟩
  · rw [e] at hlen
    simp at hlen
    omega
  · obtain ⟨hi, h⟩ := hat i L h
    exact ⟨b.ne i L hi h, b.lay i L h⟩
  · rw [hlen] at hy ⊢
    obtain ⟨j, hj, pj, hlt⟩ := exists_least (P := fun r => Reach G x r y) m hy
    by_cases c : j = m
    · subst c
      have := ((b.lay j [] hl).2 y).mpr ⟨pj, hlt⟩
      cases this
    · exact ⟨j, by omega, pj⟩
end
/-- the rows that undo the rows of a graph -/
def BacksOf (G : List (List Nat)) (N : Nat) (Bs : List (List Nat)) : Prop :=
  Bs.length = G.length ∧ ∀ (i : Nat) (row bk : List Nat), G[i]? = some row → Bs[i]? = some bk → bk.length = N ∧ ∀ x y : Nat, row[x]? = some y → bk[y]? = some x
theorem back_iff {G : List (List Nat)} {N : Nat} {Bs : List (List Nat)} (g : GraphOk G N) (b : BacksOf G N Bs) {i : Nat} {row bk : List Nat} (h1 : G[i]? = some row) (h2 : Bs[i]? = some bk) (x y : Nat) : bk[y]? = some x ↔ row[x]? = some y := by
  obtain ⟨hl, hb⟩ := b.2 i row bk h1 h2
  constructor
  · intro h
    have hy : y < N := by rw [← hl]; exact (List.getElem?_eq_some_iff.mp h).1
    obtain ⟨x', hx', _⟩ := g.back (List.mem_of_getElem? h1) hy
    have := hb x' y hx'
    rw [h] at this
    cases this
    exact hx'
  · exact hb x y
/-- parts as they are found: behind the numbers below i -/
structure PartsAt (G : List (List Nat)) (N i : Nat) (ps : List (List Nat)) : Prop where
  part : ∀ p ∈ ps, p.Pairwise (· < ·) ∧ ∃ x, x < N ∧ ∀ y, y ∈ p ↔ Comp G x y
  cov : ∀ x, x < i → ∃ p ∈ ps, x ∈ p
theorem PartsAt.fin {G : List (List Nat)} {N : Nat} {ps : List (List Nat)} (h : PartsAt G N N ps) : IsParts G N ps := ⟨h.part, h.cov⟩
theorem PartsAt.old {G : List (List Nat)} {N i : Nat} {ps : List (List Nat)} (h : PartsAt G N i ps) (q : ∃ p ∈ ps, i ∈ p) : PartsAt G N (i + 1) ps :=
  ⟨h.part, fun x hx => by
    by_cases c : x < i
    · exact h.cov x c
    · have : x = i := by omega
      subst this
      exact q⟩
theorem PartsAt.new {G : List (List Nat)} {N i : Nat} {ps Ls : List (List Nat)} {ms : List Nat} (h : PartsAt G N i ps) (hi : i < N) (l : IsLayers G i Ls) (hp : ms.Perm Ls.flatten) (hs : ms.Pairwise (· ≤ ·)) : PartsAt G N (i + 1) (ps ++ [ms]) := by
  have hmem : ∀ y, y ∈ ms ↔ Comp G i y := fun y => by rw [hp.mem_iff, l.mem_all]
  refine ⟨fun p hpm => ?_, fun x hx => ?_⟩
  · rcases List.mem_append.mp hpm with q | q
    · exact h.part p q
    · rw [List.mem_singleton.mp q]
      exact ⟨strict_of (hp.nodup_iff.mpr l.nodup) hs, i, hi, hmem⟩
  · by_cases c : x < i
    · obtain ⟨p, h1, h2⟩ := h.cov x c
      exact ⟨p, List.mem_append_left _ h1, h2⟩
    · have : x = i := by omega
      subst this
      exact ⟨ms, by simp, (hmem x).mpr Comp.refl⟩
theorem IsLayers.flat_len {G : List (List Nat)} {x N : Nat} {Ls : List (List Nat)} (l : IsLayers G x Ls) (g : GraphOk G N) (hx : x < N) : Ls.flatten.length ≤ N := by
  have := l.nodup.length_le_of_subset (l₂ := List.range N) fun y hy => let ⟨_, q⟩ := l.mem_all.mp hy; List.mem_range.mpr (g.reach hx q)
  rw [List.length_range] at this
  exact this
theorem IsLayers.len {G : List (List Nat)} {x N : Nat} {Ls : List (List Nat)} (l : IsLayers G x Ls) (g : GraphOk G N) (hx : x < N) : Ls.length ≤ N := by
  refine Nat.le_trans ?_ (l.flat_len g hx)
  rw [List.length_flatten]
  have : ∀ Ms : List (List Nat), (∀ L ∈ Ms, L ≠ []) → Ms.length ≤ (Ms.map List.length).sum := by
    intro Ms
    induction Ms with
    | nil => intro _; exact Nat.le_refl _
    | cons L Ms ih =>
      intro h
      have h1 := ih fun L' hL' => h L' (List.mem_cons_of_mem _ hL')
      have h2 := List.length_pos_iff.mpr (h L List.mem_cons_self)
      rw [List.length_cons, List.map_cons, List.sum_cons]
      omega
  refine this Ls fun L hL => ?_
  obtain ⟨i, hi, e⟩ := List.mem_iff_getElem.mp hL
  exact (l.lay i L (by rw [List.getElem?_eq_getElem hi, e])).1
/-- a distance off the layers -/
theorem IsLayers.dist_some {G : List (List Nat)} {x y i : Nat} {Ls : List (List Nat)} {L : List Nat} (l : IsLayers G x Ls) (h : Ls[i]? = some L) (hy : y ∈ L) : IsDist G x y (some i) := ((l.lay i L h).2.2 y).mp hy
theorem IsLayers.dist_none {G : List (List Nat)} {x y : Nat} {Ls : List (List Nat)} (l : IsLayers G x Ls) (h : ∀ (i : Nat) (L : List Nat), Ls[i]? = some L → y ∉ L) : IsDist G x y none := fun r hr => by
  obtain ⟨j, L, _, e, hy⟩ := l.least hr
  exact h j L e hy
end LT
set_option Elab.async false
set_option linter.all false
set_option maxRecDepth 100000
set_option maxHeartbeats 2000000
/-! Rules that the layer lacks: sorted(tuple), enumerate(tuple), zip(tuple, list), sep.join(reversed(list)). Each leans on the library's own steps by name. -/
namespace LT
open PySem PySem.Spec PyProof.Rows L2

/-- all that stood in h stands in h' -/
abbrev Grows (h h' : Heap) : Prop := ∀ b o, h.get? b = some o → h'.get? b = some o

/-! ### sorted(v), v told by what collect makes of it -/
section
variable {P : Program} {w : World} {A : Around} {Er : Value → Shared → Prop} {s : Shared}
/-- v gives the values vs and changes nothing that stood -/
def Gathers (P : Program) (w : World) (s : Shared) (v : Value) (vs : List Value) : Prop :=
  ∀ (A : Around) (Er : Value → Shared → Prop) (R : List Value → Shared → Prop), (∀ h1, Grows s.heap h1 → R vs { s with heap := h1 }) → wpAny (model P w) A (collect v) R Er s
theorem gathers_tup {a : Addr} {vs : List Value} (h : IsTup s.heap a vs.toArray) (hz : vs.length ≤ sizeLine) : Gathers P w s (.ref a) vs := fun A Er R k => by
  obtain ⟨o, g, c, n, d⟩ := h
  exact wpAny_collect_seq a (.inr rfl) g c d (fun h1 g1 => by simpa using k h1 g1) (by simpa using hz)
/-- the heap behind list.sort of the newest object -/
theorem sorted_grows {h0 h1 : Heap} {vs : List Value} {out : Array Value} (g : Grows h0 h1) : Grows h0 (sortedHeap (h1.push (seqObj "list" vs.toArray 0)) h1.objs.size vs out) := fun b o e => by
  have lt := Heap.lt_size (g b o e)
  rw [sortedHeap_old (Nat.ne_of_lt lt) (by rw [size_push']; exact Nat.lt_succ_of_lt lt)]
  exact Heap.get?_push_of_some _ (g b o e)
theorem sorted_made {v : Value} {vs : List Value} {ns : List Int} {Q : Value → Shared → Prop} (G : Gathers P w s v vs) (hI : IntsAre vs ns) (hl : vs.length < 64)
    (k : ∀ (h1 h' : Heap) (out : Array Value) (ms : List Int) (e : Nat), Grows s.heap h1 → Grows h1 h' → h'.get? h1.objs.size = some (seqObj "list" out e) → IntsAre out.toList ms → ms.Perm ns → ms.Pairwise (· ≤ ·) → Q (.ref h1.objs.size) { s with heap := h' }) :
    wpAny (model P w) A (call (.builtin "sorted") [v]) Q Er s := by
  have part : ∀ (A : Around) (Er : Value → Shared → Prop) (h1 : Heap), Grows s.heap h1 →
      wpAny (model P w) A (call (.builtin "list.sort") [.ref h1.objs.size]) (fun _ s2 => Q (.ref h1.objs.size) s2) Er { s with heap := h1.push (seqObj "list" vs.toArray 0) } := fun A Er h1 g => by
    have here : (h1.push (seqObj "list" vs.toArray 0)).get? h1.objs.size = some (seqObj "list" vs.toArray 0) := Heap.get?_push_size _ rfl
    refine wpAny_call_entry slot_list_sort ⟨_, here, rfl⟩ entry_list_sort ?_ (args_list_sort _)
    refine list_sort_tree here hI hl fun out ms h1' h2 h3 => ⟨_, rfl, ?_⟩
    obtain ⟨e, he⟩ := sortedHeap_at (out := out) here
    exact k h1 _ out ms e g (sorted_grows fun _ _ z => z) he h1' h2 h3
  refine Calls.call_function_entry kind_sorted plain_sorted entry_sorted (args_sorted1 v) ?_
  unfold Builtin.«sorted»
  exact wpAny_bind (m := checkCount _ _ _ _) (wpAny_pure (wpAny_bind (G _ _ _ fun h1 g => wpAny_bind (wpAny_newList (wpAny_bind (wpAny_holding (wpAny_mono (part _ _ h1 g) (fun _ _ z => wpAny_pure ⟨_, rfl, z⟩) fun _ _ z => z)))))))
end
/-! ### the same in the layer: sorted(tuple of ints) -/
def rSortedT (K : PySem.W.Frag) : List V → Hp → VK → Prop := fun vs H Q => ∃ (a : Addr) (ns : List Int), vs = [V.ref a] ∧ SqT K H a (ns.map V.int) ∧ ns.length < 64 ∧
  ∀ (ms : List Int) (p : Addr), ms.Perm ns → ms.Pairwise (· ≤ ·) → H p = none → Q (.ref p) (upd H p (.lst (ms.map V.int)))
theorem cr_sortedT {X : Cx} : CallR X (.builtin "sorted") (rSortedT X.K) := by
  rintro pins s σ H _ us Q I r ⟨a, ns, rfl, hs, hl, q⟩
  obtain ⟨its, rv, ht, hz⟩ := I.tuple hs
  cases (Vals.ref1 r)
  have len : its.length < 64 := by rw [rv.ints.length]; exact hl
  refine sorted_made (gathers_tup ht (by rw [sizeLine_eq]; omega)) rv.ints len fun h1 h' out ms e g1 g2 at_ hi pm od => ?_
  have I1 : Inv X pins σ H { s with heap := h1 } := I.kept g1
  have small : (ms.map V.int).length ≤ sizeLine := by rw [List.length_map, pm.length_eq, sizeLine_eq]; omega
  exact ⟨.ref _, upd H h1.objs.size (.lst (ms.map V.int)), I1.laid (t' := s.toks) g2 (Nat.le_refl _) ⟨small, out.toList, e, vals_of_ints hi, at_⟩, rfl, q ms _ pm od (I1.hok.fresh (Nat.le_refl _))⟩
/-! ### pairs: what enumerate and zip hand out -/
section
variable {X : Cx} {pins : List (Addr × Obj)} {σ : L2.St} {H : Hp} {s : Shared} {ch : List Addr}
/-- a pair laid as the newest object, the iterator's own cells changed -/
theorem pair_laid {h' : Heap} {tk : Nat} {x y : V} {u v : Value} (I : Inv X pins σ H s) (fp : ∀ b ∈ ch, FpOk X pins H b) (g : ∀ b o, b ∉ ch → s.heap.get? b = some o → h'.get? b = some o)
    (e : h'.get? s.heap.objs.size = some { cls := .type "tuple", data := .seq #[u, v] }) (r1 : RelV x u) (r2 : RelV y v) : Inv X pins σ (upd H s.heap.objs.size (.tup [x, y])) { s with heap := h', toks := tk } :=
  I.turnedNew g fp (Nat.le_refl _) ⟨(by decide : 2 ≤ sizeLine), [u, v], .cons r1 (.cons r2 .nil), _, e, rfl, _, rfl⟩
theorem fp_free {o : HO} (fp : ∀ b ∈ ch, FpOk X pins H b) (lt : ∀ b ∈ ch, b < s.heap.objs.size) : ∀ b ∈ ch, upd H s.heap.objs.size o b = none := fun b m => (upd_ne (Nat.ne_of_lt (lt b m))).trans (fp b m).1
theorem at_iter {its : List Value} {i : Nat} {u : Value} (a : its.toArray[i]? = some u) : its[i]? = some u := by simpa using a
end
/-! ### enumerate(tuple) -/
section
variable {P : Program} {w : World} {A : Around} {Er : Value → Shared → Prop} {s : Shared}
/-- behind enumerate(v): first v's iterator o, then the enumerate over it -/
def Numbers (o : Obj) (h h' : Heap) : Prop := IsEnum h' (h.objs.size + 1) h.objs.size 0 .none ∧ h'.get? h.objs.size = some o ∧ Grows h h'
theorem numbers_push {o : Obj} (h : Heap) (fr : o.isFreed = false) : Numbers o h ((h.push o).push { cls := .type "enumerate", data := .fields #[.none, .bool false, .ref h.objs.size, rawInt 0, .none, .none] }) := by
  have one : (h.push o).get? h.objs.size = some o := Heap.get?_push_size _ fr
  refine ⟨?_, Heap.get?_push_of_some _ one, fun b u e => Heap.get?_push_of_some _ (Heap.get?_push_of_some _ e)⟩
  rw [← Heap.size_push (h := h) (o := o)]
  exact Heap.get?_push_size _ rfl
theorem numbers_new {v : Value} {o : Obj} {D : Heap → Prop} (B : Begins v o D) :
    Meets (Builtin.«enumerate.__new__» ⟨[.type "enumerate", v], []⟩) fun _ R s => D s.heap ∧ ∀ h', Numbers o s.heap h' → R (.ok (.ret (.ref (s.heap.objs.size + 1)))) { s with heap := h' } :=
  .of_wp fun prog w A R s hs => by
    obtain ⟨hp, g, d, tk, os⟩ := s
    have sub := sub_enumerate
    have fin := hs.2 _ (numbers_push hp B.free)
    rw [← Heap.size_push (h := hp) (o := o)] at fin
    have begun := fun (A' : Around) (Er' : Value → Shared → Prop) (Q' : Value → Shared → Prop) => B.iter prog w A' Er' ⟨hp, g, d, tk, os⟩ Q' hs.1
    wp_walk using begun _ _ _
    refine wpAny_stack_any fun _ => wpAny_pure ?_
    split
    all_goals first
      | (rename_i c _ _ _ _ _; generalize (c == Value.type "enumerate") = short; cases short <;> (wp_walk using begun _ _ _; exact ⟨_, rfl, fin⟩))
      | (wp_walk using begun _ _ _; exact ⟨_, rfl, fin⟩)
theorem numbers_call {v : Value} {o : Obj} {D : Heap → Prop} {Q : Value → Shared → Prop} (B : Begins v o D) (d : D s.heap) (k : ∀ h', Numbers o s.heap h' → Q (.ref (s.heap.objs.size + 1)) { s with heap := h' }) :
    wpAny (model P w) A (call (.type "enumerate") [v]) Q Er s :=
  callType_new F.called_enumerate (by decide) (F.typeCall_enumerate_1 v) (F.newCall_enumerate_1 v) (fun _ => F.args_object_init_2 _ v) F.entry_enumerate_new (numbers_new B) ⟨d, fun h' n => ⟨⟨_, n.1, rfl⟩, k h' n⟩⟩
end
/-- the pairs (i, x) of a tuple that stands still -/
def IteT (K : PySem.W.Frag) (a : Addr) : It where
  go i H := ∃ (xs : List V) (x : V), SqT K H a xs ∧ xs[i]? = some x
  yld i H v H' := ∃ T x, v = .ref T ∧ H T = none ∧ H' = upd H T (.tup [.int (i : Nat), x]) ∧ ∀ xs, SqT K H a xs → xs[i]? = some x
  stop i H := ∃ xs : List V, SqT K H a xs ∧ xs.length = i
theorem enum_cells {e it a : Addr} {i : Nat} {h : Heap} (st : (∃ old, IsEnum h e it ((i : Nat) : Int) old) ∧ h.IsTupleIter it a i) : ∀ b ∈ [e, it], ∃ o, h.get? b = some o ∧ ∀ v, o.data ≠ .cell v := by
  obtain ⟨⟨_, he⟩, o, ho, _, hd⟩ := st
  refine fun b m => (List.mem_cons.mp m).elim (fun z => ⟨_, z ▸ he, fun _ => Data.noConfusion⟩) fun m => ⟨o, List.mem_singleton.mp m ▸ ho, fun _ q => ?_⟩
  exact Data.noConfusion (hd.symm.trans q)
theorem turn_enumT {P : Program} {w : World} {K : PySem.W.Frag} {elts : List Expr} {kk : Nat} {tpos : Pos} {a e it : Addr} (ne : e ≠ it) (ea : e ≠ a) (ai : a ≠ it) :
    Turn P w K (.Tuple elts kk tpos) (IteT K a) [e, it] e fun i h => (∃ old, IsEnum h e it ((i : Nat) : Int) old) ∧ h.IsTupleIter it a i where
  mem := List.mem_cons_self
  obj _ _ st := enum_cells st
  keep := fun _ _ _ ⟨⟨old, he⟩, hi⟩ k => ⟨⟨old, k e List.mem_cons_self _ he⟩, hi.at fun o q => k it (List.mem_cons_of_mem _ List.mem_cons_self) o q⟩
  self := fun _ _ _ _ _ ⟨⟨_, he⟩, _⟩ k => wpAny_pyIter_enum he k
  item := by
    rintro X rfl rfl rfl calm i pins s σ H Er I fp st ⟨xs, x, sq, at_⟩
    have lt : ∀ b ∈ [e, it], b < s.heap.objs.size := fun b m => let ⟨_, q, _⟩ := enum_cells st b m; Heap.lt_size q
    obtain ⟨⟨old, he⟩, hit⟩ := st
    obtain ⟨its, rv, p, _⟩ := I.tuple sq
    obtain ⟨u, hu, ru⟩ := rv.get at_
    refine wpAny_pyNext_enum_itemD (Draws.tuple (A := X.A.in1) (I.ok.hd calm) it a ai its.toArray) he ⟨hit, p⟩ (by simpa using (List.getElem?_eq_some_iff.mp hu).1) ne (by simp [ne, ea]) fun u' h1 tk gave out next tup _ kept => ?_
    obtain rfl : u' = u := Option.some.inj ((at_iter gave).symm.trans hu)
    refine ⟨_, rfl, wpAny_letOwnedTupleGo_enum (s := { s with heap := h1, toks := tk + 1 }) out fun h2 he2 sb => ?_⟩
    have tup2 := (sb.2 _ (Nat.ne_of_gt (lt e List.mem_cons_self))).trans tup
    have J : Inv X pins σ (upd H s.heap.objs.size (.tup [.int (i : Nat), x])) { s with heap := h2, toks := tk + 1 } := by
      refine pair_laid I fp (fun b o nb q => ?_) tup2 ⟨tk, rfl⟩ ru
      simp only [List.mem_cons, List.not_mem_nil, or_false, not_or] at nb
      exact (sb.2 b nb.1).trans (kept b o nb.1 nb.2 q)
    exact ⟨.ref s.heap.objs.size, _, J, rfl, ⟨_, x, rfl, I.hok.fresh (Nat.le_refl _), rfl, fun ys hy => I.tuple_inj hy sq ▸ at_⟩, ⟨⟨_, he2⟩, next.1.at fun o q => (sb.2 it ne.symm).trans q⟩, fp_free fp lt⟩
  done := by
    rintro X rfl rfl rfl calm i pins s σ H Er I fp ⟨⟨old, he⟩, hit⟩ ⟨xs, sq, rfl⟩
    obtain ⟨its, rv, p, _⟩ := I.tuple sq
    have n : its.toArray.size = xs.length := by simpa using rv.length.symm
    obtain ⟨c0, c1, _, c2, c3, c4⟩ := fp it (List.mem_cons_of_mem _ List.mem_cons_self)
    refine wpAny_pyNext_enum_endD (Draws.tuple (A := X.A.in1) (I.ok.hd calm) it a ai its.toArray) he (by rw [n]; exact ⟨hit, p⟩) fun h1 eb => ⟨rfl, ?_⟩
    exact I.turned (t' := s.toks) eb c0 c1 c2 c3 c4
def iEnumT (K : PySem.W.Frag) (ta : TA) : TI := fun σ H R => ta σ H fun vs H1 => ∃ a xs, vs = [.ref a] ∧ SqT K H1 a xs ∧ R (IteT K a) H1
theorem pi_enumT {X : Cx} {e : Expr} {ta : TA} {p pos tpos : Pos} {elts : List Expr} {kk : Nat} (hg : Gl X "enumerate") (hm : X.mg "enumerate" = none) (ha : PA X [e] ta) (hs : starEach [e] X.env = [(false, eval e X.env)] := by rfl) :
    PI X (.Tuple elts kk tpos) (.Call (.Name "enumerate" p) [e] [] pos) (iEnumT X.K ta) where
  run pins s σ H R I h := by
    refine Call_ (ld_blt I hg hm boot_enumerate (PyProof.Rows.callWith_type1 (wpAny_mono (ha.run pos pins s σ H _ I h) ?_ fun _ _ x => x) hs rfl))
    rintro us s1 ⟨_, H1, I1, r, a, xs, rfl, sq, q⟩
    cases (Vals.ref1 r)
    obtain ⟨its, _, tp, _⟩ := I1.tuple sq
    have la : a < s1.heap.objs.size := let ⟨_, z, _⟩ := tp; Heap.lt_size z
    refine numbers_call (begins_tuple a its.toArray) tp fun h' n => wpAny_pyIter_enum n.1 ?_
    have J : Inv X pins σ H1 { s1 with heap := h' } := I1.kept n.2.2
    refine ⟨s1.heap.objs.size + 1, _, _, _, H1, rfl, J, turn_enumT (Nat.succ_ne_self _) (Nat.ne_of_gt (Nat.lt_succ_of_lt la)) (Nat.ne_of_lt la), ⟨⟨_, n.1⟩, _, n.2.1, rfl, rfl⟩, fun b m => ?_, q⟩
    have le : s1.heap.objs.size ≤ b := by
      simp only [List.mem_cons, List.not_mem_nil, or_false] at m
      rcases m with rfl | rfl <;> simp
    exact I1.fpOk le (I1.hok.fresh le)
/-- what a for over J asks of its caller -/
abbrev ForW (J : It) (g : TG) (tb : TS) (D : Ends) (σ : L2.St) (H : Hp) : Prop := ∃ W : Nat → Nat → L2.St → Hp → Prop, (∃ m, W 0 m σ H) ∧ ∀ i m σ H, W i m σ H →
  (J.stop i H ∧ D.nx σ H) ∨ (J.go i H ∧ ∃ N : L2.St → Hp → Prop, (∀ σ' H', N σ' H' → ∃ m', m' < m ∧ W (i + 1) m' σ' H') ∧ ∀ v H', J.yld i H v H' → g v σ H' fun σ2 H2 => tb { D with nx := N, ct := N, bk := D.nx } σ2 H2)
section
variable {K : PySem.W.Frag} {a b : Addr} {xs ys : List V} {g : TG} {tb : TS} {D : Ends} {σ : L2.St} {H : Hp}
theorem walk_enumT : Walk (IteT K a) xs.length (fun H => SqT K H a xs) (YPair (fun i => some (.int (i : Nat))) (fun i => xs[i]?)) where
  goes i H lt sq := ⟨xs, xs[i], sq, List.getElem?_eq_getElem lt⟩
  stops H sq := ⟨xs, sq, rfl⟩
  yields := fun i H v H' _ sq ⟨T, x, e1, e2, e3, f⟩ => ⟨T, _, x, e1, e2, e3, rfl, f xs sq⟩
/-- a loop over enumerate of a tuple that stands still -/
theorem for_enumT (Pv : Nat → L2.St → Hp → Prop) (h0 : Pv 0 σ H) (hq : ∀ i σ H, Pv i σ H → SqT K H a xs)
    (hs : ∀ (i : Nat) (x : V) (T : Addr) (σ : L2.St) (H : Hp), xs[i]? = some x → Pv i σ H → H T = none → g (.ref T) σ (upd H T (.tup [.int (i : Nat), x])) fun σ2 H2 => tb { D with nx := Pv (i + 1), ct := Pv (i + 1), bk := D.nx } σ2 H2)
    (hd : ∀ σ H, Pv xs.length σ H → D.nx σ H) : ForW (IteT K a) g tb D σ H :=
  for_it walk_enumT Pv h0 (fun i σ H _ p => hq i σ H p) (fun i v σ H H' _ p ⟨T, _, x, e1, e2, e3, e4, e5⟩ => by subst e1 e3; cases e4; exact hs i x T σ H e5 p e2) hd
/-- .. of a list -/
theorem for_enumL (Pv : Nat → L2.St → Hp → Prop) (h0 : Pv 0 σ H) (hq : ∀ i σ H, Pv i σ H → SqL K H a xs)
    (hs : ∀ (i : Nat) (x : V) (T : Addr) (σ : L2.St) (H : Hp), xs[i]? = some x → Pv i σ H → H T = none → g (.ref T) σ (upd H T (.tup [.int (i : Nat), x])) fun σ2 H2 => tb { D with nx := Pv (i + 1), ct := Pv (i + 1), bk := D.nx } σ2 H2)
    (hd : ∀ σ H, Pv xs.length σ H → D.nx σ H) : ForW (Ite K a) g tb D σ H :=
  for_it walk_enum Pv h0 (fun i σ H _ p => hq i σ H p) (fun i v σ H H' _ p ⟨T, _, x, e1, e2, e3, e4, e5⟩ => by subst e1 e3; cases e4; exact hs i x T σ H e5 p e2) hd
end
end LT
set_option Elab.async false
set_option linter.all false
set_option maxRecDepth 100000
set_option maxHeartbeats 2000000
namespace LT
open PySem PySem.Spec PyProof.Rows L2
/-! ### zip(tuple, list) -/
/-- the pairs of a tuple and a list of one length that stand still -/
def ItzM (K : PySem.W.Frag) (a b : Addr) : It where
  go i H := ∃ (xs ys : List V) (x y : V), SqT K H a xs ∧ SqL K H b ys ∧ xs[i]? = some x ∧ ys[i]? = some y
  yld i H v H' := ∃ T x y, v = .ref T ∧ H T = none ∧ H' = upd H T (.tup [x, y]) ∧ (∀ xs, SqT K H a xs → xs[i]? = some x) ∧ ∀ ys, SqL K H b ys → ys[i]? = some y
  stop i H := ∃ xs ys : List V, SqT K H a xs ∧ SqL K H b ys ∧ xs.length = i ∧ ys.length = i
/-- the five cells of a zip behind i turns -/
structure ZipAt (z TI TO i1 i2 a b : Addr) (i : Nat) (h : Heap) : Prop where
  zip : IsZip h z TI TO .none
  ins : IsTupOf2 h TI (.ref i1) (.ref i2)
  outs : ∃ x y, IsTupOf2 h TO x y
  one : h.IsTupleIter i1 a i
  two : h.IsListIter i2 b i
section
variable {z TI TO i1 i2 a b : Addr} {i : Nat} {h h' : Heap}
theorem ZipAt.cells (st : ZipAt z TI TO i1 i2 a b i h) : ∀ c ∈ [z, TI, TO, i1, i2], ∃ o, h.get? c = some o ∧ ∀ v, o.data ≠ .cell v := by
  obtain ⟨hz, hI, ⟨x, y, hO⟩, ⟨o1, g1, _, d1⟩, ⟨o2, g2, _, d2⟩⟩ := st
  simp only [List.forall_mem_cons, List.not_mem_nil, false_implies, implies_true, and_true]
  exact ⟨⟨_, hz, fun _ => Data.noConfusion⟩, ⟨_, hI, fun _ => Data.noConfusion⟩, ⟨_, hO, fun _ => Data.noConfusion⟩, ⟨o1, g1, fun _ => d1 ▸ Data.noConfusion⟩, ⟨o2, g2, fun _ => d2 ▸ Data.noConfusion⟩⟩
theorem ZipAt.kept (st : ZipAt z TI TO i1 i2 a b i h) (k : ∀ c ∈ [z, TI, TO, i1, i2], ∀ o, h.get? c = some o → h'.get? c = some o) : ZipAt z TI TO i1 i2 a b i h' := by
  simp only [List.forall_mem_cons, List.not_mem_nil, false_implies, implies_true, and_true] at k
  obtain ⟨k1, k2, k3, k4, k5⟩ := k
  obtain ⟨hz, hI, ⟨x, y, hO⟩, h1, h2⟩ := st
  exact ⟨k1 _ hz, k2 _ hI, ⟨x, y, k3 _ hO⟩, h1.at k4, h2.at k5⟩
theorem off5 {c : Addr} (n : c ∉ [z, TI, TO, i1, i2]) : c ≠ z ∧ c ≠ TI ∧ c ≠ TO ∧ c ≠ i1 ∧ c ≠ i2 := by
  simpa only [List.mem_cons, List.not_mem_nil, or_false, not_or] using n
end
theorem turn_zipM {P : Program} {w : World} {K : PySem.W.Frag} {elts : List Expr} {kk : Nat} {tpos : Pos} {a b z TI TO i1 i2 : Addr} (S : ZipSep2 z TI TO i1 i2 [i1, a] [i2, b]) (n1 : a ≠ i1) (n2 : b ≠ i2) :
    Turn P w K (.Tuple elts kk tpos) (ItzM K a b) [z, TI, TO, i1, i2] z (ZipAt z TI TO i1 i2 a b) where
  mem := List.mem_cons_self
  obj _ _ st := st.cells
  keep _ _ _ st k := st.kept k
  self _ _ _ _ _ st k := wpAny_pyIter_zip st.zip k
  item := by
    rintro X rfl rfl rfl calm i pins s σ H Er I fp st ⟨xs, ys, x, y, sx, sy, gx, gy⟩
    have lt : ∀ c ∈ [z, TI, TO, i1, i2], c < s.heap.objs.size := fun c m => let ⟨_, q, _⟩ := st.cells c m; Heap.lt_size q
    obtain ⟨hz, hI, ⟨x0, y0, hO⟩, h1, h2⟩ := st
    obtain ⟨us, ru, pu, _⟩ := I.tuple sx
    obtain ⟨vs, rv, pv, _⟩ := I.list sy
    obtain ⟨u, hu, r1⟩ := ru.get gx
    obtain ⟨v, hv, r2⟩ := rv.get gy
    have free : X.A.in1.handled = none := I.ok.hd calm
    refine wpAny_pyNext_zipD2_item S (Draws.tuple free i1 a n1 us.toArray) (Draws.list free i2 b n2 vs.toArray) hz hI hO ⟨h1, pu⟩ ⟨h2, pv.isList⟩ (by simpa using (List.getElem?_eq_some_iff.mp hu).1) (by simpa using (List.getElem?_eq_some_iff.mp hv).1)
      fun u' v' k1 tk gu gv z' O' m1 m2 tup _ kept => ?_
    obtain rfl : u' = u := Option.some.inj ((at_iter gu).symm.trans hu)
    obtain rfl : v' = v := Option.some.inj ((at_iter gv).symm.trans hv)
    refine ⟨_, rfl, wpAny_letOwnedTupleGo_zip (s := { s with heap := k1, toks := tk }) z' fun k2 z2 sb => ?_⟩
    have J : Inv X pins σ (upd H s.heap.objs.size (.tup [x, y])) { s with heap := k2, toks := tk } := by
      refine pair_laid I fp (fun c o nc q => ?_) ((sb.2 _ (Nat.ne_of_gt (lt z List.mem_cons_self))).trans tup) r1 r2
      obtain ⟨q1, q2, q3, q4, q5⟩ := off5 nc
      exact (sb.2 c q1).trans (kept c o q1 q3 q4 q5 q)
    refine ⟨.ref s.heap.objs.size, _, J, rfl, ⟨_, x, y, rfl, I.hok.fresh (Nat.le_refl _), rfl, fun l hl => I.tuple_inj hl sx ▸ gx, fun l hl => I.list_inj hl sy ▸ gy⟩, ?_, fp_free fp lt⟩
    exact ⟨z2, (sb.2 _ S.TIz).trans (kept _ _ S.TIz S.TITO S.TIi1 S.TIi2 hI), ⟨_, _, (sb.2 _ S.TOz).trans O'⟩, m1.1.at fun _ q => (sb.2 _ S.zi1.symm).trans q, m2.1.at fun _ q => (sb.2 _ S.zi2.symm).trans q⟩
  done := by
    rintro X rfl rfl rfl calm i pins s σ H Er I fp ⟨hz, hI, ⟨x0, y0, hO⟩, h1, h2⟩ ⟨xs, ys, sx, sy, rfl, e2⟩
    obtain ⟨us, ru, pu, _⟩ := I.tuple sx
    obtain ⟨vs, rv, pv, _⟩ := I.list sy
    have free : X.A.in1.handled = none := I.ok.hd calm
    have l1 : xs.length = us.toArray.size := by simpa using ru.length
    have l2 : xs.length = vs.toArray.size := by simpa using e2.symm.trans rv.length
    refine wpAny_pyNext_zipD2_end S (Draws.tuple free i1 a n1 us.toArray) (Draws.list free i2 b n2 vs.toArray) hz hI hO ⟨h1, pu⟩ ⟨h2, pv.isList⟩ (Nat.le_of_eq l1) (Nat.le_of_eq l2) (.inl l1) fun k1 tk kept => ⟨rfl, I.turnedL (t' := tk) (fun c o nc q => ?_) fp⟩
    obtain ⟨q1, _, q3, q4, q5⟩ := off5 nc
    exact kept c o q1 q3 q4 q5 q
def iZipM (K : PySem.W.Frag) (ta : TA) : TI := fun σ H R => ta σ H fun vs H1 => ∃ a b xs ys, vs = [.ref a, .ref b] ∧ SqT K H1 a xs ∧ SqL K H1 b ys ∧ R (ItzM K a b) H1
theorem pi_zipM {X : Cx} {e e2 : Expr} {ta : TA} {p pos tpos : Pos} {elts : List Expr} {kk : Nat} (hg : Gl X "zip") (hm : X.mg "zip" = none) (ha : PA X [e, e2] ta)
    (h2 : starEach [e, e2] X.env = (false, eval e X.env) :: starEach [e2] X.env := by rfl) (hp : (backTo pos (starEach [e2] X.env)).any (·.1) = false := by rfl) :
    PI X (.Tuple elts kk tpos) (.Call (.Name "zip" p) [e, e2] [] pos) (iZipM X.K ta) where
  run pins s σ H R I h := by
    refine Call_ (ld_blt I hg hm PyProof.Rows.boot_zip (PyProof.Rows.callWith_type1 (wpAny_mono (ha.run pos pins s σ H _ I h) ?_ fun _ _ x => x) h2 hp))
    rintro _ s1 ⟨_, H1, I1, r, a, b, xs, ys, rfl, sx, sy, q⟩
    obtain ⟨_, _, rfl, rfl, rfl⟩ := vals2 r
    obtain ⟨us, _, pu, _⟩ := I1.tuple sx
    obtain ⟨vs, _, pv, _⟩ := I1.list sy
    have la : a < s1.heap.objs.size := let ⟨_, z, _⟩ := pu; Heap.lt_size z
    have lb : b < s1.heap.objs.size := pv.lt
    refine zip_begins2 (begins_tuple a us.toArray) (begins_list b vs.toArray) pu pv.isList fun h' hz hI hO h1 h2 _ kept => wpAny_pyIter_zip hz ?_
    have J : Inv X pins σ H1 { s1 with heap := h' } := I1.kept kept
    have sep := zip_sep2 (N := s1.heap.objs.size) (fp1 := [a]) (fp2 := [b]) (by simpa using la) (by simpa using lb)
    refine ⟨_, _, _, _, H1, rfl, J, turn_zipM sep (Nat.ne_of_lt la) (Nat.ne_of_lt (Nat.lt_succ_of_lt lb)), ⟨hz, hI, ⟨_, _, hO⟩, ⟨_, h1, rfl, rfl⟩, ⟨_, h2, rfl, rfl⟩⟩, fun c m => ?_, q⟩
    have le : s1.heap.objs.size ≤ c := by
      simp only [List.mem_cons, List.not_mem_nil, or_false] at m
      rcases m with rfl | rfl | rfl | rfl | rfl <;> simp
    exact I1.fpOk le (I1.hok.fresh le)
section
variable {K : PySem.W.Frag} {a b : Addr} {xs ys : List V} {g : TG} {tb : TS} {D : Ends} {σ : L2.St} {H : Hp}
theorem walk_zipM (hl : xs.length = ys.length) : Walk (ItzM K a b) xs.length (fun H => SqT K H a xs ∧ SqL K H b ys) (YPair (fun i => xs[i]?) (fun i => ys[i]?)) where
  goes i H lt sq := ⟨xs, ys, xs[i], ys[i], sq.1, sq.2, List.getElem?_eq_getElem lt, List.getElem?_eq_getElem (hl ▸ lt)⟩
  stops H sq := ⟨xs, ys, sq.1, sq.2, rfl, hl.symm⟩
  yields := fun i H v H' _ sq ⟨T, x, y, e1, e2, e3, f1, f2⟩ => ⟨T, x, y, e1, e2, e3, f1 xs sq.1, f2 ys sq.2⟩
/-- a loop over zip of a tuple and a list of one length -/
theorem for_zipM (hl : xs.length = ys.length) (Pv : Nat → L2.St → Hp → Prop) (h0 : Pv 0 σ H) (hq : ∀ i σ H, Pv i σ H → SqT K H a xs ∧ SqL K H b ys)
    (hs : ∀ (i : Nat) (x y : V) (T : Addr) (σ : L2.St) (H : Hp), xs[i]? = some x → ys[i]? = some y → Pv i σ H → H T = none → g (.ref T) σ (upd H T (.tup [x, y])) fun σ2 H2 => tb { D with nx := Pv (i + 1), ct := Pv (i + 1), bk := D.nx } σ2 H2)
    (hd : ∀ σ H, Pv xs.length σ H → D.nx σ H) : ForW (ItzM K a b) g tb D σ H :=
  for_it (walk_zipM hl) Pv h0 (fun i σ H _ p => hq i σ H p) (fun i v σ H H' _ p ⟨T, x, y, e1, e2, e3, e4, e5⟩ => by subst e1 e3; exact hs i x y T σ H e4 e5 p e2) hd
end
end LT
namespace LT
open PySem PySem.Spec PyProof.Rows L2
open PySem.Builtin.Str PySem.Builtin
/-! ### sep.join(reversed(list of texts)) -/
section
variable {P : Program} {w : World} {A : Around} {Er : Value → Shared → Prop} {s : Shared}
/-- what is drawn from the back is the list turned round -/
theorem drawn_back {items acc : Array Value} (d : ItemsOf (fun i v => items[items.size - 1 - i]? = some v) acc items.size) : acc.toList = items.toList.reverse := by
  refine List.ext_getElem (by simpa using d.1) fun i h1 h2 => ?_
  have q : items[items.size - 1 - i]? = some acc[i] := d.2 i acc[i] (Array.getElem?_eq_getElem (by simpa using h1))
  rw [Array.getElem?_eq_some_iff] at q
  obtain ⟨_, q⟩ := q
  simp [← q]
theorem joins_tail {sep : Str} {l : List (Str × Tok)} (fit : tooLong ((l.map (·.1)).toArray.foldl (· + ·.length + sep.length) 0) = false) : Gives (joinTail sep (strValues l)) (joinMade sep l) := by
  rcases l with _ | ⟨p, _ | ⟨q, r⟩⟩ <;> exact gives_joinTail sep _ fit
theorem join_back {it l : Addr} {its : List Value} {ys : List Str} {sep : Str} {t : Tok} {Q : Value → Shared → Prop} (hh : A.handled = none) (ir : s.heap.IsRevIter it l ((its.toArray.size : Int) - 1)) (il : s.heap.IsList l its.toArray) (ne : l ≠ it)
    (hz : its.toArray.size ≤ sizeLine) (sa : StrsAre its.reverse ys) (fit : (ys.map (·.length)).sum + ys.length * sep.length ≤ 16777216)
    (k : ∀ h' tk t', (∀ b o, b ≠ it → s.heap.get? b = some o → h'.get? b = some o) → Q (.str (Txt.join sep ys) t') { s with heap := h', toks := tk }) :
    wpAny (model P w) A (call (.builtin "str.join") [.str sep t, .ref it]) Q Er s := by
  obtain ⟨l0, e0, rfl⟩ := strsAre_values sa
  have ok : tooLong ((l0.map (·.1)).toArray.foldl (· + ·.length + sep.length) 0) = false := by simpa [JoinOk] using joinOk_of fit
  have S := F.slot_str_join
  refine wpAny_call (codeAny_call_builtin S.plain F.entry_str_join ?_)
  refine S.check _ _ _ _ _ _ _ _ (typeIs_str _ _ _) (F.args_str_join_2 _ _) ?_
  rw [join_tree_other]
  refine wpAny_bind (wpAny_typeOf ir.typeIs ?_)
  rw [if_neg (by decide)]
  refine wpAny_bind (wpAny_tryCatch (wpAny_pyIter_revIter ir (wpAny_bind (RT.collect_rev (A := A.in1) hh ir il ne hz fun h1 tk acc kept d => ?_))))
  rw [drawn_back d, List.toList_toArray, e0]
  exact joins_tail ok P w A (wants Q Er) _ (post_join l0 ⟨joinFit_length ok, fun t' k' => k h1 k' t' kept⟩)
end
section
variable {X : Cx}
/-- to.join(reversed(te)) -/
def tJoinRev (K : PySem.W.Frag) (to te : TE) : TE := fun σ H Q => to σ H fun v H1 => ∃ sep : Str, v = .str sep ∧ te σ H1 fun u H2 => ∃ (l : Addr) (ys : List Str), u = .ref l ∧ SqL K H2 l (ys.map V.str) ∧
  (ys.map (·.length)).sum + ys.length * sep.length ≤ 16777216 ∧ Q (.str (Txt.join sep ys.reverse)) H2
theorem run_joinRev {Er : Value → Shared → Prop} {pins : List (Addr × Obj)} {σ : L2.St} {H : Hp} {s : Shared} {l : Addr} {ys : List Str} {sep : Str} {t : Tok} {Q : VK} (I : Inv X pins σ H s) (calm : X.calm = true) (sq : SqL X.K H l (ys.map V.str))
    (fit : (ys.map (·.length)).sum + ys.length * sep.length ≤ 16777216) (q : Q (.str (Txt.join sep ys.reverse)) H) :
    wpAny (model X.prog X.w) X.A (call (.type "reversed") [.ref l]) (fun r s1 => wpAny (model X.prog X.w) X.A (call (.builtin "str.join") [.str sep t, r]) (EP X pins σ Q) Er s1) Er s := by
  obtain ⟨its, rv, pl, hz⟩ := I.list sq
  have len : (ys.map V.str).length = its.length := rv.length
  have back : StrsAre its.reverse ys.reverse := strs_of_vals (by rw [List.map_reverse]; exact rv.reverse)
  refine call_reversed_list pl.isList ?_
  refine join_back (its := its) (ys := ys.reverse) (l := l) (I.ok.hd calm) ⟨_, Heap.get?_push_size _ rfl, rfl, rfl⟩ (pl.isList.push _) (Nat.ne_of_lt pl.lt) (by simpa [len] using hz) back (by rw [List.map_reverse, List.sum_reverse, List.length_reverse]; exact fit) fun h' tk t' kept => ?_
  exact ⟨.str _, H, I.kept fun b o e => kept b o (Nat.ne_of_lt (Heap.lt_size e)) (Heap.get?_push_of_some _ e), ⟨t', rfl⟩, q⟩
theorem pe_joinRev {o e : Expr} {to te : TE} {apos cpos rp rpos : Pos} (hc : X.calm = true) (hg : Gl X "reversed") (hm : X.mg "reversed" = none) (ho : PE X o to) (he : PE X e te)
    (hb : attributeBase o "join" X.env (eval o X.env) = eval o X.env := by rfl) (hl : (apos.endLine == cpos.line) = true := by rfl)
    (h1 : starEach [.Call (.Name "reversed" rp) [e] [] rpos] X.env = [(false, eval (.Call (.Name "reversed" rp) [e] [] rpos) X.env)] := by rfl) (h2 : starEach [e] X.env = (false, eval e X.env) :: starEach [] X.env := by rfl) :
    PE X (.Call (.Attribute o "join" apos) [.Call (.Name "reversed" rp) [e] [] rpos] [] cpos) (tJoinRev X.K to te) where
  run pins s σ H Q I h := by
    refine PySem.Call_method1 hb h1 hl (wpAny_mono (ho.run pins s σ H _ I h) ?_ fun _ _ x => x)
    rintro v s1 ⟨_, H1, I1, r1, sep, rfl, q1⟩
    obtain ⟨t, rfl⟩ : ∃ t, v = Value.str sep t := r1
    suffices args : wpAny _ X.A (eval (.Call (.Name "reversed" rp) [e] [] rpos) X.env) _ X.xe s1 from
      ⟨"str", _, F.plainAttrs_str, F.slot_str_join, F.type_str_join, typeIs_str _ _ _, fun _ z => Value.noConfusion z, Calls.callWith_builtin rfl (Calls.evalArgs_plain (Calls.spliced_cons args))⟩
    refine Call_ (ld_blt I1 hg hm boot_reversed (PyProof.Rows.callWith_type1 (one_arg he I1 q1 (fun u s2 y H2 I2 r2 q2 => ?_) h2) h2))
    obtain ⟨l, ys, rfl, sq, fit, q⟩ := q2
    obtain rfl : u = Value.ref l := r2
    exact wpAny_mono (run_joinRev (t := t) I2 hc sq fit q) (fun _ _ z => Calls.spliced_nil z) fun _ _ x => x
end
end LT
set_option Elab.async false
set_option linter.all false
set_option maxRecDepth 100000
set_option maxHeartbeats 1000000
/-! Data in the abstract heap: what is new, what is held, the defs of the top. -/
namespace LT
open PySem PySem.Spec PyProof.Rows L2

/-! ### sub-heaps -/
abbrev hn : Hp := fun _ => none
def uni (F G : Hp) : Hp := fun b => match F b with
  | some o => some o
  | none => G b
theorem uni_l {F G : Hp} {b : Addr} {o : HO} (h : F b = some o) : uni F G b = some o := by unfold uni; rw [h]
theorem uni_r {F G : Hp} {b : Addr} (h : F b = none) : uni F G b = G b := by unfold uni; rw [h]
theorem uni_none {F G : Hp} {b : Addr} (h : F b = none) (h' : G b = none) : uni F G b = none := by rw [uni_r h, h']
theorem uni_cases {F G : Hp} {b : Addr} {o : HO} (h : uni F G b = some o) : F b = some o ∨ (F b = none ∧ G b = some o) := by
  unfold uni at h
  cases e : F b with
  | some u => rw [e] at h; exact .inl h
  | none => rw [e] at h; exact .inr ⟨rfl, h⟩
theorem Same.uni_l (F G : Hp) : Same F (uni F G) := fun _ _ h => LT.uni_l h
theorem Same.nil (H : Hp) : Same hn H := fun _ _ h => by cases h
theorem Same.upd {H : Hp} {p : Addr} {o : HO} (h : H p = none) : Same H (upd H p o) := fun b u e => by rw [upd_ne (ne_of_none e h)]; exact e
theorem Same.seqT {K : PySem.W.Frag} {H H' : Hp} {a : Addr} {xs : List V} (e : Same H H') (h : SqT K H a xs) : SqT K H' a xs :=
  h.imp (Or.imp (e _ _) fun ⟨o, z⟩ => ⟨o, e _ _ z⟩) id
/-- from H to H': all that stood stands; F, new, stands too -/
structure NewIn (H H' F : Hp) : Prop where
  old : Same H H'
  new : Same F H'
  ap : ∀ b o, H b = some o → F b = none
theorem NewIn.refl (H : Hp) : NewIn H H hn := ⟨Same.refl H, Same.nil H, fun _ _ _ => rfl⟩
theorem NewIn.of_same {H H' : Hp} (h : Same H H') : NewIn H H' hn := ⟨h, Same.nil _, fun _ _ _ => rfl⟩
theorem NewIn.trans {H H1 H2 F G : Hp} (a : NewIn H H1 F) (b : NewIn H1 H2 G) : NewIn H H2 (uni F G) :=
  ⟨a.old.trans b.old, fun c o h => by
    rcases uni_cases h with h | ⟨_, h⟩
    · exact b.old _ _ (a.new _ _ h)
    · exact b.new _ _ h, fun c o h => uni_none (a.ap c o h) (b.ap c o (a.old _ _ h))⟩
theorem NewIn.right {H H1 H2 F G : Hp} (a : NewIn H H1 F) (b : NewIn H1 H2 G) : Same G (uni F G) := fun c o h => by
  cases e : F c with
  | some u => have := b.ap c u (a.new _ _ e); rw [h] at this; cases this
  | none => rw [uni_r e]; exact h
theorem NewIn.alloc {H H1 F : Hp} (a : NewIn H H1 F) {p : Addr} (o : HO) (h : H1 p = none) : NewIn H (upd H1 p o) (upd F p o) :=
  ⟨a.old.trans (Same.upd h), fun c u e => by
    by_cases q : c = p
    · subst q; rw [upd_same] at e ⊢; exact e
    · rw [upd_ne q] at e ⊢; exact a.new _ _ e, fun c u e => by
    have q : c ≠ p := ne_of_none (a.old _ _ e) h
    rw [upd_ne q]; exact a.ap c u e⟩
theorem NewIn.free {H H1 F : Hp} (a : NewIn H H1 F) {p : Addr} (h : H1 p = none) : F p = none := a.new.free h

/-- at work: H0 what stood at the entry, M what is changed, F what is new and stays -/
structure Loc (H0 H M F : Hp) : Prop where
  old : Same H0 H
  mu : Same M H
  new : Same F H
  om : ∀ b o, H0 b = some o → M b = none
  of_ : ∀ b o, H0 b = some o → F b = none
  mf : ∀ b o, M b = some o → F b = none
theorem Loc.start (H : Hp) : Loc H H hn hn := ⟨Same.refl H, Same.nil H, Same.nil H, fun _ _ _ => rfl, fun _ _ _ => rfl, fun _ _ _ => rfl⟩
section
variable {H0 H H' M F F' : Hp} {p : Addr} {o o' : HO}
theorem Loc.call (L : Loc H0 H M F) (n : NewIn H H' F') : Loc H0 H' M (uni F F') :=
  ⟨L.old.trans n.old, L.mu.trans n.old, fun c u h => by
    rcases uni_cases h with h | ⟨_, h⟩
    · exact n.old _ _ (L.new _ _ h)
    · exact n.new _ _ h, L.om, fun b u h => uni_none (L.of_ b u h) (n.ap b u (L.old _ _ h)), fun b u h => uni_none (L.mf b u h) (n.ap b u (L.mu _ _ h))⟩
theorem Loc.right (L : Loc H0 H M F) (n : NewIn H H' F') : Same F' (uni F F') := fun c u h => by
  cases e : F c with
  | some v => have := n.ap c v (L.new _ _ e); rw [h] at this; cases this
  | none => rw [uni_r e]; exact h
theorem Loc.same (L : Loc H0 H M F) (n : Same H H') : Loc H0 H' M F := ⟨L.old.trans n, L.mu.trans n, L.new.trans n, L.om, L.of_, L.mf⟩
/-- a new thing that is to be changed -/
theorem Loc.made (L : Loc H0 H M F) (o : HO) (h : H p = none) : Loc H0 (upd H p o) (upd M p o) F :=
  ⟨L.old.trans (Same.upd h), fun c u e => by
    by_cases q : c = p
    · subst q; rw [upd_same] at e ⊢; exact e
    · rw [upd_ne q] at e ⊢; exact L.mu _ _ e, fun c u e => by
    rw [upd_ne (ne_of_none (L.new _ _ e) h)]; exact L.new _ _ e, fun b u e => by
    rw [upd_ne (ne_of_none (L.old _ _ e) h)]; exact L.om b u e, L.of_, fun b u e => by
    by_cases q : b = p
    · subst q; exact L.new.free h
    · rw [upd_ne q] at e; exact L.mf b u e⟩
/-- a new thing that stays -/
theorem Loc.fix (L : Loc H0 H M F) (o : HO) (h : H p = none) : Loc H0 (upd H p o) M (upd F p o) :=
  ⟨L.old.trans (Same.upd h), L.mu.trans (Same.upd h), fun c u e => by
    by_cases q : c = p
    · subst q; rw [upd_same] at e ⊢; exact e
    · rw [upd_ne q] at e ⊢; exact L.new _ _ e, L.om, fun b u e => by
    rw [upd_ne (ne_of_none (L.old _ _ e) h)]; exact L.of_ b u e, fun b u e => by
    rw [upd_ne (ne_of_none (L.mu _ _ e) h)]; exact L.mf b u e⟩
/-- a change -/
theorem Loc.wr (L : Loc H0 H M F) (h : M p = some o) (o' : HO) : Loc H0 (upd H p o') (upd M p o') F :=
  have n0 : ∀ b u, H0 b = some u → b ≠ p := fun b u e q => by subst q; rw [L.om b u e] at h; cases h
  have nf : ∀ b u, F b = some u → b ≠ p := fun b u e q => by subst q; rw [L.mf b o h] at e; cases e
  ⟨fun b u e => by rw [upd_ne (n0 b u e)]; exact L.old _ _ e, fun c u e => by
    by_cases q : c = p
    · subst q; rw [upd_same] at e ⊢; exact e
    · rw [upd_ne q] at e ⊢; exact L.mu _ _ e, fun b u e => by rw [upd_ne (nf b u e)]; exact L.new _ _ e, fun b u e => by rw [upd_ne (n0 b u e)]; exact L.om b u e, L.of_, fun b u e => by
    by_cases q : b = p
    · subst q; exact L.mf b o h
    · rw [upd_ne q] at e; exact L.mf b u e⟩
/-- one of them, to change no more: it stays as it is -/
def del (M : Hp) (p : Addr) : Hp := fun b => if b = p then none else M b
theorem del_same : del M p p = none := by unfold del; rw [if_pos rfl]
theorem del_ne {b : Addr} (h : b ≠ p) : del M p b = M b := by unfold del; rw [if_neg h]
theorem Loc.freeze (L : Loc H0 H M F) (h : M p = some o) : Loc H0 H (del M p) (upd F p o) :=
  have n0 : ∀ b u, H0 b = some u → b ≠ p := fun b u e q => by subst q; rw [L.om b u e] at h; cases h
  ⟨L.old, fun c u e => by
    by_cases q : c = p
    · subst q; rw [del_same] at e; cases e
    · rw [del_ne q] at e; exact L.mu _ _ e, fun c u e => by
    by_cases q : c = p
    · subst q; rw [upd_same] at e; cases e; exact L.mu _ _ h
    · rw [upd_ne q] at e; exact L.new _ _ e, fun b u e => by rw [del_ne (n0 b u e)]; exact L.om b u e, fun b u e => by rw [upd_ne (n0 b u e)]; exact L.of_ b u e, fun b u e => by
    by_cases q : b = p
    · subst q; rw [del_same] at e; cases e
    · rw [del_ne q] at e; rw [upd_ne q]; exact L.mf b u e⟩
theorem Loc.drop (L : Loc H0 H M F) : NewIn H0 H F := ⟨L.old, L.new, L.of_⟩
theorem Loc.at_ (L : Loc H0 H M F) (h : M p = some o) : H p = some o := L.mu _ _ h
theorem Loc.mfree (L : Loc H0 H M F) (h : H p = none) : M p = none := L.mu.free h
theorem Loc.ffree (L : Loc H0 H M F) (h : H p = none) : F p = none := L.new.free h
theorem Loc.nf (L : Loc H0 H M F) (h : M p = some o) : F p = none := L.mf p o h
end

/-! ### data -/
section
variable {K : PySem.W.Frag} {H H' : Hp}
mutual
theorem Dp.mono (s : Same H H') : ∀ {d : PyData} {v : V}, Dp K H v d → Dp K H' v d
  | _, _, .non => .non
  | _, _, .bl b => .bl b
  | _, _, .int i => .int i
  | _, _, .str x => .str x
  | _, _, .lst h r => .lst (s.seq h) (DpAll.mono s r)
  | _, _, .tup h r => .tup (Same.seqT s h) (DpAll.mono s r)
theorem DpAll.mono (s : Same H H') : ∀ {ds : List PyData} {vs : List V}, DpAll K H vs ds → DpAll K H' vs ds
  | _, _, .nil => .nil
  | _, _, .cons h r => .cons (Dp.mono s h) (DpAll.mono s r)
end
theorem DpAll.length : ∀ {ds : List PyData} {vs : List V}, DpAll K H vs ds → vs.length = ds.length
  | _, _, .nil => rfl
  | _, _, .cons _ r => by rw [List.length_cons, List.length_cons, DpAll.length r]
theorem DpAll.get : ∀ {ds : List PyData} {vs : List V} {i : Nat} {v : V}, DpAll K H vs ds → vs[i]? = some v → ∃ d, ds[i]? = some d ∧ Dp K H v d
  | _, _, _, _, .nil, e => by cases e
  | _, _, 0, _, .cons h _, e => by cases e; exact ⟨_, rfl, h⟩
  | _, _, i + 1, v, .cons _ r, e => DpAll.get (i := i) r e
theorem DpAll.getD : ∀ {ds : List PyData} {vs : List V} {i : Nat} {d : PyData}, DpAll K H vs ds → ds[i]? = some d → ∃ v, vs[i]? = some v ∧ Dp K H v d
  | _, _, _, _, .nil, e => by cases e
  | _, _, 0, _, .cons h _, e => by cases e; exact ⟨_, rfl, h⟩
  | _, _, i + 1, v, .cons _ r, e => DpAll.getD (i := i) r e
theorem DpAll.append : ∀ {ds es : List PyData} {vs us : List V}, DpAll K H vs ds → DpAll K H us es → DpAll K H (vs ++ us) (ds ++ es)
  | _, _, _, _, .nil, h => h
  | _, _, _, _, .cons h r, q => .cons h (DpAll.append r q)
theorem DpAll.snoc {ds : List PyData} {vs : List V} {v : V} {d : PyData} (h : DpAll K H vs ds) (q : Dp K H v d) : DpAll K H (vs ++ [v]) (ds ++ [d]) := DpAll.append h (.cons q .nil)
theorem DpAll.take : ∀ {ds : List PyData} {vs : List V} (n : Nat), DpAll K H vs ds → DpAll K H (vs.take n) (ds.take n)
  | _, _, 0, _ => .nil
  | _, _, _ + 1, .nil => .nil
  | _, _, n + 1, .cons h r => .cons h (DpAll.take n r)
theorem DpAll.drop : ∀ {ds : List PyData} {vs : List V} (n : Nat), DpAll K H vs ds → DpAll K H (vs.drop n) (ds.drop n)
  | _, _, 0, h => h
  | _, _, _ + 1, .nil => .nil
  | _, _, n + 1, .cons _ r => DpAll.drop n r
theorem DpAll.set {v : V} {d : PyData} (q : Dp K H v d) : ∀ {ds : List PyData} {vs : List V} (n : Nat), DpAll K H vs ds → DpAll K H (vs.set n v) (ds.set n d)
  | _, _, _, .nil => .nil
  | _, _, 0, .cons _ r => .cons q r
  | _, _, n + 1, .cons h r => .cons h (DpAll.set q n r)
def iV (n : Nat) : V := .int (n : Nat)
def iD (n : Nat) : PyData := .int (n : Nat)
def dL (ns : List Nat) : PyData := .list (ns.map iD)
def dT (ns : List Nat) : PyData := .tuple (ns.map iD)
def dG (G : List (List Nat)) : PyData := .tuple (G.map dT)
def dLL (Ls : List (List Nat)) : PyData := .list (Ls.map dL)
theorem DpAll.ints : ∀ {ns : List Nat} {vs : List V}, DpAll K H vs (ns.map iD) → vs = ns.map iV
  | [], _, .nil => rfl
  | n :: ns, _, .cons h r => by
    cases h
    rw [List.map_cons, ← DpAll.ints r]
    rfl
theorem DpAll.of_ints : ∀ (ns : List Nat), DpAll K H (ns.map iV) (ns.map iD)
  | [] => .nil
  | n :: ns => .cons (.int _) (DpAll.of_ints ns)
theorem Dp.i {v : V} {i : Int} (h : Dp K H v (.int i)) : v = .int i := by cases h; rfl
theorem Dp.n {v : V} {n : Nat} (h : Dp K H v (iD n)) : v = iV n := by cases h; rfl
theorem Dp.s {v : V} {x : Str} (h : Dp K H v (.str x)) : v = .str x := by cases h; rfl
theorem Dp.b {v : V} {b : Bool} (h : Dp K H v (.bool b)) : v = .bl b := by cases h; rfl
theorem Dp.nn {v : V} (h : Dp K H v .none) : v = .non := by cases h; rfl
theorem Dp.l {v : V} {ds : List PyData} (h : Dp K H v (.list ds)) : ∃ a xs, v = .ref a ∧ SqL K H a xs ∧ DpAll K H xs ds := by
  cases h with
  | lst h r => exact ⟨_, _, rfl, h, r⟩
theorem Dp.t {v : V} {ds : List PyData} (h : Dp K H v (.tuple ds)) : ∃ a xs, v = .ref a ∧ SqT K H a xs ∧ DpAll K H xs ds := by
  cases h with
  | tup h r => exact ⟨_, _, rfl, h, r⟩
theorem Dp.li {v : V} {ns : List Nat} (h : Dp K H v (dL ns)) : ∃ a, v = .ref a ∧ SqL K H a (ns.map iV) := by
  obtain ⟨a, xs, rfl, h, r⟩ := Dp.l h
  rw [DpAll.ints r] at h
  exact ⟨a, rfl, h⟩
theorem Dp.ti {v : V} {ns : List Nat} (h : Dp K H v (dT ns)) : ∃ a, v = .ref a ∧ SqT K H a (ns.map iV) := by
  obtain ⟨a, xs, rfl, h, r⟩ := Dp.t h
  rw [DpAll.ints r] at h
  exact ⟨a, rfl, h⟩
theorem map_iV (ns : List Nat) : ns.map iV = (ns.map Int.ofNat).map V.int := by
  rw [List.map_map]
  rfl
end
theorem small64n {n : Nat} (h : n ≤ 1000000) : n ≤ sizeLine := by rw [sizeLine_eq]; omega

/-! ### the defs of the top -/
abbrev prg : Program := PySem.Challenge.pw_leafturner_k72_whole_levels_over_levels
def top (i : Nat) : Stmt := prg.main.body.getD i (.Pass ⟨0, 0, 0, 0⟩)
/-- a def of the top as it stands behind the top -/
def TopFun (K : PySem.W.Frag) (mg : Str → Option Value) (x : Str) (st : Stmt) (ps : List Str) : Prop :=
  ∃ f fd, mg x = some (.ref f) ∧ Fun K x x st f fd ∧ Binds K fd ps []
/-- a def that keeps its promise -/
def DefOk (P : Program) (w : World) (K : PySem.W.Frag) (mg : Str → Option Value) (base : Heap) (CX : CXT) (k : Nat) (x : Str) (ps : List Str) (sp : Sp) : Prop :=
  ∃ f fd, mg x = some (.ref f) ∧ PySem.W.keepIn K (.ref f) = true ∧ Binds K fd ps [] ∧ FnOk P w K mg base CX k f fd ps sp
section
variable {P : Program} {w : World} {K : PySem.W.Frag} {mg : Str → Option Value} {base : Heap}
theorem TopFun.ok {x : Str} {st : Stmt} {N ps : List Str} {k : Nat} {sp : Sp} (T : TopFun K mg x st ps) (S : FnScope N ps (defScope st)) (len : ∀ vs H Q E, sp vs H Q E → vs.length = ps.length)
    (hbody : ∀ (f : Addr) (cdv : Value) (A : Around) (outer : List Env) (s : Shared) (H : Hp) (vs : List V) (Q : VK) (E : XK), Room k (A.deeper (envOfC x (defScope st) s.heap.objs.size f cdv)) → sp vs H Q E →
      ∃ t, PSs (cxOf CX0 P w K mg base N x (defScope st) f cdv A outer s H E).nox (defBody st) t ∧ t { nx := fun _ H' => Q .non H', rt := Q } (L2.start N vs) H) : DefOk P w K mg base CX0 (k + 1) x ps sp := by
  obtain ⟨f, fd, hm, F, b⟩ := T
  exact ⟨f, fd, hm, F.kp, b, F.ok S len fun cdv A outer s H vs Q E hr h => hbody f cdv A outer s H vs Q E hr h⟩
theorem TopFun.okX {x : Str} {st : Stmt} {N ps : List Str} {k : Nat} {sp : Sp} (T : TopFun K mg x st ps) (S : FnScope N ps (defScope st)) (len : ∀ vs H Q E, sp vs H Q E → vs.length = ps.length)
    (hbody : ∀ (f : Addr) (cdv : Value) (A : Around) (outer : List Env) (s : Shared) (H : Hp) (vs : List V) (Q : VK) (E : XK), Room k (A.deeper (envOfC x (defScope st) s.heap.objs.size f cdv)) → sp vs H Q E →
      ∃ t, PSs (cxOf (L2.CX P w) P w K mg base N x (defScope st) f cdv A outer s H E) (defBody st) t ∧ t { nx := fun _ H' => Q .non H', rt := Q } (L2.start N vs) H) : DefOk P w K mg base (L2.CX P w) (k + 1) x ps sp := by
  obtain ⟨f, fd, hm, F, b⟩ := T
  exact ⟨f, fd, hm, F.kp, b, F.okX S len fun cdv A outer s H vs Q E hr h => hbody f cdv A outer s H vs Q E hr h⟩
end
section
variable {X : Cx}
/-- what the text must be for a call by name, no star among the values -/
structure Plainly (X : Cx) (x : Str) (e : Expr) (es : List Expr) (pos : Pos) : Prop where
  name : (x == ("__debug__" : Str)) = false
  one : starEach (e :: es) X.env = (false, eval e X.env) :: starEach es X.env
  rest : (backTo pos (starEach es X.env)).any (·.1) = false
variable {CX : CXT} {k : Nat} {x : Str} {ps : List Str} {sp : Sp} {e : Expr} {es : List Expr} {t : TA} {p pos : Pos}
/-- a call of such a def, that lets nothing out -/
theorem pe_callD (D : DefOk X.prog X.w X.K X.mg X.base CX0 k x ps sp) (hr : Room k X.A) (hg : Gl X x) (ha : PA X (e :: es) t) (pl : Plainly X x e es pos := by exact ⟨by decide, rfl, rfl⟩) : PE X (.Call (.Name x p) (e :: es) [] pos) (tCall sp [] E0 t) :=
  let ⟨_, _, hm, kp, b, F⟩ := D
  pe_call F hr hg hm kp b .nil pass0 ha pl.name pl.one pl.rest
/-- .. that might raise, where it does not -/
theorem pe_callN (D : DefOk X.prog X.w X.K X.mg X.base (L2.CX X.prog X.w) k x ps sp) (hr : Room k X.A) (hg : Gl X x) (ha : PA X (e :: es) t) (pl : Plainly X x e es pos := by exact ⟨by decide, rfl, rfl⟩) : PE X (.Call (.Name x p) (e :: es) [] pos) (tCall sp [] E0 t) :=
  let ⟨_, _, hm, kp, b, F⟩ := D
  pe_call F hr hg hm kp b .nil passL ha pl.name pl.one pl.rest
/-- .. whose exceptions go on to W -/
theorem pe_callW {W : WX} (D : DefOk X.prog X.w X.K X.mg X.base (L2.CX X.prog X.w) k x ps sp) (hr : Room k X.A) (hg : Gl X x) (tk : Takes X W) (ha : PA X (e :: es) t) (pl : Plainly X x e es pos := by exact ⟨by decide, rfl, rfl⟩) : PE X (.Call (.Name x p) (e :: es) [] pos) (tCallS sp (WE W) t) :=
  let ⟨_, _, hm, kp, b, F⟩ := D
  pe_callS F hr hg hm kp b (fun σ => passAt tk σ) ha pl.name pl.one pl.rest
end
end LT
set_option Elab.async false
set_option linter.all false
set_option maxRecDepth 100000
set_option maxHeartbeats 1000000
/-! The text by places; what the top has written (printed by gen.py). -/
namespace LT
open PySem PySem.Spec PyProof.Rows L2
abbrev s_is_row : Stmt := top 16
abbrev N_is_row : List Str := ["row", "k", "count", "_", "following", "out"]
theorem sc_is_row : FnScope N_is_row ["row", "k", "count"] (defScope s_is_row) := ⟨rfl, rfl, rfl, by decide +kernel, rfl, by decide +kernel, by decide +kernel⟩
abbrev s_is_wide : Stmt := top 17
abbrev N_is_wide : List Str := ["machine", "k", "rows", "row"]
theorem sc_is_wide : FnScope N_is_wide ["machine"] (defScope s_is_wide) := ⟨rfl, rfl, rfl, by decide +kernel, rfl, by decide +kernel, by decide +kernel⟩
abbrev s_is_machine : Stmt := top 18
abbrev N_is_machine : List Str := ["machine"]
theorem sc_is_machine : FnScope N_is_machine ["machine"] (defScope s_is_machine) := ⟨rfl, rfl, rfl, by decide +kernel, rfl, by decide +kernel, by decide +kernel⟩
abbrev s_check_machine : Stmt := top 19
abbrev N_check_machine : List Str := ["machine"]
theorem sc_check_machine : FnScope N_check_machine ["machine"] (defScope s_check_machine) := ⟨rfl, rfl, rfl, by decide +kernel, rfl, by decide +kernel, by decide +kernel⟩
abbrev s_has_digits : Stmt := top 20
abbrev N_has_digits : List Str := ["k", "string", "digit"]
theorem sc_has_digits : FnScope N_has_digits ["k", "string"] (defScope s_has_digits) := ⟨rfl, rfl, rfl, by decide +kernel, rfl, by decide +kernel, by decide +kernel⟩
abbrev s_letters_of : Stmt := top 27
abbrev N_letters_of : List Str := ["machine"]
theorem sc_letters_of : FnScope N_letters_of ["machine"] (defScope s_letters_of) := ⟨rfl, rfl, rfl, by decide +kernel, rfl, by decide +kernel, by decide +kernel⟩
abbrev s_is_word : Stmt := top 28
abbrev N_is_word : List Str := ["machine", "word", "allowed", "letter"]
theorem sc_is_word : FnScope N_is_word ["machine", "word"] (defScope s_is_word) := ⟨rfl, rfl, rfl, by decide +kernel, rfl, by decide +kernel, by decide +kernel⟩
abbrev s_refuse_word : Stmt := top 30
abbrev N_refuse_word : List Str := ["machine", "word"]
theorem sc_refuse_word : FnScope N_refuse_word ["machine", "word"] (defScope s_refuse_word) := ⟨rfl, rfl, rfl, by decide +kernel, rfl, by decide +kernel, by decide +kernel⟩
abbrev s_check_word : Stmt := top 31
abbrev N_check_word : List Str := ["machine", "word"]
theorem sc_check_word : FnScope N_check_word ["machine", "word"] (defScope s_check_word) := ⟨rfl, rfl, rfl, by decide +kernel, rfl, by decide +kernel, by decide +kernel⟩
abbrev s_Actor_init : Stmt := inClass (top 33) 0
abbrev N_Actor_init : List Str := ["self", "machine", "state", "row", "back", "digit", "out", "following"]
theorem sc_Actor_init : FnScope N_Actor_init ["self", "machine"] (defScope s_Actor_init) := ⟨rfl, rfl, rfl, by decide +kernel, rfl, by decide +kernel, by decide +kernel⟩
abbrev s_Actor_step : Stmt := inClass (top 33) 1
abbrev N_Actor_step : List Str := ["self", "word", "digit", "letters", "letter", "following"]
theorem sc_Actor_step : FnScope N_Actor_step ["self", "word", "digit"] (defScope s_Actor_step) := ⟨rfl, rfl, rfl, by decide +kernel, rfl, by decide +kernel, by decide +kernel⟩
abbrev s_Actor_moved : Stmt := inClass (top 33) 2
abbrev N_Actor_moved : List Str := ["self", "word", "string", "image", "sign", "digit"]
theorem sc_Actor_moved : FnScope N_Actor_moved ["self", "word", "string"] (defScope s_Actor_moved) := ⟨rfl, rfl, rfl, by decide +kernel, rfl, by decide +kernel, by decide +kernel⟩
abbrev s_moved : Stmt := top 34
abbrev N_moved : List Str := ["machine", "word", "string"]
theorem sc_moved : FnScope N_moved ["machine", "word", "string"] (defScope s_moved) := ⟨rfl, rfl, rfl, by decide +kernel, rfl, by decide +kernel, by decide +kernel⟩
abbrev s_is_graph : Stmt := top 39
abbrev N_is_graph : List Str := ["graph", "row"]
theorem sc_is_graph : FnScope N_is_graph ["graph"] (defScope s_is_graph) := ⟨rfl, rfl, rfl, by decide +kernel, rfl, by decide +kernel, by decide +kernel⟩
abbrev s_check_graph : Stmt := top 40
abbrev N_check_graph : List Str := ["graph"]
theorem sc_check_graph : FnScope N_check_graph ["graph"] (defScope s_check_graph) := ⟨rfl, rfl, rfl, by decide +kernel, rfl, by decide +kernel, by decide +kernel⟩
abbrev s_check_number : Stmt := top 41
abbrev N_check_number : List Str := ["graph", "number"]
theorem sc_check_number : FnScope N_check_number ["graph", "number"] (defScope s_check_number) := ⟨rfl, rfl, rfl, by decide +kernel, rfl, by decide +kernel, by decide +kernel⟩
abbrev s_digit_count : Stmt := top 42
abbrev N_digit_count : List Str := ["k"]
theorem sc_digit_count : FnScope N_digit_count ["k"] (defScope s_digit_count) := ⟨rfl, rfl, rfl, by decide +kernel, rfl, by decide +kernel, by decide +kernel⟩
abbrev s_number_of : Stmt := top 43
abbrev N_number_of : List Str := ["k", "string", "number", "digit"]
theorem sc_number_of : FnScope N_number_of ["k", "string"] (defScope s_number_of) := ⟨rfl, rfl, rfl, by decide +kernel, rfl, by decide +kernel, by decide +kernel⟩
abbrev s_power_of : Stmt := top 44
abbrev N_power_of : List Str := ["k", "n", "count", "_"]
theorem sc_power_of : FnScope N_power_of ["k", "n"] (defScope s_power_of) := ⟨rfl, rfl, rfl, by decide +kernel, rfl, by decide +kernel, by decide +kernel⟩
abbrev s_written : Stmt := top 45
abbrev N_written : List Str := ["k", "n", "number", "digits", "_"]
theorem sc_written : FnScope N_written ["k", "n", "number"] (defScope s_written) := ⟨rfl, rfl, rfl, by decide +kernel, rfl, by decide +kernel, by decide +kernel⟩
abbrev s_level_graph : Stmt := top 46
abbrev N_level_graph : List Str := ["machine", "words", "n", "word", "k", "rows", "strings", "number", "string"]
theorem sc_level_graph : FnScope N_level_graph ["machine", "words", "n"] (defScope s_level_graph) := ⟨rfl, rfl, rfl, by decide +kernel, rfl, by decide +kernel, by decide +kernel⟩
abbrev s_steps : Stmt := top 47
abbrev N_steps : List Str := ["graph", "backs", "number", "found", "row", "back"]
theorem sc_steps : FnScope N_steps ["graph", "backs", "number"] (defScope s_steps) := ⟨rfl, rfl, rfl, by decide +kernel, rfl, by decide +kernel, by decide +kernel⟩
abbrev s_backs : Stmt := top 48
abbrev N_backs : List Str := ["graph", "found", "row", "back", "number", "entry"]
theorem sc_backs : FnScope N_backs ["graph"] (defScope s_backs) := ⟨rfl, rfl, rfl, by decide +kernel, rfl, by decide +kernel, by decide +kernel⟩
abbrev s_lays : Stmt := top 49
abbrev N_lays : List Str := ["graph", "number", "backs", "met", "layers", "following", "one", "other"]
theorem sc_lays : FnScope N_lays ["graph", "number"] (defScope s_lays) := ⟨rfl, rfl, rfl, by decide +kernel, rfl, by decide +kernel, by decide +kernel⟩
abbrev s_distance : Stmt := top 50
abbrev N_distance : List Str := ["graph", "one", "other", "length", "layer"]
theorem sc_distance : FnScope N_distance ["graph", "one", "other"] (defScope s_distance) := ⟨rfl, rfl, rfl, by decide +kernel, rfl, by decide +kernel, by decide +kernel⟩
abbrev s_parts : Stmt := top 51
abbrev N_parts : List Str := ["graph", "met", "found", "number", "part", "one", "layer"]
theorem sc_parts : FnScope N_parts ["graph"] (defScope s_parts) := ⟨rfl, rfl, rfl, by decide +kernel, rfl, by decide +kernel, by decide +kernel⟩
abbrev s_layers : Stmt := top 52
abbrev N_layers : List Str := ["graph", "number"]
theorem sc_layers : FnScope N_layers ["graph", "number"] (defScope s_layers) := ⟨rfl, rfl, rfl, by decide +kernel, rfl, by decide +kernel, by decide +kernel⟩
abbrev s_over : Stmt := top 53
abbrev N_over : List Str := ["upper", "lower", "k", "row", "below", "entry", "number"]
theorem sc_over : FnScope N_over ["upper", "lower", "k"] (defScope s_over) := ⟨rfl, rfl, rfl, by decide +kernel, rfl, by decide +kernel, by decide +kernel⟩
abbrev s_law_cell : Stmt := top 55
abbrev N_law_cell : List Str := ["_law_script", "_law_k"]
theorem sc_law_cell : FnScope N_law_cell ["_law_script", "_law_k"] (defScope s_law_cell) := ⟨rfl, rfl, rfl, by decide +kernel, rfl, by decide +kernel, by decide +kernel⟩
abbrev s_law_values : Stmt := top 56
abbrev N_law_values : List Str := ["_law_cell_here", "_law_count", "_law_size", "_law_values_here", "_law_rest", "_law_k", "_law_mixed"]
theorem sc_law_values : FnScope N_law_values ["_law_cell_here", "_law_count", "_law_size"] (defScope s_law_values) := ⟨rfl, rfl, rfl, by decide +kernel, rfl, by decide +kernel, by decide +kernel⟩
abbrev s_law_arranged : Stmt := top 57
abbrev N_law_arranged : List Str := ["_law_value", "_law_size", "_law_left", "_law_row", "_law_k", "_law_at"]
theorem sc_law_arranged : FnScope N_law_arranged ["_law_value", "_law_size"] (defScope s_law_arranged) := ⟨rfl, rfl, rfl, by decide +kernel, rfl, by decide +kernel, by decide +kernel⟩
abbrev s_law_machine : Stmt := top 58
abbrev N_law_machine : List Str := ["_law_cell_here", "_law_second", "_law_k", "_law_n", "_law_values_here", "_law_turns", "_law_kind", "_law_rows", "_law_state", "_law_outs", "_law_row", "_law_digit", "_law_following"]
theorem sc_law_machine : FnScope N_law_machine ["_law_cell_here", "_law_second", "_law_k", "_law_n"] (defScope s_law_machine) := ⟨rfl, rfl, rfl, by decide +kernel, rfl, by decide +kernel, by decide +kernel⟩
abbrev s_law_word : Stmt := top 61
abbrev N_law_word : List Str := ["_law_cell_here", "_law_n", "_law_most", "_law_values_here", "_law_letters", "_law_value"]
theorem sc_law_word : FnScope N_law_word ["_law_cell_here", "_law_n", "_law_most"] (defScope s_law_word) := ⟨rfl, rfl, rfl, by decide +kernel, rfl, by decide +kernel, by decide +kernel⟩
abbrev s_law_told : Stmt := top 62
abbrev N_law_told : List Str := ["_law_upper", "_law_lower", "_law_k"]
theorem sc_law_told : FnScope N_law_told ["_law_upper", "_law_lower", "_law_k"] (defScope s_law_told) := ⟨rfl, rfl, rfl, by decide +kernel, rfl, by decide +kernel, by decide +kernel⟩
abbrev s_law_is_even : Stmt := top 63
abbrev N_law_is_even : List Str := ["_law_part", "_law_k", "_law_counts", "_law_number", "_law_many"]
theorem sc_law_is_even : FnScope N_law_is_even ["_law_part", "_law_k"] (defScope s_law_is_even) := ⟨rfl, rfl, rfl, by decide +kernel, rfl, by decide +kernel, by decide +kernel⟩
abbrev s_law : Stmt := top 64
abbrev N_law : List Str := ["_law_script", "_law_k", "_law_n", "_law_machine_here", "_law_words", "_law_level", "_law_lower", "_law_upper", "_law_below", "_law_part", "_law_one", "_law_other", "_law_far", "_law_high", "_law_low", "_law_step", "_law_row", "_law_first", "_law_changed", "_law_under", "_law_number", "_law_j", "_law_layer"]
theorem sc_law : FnScope N_law ["_law_script"] (defScope s_law) := ⟨rfl, rfl, rfl, by decide +kernel, rfl, by decide +kernel, by decide +kernel⟩
structure Txt (K : PySem.W.Frag) (mg : Str → Option Value) : Prop where
  z_len : mg "len" = none
  z_sorted : mg "sorted" = none
  z_list : mg "list" = none
  z_range : mg "range" = none
  z_all : mg "all" = none
  z_int : mg "int" = none
  z_str : mg "str" = none
  z_tuple : mg "tuple" = none
  z_reversed : mg "reversed" = none
  z_enumerate : mg "enumerate" = none
  z_zip : mg "zip" = none
  z_sum : mg "sum" = none
  z_max : mg "max" = none
  z_min : mg "min" = none
  c_DIGITS : ∃ t, mg "DIGITS" = some (.str "0123" t)
  c_LEAST_DIGITS : ∃ t, mg "LEAST_DIGITS" = some (.int 2 t)
  c_MOST_DIGITS : ∃ t, mg "MOST_DIGITS" = some (.int 4 t)
  c_MOST_STATES : ∃ t, mg "MOST_STATES" = some (.int 8 t)
  c_MOST_WIDE : ∃ t, mg "MOST_WIDE" = some (.int 200 t)
  c_MOST_LENGTH : ∃ t, mg "MOST_LENGTH" = some (.int 60 t)
  c_SMALL : ∃ t, mg "SMALL" = some (.str "abcdefgh" t)
  c_LARGE : ∃ t, mg "LARGE" = some (.str "ABCDEFGH" t)
  c_ORDER : ∃ t, mg "ORDER" = some (.str "aAbBcCdDeEfFgGhH" t)
  c_LONGEST : ∃ t, mg "LONGEST" = some (.int 60 t)
  c_MOST_ROWS : ∃ t, mg "MOST_ROWS" = some (.int 6 t)
  c_MOST_NUMBERS : ∃ t, mg "MOST_NUMBERS" = some (.int 1024 t)
  c_MOST_LEVEL : ∃ t, mg "MOST_LEVEL" = some (.int 10 t)
  f_is_row : TopFun K mg "_is_row" s_is_row ["row", "k", "count"]
  f_is_wide : TopFun K mg "is_wide" s_is_wide ["machine"]
  f_is_machine : TopFun K mg "is_machine" s_is_machine ["machine"]
  f_check_machine : TopFun K mg "check_machine" s_check_machine ["machine"]
  f_has_digits : TopFun K mg "has_digits" s_has_digits ["k", "string"]
  f_letters_of : TopFun K mg "letters_of" s_letters_of ["machine"]
  f_is_word : TopFun K mg "is_word" s_is_word ["machine", "word"]
  f_refuse_word : TopFun K mg "refuse_word" s_refuse_word ["machine", "word"]
  f_check_word : TopFun K mg "check_word" s_check_word ["machine", "word"]
  f_moved : TopFun K mg "moved" s_moved ["machine", "word", "string"]
  f_is_graph : TopFun K mg "is_graph" s_is_graph ["graph"]
  f_check_graph : TopFun K mg "check_graph" s_check_graph ["graph"]
  f_check_number : TopFun K mg "check_number" s_check_number ["graph", "number"]
  f_digit_count : TopFun K mg "_digit_count" s_digit_count ["k"]
  f_number_of : TopFun K mg "number_of" s_number_of ["k", "string"]
  f_power_of : TopFun K mg "power_of" s_power_of ["k", "n"]
  f_written : TopFun K mg "written" s_written ["k", "n", "number"]
  f_level_graph : TopFun K mg "level_graph" s_level_graph ["machine", "words", "n"]
  f_steps : TopFun K mg "_steps" s_steps ["graph", "backs", "number"]
  f_backs : TopFun K mg "_backs" s_backs ["graph"]
  f_lays : TopFun K mg "_layers" s_lays ["graph", "number"]
  f_distance : TopFun K mg "distance" s_distance ["graph", "one", "other"]
  f_parts : TopFun K mg "parts" s_parts ["graph"]
  f_layers : TopFun K mg "layers" s_layers ["graph", "number"]
  f_over : TopFun K mg "over" s_over ["upper", "lower", "k"]
  f_law_cell : TopFun K mg "_law_cell" s_law_cell ["_law_script", "_law_k"]
  f_law_values : TopFun K mg "_law_values" s_law_values ["_law_cell_here", "_law_count", "_law_size"]
  f_law_arranged : TopFun K mg "_law_arranged" s_law_arranged ["_law_value", "_law_size"]
  f_law_machine : TopFun K mg "_law_machine" s_law_machine ["_law_cell_here", "_law_second", "_law_k", "_law_n"]
  f_law_word : TopFun K mg "_law_word" s_law_word ["_law_cell_here", "_law_n", "_law_most"]
  f_law_told : TopFun K mg "_law_told" s_law_told ["_law_upper", "_law_lower", "_law_k"]
  f_law_is_even : TopFun K mg "_law_is_even" s_law_is_even ["_law_part", "_law_k"]
  f_law : TopFun K mg "law" s_law ["_law_script"]
theorem bb_len : bootBuiltins "len" = some (.builtin "len") := by decide +kernel
theorem bb_sorted : bootBuiltins "sorted" = some (.builtin "sorted") := by decide +kernel
theorem bb_all : bootBuiltins "all" = some (.builtin "all") := by decide +kernel
theorem bb_sum : bootBuiltins "sum" = some (.builtin "sum") := by decide +kernel
theorem bb_max : bootBuiltins "max" = some (.builtin "max") := by decide +kernel
theorem bb_min : bootBuiltins "min" = some (.builtin "min") := by decide +kernel
theorem bb_int : bootBuiltins "int" = some (.type "int") := by decide +kernel
theorem bb_str : bootBuiltins "str" = some (.type "str") := by decide +kernel
theorem bb_tuple : bootBuiltins "tuple" = some (.type "tuple") := by decide +kernel
theorem bb_list : bootBuiltins "list" = some (.type "list") := by decide +kernel
section
variable {X : Cx}
theorem pe_cs {x s : Str} {pos : Pos} (h : ∃ t, X.mg x = some (.str s t)) (hg : Gl X x := by rfl) (hd : (x == ("__debug__" : Str)) = false := by decide) : PE X (.Name x pos) (tC (.str s)) := by
  obtain ⟨t, h⟩ := h
  exact pe_glob hg h ⟨t, rfl⟩ hd
theorem pe_ci {x : Str} {i : Int} {pos : Pos} (h : ∃ t, X.mg x = some (.int i t)) (hg : Gl X x := by rfl) (hd : (x == ("__debug__" : Str)) = false := by decide) : PE X (.Name x pos) (tC (.int i)) := by
  obtain ⟨t, h⟩ := h
  exact pe_glob hg h ⟨t, rfl⟩ hd
end
/-- what a for asks of what leaves the frame, in a def that nothing leaves -/
theorem ph {M : Model} {A : Around} {env : Env} : PassesOwn M A env (fun _ _ => False) := PassesOwn.never
end LT
set_option Elab.async false
set_option linter.all false
set_option maxRecDepth 100000
set_option maxHeartbeats 1000000
/-! Comprehensions by what their elements are; equality of data. -/
namespace LT
open PySem PySem.Spec PyProof.Rows L2
/-- len of a list or a tuple -/
abbrev rLen (K : PySem.W.Frag) : List V → Hp → VK → Prop := fun xs H Q => ∃ p ys, xs = [V.ref p] ∧ (SqL K H p ys ∨ SqT K H p ys) ∧ Q (.int ys.length) H
/-! ### a list made by a comprehension -/
section
variable {K : PySem.W.Frag} {g : TG} {te : TE} {vs : List Nat} {σ : L2.St} {H1 : Hp} {D : Addr} {Qd : Hp → Prop} {R : Nat → V → Hp → Prop}
/-- what a comprehension over J asks of its caller: D the new list, vs the block's names -/
abbrev LcW (J : It) (g : TG) (te : TE) (vs : List Nat) (σ : L2.St) (H1 : Hp) (D : Addr) (Qd : Hp → Prop) : Prop :=
  ∃ W : Nat → Nat → Hp → Prop,
    (∃ m, W 0 m (upd H1 D (.lst []))) ∧
    ∀ i m H, W i m H → (J.stop i H ∧ Qd H) ∨ (J.go i H ∧ ∃ Nx : Hp → Prop, (∀ H', Nx H' → ∃ m', m' < m ∧ W (i + 1) m' H') ∧
      ∀ x H', J.yld i H x H' → g x (wipe σ vs) H' fun σ2 H2 => wipe σ2 vs = wipe σ vs ∧ tYes σ2 H2 fun b H3 =>
        if b = true then te σ2 H3 fun y H4 => ∃ acc, H4 D = some (.lst acc) ∧ acc.length < sizeLine ∧ Nx (upd H4 D (.lst (acc ++ [y])))
        else Nx H3)
/-- behind i turns -/
def LcAt (H1 : Hp) (D : Addr) (R : Nat → V → Hp → Prop) (i : Nat) (H : Hp) : Prop :=
  ∃ ys F, Loc H1 H (upd hn D (.lst ys)) F ∧ ys.length = i ∧ ∀ j y, ys[j]? = some y → R j y F
theorem LcAt.start (hD : H1 D = none) : LcAt H1 D R 0 (upd H1 D (.lst [])) := ⟨[], hn, (Loc.start H1).made _ hD, rfl, fun j y h => by simp at h⟩
theorem LcAt.same {i : Nat} {H : Hp} (h : LcAt H1 D R i H) : Same H1 H := let ⟨_, _, L, _⟩ := h; L.old
theorem LcAt.step {i : Nat} {H : Hp} (h : LcAt H1 D R i H) (hi : i < sizeLine) (hR : ∀ i y F F', Same F F' → R i y F → R i y F') (y : V) (H' F' : Hp) (n : NewIn H H' F') (r : R i y F') :
    ∃ acc, H' D = some (.lst acc) ∧ acc.length < sizeLine ∧ LcAt H1 D R (i + 1) (upd H' D (.lst (acc ++ [y]))) := by
  obtain ⟨ys, F, L, hl, hr⟩ := h
  have L2 := L.call n
  refine ⟨ys, L2.at_ upd_same, by omega, ys ++ [y], uni F F', ?_, by simp [hl], fun j z hz => ?_⟩
  · have := L2.wr (p := D) upd_same (.lst (ys ++ [y]))
    rw [upd_upd] at this
    exact this
  · by_cases c : j < ys.length
    · rw [List.getElem?_append_left c] at hz
      exact hR _ _ _ _ (Same.uni_l _ _) (hr j z hz)
    · have e : j = ys.length := by
        have := (List.getElem?_eq_some_iff.mp hz).1
        rw [List.length_append, List.length_singleton] at this
        omega
      subst e
      rw [List.getElem?_append_right (Nat.le_refl _), Nat.sub_self] at hz
      cases hz
      rw [hl]
      exact hR _ _ _ _ (L.right n) r
theorem LcAt.fin {n : Nat} {H : Hp} (h : LcAt H1 D R n H) (hR : ∀ i y F F', Same F F' → R i y F → R i y F')
    (fin : ∀ ys H' F', NewIn H1 H' F' → F' D = some (.lst ys) → ys.length = n → (∀ i y, ys[i]? = some y → R i y F') → Qd H') : Qd H := by
  obtain ⟨ys, F, L, hl, hr⟩ := h
  refine fin ys H (upd F D (.lst ys)) (L.freeze (p := D) upd_same).drop upd_same hl fun i y h => hR _ _ _ _ ?_ (hr i y h)
  exact Same.upd (L.nf (p := D) upd_same)
theorem lcL {a : Addr} {xs : List V} (R : Nat → V → Hp → Prop) (hD : H1 D = none) (hs : SqL K H1 a xs) (hz : xs.length ≤ sizeLine) (hR : ∀ i y F F', Same F F' → R i y F → R i y F')
    (step : ∀ i x H (k : V → Hp → Prop), xs[i]? = some x → Same H1 H → (∀ y H' F', NewIn H H' F' → R i y F' → k y H') → g x (wipe σ vs) H fun σ2 H2 => wipe σ2 vs = wipe σ vs ∧ te σ2 H2 k)
    (fin : ∀ ys H' F', NewIn H1 H' F' → F' D = some (.lst ys) → ys.length = xs.length → (∀ i y, ys[i]? = some y → R i y F') → Qd H') :
    LcW (Itl K a) g te vs σ H1 D Qd :=
  lc_list (K := K) (a := a) (xs := xs) (LcAt H1 D R) (LcAt.start hD) (fun _ _ _ p => p.same.seq hs)
    (fun i x H hx p => step i x H _ hx p.same fun y H' F' n r => p.step (Nat.lt_of_lt_of_le (List.getElem?_eq_some_iff.mp hx).1 hz) hR y H' F' n r) fun H p => p.fin hR fin
theorem lcT {a : Addr} {xs : List V} (R : Nat → V → Hp → Prop) (hD : H1 D = none) (hs : SqT K H1 a xs) (hz : xs.length ≤ sizeLine) (hR : ∀ i y F F', Same F F' → R i y F → R i y F')
    (step : ∀ i x H (k : V → Hp → Prop), xs[i]? = some x → Same H1 H → (∀ y H' F', NewIn H H' F' → R i y F' → k y H') → g x (wipe σ vs) H fun σ2 H2 => wipe σ2 vs = wipe σ vs ∧ te σ2 H2 k)
    (fin : ∀ ys H' F', NewIn H1 H' F' → F' D = some (.lst ys) → ys.length = xs.length → (∀ i y, ys[i]? = some y → R i y F') → Qd H') :
    LcW (Itt K a) g te vs σ H1 D Qd :=
  lc_tup (K := K) (a := a) (xs := xs) (LcAt H1 D R) (LcAt.start hD) (fun _ _ _ p => Same.seqT p.same hs)
    (fun i x H hx p => step i x H _ hx p.same fun y H' F' n r => p.step (Nat.lt_of_lt_of_le (List.getElem?_eq_some_iff.mp hx).1 hz) hR y H' F' n r) fun H p => p.fin hR fin
theorem lcR {n : Nat} (R : Nat → V → Hp → Prop) (hD : H1 D = none) (hz : n ≤ sizeLine) (hR : ∀ i y F F', Same F F' → R i y F → R i y F')
    (step : ∀ i H (k : V → Hp → Prop), i < n → Same H1 H → (∀ y H' F', NewIn H H' F' → R i y F' → k y H') → g (iV i) (wipe σ vs) H fun σ2 H2 => wipe σ2 vs = wipe σ vs ∧ te σ2 H2 k)
    (fin : ∀ ys H' F', NewIn H1 H' F' → F' D = some (.lst ys) → ys.length = n → (∀ i y, ys[i]? = some y → R i y F') → Qd H') :
    LcW (Itr 0 n) g te vs σ H1 D Qd :=
  lc_range (lo := 0) (n := n) (LcAt H1 D R) (LcAt.start hD)
    (fun i H hi p => by
      rw [Int.zero_add]
      exact step i H _ hi p.same fun y H' F' n r => p.step (Nat.lt_of_lt_of_le hi hz) hR y H' F' n r) fun H p => p.fin hR fin
/-- over a text, sign by sign -/
theorem lcS {x : Str} (R : Nat → V → Hp → Prop) (hD : H1 D = none) (hz : x.length ≤ sizeLine) (hR : ∀ i y F F', Same F F' → R i y F → R i y F')
    (step : ∀ i c H (k : V → Hp → Prop), x.cps[i]? = some c → Same H1 H → (∀ y H' F', NewIn H H' F' → R i y F' → k y H') → g (.str ⟨#[c]⟩) (wipe σ vs) H fun σ2 H2 => wipe σ2 vs = wipe σ vs ∧ te σ2 H2 k)
    (fin : ∀ ys H' F', NewIn H1 H' F' → F' D = some (.lst ys) → ys.length = x.length → (∀ i y, ys[i]? = some y → R i y F') → Qd H') :
    LcW (Its x) g te vs σ H1 D Qd :=
  lc_it walk_str (LcAt H1 D R) (LcAt.start hD) (fun _ _ _ _ => trivial)
    (fun i v H H' lt p ⟨e, c, hc, ev⟩ => by
      subst e ev
      exact step i c _ _ hc p.same fun y H2 F2 n r => p.step (Nat.lt_of_lt_of_le lt hz) hR y H2 F2 n r) fun H p => p.fin hR fin
end
/-- a loop over a text, sign by sign -/
theorem for_str {x : Str} {g : TG} {tb : TS} {D : Ends} {σ : L2.St} {H : Hp} (Pv : Nat → L2.St → Hp → Prop) (h0 : Pv 0 σ H)
    (hs : ∀ (i c : Nat) (σ : L2.St) (H : Hp), x.cps[i]? = some c → Pv i σ H → g (.str ⟨#[c]⟩) σ H fun σ2 H2 => tb { D with nx := Pv (i + 1), ct := Pv (i + 1), bk := D.nx } σ2 H2) (hd : ∀ σ H, Pv x.length σ H → D.nx σ H) : ForW (Its x) g tb D σ H :=
  for_it walk_str Pv h0 (fun _ _ _ _ _ => trivial) (fun i v σ H H' _ p ⟨e, c, hc, ev⟩ => by subst e ev; exact hs i c σ _ hc p) hd
theorem ys_eq {α : Type} {ys : List α} {n : Nat} {f : Nat → α} (h : ys.length = n) (q : ∀ (i : Nat) (y : α), ys[i]? = some y → y = f i) : ys = (List.range n).map f := by
  refine List.ext_getElem? fun i => ?_
  rw [List.getElem?_map]
  by_cases c : i < n
  · have h1 : ys[i]? = some (ys[i]'(by omega)) := List.getElem?_eq_getElem _
    rw [h1, List.getElem?_range c, q i _ h1]
    rfl
  · rw [List.getElem?_eq_none (by omega), List.getElem?_eq_none (by rw [List.length_range]; omega)]
    rfl
theorem DpAll.of_at {K : PySem.W.Frag} {F : Hp} : ∀ {ys : List V} {ds : List PyData}, ys.length = ds.length → (∀ (i : Nat) (y : V) (d : PyData), ys[i]? = some y → ds[i]? = some d → Dp K F y d) → DpAll K F ys ds
  | [], [], _, _ => .nil
  | [], _ :: _, h, _ => by simp at h
  | _ :: _, [], h, _ => by simp at h
  | y :: ys, d :: ds, h, q => .cons (q 0 y d rfl rfl) (DpAll.of_at (by simpa using h) fun i y' d' h1 h2 => q (i + 1) y' d' h1 h2)

/-! ### equality of data -/
theorem eqvAll_iD : ∀ (a b : List Nat), PyData.eqvAll (a.map iD) (b.map iD) = decide (a = b)
  | [], [] => by simp [PyData.eqvAll]
  | [], b :: bs => by simp [PyData.eqvAll]
  | a :: as, [] => by simp [PyData.eqvAll]
  | a :: as, b :: bs => by
    rw [List.map_cons, List.map_cons]
    have e : PyData.eqvAll (iD a :: as.map iD) (iD b :: bs.map iD) = (((a : Int) == (b : Int)) && PyData.eqvAll (as.map iD) (bs.map iD)) := by simp only [iD, PyData.eqvAll, PyData.eqv]
    rw [e, eqvAll_iD as bs]
    by_cases h : a = b
    · subst h; simp
    · have q : ((a : Int) == (b : Int)) = false := beq_eq_false_iff_ne.mpr (by omega)
      rw [q, Bool.false_and, decide_eq_false (fun z => h (List.cons.inj z).1)]
theorem eqv_dL (a b : List Nat) : PyData.eqv (dL a) (dL b) = decide (a = b) := by
  have e : PyData.eqv (dL a) (dL b) = PyData.eqvAll (a.map iD) (b.map iD) := by simp only [dL, PyData.eqv]
  rw [e, eqvAll_iD]
theorem lay_ints : ∀ ns : List Nat, PyData.canLayAll0 (ns.map iD) = true
  | [] => by simp [PyData.canLayAll0]
  | n :: ns => by simp [PyData.canLayAll0, iD, PyData.canLay0]; exact lay_ints ns
theorem depth_ints : ∀ ns : List Nat, PyData.depthAll (ns.map iD) ≤ 1
  | [] => by simp [PyData.depthAll]
  | n :: ns => by
    have h := depth_ints ns
    simp only [List.map_cons, PyData.depthAll, iD, PyData.depth]
    omega
theorem shaped_dL (ns : List Nat) : SeqAt.shaped (dL ns) = true := by
  have h := depth_ints ns
  have h2 : PyData.depth (dL ns) ≤ 64 := by
    simp only [dL, PyData.depth]
    omega
  show (PyData.canLay0 (dL ns) && decide (PyData.depth (dL ns) ≤ 64)) = true
  rw [Bool.and_eq_true]
  exact ⟨by simp only [dL, PyData.canLay0]; exact lay_ints ns, decide_eq_true h2⟩
theorem lay_LL : ∀ Ls : List (List Nat), PyData.canLayAll0 (Ls.map dL) = true
  | [] => by simp [PyData.canLayAll0]
  | L :: Ls => by
    have h := lay_ints L
    simp [PyData.canLayAll0, dL, PyData.canLay0]
    exact ⟨h, lay_LL Ls⟩
theorem depth_LL : ∀ Ls : List (List Nat), PyData.depthAll (Ls.map dL) ≤ 3
  | [] => by simp [PyData.depthAll]
  | L :: Ls => by
    have h := depth_LL Ls
    have h1 := depth_ints L
    simp only [List.map_cons, PyData.depthAll, dL, PyData.depth]
    omega
theorem shaped_dLL (Ls : List (List Nat)) : SeqAt.shaped (dLL Ls) = true := by
  have h := depth_LL Ls
  have h2 : PyData.depth (dLL Ls) ≤ 64 := by
    simp only [dLL, PyData.depth]
    omega
  show (PyData.canLay0 (dLL Ls) && decide (PyData.depth (dLL Ls) ≤ 64)) = true
  rw [Bool.and_eq_true]
  exact ⟨by simp only [dLL, PyData.canLay0]; exact lay_LL Ls, decide_eq_true h2⟩
theorem rgV_iV (n : Nat) : rgV 0 (n : Int) = (List.range n).map iV := by
  unfold rgV
  have e : ((n : Int) - 0).toNat = n := by omega
  rw [e]
  refine List.map_congr_left fun i _ => ?_
  show V.int (0 + (i : Int)) = V.int (i : Int)
  rw [Int.zero_add]
/-- the sorted list of naturals, back from the ints -/
theorem sorted_nat {ns : List Nat} {zs : List Int} (h : zs.Perm (ns.map Int.ofNat)) (hs : zs.Pairwise (· ≤ ·)) : ∃ ms : List Nat, zs.map V.int = ms.map iV ∧ ms.Perm ns ∧ ms.Pairwise (· ≤ ·) := by
  have hz : zs = (zs.map Int.toNat).map Int.ofNat := by
    rw [List.map_map]
    have : ∀ z ∈ zs, (Int.ofNat ∘ Int.toNat) z = z := fun z hz => by
      obtain ⟨n, _, rfl⟩ := List.mem_map.mp (h.mem_iff.mp hz)
      rfl
    rw [List.map_congr_left this, List.map_id']
  refine ⟨zs.map Int.toNat, ?_, ?_, ?_⟩
  · rw [map_iV, ← hz]
  · have := h.map Int.toNat
    rw [List.map_map] at this
    have e : ns.map (Int.toNat ∘ Int.ofNat) = ns := by
      have : ∀ n ∈ ns, (Int.toNat ∘ Int.ofNat) n = n := fun n _ => rfl
      rw [List.map_congr_left this, List.map_id']
    rw [e] at this
    exact this
  · rw [List.pairwise_map]
    exact hs.imp fun {a b} q => by omega
end LT
set_option Elab.async false
set_option linter.all false
set_option maxRecDepth 100000
set_option maxHeartbeats 1000000
namespace LT
open PySem PySem.Spec PyProof.Rows L2
theorem iV_i (n : Nat) : V.int (n : Int) = iV n := rfl
theorem z_i (i : Nat) : V.int (0 + (i : Int)) = iV i := by rw [Int.zero_add]; rfl
theorem toNat_n (n : Nat) : (n : Int).toNat = n := Int.toNat_natCast n
theorem ys_map {α β : Type} {ys : List α} {l : List β} {f : β → α} (h : ys.length = l.length) (q : ∀ (i : Nat) (y : α), ys[i]? = some y → ∃ e, l[i]? = some e ∧ y = f e) : ys = l.map f := by
  refine List.ext_getElem? fun i => ?_
  rw [List.getElem?_map]
  by_cases c : i < ys.length
  · have h1 : ys[i]? = some (ys[i]'c) := List.getElem?_eq_getElem _
    obtain ⟨e, he, hy⟩ := q i _ h1
    rw [h1, he, hy]
    rfl
  · rw [List.getElem?_eq_none (by omega), List.getElem?_eq_none (by omega)]
    rfl
theorem reps {α : Type} {ys : List α} {n : Nat} {a : α} (h : ys.length = n) (q : ∀ (i : Nat) (y : α), ys[i]? = some y → y = a) : List.replicate n a = ys := by
  subst h
  refine (List.eq_replicate_iff.mpr ⟨rfl, fun b hb => ?_⟩).symm
  obtain ⟨i, hi, e⟩ := List.mem_iff_getElem.mp hb
  exact q i b (by rw [List.getElem?_eq_getElem hi, e])
theorem all_rep : ∀ n : Nat, (List.replicate n true).all id = true
  | 0 => rfl
  | n + 1 => by rw [List.replicate_succ, List.all_cons, all_rep n]; rfl
theorem sorted_range {ms : List Nat} {n : Nat} (h : ms.Perm (List.range n)) (hs : ms.Pairwise (· ≤ ·)) : ms = List.range n :=
  h.eq_of_pairwise (le := (· ≤ ·)) (fun a b _ _ x y => Nat.le_antisymm x y) hs (List.pairwise_lt_range.imp fun {a b} q => Nat.le_of_lt q)
section
variable {P : Program} {w : World} {K : PySem.W.Frag} {mg : Str → Option Value} {base : Heap}
/-! ### power_of -/
def sp_power_of : Sp := fun vs H Q _ => ∃ k n : Nat, vs = [iV k, iV n] ∧ k ≤ 4 ∧ n ≤ 20 ∧ ∀ H', Same H H' → Q (iV (k ^ n)) H'
theorem ok_power_of (T : Txt K mg) : DefOk P w K mg base CX0 1 "power_of" ["k", "n"] sp_power_of := by
  refine T.f_power_of.ok sc_power_of (fun vs H Q E h => ?_) (fun f cdv A outer s H vs Q E hr h => ?_)
  · obtain ⟨_, _, rfl, _⟩ := h; rfl
  · obtain ⟨k, n, rfl, hk, hn', q⟩ := h
    have nd := sc_power_of.nd
    refine ⟨_, (pss_cons (ps_set (i := 2) nd rfl (Or.inl rfl) pe_int)
      (pss_cons (ps_for ph rfl (pi_range1 rfl T.z_range (pa_cons (pv 1) pa_nil)) (pg_name (i := 3) nd rfl (Or.inl rfl)) 
        (pss_one (ps_aug (i := 2) nd rfl (Or.inl rfl) (pv 0) iop_mul)))
      (pss_one (ps_ret (pv 2))))), ?_⟩
    refine ⟨_, rfl, _, rfl, by omega, by omega, for_range (lo := 0) (n := (n : Int).toNat) (fun i σ H' => ∃ v, σ = [some (iV k), some (iV n), some (iV (k ^ i)), v] ∧ Same H H') ⟨none, rfl, Same.refl H⟩ ?_ ?_⟩
    · rintro i σ H' hi ⟨v, rfl, s⟩
      refine ⟨_, rfl, _, rfl, _, _, rfl, rfl, Or.inr ⟨by omega, by omega⟩, some (V.int (0 + (i : Int))), ?_, s⟩
      have e : ((k ^ i : Nat) : Int) * (k : Int) = ((k ^ (i + 1) : Nat) : Int) := by rw [Nat.pow_succ]; exact (Int.natCast_mul _ _).symm
      show [some (iV k), some (iV n), some (V.int (((k ^ i : Nat) : Int) * (k : Int))), some _] = _
      rw [e]
      rfl
    · rintro σ H' ⟨v, rfl, s⟩
      rw [toNat_n]
      exact ⟨_, rfl, q _ s⟩
/-! ### check_number -/
def sp_check_number (K : PySem.W.Frag) : Sp := fun vs H Q _ => ∃ (g : V) (x : Nat) (G : List (List Nat)) (N : Nat), vs = [g, iV x] ∧ Dp K H g (dG G) ∧ GraphOk G N ∧ x < N ∧ ∀ H', Same H H' → Q .non H'
theorem GraphOk.head {G : List (List Nat)} {N : Nat} (g : GraphOk G N) : ∃ r R, G = r :: R ∧ r.length = N := by
  cases G with
  | nil => have := g.lo; simp at this
  | cons r R => exact ⟨r, R, rfl, g.len List.mem_cons_self⟩
/-- the first row of a graph -/
theorem Dp.row0 {H : Hp} {g : V} {G : List (List Nat)} {N : Nat} (h : Dp K H g (dG G)) (o : GraphOk G N) : ∃ a xs r r0, g = .ref a ∧ SqT K H a xs ∧ xs.length = G.length ∧ xs[0]? = some (.ref r) ∧ G[0]? = some r0 ∧ SqT K H r (r0.map iV) ∧ r0.length = N := by
  obtain ⟨a, xs, rfl, hs, hd⟩ := Dp.t h
  obtain ⟨r0, R, rfl, hl⟩ := o.head
  obtain ⟨v, hv, hd0⟩ := DpAll.getD (i := 0) (d := dT r0) hd rfl
  obtain ⟨r, rfl, hr⟩ := Dp.ti hd0
  have := DpAll.length hd
  rw [List.length_map] at this
  exact ⟨a, xs, r, r0, rfl, hs, this, hv, rfl, hr, hl⟩
theorem ok_check_number (T : Txt K mg) : DefOk P w K mg base CX0 1 "check_number" ["graph", "number"] (sp_check_number K) := by
  refine T.f_check_number.ok sc_check_number (fun vs H Q E h => ?_) (fun f cdv A outer s H vs Q E hr h => ?_)
  · obtain ⟨_, _, _, _, rfl, _⟩ := h; rfl
  · obtain ⟨g, x, G, N, rfl, hg, ho, hx, q⟩ := h
    obtain ⟨a, xs, r, r0, rfl, hs, hl, h0, hr0, hrr, hrl⟩ := Dp.row0 hg ho
    have nd := sc_check_number.nd
    refine ⟨_, (pss_one (ps_if (pt_not (pt_chain op_le op_lt pe_int (pv 1) (pe_callB call_len_seq (by rfl) T.z_len bb_len (pa_cons (pe_ix ix_tup (pv 0) pe_int (fun _ _ => rfl)) pa_nil)))) (pss_one ps_never) pss_nil)), ?_⟩
    refine ⟨_, rfl, _, _, rfl, rfl, _, rfl, ?_⟩
    refine ite2 (fun _ => ?_) (fun z => absurd (decide_eq_true (Int.natCast_nonneg x)) z)
    refine ⟨_, rfl, a, xs, 0, _, rfl, rfl, hs, at_of rfl h0, r, _, rfl, .inr hrr, _, _, rfl, rfl, _, rfl, ?_⟩
    have e : decide ((x : Int) < (((r0.map iV).length : Nat) : Int)) = true := by
      rw [List.length_map, hrl]
      exact decide_eq_true (by omega)
    show if (!decide ((x : Int) < (((r0.map iV).length : Nat) : Int))) = true then _ else _
    rw [e]
    exact iteF (q _ (Same.refl H))
/-! ### _law_cell -/
def sp_law_cell (K : PySem.W.Frag) : Sp := fun vs H Q _ => ∃ (a : Addr) (ns : List Int) (k : Nat), vs = [.ref a, iV k] ∧ SqL K H a (ns.map V.int) ∧ ∀ i : Int, Q (.int i) H
theorem ok_law_cell (T : Txt K mg) : DefOk P w K mg base CX0 1 "_law_cell" ["_law_script", "_law_k"] (sp_law_cell K) := by
  refine T.f_law_cell.ok sc_law_cell (fun vs H Q E h => ?_) (fun f cdv A outer s H vs Q E hr h => ?_)
  · obtain ⟨_, _, _, rfl, _⟩ := h; rfl
  · obtain ⟨a, ns, k, rfl, hs, q⟩ := h
    have nd := sc_law_cell.nd
    refine ⟨_, (pss_cons (ps_if (pt_cmpR op_lt (pv 1) (pe_callB call_len_seq (by rfl) T.z_len bb_len (pa_cons (pv 0) pa_nil)) (nomark _)) (pss_one (ps_ret (pe_ix ix_list (pv 0) (pv 1) (fun _ _ => rfl)))) pss_nil)
      (pss_one (ps_ret pe_int))), ?_⟩
    refine ⟨_, rfl, _, rfl, a, _, rfl, .inl hs, _, _, rfl, rfl, _, rfl, ?_⟩
    refine ite2 (fun c => ?_) (fun _ => q 0)
    have hk : k < ns.length := by
      have := of_decide_eq_true c
      rw [List.length_map] at this
      omega
    refine ⟨_, rfl, _, rfl, a, _, (k : Int), V.int ns[k], rfl, rfl, hs, at_of rfl ?_, q _⟩
    rw [List.getElem?_map, List.getElem?_eq_getElem hk]
    rfl
/-! ### _is_row -/
def dE (e : Nat × Nat) : PyData := .tuple [iD e.1, iD e.2]
def dRow (r : List (Nat × Nat)) : PyData := .tuple (r.map dE)
def dM (k : Nat) (rows : Rows) : PyData := .tuple [iD k, .tuple (rows.map dRow)]
/-- an entry of a row, as it stands -/
theorem Dp.ent {H : Hp} {v : V} {e : Nat × Nat} (h : Dp K H v (dE e)) : ∃ t, v = .ref t ∧ SqT K H t [iV e.1, iV e.2] := by
  obtain ⟨t, xs, rfl, hs, hd⟩ := Dp.t h
  cases hd with
  | cons h1 r =>
    cases r with
    | cons h2 r =>
      cases r
      rw [Dp.n h1, Dp.n h2] at hs
      exact ⟨t, rfl, hs⟩
def sp_is_row (K : PySem.W.Frag) : Sp := fun vs H Q _ => ∃ (v : V) (k n : Nat) (r : List (Nat × Nat)), vs = [v, iV k, iV n] ∧ Dp K H v (dRow r) ∧ k ≤ 4 ∧ (r.map Prod.fst).Perm (List.range k) ∧ (∀ e ∈ r, e.2 < n) ∧ ∀ H', Same H H' → Q (.bl true) H'
theorem ok_is_row (T : Txt K mg) : DefOk P w K mg base CX0 1 "_is_row" ["row", "k", "count"] (sp_is_row K) := by
  refine T.f_is_row.ok sc_is_row (fun vs H Q E h => ?_) (fun f cdv A outer s H vs Q E hr h => ?_)
  · obtain ⟨_, _, _, _, rfl, _⟩ := h; rfl
  · obtain ⟨v, k, n, r, rfl, hd, hk4, hp, hf, q⟩ := h
    have nd := sc_is_row.nd
    obtain ⟨a, xs, rfl, hs, hds⟩ := Dp.t hd
    have hl : xs.length = k := by
      have h1 := DpAll.length hds
      have h2 := hp.length_eq
      rw [List.length_map] at h1 h2
      rw [List.length_range] at h2
      omega
    have hrl : r.length = k := by
      have h1 := DpAll.length hds
      rw [List.length_map] at h1
      omega
    -- an item of the row
    have item : ∀ (i : Nat) (x : V) (H' : Hp), xs[i]? = some x → Same H H' → ∃ t e, r[i]? = some e ∧ x = .ref t ∧ SqT K H' t [iV e.1, iV e.2] := fun i x H' hx sm => by
      obtain ⟨d, h1, h2⟩ := DpAll.get hds hx
      rw [List.getElem?_map] at h1
      cases he : r[i]? with
      | none => rw [he] at h1; cases h1
      | some e =>
        rw [he] at h1
        cases h1
        obtain ⟨t, rfl, ht⟩ := Dp.ent h2
        exact ⟨t, e, rfl, rfl, Same.seqT sm ht⟩
    refine ⟨_, (pss_cons (ps_if (PW.pt (pw_or (pt_cmpR op_ne (pe_callB call_len_seq (by rfl) T.z_len bb_len (pa_cons (pv 0) pa_nil)) (pv 1) (nomark _)) (pw_or1 (pt_cmpR (op_neD hr.units) (pe_callB cr_sorted (by rfl) T.z_sorted bb_sorted (pa_cons (pe_lc (own := [("out", 5), ("_", 3)]) (g := (gTup K 2 (gCons (gName 5) (gCons (gName 3) gNil)))) rfl nd (pi_tup (pv 0)) (blkOk_by (own := [("out", 5), ("_", 3)]) (N := N_is_row) (sc := defScope s_is_row) (by decide +kernel)) (fun _ _ _ _ _ => (pg_tup rfl (pgs_cons (pg_name (i := 5) nd rfl (Or.inl rfl)) (pgs_cons (pg_name (i := 3) nd rfl (Or.inl rfl)) pgs_nil)))) (fun _ _ _ _ _ => pts_nil) (fun _ _ _ _ _ => (pv 5))) pa_nil)) (pe_listRg rfl (by rfl) T.z_list (prg_1 (by rfl) T.z_range (pv 1))) (nomark _))))) (pss_one (ps_ret pe_bl)) pss_nil)
      (pss_one (ps_ret (pe_callB (cr_all rfl) (by rfl) T.z_all bb_all (pa_cons (pe_lc (own := [("_", 3), ("following", 4)]) (g := (gTup K 2 (gCons (gName 3) (gCons (gName 4) gNil)))) rfl nd (pi_tup (pv 0)) (blkOk_by (own := [("_", 3), ("following", 4)]) (N := N_is_row) (sc := defScope s_is_row) (by decide +kernel)) (fun _ _ _ _ _ => (pg_tup rfl (pgs_cons (pg_name (i := 3) nd rfl (Or.inl rfl)) (pgs_cons (pg_name (i := 4) nd rfl (Or.inl rfl)) pgs_nil)))) (fun _ _ _ _ _ => pts_nil) (fun _ _ _ _ _ => (pe_chain op_le op_lt pe_int (pv 4) (pv 2)))) pa_nil))))), ?_⟩
    refine ⟨_, rfl, a, _, rfl, .inr hs, _, rfl, rfl, _, rfl, ?_⟩
    refine iteNS (by rw [hl]; rfl) ?_
    refine ⟨_, rfl, a, rfl, ⟨_, hs⟩, fun D hD => lcT (fun i y F => ∃ e, r[i]? = some e ∧ y = iV e.1) hD hs (by rw [hl, sizeLine_eq]; omega) (fun _ _ _ _ _ h => h) (fun i x H' k' hx sm kk => ?_) (fun ys H' F' nw hF hyl hy => ?_)⟩
    · obtain ⟨t, e, he, rfl, ht⟩ := item i x H' hx sm
      exact ⟨t, _, rfl, ht, rfl, _, _, rfl, _, _, rfl, rfl, rfl, _, rfl, kk _ _ hn (NewIn.refl _) ⟨e, he, rfl⟩⟩
    · have ey : ys = (r.map Prod.fst).map iV := ys_map (by rw [List.length_map, hyl, hl, hrl]) fun i y hiy => by
        obtain ⟨e, he, rfl⟩ := hy i y hiy
        exact ⟨e.1, by rw [List.getElem?_map, he]; rfl, rfl⟩
      refine ⟨D, (r.map Prod.fst).map Int.ofNat, rfl, SqL.of (by rw [← map_iV, ← ey]; exact nw.new _ _ hF), by rw [List.length_map, List.length_map, hrl]; omega, fun zs p hperm hsrt hp0 => ?_⟩
      obtain ⟨ms, hms, hmp, hmsrt⟩ := sorted_nat hperm hsrt
      have em : ms = List.range k := sorted_range (hmp.trans hp) hmsrt
      refine ⟨_, rfl, (k : Int), rfl, RgOk.of_le (Int.le_refl 0) (by omega) (by omega) (by omega), fun q2 hq2 => ?_⟩
      have np : p ≠ q2 := fun e => by rw [e, upd_same] at hq2; cases hq2
      refine ⟨dL ms, dL (List.range k), .lst (SqL.of (by rw [upd_ne np, upd_same])) (by rw [hms]; exact DpAll.of_ints ms), .lst (SqL.of upd_same) (by rw [rgV_iV]; exact DpAll.of_ints _), shaped_dL _, shaped_dL _, _, rfl, ?_⟩
      rw [eqv_dL, decide_eq_true em]
      refine iteF ?_
      have s3 : Same H (upd (upd H' p (.lst (zs.map V.int))) q2 (.lst (rgV 0 (k : Int)))) := (nw.old.trans (Same.upd hp0)).trans (Same.upd hq2)
      refine ⟨_, rfl, a, rfl, ⟨_, Same.seqT s3 hs⟩, fun D2 hD2 => lcT (fun i y F => y = V.bl true) hD2 (Same.seqT s3 hs) (by rw [hl, sizeLine_eq]; omega) (fun _ _ _ _ _ h => h) (fun i x H4 k' hx sm kk => ?_) (fun ys2 H4 F4 nw4 hF4 hyl4 hy4 => ?_)⟩
      · obtain ⟨t, e, he, rfl, ht⟩ := item i x H4 hx (s3.trans sm)
        refine ⟨t, _, rfl, ht, rfl, _, _, rfl, _, _, rfl, rfl, rfl, _, rfl, _, _, rfl, rfl, _, rfl, ?_⟩
        refine ite2 (fun _ => ?_) (fun z => absurd (decide_eq_true (Int.natCast_nonneg _)) z)
        refine ⟨_, rfl, _, _, rfl, rfl, ?_⟩
        have e2 : decide ((e.2 : Int) < (n : Int)) = true := decide_eq_true (by have := hf e (List.mem_of_getElem? he); omega)
        exact kk _ _ hn (NewIn.refl _) (congrArg V.bl e2)
      · refine ⟨D2, List.replicate k true, rfl, SqL.of (by rw [List.map_replicate, ← hl, reps hyl4 hy4]; exact nw4.new _ _ hF4), ?_⟩
        rw [all_rep]
        exact q _ (s3.trans nw4.old)
end
end LT
set_option Elab.async false
set_option linter.all false
set_option maxRecDepth 100000
set_option maxHeartbeats 1000000
namespace LT
open PySem PySem.Spec PyProof.Rows L2
/-! ### texts -/
def ch (c : Nat) : Str := ⟨#[c]⟩
def tx (cs : List Nat) : Str := ⟨cs.toArray⟩
theorem tx_list (cs : List Nat) : (tx cs).cps.toList = cs := by unfold tx; simp
theorem tx_length (cs : List Nat) : (tx cs).length = cs.length := by show cs.toArray.size = _; simp
theorem tx_get (cs : List Nat) (i : Nat) : (tx cs).cps[i]? = cs[i]? := by show cs.toArray[i]? = _; simp
def dg (ds : List Nat) : Str := tx (ds.map fun d => 48 + d)
def code (l : Letter) : Nat := if l.2 then 65 + l.1 else 97 + l.1
def wtext (w : List Letter) : Str := tx (w.map code)
def ORD : List Nat := [97, 65, 98, 66, 99, 67, 100, 68, 101, 69, 102, 70, 103, 71, 104, 72]
theorem order_tx : ("aAbBcCdDeEfFgGhH" : Str) = tx ORD := by decide +kernel
theorem digits_tx : ("0123" : Str) = tx ((List.range 4).map fun d => 48 + d) := by decide +kernel
theorem cutS_take (cs : List Nat) (k : Nat) : cutS (tx cs) none (some (k : Int)) = tx (cs.take k) := by
  unfold cutS
  rw [HT.sIx_none, HT.sIx_nat, tx_list, tx_length, List.drop_zero, Nat.sub_zero]
  show tx (cs.take (min k cs.length)) = _
  congr 1
  by_cases h : k ≤ cs.length
  · rw [Nat.min_eq_left h]
  · rw [Nat.min_eq_right (by omega), List.take_length, List.take_of_length_le (by omega)]
theorem ord_at : ∀ s, s < 8 → ORD[2 * s]? = some (97 + s) ∧ ORD[2 * s + 1]? = some (65 + s) := by decide
theorem code_mem {l : Letter} {n : Nat} (h : l.1 < n) (h8 : n ≤ 8) : code l ∈ ORD.take (2 * n) := by
  obtain ⟨h1, h2⟩ := ord_at l.1 (by omega)
  unfold code
  split
  · exact List.mem_of_getElem? (i := 2 * l.1 + 1) (by rw [List.getElem?_take, if_pos (by omega)]; exact h2)
  · exact List.mem_of_getElem? (i := 2 * l.1) (by rw [List.getElem?_take, if_pos (by omega)]; exact h1)
theorem digit_mem {d k : Nat} (h : d < k) (h4 : k ≤ 4) : 48 + d ∈ ((List.range 4).map fun d => 48 + d).take k := by
  rw [← List.map_take, List.take_range, Nat.min_eq_left h4]
  exact List.mem_map.mpr ⟨d, List.mem_range.mpr h, rfl⟩
section
variable {P : Program} {w : World} {K : PySem.W.Frag} {mg : Str → Option Value} {base : Heap}
/-- a machine as it stands -/
theorem Dp.mach {H : Hp} {v : V} {k : Nat} {rows : Rows} (h : Dp K H v (dM k rows)) : ∃ a b xs, v = .ref a ∧ SqT K H a [iV k, .ref b] ∧ SqT K H b xs ∧ DpAll K H xs (rows.map dRow) ∧ xs.length = rows.length := by
  obtain ⟨a, xs, rfl, hs, hd⟩ := Dp.t h
  cases hd with
  | cons h1 r =>
    cases r with
    | cons h2 r =>
      cases r
      obtain ⟨b, ys, rfl, hb, hds⟩ := Dp.t h2
      rw [Dp.n h1] at hs
      have := DpAll.length hds
      rw [List.length_map] at this
      exact ⟨a, b, ys, rfl, hs, hb, hds, this⟩
def sp_m (K : PySem.W.Frag) (r : V) : Sp := fun vs H Q _ => ∃ (v : V) (k : Nat) (rows : Rows), vs = [v] ∧ Dp K H v (dM k rows) ∧ MachOk k rows ∧ ∀ H', Same H H' → Q r H'
theorem ok_is_wide (T : Txt K mg) (D_is_row : DefOk P w K mg base CX0 1 "_is_row" ["row", "k", "count"] (sp_is_row K)) : DefOk P w K mg base CX0 2 "is_wide" ["machine"] (sp_m K (.bl true)) := by
  refine T.f_is_wide.ok sc_is_wide (fun vs H Q E h => ?_) (fun f cdv A outer s H vs Q E hr h => ?_)
  · obtain ⟨_, _, _, rfl, _⟩ := h; rfl
  · obtain ⟨v, k, rows, rfl, hd, hm, q⟩ := h
    have nd := sc_is_wide.nd
    obtain ⟨a, b, xs, rfl, ha, hb, hds, hl⟩ := Dp.mach hd
    have k2 := hm.k2
    have k3 := hm.k3
    have n1 := hm.n1
    have n4 := hm.n4
    refine ⟨_, (pss_cons (ps_asg (pv 0) (pg_tup rfl (pgs_cons (pg_name (i := 1) nd rfl (Or.inr rfl)) (pgs_cons (pg_name (i := 2) nd rfl (Or.inr rfl)) pgs_nil))))
      (pss_cons (ps_if (PW.pt (pw_or (pt_not (pt_chain op_le op_le (pe_ci T.c_LEAST_DIGITS) (pv 1) (pe_ci T.c_MOST_DIGITS))) (pw_or1 (pt_not (pt_chain op_le op_le pe_int (pe_callB call_len_seq (by rfl) T.z_len bb_len (pa_cons (pv 2) pa_nil)) (pe_ci T.c_MOST_WIDE)))))) (pss_one (ps_ret pe_bl)) pss_nil)
      (pss_one (ps_ret (pe_callB (cr_all rfl) (by rfl) T.z_all bb_all (pa_cons (pe_lc (own := [("row", 3)]) (g := (gName 3)) rfl nd (pi_tup (pv 2)) (blkOk_by (own := [("row", 3)]) (N := N_is_wide) (sc := defScope s_is_wide) (by decide +kernel)) (fun _ _ _ _ _ => (pg_name (i := 3) nd rfl (Or.inl rfl))) (fun _ _ _ _ _ => pts_nil) (fun _ _ _ _ _ => (pe_callD D_is_row (hr.mono (by decide)) rfl (pa_cons (pv 3) (pa_cons (pv 1) (pa_cons (pe_callB (r := rLen K) call_len_seq (by rfl) T.z_len bb_len (pa_cons (pv 2) pa_nil)) pa_nil)))))) pa_nil)))))), ?_⟩
    refine ⟨_, rfl, a, _, rfl, ha, rfl, _, _, rfl, _, _, rfl, rfl, ?_⟩
    refine ⟨_, rfl, _, _, rfl, rfl, _, rfl, ?_⟩
    refine ite2 (fun _ => ?_) (fun z => absurd (decide_eq_true (show (2 : Int) ≤ (k : Int) by omega)) z)
    refine ⟨_, _, rfl, rfl, _, rfl, ?_⟩
    refine iteNS (show (k : Int) ≤ 4 by omega) ?_
    refine ⟨_, rfl, b, _, rfl, .inr hb, _, _, rfl, rfl, _, rfl, ?_⟩
    refine ite2 (fun _ => ?_) (fun z => absurd (decide_eq_true (show (1 : Int) ≤ ((xs.length : Nat) : Int) by omega)) z)
    refine ⟨_, _, rfl, rfl, _, rfl, ?_⟩
    refine iteNS (show ((xs.length : Nat) : Int) ≤ 200 by omega) ?_
    refine ⟨_, rfl, b, rfl, ⟨_, hb⟩, fun D hD => lcT (fun i y F => y = V.bl true) hD hb (by rw [hl, sizeLine_eq]; omega) (fun _ _ _ _ _ h => h) (fun i x H4 k' hx sm kk => ?_) (fun ys H4 F4 nw4 hF4 hyl4 hy4 => ?_)⟩
    · obtain ⟨d, h1, h2⟩ := DpAll.get hds hx
      rw [List.getElem?_map] at h1
      cases he : rows[i]? with
      | none => rw [he] at h1; cases h1
      | some r =>
        rw [he] at h1
        cases h1
        have hmem := List.mem_of_getElem? he
        refine ⟨rfl, _, rfl, _, rfl, _, rfl, b, _, rfl, .inr (Same.seqT sm hb), ?_⟩
        rw [hl]
        exact ⟨x, k, rows.length, r, rfl, Dp.mono sm h2, by omega, hm.perm r hmem, hm.fol r hmem, fun H' s' => kk _ _ hn (NewIn.of_same s') rfl⟩
    · refine ⟨D, List.replicate rows.length true, rfl, SqL.of (by rw [List.map_replicate, ← hl, reps hyl4 hy4]; exact nw4.new _ _ hF4), ?_⟩
      rw [all_rep]
      exact q _ nw4.old
theorem ok_is_machine (T : Txt K mg) (D_is_wide : DefOk P w K mg base CX0 2 "is_wide" ["machine"] (sp_m K (.bl true))) : DefOk P w K mg base CX0 3 "is_machine" ["machine"] (sp_m K (.bl true)) := by
  refine T.f_is_machine.ok sc_is_machine (fun vs H Q E h => ?_) (fun f cdv A outer s H vs Q E hr h => ?_)
  · obtain ⟨_, _, _, rfl, _⟩ := h; rfl
  · obtain ⟨v, k, rows, rfl, hd, hm, q⟩ := h
    have nd := sc_is_machine.nd
    obtain ⟨a, b, xs, rfl, ha, hb, hds, hl⟩ := Dp.mach hd
    have n4 := hm.n4
    refine ⟨_, (pss_one (ps_ret (pe_and (pe_cmpR op_le (pe_callB call_len_seq (by rfl) T.z_len bb_len (pa_cons (pe_ix ix_tup (pv 0) pe_int (fun _ _ => rfl)) pa_nil)) (pe_ci T.c_MOST_STATES) (nomark _)) (pe_one (pe_callD D_is_wide (hr.mono (by decide)) rfl (pa_cons (pv 0) pa_nil)))))), ?_⟩
    refine ⟨_, rfl, a, _, 1, _, rfl, rfl, ha, at_of (j := 1) rfl rfl, b, _, rfl, .inr hb, _, _, rfl, rfl, _, rfl, ?_⟩
    refine ite2 (fun _ => ?_) (fun z => absurd (decide_eq_true (show ((xs.length : Nat) : Int) ≤ 8 by omega)) z)
    exact ⟨_, rfl, .ref a, k, rows, rfl, hd, hm, q⟩
theorem ok_check_machine (T : Txt K mg) (D_is_machine : DefOk P w K mg base CX0 3 "is_machine" ["machine"] (sp_m K (.bl true))) : DefOk P w K mg base CX0 4 "check_machine" ["machine"] (sp_m K .non) := by
  refine T.f_check_machine.ok sc_check_machine (fun vs H Q E h => ?_) (fun f cdv A outer s H vs Q E hr h => ?_)
  · obtain ⟨_, _, _, rfl, _⟩ := h; rfl
  · obtain ⟨v, k, rows, rfl, hd, hm, q⟩ := h
    have nd := sc_check_machine.nd
    refine ⟨_, (pss_one (ps_if (pt_not (pt_val (pe_callD D_is_machine (hr.mono (by decide)) rfl (pa_cons (pv 0) pa_nil)))) (pss_one ps_never) pss_nil)), ?_⟩
    exact ⟨_, rfl, v, k, rows, rfl, hd, hm, fun H' s' => ⟨_, rfl, iteF (q _ s')⟩⟩
/-! ### has_digits -/
def sp_has_digits : Sp := fun vs H Q _ => ∃ (k : Nat) (ds : List Nat), vs = [iV k, .str (dg ds)] ∧ k ≤ 4 ∧ ds.length ≤ 60 ∧ (∀ d ∈ ds, d < k) ∧ ∀ H', Same H H' → Q (.bl true) H'
theorem ok_has_digits (T : Txt K mg) : DefOk P w K mg base CX0 1 "has_digits" ["k", "string"] sp_has_digits := by
  refine T.f_has_digits.ok sc_has_digits (fun vs H Q E h => ?_) (fun f cdv A outer s H vs Q E hr h => ?_)
  · obtain ⟨_, _, rfl, _⟩ := h; rfl
  · obtain ⟨k, ds, rfl, hk, hl, hd, q⟩ := h
    have nd := sc_has_digits.nd
    have hlen : (dg ds).length = ds.length := by unfold dg; rw [tx_length, List.length_map]
    refine ⟨_, (pss_one (ps_ret (pe_and (pe_cmpR op_le (pe_callB call_len_str (by rfl) T.z_len bb_len (pa_cons (pv 1) pa_nil)) (pe_ci T.c_MOST_LENGTH) (nomark _)) (pe_one (pe_callB (cr_all rfl) (by rfl) T.z_all bb_all (pa_cons (pe_lc (own := [("digit", 2)]) (g := (gName 2)) rfl nd (pi_str (pv 1)) (blkOk_by (own := [("digit", 2)]) (N := N_has_digits) (sc := defScope s_has_digits) (by decide +kernel)) (fun _ _ _ _ _ => (pg_name (i := 2) nd rfl (Or.inl rfl))) (fun _ _ _ _ _ => pts_nil) (fun _ _ _ _ _ => (pe_cmpR op_in_sign (pv 2) (pe_slice sl_str (pe_cs T.c_DIGITS) po_none (po_some (pv 0))) (by rfl)))) pa_nil)))))), ?_⟩
    refine ⟨_, rfl, dg ds, rfl, by rw [hlen, sizeLine_eq]; omega, _, _, rfl, rfl, _, rfl, ?_⟩
    refine ite2 (fun _ => ?_) (fun z => absurd (decide_eq_true (show (((dg ds).length : Nat) : Int) ≤ 60 by rw [hlen]; omega)) z)
    refine ⟨_, rfl, dg ds, rfl, fun D hD => lcS (fun i y F => y = V.bl true) hD (by rw [hlen, sizeLine_eq]; omega) (fun _ _ _ _ _ h => h) (fun i c H4 k' hx sm kk => ?_) (fun ys H4 F4 nw4 hF4 hyl4 hy4 => ?_)⟩
    · refine ⟨rfl, _, rfl, _, rfl, _, rfl, "0123", rfl, by decide, c, _, rfl, rfl, kk _ _ hn (NewIn.refl _) (congrArg V.bl (decide_eq_true ?_))⟩
      rw [digits_tx, cutS_take, tx_list]
      unfold dg at hx
      rw [tx_get, List.getElem?_map] at hx
      cases he : ds[i]? with
      | none => rw [he] at hx; cases hx
      | some d =>
        rw [he] at hx
        cases hx
        exact digit_mem (hd d (List.mem_of_getElem? he)) hk
    · refine ⟨D, List.replicate (dg ds).length true, rfl, SqL.of (by rw [List.map_replicate, reps hyl4 hy4]; exact nw4.new _ _ hF4), ?_⟩
      rw [all_rep]
      exact q _ nw4.old
/-! ### words -/
def sp_letters_of (K : PySem.W.Frag) : Sp := fun vs H Q _ => ∃ (v : V) (k : Nat) (rows : Rows), vs = [v] ∧ Dp K H v (dM k rows) ∧ rows.length ≤ 8 ∧ ∀ H', Same H H' → Q (.str (tx (ORD.take (2 * rows.length)))) H'
theorem ok_letters_of (T : Txt K mg) : DefOk P w K mg base CX0 1 "letters_of" ["machine"] (sp_letters_of K) := by
  refine T.f_letters_of.ok sc_letters_of (fun vs H Q E h => ?_) (fun f cdv A outer s H vs Q E hr h => ?_)
  · obtain ⟨_, _, _, rfl, _⟩ := h; rfl
  · obtain ⟨v, k, rows, rfl, hd, h8, q⟩ := h
    have nd := sc_letters_of.nd
    obtain ⟨a, b, xs, rfl, ha, hb, hds, hl⟩ := Dp.mach hd
    refine ⟨_, (pss_one (ps_ret (pe_slice sl_str (pe_cs T.c_ORDER) po_none (po_some (pe_op op_mul pe_int (pe_callB call_len_seq (by rfl) T.z_len bb_len (pa_cons (pe_ix ix_tup (pv 0) pe_int (fun _ _ => rfl)) pa_nil))))))), ?_⟩
    refine ⟨_, rfl, a, _, 1, _, rfl, rfl, ha, at_of (j := 1) rfl rfl, b, _, rfl, .inr hb, _, _, rfl, rfl, .inl ⟨by omega, by omega⟩, _, rfl, _, rfl, by decide, ?_⟩
    have e : (2 : Int) * ((xs.length : Nat) : Int) = ((2 * rows.length : Nat) : Int) := by rw [hl]; omega
    show Q (V.str (cutS _ none (some ((2 : Int) * ((xs.length : Nat) : Int))))) H
    rw [e, order_tx, cutS_take]
    exact q _ (Same.refl H)
def sp_w (K : PySem.W.Frag) (r : V) : Sp := fun vs H Q _ => ∃ (v : V) (k : Nat) (rows : Rows) (wd : List Letter), vs = [v, .str (wtext wd)] ∧ Dp K H v (dM k rows) ∧ MachOk k rows ∧ WordOk rows wd ∧ wd.length ≤ 60 ∧ ∀ H', Same H H' → Q r H'
theorem wtext_length (wd : List Letter) : (wtext wd).length = wd.length := by unfold wtext; rw [tx_length, List.length_map]
theorem ok_is_word (T : Txt K mg) (D_letters_of : DefOk P w K mg base CX0 1 "letters_of" ["machine"] (sp_letters_of K)) : DefOk P w K mg base CX0 2 "is_word" ["machine", "word"] (sp_w K (.bl true)) := by
  refine T.f_is_word.ok sc_is_word (fun vs H Q E h => ?_) (fun f cdv A outer s H vs Q E hr h => ?_)
  · obtain ⟨_, _, _, _, rfl, _⟩ := h; rfl
  · obtain ⟨v, k, rows, wd, rfl, hd, hm, hw, hl, q⟩ := h
    have nd := sc_is_word.nd
    have n4 := hm.n4
    have hlen := wtext_length wd
    refine ⟨_, (pss_cons (ps_set (i := 2) nd rfl (Or.inr rfl) (pe_callD D_letters_of (hr.mono (by decide)) rfl (pa_cons (pv 0) pa_nil)))
      (pss_one (ps_ret (pe_callB (cr_all rfl) (by rfl) T.z_all bb_all (pa_cons (pe_lc (own := [("letter", 3)]) (g := (gName 3)) rfl nd (pi_str (pv 1)) (blkOk_by (own := [("letter", 3)]) (N := N_is_word) (sc := defScope s_is_word) (by decide +kernel)) (fun _ _ _ _ _ => (pg_name (i := 3) nd rfl (Or.inl rfl))) (fun _ _ _ _ _ => pts_nil) (fun _ _ _ _ _ => (pe_cmpR op_in_sign (pv 3) (pv 2) (by rfl)))) pa_nil))))), ?_⟩
    refine ⟨_, rfl, v, k, rows, rfl, hd, by omega, fun H2 s2 => ?_⟩
    refine ⟨_, rfl, wtext wd, rfl, fun D hD => lcS (fun i y F => y = V.bl true) hD (by rw [hlen, sizeLine_eq]; omega) (fun _ _ _ _ _ h => h) (fun i c H4 k' hx sm kk => ?_) (fun ys H4 F4 nw4 hF4 hyl4 hy4 => ?_)⟩
    · refine ⟨rfl, _, rfl, _, rfl, c, _, rfl, rfl, kk _ _ hn (NewIn.refl _) (congrArg V.bl (decide_eq_true ?_))⟩
      rw [tx_list]
      unfold wtext at hx
      rw [tx_get, List.getElem?_map] at hx
      cases he : wd[i]? with
      | none => rw [he] at hx; cases hx
      | some l =>
        rw [he] at hx
        cases hx
        exact code_mem (hw l (List.mem_of_getElem? he)) (by omega)
    · refine ⟨D, List.replicate (wtext wd).length true, rfl, SqL.of (by rw [List.map_replicate, reps hyl4 hy4]; exact nw4.new _ _ hF4), ?_⟩
      rw [all_rep]
      exact q _ (s2.trans nw4.old)
theorem ok_refuse_word (T : Txt K mg) (D_is_word : DefOk P w K mg base CX0 2 "is_word" ["machine", "word"] (sp_w K (.bl true))) : DefOk P w K mg base CX0 3 "refuse_word" ["machine", "word"] (sp_w K .non) := by
  refine T.f_refuse_word.ok sc_refuse_word (fun vs H Q E h => ?_) (fun f cdv A outer s H vs Q E hr h => ?_)
  · obtain ⟨_, _, _, _, rfl, _⟩ := h; rfl
  · obtain ⟨v, k, rows, wd, rfl, hd, hm, hw, hl, q⟩ := h
    have nd := sc_refuse_word.nd
    have hlen := wtext_length wd
    refine ⟨_, (pss_one (ps_if (PW.pt (pw_or (pt_cmpR op_gt (pe_callB call_len_str (by rfl) T.z_len bb_len (pa_cons (pv 1) pa_nil)) (pe_ci T.c_LONGEST) (nomark _)) (pw_or1 (pt_not (pt_val (pe_callD D_is_word (hr.mono (by decide)) rfl (pa_cons (pv 0) (pa_cons (pv 1) pa_nil)))))))) (pss_one ps_never) pss_nil)), ?_⟩
    refine ⟨_, rfl, wtext wd, rfl, by rw [hlen, sizeLine_eq]; omega, _, _, rfl, rfl, _, rfl, ?_⟩
    refine ite2 (fun z => absurd (of_decide_eq_true z) (by rw [hlen]; omega)) (fun _ => ?_)
    exact ⟨_, rfl, _, rfl, v, k, rows, wd, rfl, hd, hm, hw, hl, fun H' s' => ⟨_, rfl, iteF (q _ s')⟩⟩
theorem ok_check_word (T : Txt K mg) (D_check_machine : DefOk P w K mg base CX0 4 "check_machine" ["machine"] (sp_m K .non)) (D_refuse_word : DefOk P w K mg base CX0 3 "refuse_word" ["machine", "word"] (sp_w K .non)) :
    DefOk P w K mg base CX0 5 "check_word" ["machine", "word"] (sp_w K .non) := by
  refine T.f_check_word.ok sc_check_word (fun vs H Q E h => ?_) (fun f cdv A outer s H vs Q E hr h => ?_)
  · obtain ⟨_, _, _, _, rfl, _⟩ := h; rfl
  · obtain ⟨v, k, rows, wd, rfl, hd, hm, hw, hl, q⟩ := h
    have nd := sc_check_word.nd
    refine ⟨_, (pss_cons (ps_expr (pe_callD D_check_machine (hr.mono (by decide)) rfl (pa_cons (pv 0) pa_nil)))
      (pss_one (ps_expr (pe_callD D_refuse_word (hr.mono (by decide)) rfl (pa_cons (pv 0) (pa_cons (pv 1) pa_nil)))))), ?_⟩
    exact ⟨_, rfl, v, k, rows, rfl, hd, hm, fun H' s' => ⟨_, rfl, _, rfl, v, k, rows, wd, rfl, Dp.mono s' hd, hm, hw, hl, fun H2 s2 => q _ (s'.trans s2)⟩⟩
end
end LT
set_option Elab.async false
set_option linter.all false
set_option maxRecDepth 100000
set_option maxHeartbeats 1000000
namespace LT
open PySem PySem.Spec PyProof.Rows L2
/-! ### signs of digits -/
theorem int_ch : ∀ d, d < 4 → PySem.intText? (ch (48 + d)) = some (d : Int) := by
  intro d hd
  have h : d = 0 ∨ d = 1 ∨ d = 2 ∨ d = 3 := by omega
  rcases h with rfl | rfl | rfl | rfl <;> decide +kernel
theorem str_ch : ∀ d : Nat, d < 4 → (toString (d : Int) : Str) = ch (48 + d) := by
  intro d hd
  have h : d = 0 ∨ d = 1 ∨ d = 2 ∨ d = 3 := by omega
  rcases h with rfl | rfl | rfl | rfl <;> decide +kernel
theorem foldl_ch : ∀ (cs : List Nat) (acc : Array Nat), (cs.map ch).foldl (fun acc p => acc ++ (Str.empty).cps ++ p.cps) acc = acc ++ cs.toArray
  | [], acc => by simp
  | c :: cs, acc => by
    rw [List.map_cons, List.foldl_cons, foldl_ch cs]
    have e : acc ++ (Str.empty).cps ++ (ch c).cps = acc.push c := by
      show acc ++ #[] ++ #[c] = _
      simp
    rw [e]
    simp
/-- "".join of single signs -/
theorem join_ch (cs : List Nat) : Txt.join ("" : Str) (cs.map ch) = tx cs := by
  cases cs with
  | nil => rfl
  | cons c cs =>
    have h := foldl_ch cs (ch c).cps
    show (⟨((cs.map ch)).foldl (fun acc p => acc ++ ("" : Str).cps ++ p.cps) (ch c).cps⟩ : Str) = tx (c :: cs)
    have e : ("" : Str) = Str.empty := by decide +kernel
    rw [e, h]
    show (⟨#[c] ++ cs.toArray⟩ : Str) = ⟨(c :: cs).toArray⟩
    congr 1
    simp
theorem len_ch (cs : List Nat) : ((cs.map ch).map (·.length)).sum + (cs.map ch).length * ("" : Str).length = cs.length := by
  have e : ("" : Str).length = 0 := by decide +kernel
  rw [e, Nat.mul_zero, Nat.add_zero, List.map_map]
  have : ∀ cs : List Nat, (cs.map ((fun (x : Str) => x.length) ∘ ch)).sum = cs.length := by
    intro cs
    induction cs with
    | nil => rfl
    | cons c cs ih => rw [List.map_cons, List.sum_cons, ih, List.length_cons]; show 1 + _ = _; omega
  exact this cs
theorem len_ch' (cs : List Nat) : ((cs.map ch).map (·.length)).sum + (cs.map ch).length * ("" : Str).length ≤ 16777216 ↔ cs.length ≤ 16777216 := by rw [len_ch]
theorem digs_eq {k : Nat} : ∀ (n x : Nat), digs k n x = ((List.range n).map fun j => x / k ^ j % k).reverse
  | 0, x => rfl
  | n + 1, x => by
    show digs k n (x / k) ++ [x % k] = _
    rw [digs_eq n, List.range_succ_eq_map, List.map_cons, List.map_map, List.reverse_cons]
    congr 1
    · congr 1
      refine List.map_congr_left fun j _ => ?_
      show x / k / k ^ j % k = x / k ^ (j + 1) % k
      rw [Nat.div_div_eq_div_mul, Nat.pow_succ, Nat.mul_comm]
    · rw [Nat.pow_zero, Nat.div_one]
theorem mod_eq (y k : Nat) : (y : Int) - (y : Int) / (k : Int) * (k : Int) = ((y % k : Nat) : Int) := by
  have h : (y : Int) / (k : Int) * (k : Int) + (y : Int) % (k : Int) = (y : Int) := Int.ediv_mul_add_emod _ _
  have e : ((y % k : Nat) : Int) = (y : Int) % (k : Int) := Int.natCast_emod _ _
  omega
theorem div_eq (y k : Nat) : V.int ((y : Int) / (k : Int)) = iV (y / k) := rfl
section
variable {P : Program} {w : World} {K : PySem.W.Frag} {mg : Str → Option Value} {base : Heap}
/-! ### own errors -/
structure ExT (K : PySem.W.Frag) (mg : Str → Option Value) (x : Str) (C : Addr) : Prop where
  g : mg x = some (.ref C)
  x : PySem.W.excIn K C [.type "ValueError", .type "Exception", .type "BaseException", .type "object"] "ValueError.__new__" = true
  k : PySem.W.keepIn K (.ref C) = true
  b : PySem.W.subIn K (.ref C) (.type "BaseException") = some true
  t : PySem.W.typeIn K (.ref C) = some (.type "type")
def sp_digit_count (C : Addr) : Sp := fun vs H Q E => ∃ k : Nat, vs = [iV k] ∧ (2 ≤ k ∧ k ≤ 4 → Q .non H) ∧ (¬ (2 ≤ k ∧ k ≤ 4) → E (.ref C) none H)
theorem ok_digit_count (T : Txt K mg) {C : Addr} (X : ExT K mg "BadNumber" C) : DefOk P w K mg base (L2.CX P w) 1 "_digit_count" ["k"] (sp_digit_count C) := by
  refine T.f_digit_count.okX sc_digit_count (fun vs H Q E h => ?_) (fun f cdv A outer s H vs Q E hr h => ?_)
  · obtain ⟨_, rfl, _⟩ := h; rfl
  · obtain ⟨k, rfl, qy, qn⟩ := h
    have nd := sc_digit_count.nd
    refine ⟨_, (pss_one (ps_if (pt_not (pt_chain op_le op_le (pe_ci T.c_LEAST_DIGITS) (pv 0) (pe_ci T.c_MOST_DIGITS))) (pss_one (ps_raise rfl (takes_of (E := E) rfl rfl rfl rfl) (pmk_own PySem.F.excBase_ValueError X.x X.g X.k (raises_own X.b X.t) rfl))) pss_nil)), ?_⟩
    refine ⟨_, rfl, _, _, rfl, rfl, _, rfl, ?_⟩
    refine ite2 (fun c1 => ?_) (fun c1 => ?_)
    · refine ⟨_, _, rfl, rfl, _, rfl, ?_⟩
      have c1 := of_decide_eq_true c1
      by_cases c2 : (k : Int) ≤ 4
      · exact iteNS c2 (qy ⟨by omega, by omega⟩)
      · show if (!decide ((k : Int) ≤ 4)) = true then _ else _
        rw [decide_eq_false c2]
        exact iteT (qn (by omega))
    · have c1 : ¬ (2 : Int) ≤ (k : Int) := fun z => c1 (decide_eq_true z)
      exact ⟨_, rfl, iteT (qn (by omega))⟩
/-! ### number_of, written -/
theorem DefOk.nox_callee {CX : CXT} {k : Nat} {x : Str} {ps : List Str} {sp : Sp} (h : DefOk P w K mg base CX k x ps sp) : DefOk P w K mg base CX k x ps sp := h
theorem dg_length (ds : List Nat) : (dg ds).length = ds.length := by unfold dg; rw [tx_length, List.length_map]
theorem take_succ_get {α : Type} {l : List α} {i : Nat} {x : α} (h : l[i]? = some x) : l.take (i + 1) = l.take i ++ [x] := by
  rw [List.take_succ, h]
  rfl
def sp_number_of : Sp := fun vs H Q _ => ∃ (k : Nat) (ds : List Nat), vs = [iV k, .str (dg ds)] ∧ 2 ≤ k ∧ k ≤ 4 ∧ ds.length ≤ 60 ∧ (∀ d ∈ ds, d < k) ∧ ∀ H', Same H H' → Q (iV (num k ds)) H'
theorem ok_number_of (T : Txt K mg) {C : Addr} (D_digit_count : DefOk P w K mg base (L2.CX P w) 1 "_digit_count" ["k"] (sp_digit_count C)) (D_has_digits : DefOk P w K mg base CX0 1 "has_digits" ["k", "string"] sp_has_digits) :
    DefOk P w K mg base CX0 2 "number_of" ["k", "string"] sp_number_of := by
  refine T.f_number_of.ok sc_number_of (fun vs H Q E h => ?_) (fun f cdv A outer s H vs Q E hr h => ?_)
  · obtain ⟨_, _, rfl, _⟩ := h; rfl
  · obtain ⟨k, ds, rfl, k2, k4, hl, hd, q⟩ := h
    have nd := sc_number_of.nd
    refine ⟨_, (pss_cons (ps_expr (pe_callN D_digit_count (hr.mono (by decide)) rfl (pa_cons (pv 0) pa_nil)))
      (pss_cons (ps_if (pt_not (pt_val (pe_callD D_has_digits (hr.mono (by decide)) rfl (pa_cons (pv 0) (pa_cons (pv 1) pa_nil))))) (pss_one ps_never) pss_nil)
      (pss_cons (ps_set (i := 2) nd rfl (Or.inl rfl) pe_int)
      (pss_cons (ps_for ph rfl (pi_str (pv 1)) (pg_name (i := 3) nd rfl (Or.inl rfl)) 
        (pss_one (ps_set (i := 2) nd rfl (Or.inl rfl) (pe_op op_add (pe_op op_mul (pv 2) (pv 0)) (pe_callTy call_int_str (by rfl) T.z_int bb_int (pa_cons (pv 3) pa_nil))))))
      (pss_one (ps_ret (pv 2))))))), ?_⟩
    refine ⟨_, rfl, k, rfl, fun _ => ?_, fun z => absurd ⟨k2, k4⟩ z⟩
    refine ⟨_, rfl, _, rfl, k, ds, rfl, k4, hl, hd, fun H1 s1 => ⟨_, rfl, iteF ?_⟩⟩
    refine ⟨_, rfl, dg ds, rfl, for_str (fun i σ H' => ∃ v, σ = [some (iV k), some (.str (dg ds)), some (iV (num k (ds.take i))), v] ∧ Same H H') ⟨none, rfl, s1⟩ ?_ ?_⟩
    · rintro i c σ H' hc ⟨v, rfl, s'⟩
      unfold dg at hc
      rw [tx_get, List.getElem?_map] at hc
      cases he : ds[i]? with
      | none => rw [he] at hc; cases hc
      | some d =>
        rw [he] at hc
        cases hc
        have hdk := hd d (List.mem_of_getElem? he)
        refine ⟨_, rfl, _, rfl, _, _, rfl, rfl, .inr ⟨by omega, by omega⟩, _, rfl, ch (48 + d), (d : Int), rfl, int_ch d (by omega), by show 1 ≤ 640; decide, _, _, rfl, rfl, some (.str (ch (48 + d))), ?_, s'⟩
        rw [take_succ_get he, num_snoc]
        have e : ((num k (ds.take i) : Nat) : Int) * (k : Int) + (d : Int) = ((num k (ds.take i) * k + d : Nat) : Int) := by rw [Int.natCast_add, Int.natCast_mul]
        show [some (iV k), some (.str (dg ds)), some (V.int (((num k (ds.take i) : Nat) : Int) * (k : Int) + (d : Int))), some (V.str (ch (48 + d)))] = _
        rw [e]
        rfl
    · rintro σ H' ⟨v, rfl, s'⟩
      refine ⟨_, rfl, ?_⟩
      rw [dg_length, List.take_length]
      exact q _ s'
def sp_written : Sp := fun vs H Q _ => ∃ (k n x : Nat), vs = [iV k, iV n, iV x] ∧ 2 ≤ k ∧ k ≤ 4 ∧ n ≤ 20 ∧ ∀ H', Same H H' → Q (.str (dg (digs k n x))) H'
theorem ok_written (T : Txt K mg) : DefOk P w K mg base CX0 1 "written" ["k", "n", "number"] sp_written := by
  refine T.f_written.ok sc_written (fun vs H Q E h => ?_) (fun f cdv A outer s H vs Q E hr h => ?_)
  · obtain ⟨_, _, _, rfl, _⟩ := h; rfl
  · obtain ⟨k, n, x, rfl, k2, k4, hn', q⟩ := h
    have nd := sc_written.nd
    refine ⟨_, (pss_cons (ps_set (i := 3) nd rfl (Or.inl rfl) (pe_lst pa_nil))
      (pss_cons (ps_for ph rfl (pi_range1 rfl T.z_range (pa_cons (pv 1) pa_nil)) (pg_name (i := 4) nd rfl (Or.inl rfl)) 
        (pss_cons (ps_expr (pe_bm PySem.F.plainAttrs_list PySem.F.slot_list_append PySem.F.type_list_append mt_append (pv 3) (pa_cons (pe_ix ix_str (pe_cs T.c_DIGITS) (pe_op op_sub (pv 2) (pe_op op_mul (pe_op op_fdiv (pv 2) (pv 0)) (pv 0))) (fun _ _ => rfl)) pa_nil)))
        (pss_one (ps_set (i := 2) nd rfl (Or.inl rfl) (pe_op op_fdiv (pv 2) (pv 0))))))
      (pss_one (ps_ret (pe_joinRev rfl rfl T.z_reversed pe_str (pv 3)))))), ?_⟩
    refine ⟨Nat.zero_le _, fun D hD => ?_⟩
    have kp : 0 < k := by omega
    refine ⟨_, rfl, _, rfl, by omega, by omega, for_range (lo := 0) (n := (n : Int).toNat) (fun i σ H' => ∃ v, σ = [some (iV k), some (iV n), some (iV (x / k ^ i)), some (.ref D), v] ∧
      Loc H H' (upd LT.hn D (.lst (((List.range i).map fun j => ch (48 + x / k ^ j % k)).map V.str))) LT.hn) ⟨none, by rw [Nat.pow_zero, Nat.div_one]; rfl, (Loc.start H).made _ hD⟩ ?_ ?_⟩
    · rintro i σ H' hi ⟨v, rfl, L⟩
      have hi' : i < n := by omega
      refine ⟨_, rfl, .inl ⟨rfl, _, SqL.of (L.at_ upd_same)⟩, _, rfl, _, rfl, _, rfl, _, _, rfl, rfl, ⟨by omega, by omega⟩, _, rfl, _, _, rfl, rfl, .inr ⟨by omega, by omega⟩, _, _, rfl, rfl, "0123", _, 48 + x / k ^ i % k, rfl, rfl, by decide, ?_, D, _, _, rfl, rfl, L.at_ upd_same, ?_, ?_⟩
      · show atI (("0123" : Str).cps.toList) (((x / k ^ i : Nat) : Int) - ((x / k ^ i : Nat) : Int) / (k : Int) * (k : Int)) = _
        rw [mod_eq, digits_tx, tx_list]
        refine atI_nat ?_
        rw [List.getElem?_map, List.getElem?_range (Nat.lt_of_lt_of_le (Nat.mod_lt _ kp) k4)]
        rfl
      · rw [List.length_map, List.length_map, List.length_range, sizeLine_eq]; omega
      · refine ⟨_, rfl, _, rfl, _, _, rfl, rfl, ⟨by omega, by omega⟩, some (.int (0 + (i : Int))), ?_, ?_⟩
        · have e : x / k ^ i / k = x / k ^ (i + 1) := by rw [Nat.div_div_eq_div_mul, Nat.pow_succ]
          show [some (iV k), some (iV n), some (iV (x / k ^ i / k)), some (V.ref D), some _] = _
          rw [e]
        · have L2 := L.wr (p := D) upd_same (.lst (((List.range i).map fun j => ch (48 + x / k ^ j % k)).map V.str ++ [V.str ⟨#[48 + x / k ^ i % k]⟩]))
          rw [upd_upd] at L2
          rw [List.range_succ, List.map_append, List.map_append]
          exact L2
    · rintro σ H' ⟨v, rfl, L⟩
      have L : Loc H H' (upd LT.hn D (.lst (((List.range (n : Int).toNat).map fun j => ch (48 + x / k ^ j % k)).map V.str))) LT.hn := L
      rw [toNat_n] at L
      have e1 : ((List.range n).map fun j => ch (48 + x / k ^ j % k)) = (((List.range n).map fun j => 48 + x / k ^ j % k)).map ch := by rw [List.map_map]; rfl
      rw [e1] at L
      refine ⟨"", rfl, _, rfl, D, _, rfl, SqL.of (L.at_ upd_same), ?_, ?_⟩
      · refine (len_ch' _).mpr ?_
        rw [List.length_map, List.length_range]
        omega
      · rw [← List.map_reverse, join_ch]
        have e : tx ((List.map (fun j => 48 + x / k ^ j % k) (List.range n)).reverse) = dg (digs k n x) := by
          unfold dg
          rw [digs_eq, List.map_reverse, List.map_map]
          rfl
        rw [e]
        exact q _ L.old
/-! ### is_graph -/
/-- the shape of a graph, and whether it is one -/
structure GSh (G : List (List Nat)) (N : Nat) (b : Bool) : Prop where
  head : ∃ r0, G[0]? = some r0 ∧ r0.length = N
  lo : 1 ≤ G.length
  hi : G.length ≤ 6
  n1 : 1 ≤ N
  n2 : N < 64
  rows : ∀ r ∈ G, r.length < 64 ∧ ∀ ms : List Nat, ms.Perm r → ms.Pairwise (· ≤ ·) → decide (ms = List.range N) = b
theorem GraphOk.sh {G : List (List Nat)} {N : Nat} (g : GraphOk G N) (h : N < 64) : GSh G N true := by
  refine ⟨?_, g.lo, g.hi, g.n1, h, fun r hr => ⟨by rw [g.len hr]; exact h, fun ms hp hs => decide_eq_true (sorted_range (hp.trans (g.rows r hr)) hs)⟩⟩
  obtain ⟨r0, R, rfl, hl⟩ := g.head
  exact ⟨r0, rfl, hl⟩
theorem not_graph : GSh [[0, 0]] 2 false := by
  refine ⟨⟨_, rfl, rfl⟩, Nat.le_refl _, by decide, by decide, by decide, fun r hr => ?_⟩
  rw [List.mem_singleton.mp hr]
  refine ⟨by decide, fun ms hp _ => decide_eq_false fun e => ?_⟩
  subst e
  have h : (1 : Nat) ∈ [0, 0] := hp.mem_iff.mp (by decide)
  revert h
  decide
def sp_is_graph (K : PySem.W.Frag) : Sp := fun vs H Q _ => ∃ (v : V) (G : List (List Nat)) (N : Nat) (b : Bool), vs = [v] ∧ Dp K H v (dG G) ∧ GSh G N b ∧ ∀ H', Same H H' → Q (.bl b) H'
/-- the rows of a graph as they stand -/
theorem Dp.rows {H : Hp} {v : V} {G : List (List Nat)} (h : Dp K H v (dG G)) : ∃ a xs, v = .ref a ∧ SqT K H a xs ∧ xs.length = G.length ∧
    (∀ (i : Nat) (x : V), xs[i]? = some x → ∃ r row, G[i]? = some row ∧ x = .ref r ∧ SqT K H r (row.map iV)) ∧ ∀ (i : Nat) (row : List Nat), G[i]? = some row → ∃ r, xs[i]? = some (.ref r) ∧ SqT K H r (row.map iV) := by
  obtain ⟨a, xs, rfl, hs, hd⟩ := Dp.t h
  have := DpAll.length hd
  rw [List.length_map] at this
  refine ⟨a, xs, rfl, hs, this, fun i x hx => ?_, fun i row hr => ?_⟩
  · obtain ⟨d, h1, h2⟩ := DpAll.get hd hx
    rw [List.getElem?_map] at h1
    cases he : G[i]? with
    | none => rw [he] at h1; cases h1
    | some row =>
      rw [he] at h1
      cases h1
      obtain ⟨r, rfl, hr⟩ := Dp.ti h2
      exact ⟨r, row, rfl, rfl, hr⟩
  · obtain ⟨x, h1, h2⟩ := DpAll.getD hd (i := i) (d := dT row) (by rw [List.getElem?_map, hr]; rfl)
    obtain ⟨r, rfl, hr⟩ := Dp.ti h2
    exact ⟨r, h1, hr⟩
theorem all_reps (b : Bool) : ∀ n : Nat, 1 ≤ n → (List.replicate n b).all id = b
  | 0, h => absurd h (by decide)
  | 1, _ => by cases b <;> rfl
  | n + 2, _ => by
    rw [List.replicate_succ, List.all_cons, all_reps b (n + 1) (by omega)]
    cases b <;> rfl
theorem ok_is_graph (T : Txt K mg) : DefOk P w K mg base CX0 1 "is_graph" ["graph"] (sp_is_graph K) := by
  refine T.f_is_graph.ok sc_is_graph (fun vs H Q E h => ?_) (fun f cdv A outer s H vs Q E hr h => ?_)
  · obtain ⟨_, _, _, _, rfl, _⟩ := h; rfl
  · obtain ⟨v, G, N, b, rfl, hd, g, q⟩ := h
    have nd := sc_is_graph.nd
    obtain ⟨a, xs, rfl, hs, hl, item, itemG⟩ := Dp.rows hd
    obtain ⟨row0, h0, hN⟩ := g.head
    obtain ⟨r0, hx0, hr0⟩ := itemG 0 row0 h0
    have g1 := g.lo
    have g2 := g.hi
    have g3 := g.n1
    have g4 := g.n2
    have hl0 : (row0.map iV).length = N := by rw [List.length_map, hN]
    refine ⟨_, (pss_cons (ps_if (PW.pt (pw_or (pt_not (pt_chain op_le op_le pe_int (pe_callB call_len_seq (by rfl) T.z_len bb_len (pa_cons (pv 0) pa_nil)) (pe_ci T.c_MOST_ROWS))) (pw_or1 (pt_not (pt_chain op_le op_le pe_int (pe_callB call_len_seq (by rfl) T.z_len bb_len (pa_cons (pe_ix ix_tup (pv 0) pe_int (fun _ _ => rfl)) pa_nil)) (pe_ci T.c_MOST_NUMBERS)))))) (pss_one (ps_ret pe_bl)) pss_nil)
      (pss_one (ps_ret (pe_callB (cr_all rfl) (by rfl) T.z_all bb_all (pa_cons (pe_lc (own := [("row", 1)]) (g := (gName 1)) rfl nd (pi_tup (pv 0)) (blkOk_by (own := [("row", 1)]) (N := N_is_graph) (sc := defScope s_is_graph) (by decide +kernel)) (fun _ _ _ _ _ => (pg_name (i := 1) nd rfl (Or.inl rfl))) (fun _ _ _ _ _ => pts_nil) (fun _ _ _ _ _ => (pe_cmpR (r := rEqD K) (op_eqD hr.units) (pe_callB (r := rSortedT K) cr_sortedT (by rfl) T.z_sorted bb_sorted (pa_cons (pv 1) pa_nil)) (pe_listRg rfl (by rfl) T.z_list (prg_1 (by rfl) T.z_range (pe_callB (r := rLen K) call_len_seq (by rfl) T.z_len bb_len (pa_cons (pe_ix (r := rIxT K) ix_tup (pv 0) pe_int (fun _ _ => rfl)) pa_nil)))) (nomark _)))) pa_nil))))), ?_⟩
    refine ⟨_, rfl, a, _, rfl, .inr hs, _, _, rfl, rfl, _, rfl, ?_⟩
    refine ite2 (fun _ => ?_) (fun z => absurd (decide_eq_true (show (1 : Int) ≤ ((xs.length : Nat) : Int) by omega)) z)
    refine ⟨_, _, rfl, rfl, _, rfl, ?_⟩
    refine iteNS (show ((xs.length : Nat) : Int) ≤ 6 by omega) ?_
    refine ⟨_, rfl, a, _, 0, _, rfl, rfl, hs, at_of (j := 0) rfl hx0, r0, _, rfl, .inr hr0, _, _, rfl, rfl, _, rfl, ?_⟩
    refine ite2 (fun _ => ?_) (fun z => absurd (decide_eq_true (show (1 : Int) ≤ (((row0.map iV).length : Nat) : Int) by rw [hl0]; omega)) z)
    refine ⟨_, _, rfl, rfl, _, rfl, ?_⟩
    refine iteNS (show (((row0.map iV).length : Nat) : Int) ≤ 1024 by rw [hl0]; omega) ?_
    refine ⟨_, rfl, a, rfl, ⟨_, hs⟩, fun D hD => lcT (fun i y F => y = V.bl b) hD hs (by rw [hl, sizeLine_eq]; omega) (fun _ _ _ _ _ h => h) (fun i x H4 k' hx sm kk => ?_) (fun ys H4 F4 nw4 hF4 hyl4 hy4 => ?_)⟩
    · obtain ⟨r, row, hrow, rfl, hrr⟩ := item i x hx
      obtain ⟨hlen, hms⟩ := g.rows row (List.mem_of_getElem? hrow)
      refine ⟨rfl, _, rfl, r, row.map Int.ofNat, rfl, by rw [← map_iV]; exact Same.seqT sm hrr, by rw [List.length_map]; exact hlen, fun zs p hperm hsrt hp0 => ?_⟩
      obtain ⟨ms, hms1, hmp, hmsrt⟩ := sorted_nat hperm hsrt
      have s2 : Same H (upd H4 p (.lst (zs.map V.int))) := sm.trans (Same.upd hp0)
      refine ⟨_, rfl, a, _, 0, _, rfl, rfl, Same.seqT s2 hs, at_of (j := 0) rfl hx0, r0, _, rfl, .inr (Same.seqT s2 hr0), _, rfl, ?_⟩
      rw [hl0]
      refine ⟨RgOk.of_le (Int.le_refl 0) (by omega) (by omega) (by omega), fun q2 hq2 => ?_⟩
      have np : p ≠ q2 := fun e => by rw [e, upd_same] at hq2; cases hq2
      refine ⟨dL ms, dL (List.range N), .lst (SqL.of (by rw [upd_ne np, upd_same])) (by rw [hms1]; exact DpAll.of_ints ms), .lst (SqL.of upd_same) (by rw [rgV_iV]; exact DpAll.of_ints _), shaped_dL _, shaped_dL _, ?_⟩
      rw [eqv_dL, hms ms hmp hmsrt]
      exact kk _ _ LT.hn (NewIn.of_same ((Same.upd hp0).trans (Same.upd hq2))) rfl
    · refine ⟨D, List.replicate G.length b, rfl, SqL.of (by rw [List.map_replicate, ← hl, reps hyl4 hy4]; exact nw4.new _ _ hF4), ?_⟩
      rw [all_reps b _ g1]
      exact q _ nw4.old
def sp_check_graph (K : PySem.W.Frag) (C : Addr) : Sp := fun vs H Q E => ∃ (v : V) (G : List (List Nat)) (N : Nat) (b : Bool), vs = [v] ∧ Dp K H v (dG G) ∧ GSh G N b ∧ (b = true → ∀ H', Same H H' → Q .non H') ∧ (b = false → ∀ H', Same H H' → E (.ref C) none H')
theorem ok_check_graph (T : Txt K mg) {C : Addr} (X : ExT K mg "NotGraph" C) (D_is_graph : DefOk P w K mg base CX0 1 "is_graph" ["graph"] (sp_is_graph K)) : DefOk P w K mg base (L2.CX P w) 2 "check_graph" ["graph"] (sp_check_graph K C) := by
  refine T.f_check_graph.okX sc_check_graph (fun vs H Q E h => ?_) (fun f cdv A outer s H vs Q E hr h => ?_)
  · obtain ⟨_, _, _, _, rfl, _⟩ := h; rfl
  · obtain ⟨v, G, N, b, rfl, hd, g, qy, qn⟩ := h
    have nd := sc_check_graph.nd
    refine ⟨_, (pss_one (ps_if (pt_not (pt_val (pe_callD D_is_graph (hr.mono (by decide)) rfl (pa_cons (pv 0) pa_nil)))) (pss_one (ps_raise rfl (takes_of (E := E) rfl rfl rfl rfl) (pmk_own PySem.F.excBase_ValueError X.x X.g X.k (raises_own X.b X.t) rfl))) pss_nil)), ?_⟩
    refine ⟨_, rfl, v, G, N, b, rfl, hd, g, fun H' s' => ⟨_, rfl, ?_⟩⟩
    cases b with
    | true => exact iteF (qy rfl _ s')
    | false => exact iteT (qn rfl _ s')
end
end LT
set_option Elab.async false
set_option linter.all false
set_option maxRecDepth 100000
set_option maxHeartbeats 1000000
namespace LT
open PySem PySem.Spec PyProof.Rows L2
/-- the rows of U lead, without the last digit, to those of L -/
def RowP (k : Nat) (u l : List Nat) : Prop := ∀ x y : Nat, u[x]? = some y → l[x / k]? = some (y / k)
def OverP (U L : List (List Nat)) (NU NL k : Nat) : Prop := U.length = L.length ∧ NU = k * NL ∧ ∀ (i : Nat) (u l : List Nat), U[i]? = some u → L[i]? = some l → RowP k u l
theorem rowP_iff {k : Nat} {u l : List Nat} (h : ∀ x, x < u.length → x / k < l.length) : u.map (· / k) = (List.range u.length).map (fun x => l.getD (x / k) 0) ↔ RowP k u l := by
  constructor
  · intro e x y hx
    have hl : x < u.length := (List.getElem?_eq_some_iff.mp hx).1
    have e1 : (u.map (· / k))[x]? = ((List.range u.length).map (fun x => l.getD (x / k) 0))[x]? := congrArg (fun (z : List Nat) => z[x]?) e
    rw [List.getElem?_map, hx, List.getElem?_map, List.getElem?_range hl] at e1
    have e2 : y / k = l.getD (x / k) 0 := Option.some.inj e1
    rw [List.getD_eq_getElem?_getD, List.getElem?_eq_getElem (h x hl)] at e2
    rw [List.getElem?_eq_getElem (h x hl), e2]
    rfl
  · intro e
    refine List.ext_getElem? fun x => ?_
    rw [List.getElem?_map, List.getElem?_map]
    by_cases hl : x < u.length
    · have hx := List.getElem?_eq_getElem hl
      rw [hx, List.getElem?_range hl]
      have := e x _ hx
      show some (u[x] / k) = some (l.getD (x / k) 0)
      rw [List.getD_eq_getElem?_getD, this]
      rfl
    · rw [List.getElem?_eq_none (by omega), List.getElem?_eq_none (by rw [List.length_range]; omega)]
      rfl
section
variable {P : Program} {w : World} {K : PySem.W.Frag} {mg : Str → Option Value} {base : Heap}
def sp_over (K : PySem.W.Frag) (CN CB : Addr) : Sp := fun vs H Q E => ∃ (vu vl : V) (k : Nat) (U L : List (List Nat)) (NU NL : Nat), vs = [vu, vl, iV k] ∧ Dp K H vu (dG U) ∧ Dp K H vl (dG L) ∧ GraphOk L NL ∧ NL < 64 ∧
  ((U = [[0, 0]] ∧ ∀ H', Same H H' → E (.ref CN) none H') ∨ (GraphOk U NU ∧ NU < 64 ∧ (¬ (2 ≤ k ∧ k ≤ 4) ∧ ∀ H', Same H H' → E (.ref CB) none H') ) ∨
    (GraphOk U NU ∧ NU < 64 ∧ 2 ≤ k ∧ k ≤ 4 ∧ ∀ b : Bool, (b = true ↔ OverP U L NU NL k) → ∀ H', Same H H' → Q (.bl b) H'))
theorem ok_over (T : Txt K mg) {CN CB : Addr} (D_check_graph : DefOk P w K mg base (L2.CX P w) 2 "check_graph" ["graph"] (sp_check_graph K CN)) (D_digit_count : DefOk P w K mg base (L2.CX P w) 1 "_digit_count" ["k"] (sp_digit_count CB)) :
    DefOk P w K mg base (L2.CX P w) 3 "over" ["upper", "lower", "k"] (sp_over K CN CB) := by
  refine T.f_over.okX sc_over (fun vs H Q E h => ?_) (fun f cdv A outer s H vs Q E hr h => ?_)
  · obtain ⟨_, _, _, _, _, _, _, rfl, _⟩ := h; rfl
  · obtain ⟨vu, vl, k, U, L, NU, NL, rfl, hU, hL, oL, lL, cases3⟩ := h
    have nd := sc_over.nd
    have tk : Takes (cxOf (L2.CX P w) P w K mg base N_over "over" (defScope s_over) f cdv A outer s H E) (fun cls d _ H => E cls d H) := takes_of (E := E) rfl rfl rfl rfl
    refine ⟨_, (pss_cons (ps_expr (pe_callW D_check_graph (hr.mono (by decide)) rfl tk (pa_cons (pv 0) pa_nil)))
      (pss_cons (ps_expr (pe_callW D_check_graph (hr.mono (by decide)) rfl tk (pa_cons (pv 1) pa_nil)))
      (pss_cons (ps_expr (pe_callW D_digit_count (hr.mono (by decide)) rfl tk (pa_cons (pv 2) pa_nil)))
      (PSs.nox (pss_cons (ps_if (PW.pt (pw_or (pt_cmpR op_ne (pe_callB call_len_seq (by rfl) T.z_len bb_len (pa_cons (pv 0) pa_nil)) (pe_callB call_len_seq (by rfl) T.z_len bb_len (pa_cons (pv 1) pa_nil)) (nomark _)) (pw_or1 (pt_cmpR op_ne (pe_callB call_len_seq (by rfl) T.z_len bb_len (pa_cons (pe_ix ix_tup (pv 0) pe_int (fun _ _ => rfl)) pa_nil)) (pe_op op_mul (pv 2) (pe_callB call_len_seq (by rfl) T.z_len bb_len (pa_cons (pe_ix ix_tup (pv 1) pe_int (fun _ _ => rfl)) pa_nil))) (nomark _))))) (pss_one (ps_ret pe_bl)) pss_nil)
      (pss_cons (ps_for ph rfl (RZ.pi_zipA (by rfl) T.z_zip (pa_cons (pv 0) (pa_cons (pv 1) pa_nil))) (pg_tup rfl (pgs_cons (pg_name (i := 3) nd rfl (Or.inl rfl)) (pgs_cons (pg_name (i := 4) nd rfl (Or.inr rfl)) pgs_nil))) 
        (pss_one (ps_if (pt_cmpR (op_neD hr.units) (pe_lc (own := [("entry", 5)]) (g := (gName 5)) rfl nd (pi_tup (pv 3)) (blkOk_by (own := [("entry", 5)]) (N := N_over) (sc := defScope s_over) (by decide +kernel)) (fun _ _ _ _ _ => (pg_name (i := 5) nd rfl (Or.inl rfl))) (fun _ _ _ _ _ => pts_nil) (fun _ _ _ _ _ => (pe_op op_fdiv (pv 5) (pv 2)))) (pe_lc (own := [("number", 6)]) (g := (gName 6)) rfl nd (pi_range1 rfl T.z_range (pa_cons (pe_callB call_len_seq (by rfl) T.z_len bb_len (pa_cons (pv 3) pa_nil)) pa_nil)) (blkOk_by (own := [("number", 6)]) (N := N_over) (sc := defScope s_over) (by decide +kernel)) (fun _ _ _ _ _ => (pg_name (i := 6) nd rfl (Or.inl rfl))) (fun _ _ _ _ _ => pts_nil) (fun _ _ _ _ _ => (pe_ix (r := rIxT K) ix_tup (pv 4) (pe_op op_fdiv (pv 6) (pv 2)) (fun _ _ => rfl)))) (nomark _)) (pss_one (ps_ret pe_bl)) pss_nil)))
      (pss_one (ps_ret pe_bl)))))))), ?_⟩
    rcases cases3 with ⟨rfl, qe⟩ | ⟨oU, lU, nk, qe⟩ | ⟨oU, lU, k2, k4, q⟩
    · refine ⟨_, rfl, vu, _, 2, false, rfl, hU, not_graph, (fun z => nomatch z), fun _ H' s' => qe _ s'⟩
    · refine ⟨_, rfl, vu, U, NU, true, rfl, hU, oU.sh lU, fun _ H1 s1 => ?_, (fun z => nomatch z)⟩
      refine ⟨_, rfl, vl, L, NL, true, rfl, Dp.mono s1 hL, oL.sh lL, fun _ H2 s2 => ?_, (fun z => nomatch z)⟩
      exact ⟨_, rfl, k, rfl, (fun z => absurd z nk), fun _ => qe _ (s1.trans s2)⟩
    · refine ⟨_, rfl, vu, U, NU, true, rfl, hU, oU.sh lU, fun _ H1 s1 => ?_, (fun z => nomatch z)⟩
      refine ⟨_, rfl, vl, L, NL, true, rfl, Dp.mono s1 hL, oL.sh lL, fun _ H2 s2 => ?_, (fun z => nomatch z)⟩
      have s12 := s1.trans s2
      refine ⟨_, rfl, k, rfl, fun _ => ?_, (fun z => absurd ⟨k2, k4⟩ z)⟩
      obtain ⟨a, xs, rfl, ha, hla, itemU, atU⟩ := Dp.rows (Dp.mono s12 hU)
      obtain ⟨b, ys, rfl, hb, hlb, itemL, atL⟩ := Dp.rows (Dp.mono s12 hL)
      obtain ⟨_, _, r, r0, e1, ha', _, hx0, hr0, hrr, hrl⟩ := Dp.row0 (Dp.mono s12 hU) oU
      cases e1
      obtain ⟨_, _, t, t0, e2, hb', _, hy0, ht0, htt, htl⟩ := Dp.row0 (Dp.mono s12 hL) oL
      cases e2
      refine ⟨_, rfl, a, _, rfl, .inr ha, _, rfl, b, _, rfl, .inr hb, rfl, _, rfl, ?_⟩
      by_cases c1 : U.length = L.length
      case neg =>
        have e : (!decide (V.int ((xs.length : Nat) : Int) = V.int ((ys.length : Nat) : Int))) = true := by
          rw [decide_eq_false]
          · rfl
          · intro z
            injection z with z
            omega
        show if (!decide (V.int ((xs.length : Nat) : Int) = V.int ((ys.length : Nat) : Int))) = true then _ else _
        rw [e]
        exact iteT (q false ⟨(fun z => nomatch z), fun z => absurd z.1 c1⟩ _ s12)
      case pos =>
        refine iteNS (by rw [hla, hlb, c1]) ?_
        refine ⟨_, rfl, a, _, 0, _, rfl, rfl, ha', at_of (j := 0) rfl hx0, r, _, rfl, .inr hrr, _, rfl, _, rfl, b, _, 0, _, rfl, rfl, hb', at_of (j := 0) rfl hy0, t, _, rfl, .inr htt, _, _, rfl, rfl, .inl ⟨by omega, by omega⟩, rfl, _, rfl, ?_⟩
        have hlr : (r0.map iV).length = NU := by rw [List.length_map, hrl]
        have hlt : (t0.map iV).length = NL := by rw [List.length_map, htl]
        have ek : (k : Int) * (NL : Int) = ((k * NL : Nat) : Int) := (Int.natCast_mul _ _).symm
        by_cases c2 : NU = k * NL
        case neg =>
          have e : (!decide (V.int (((r0.map iV).length : Nat) : Int) = V.int ((k : Int) * (((t0.map iV).length : Nat) : Int)))) = true := by
            rw [hlr, hlt, ek, decide_eq_false]
            · rfl
            · intro z
              injection z with z
              omega
          show if (!decide (V.int (((r0.map iV).length : Nat) : Int) = V.int ((k : Int) * (((t0.map iV).length : Nat) : Int)))) = true then _ else _
          rw [e]
          exact iteT (q false ⟨(fun z => nomatch z), fun z => absurd z.2.1 c2⟩ _ s12)
        case pos =>
          refine iteNS (by rw [hlr, hlt]; show V.int (NU : Int) = V.int ((k : Int) * (NL : Int)); rw [ek, c2]) ?_
          -- row by row
          refine ⟨_, rfl, _, rfl, a, b, _, _, rfl, .inr ⟨ha, hb, RZ.for_zipT (by rw [hla, hlb, c1]) (fun i σ H' => ∃ v1 v2, σ = [some (.ref a), some (.ref b), some (iV k), v1, v2, none, none] ∧ Same H2 H' ∧
            ∀ (j : Nat) (u l : List Nat), j < i → U[j]? = some u → L[j]? = some l → RowP k u l) ⟨none, none, rfl, Same.refl _, fun j u l hj => absurd hj (by omega)⟩ (fun i σ H' ⟨_, _, _, s', _⟩ => ⟨Same.seqT s' ha, Same.seqT s' hb⟩) ?_ ?_⟩⟩
          · rintro i x y Tt σ H' hx hy ⟨v1, v2, rfl, s', inv⟩ hT
            obtain ⟨ru, u, hu, rfl, hru⟩ := itemU i x hx
            obtain ⟨rl, l, hl, rfl, hrl'⟩ := itemL i y hy
            have mu := List.mem_of_getElem? hu
            have ml := List.mem_of_getElem? hl
            have lu := oU.len mu
            have ll := oL.len ml
            have s3 : Same H2 (upd H' Tt (.tup [.ref ru, .ref rl])) := s'.trans (Same.upd hT)
            have hdiv : ∀ x, x < u.length → x / k < l.length := fun x hx => by
              rw [ll]
              exact Nat.div_lt_of_lt_mul (by rw [← c2, ← lu]; exact hx)
            refine ⟨Tt, _, rfl, SqT.of upd_same, rfl, _, _, rfl, _, _, rfl, rfl, ?_⟩
            refine ⟨_, rfl, ru, rfl, ⟨_, Same.seqT s3 hru⟩, fun D hD => lcT (fun i y F => ∃ z, u[i]? = some z ∧ y = iV (z / k)) hD (Same.seqT s3 hru) (by rw [List.length_map, lu, sizeLine_eq]; omega) (fun _ _ _ _ _ h => h) (fun i x H4 k' hx sm kk => ?_) (fun zs1 H4 F4 nw4 hF4 hz1 hz1' => ?_)⟩
            · rw [List.getElem?_map] at hx
              cases hz : u[i]? with
              | none => rw [hz] at hx; cases hx
              | some z =>
                rw [hz] at hx
                cases hx
                exact ⟨rfl, _, rfl, _, rfl, _, _, rfl, rfl, ⟨by omega, by omega⟩, kk _ _ LT.hn (NewIn.refl _) ⟨z, hz, rfl⟩⟩
            · have s4 := s3.trans nw4.old
              have ez1 : zs1 = (u.map (· / k)).map iV := ys_map (by rw [hz1]; simp) fun i y hy => by
                obtain ⟨z, h1, h2⟩ := hz1' i y hy
                exact ⟨z / k, by rw [List.getElem?_map, h1]; rfl, h2⟩
              refine ⟨_, rfl, ru, _, rfl, .inr (Same.seqT s4 hru), _, rfl, by rw [List.length_map, lu]; omega, by rw [List.length_map, lu]; omega, fun D2 hD2 => ?_⟩
              have eN : (((u.map iV).length : Nat) : Int).toNat = NU := by rw [List.length_map, lu]; omega
              rw [eN]
              refine lcR (fun i y F => y = iV (l.getD (i / k) 0)) hD2 (by rw [sizeLine_eq]; omega) (fun _ _ _ _ _ h => h) (fun i H5 k' hi sm kk => ?_) (fun zs2 H5 F5 nw5 hF5 hz2 hz2' => ?_)
              · have hil : i / k < l.length := hdiv i (by rw [lu]; exact hi)
                refine ⟨rfl, _, rfl, _, rfl, _, rfl, _, _, rfl, rfl, ⟨by omega, by omega⟩, rl, _, ((i / k : Nat) : Int), iV (l.getD (i / k) 0), rfl, rfl, Same.seqT (s4.trans sm) hrl', at_of rfl ?_, kk _ _ LT.hn (NewIn.refl _) rfl⟩
                rw [List.getElem?_map, List.getD_eq_getElem?_getD, List.getElem?_eq_getElem hil]
                rfl
              · have ez2 : zs2 = ((List.range u.length).map (fun x => l.getD (x / k) 0)).map iV := by
                  rw [ys_eq hz2 hz2', lu, List.map_map]
                  rfl
                refine ⟨dL (u.map (· / k)), dL ((List.range u.length).map (fun x => l.getD (x / k) 0)), .lst (SqL.of (nw5.old _ _ (nw4.new _ _ hF4))) (by rw [ez1]; exact DpAll.of_ints _), .lst (SqL.of (nw5.new _ _ hF5)) (by rw [ez2]; exact DpAll.of_ints _), shaped_dL _, shaped_dL _, _, rfl, ?_⟩
                rw [eqv_dL]
                have s5 := s4.trans nw5.old
                by_cases c3 : RowP k u l
                · rw [decide_eq_true ((rowP_iff hdiv).mpr c3)]
                  refine iteF ⟨_, _, rfl, s5, fun j u' l' hj hu' hl' => ?_⟩
                  by_cases e : j < i
                  · exact inv j u' l' e hu' hl'
                  · have : j = i := by omega
                    subst this
                    rw [hu] at hu'
                    rw [hl] at hl'
                    cases hu'
                    cases hl'
                    exact c3
                · rw [decide_eq_false (fun z => c3 ((rowP_iff hdiv).mp z))]
                  exact iteT (q false ⟨(fun z => nomatch z), fun z => absurd (z.2.2 i u l hu hl) c3⟩ _ (s12.trans s5))
          · rintro σ H' ⟨v1, v2, rfl, s', inv⟩
            refine q true ⟨fun _ => ⟨c1, c2, fun i u l hu hl => inv i u l ?_ hu hl⟩, fun _ => rfl⟩ _ (s12.trans s')
            rw [hla]
            exact (List.getElem?_eq_some_iff.mp hu).1
/-! ### _law_told -/
def sp_law_told (K : PySem.W.Frag) : Sp := fun vs H Q _ => ∃ (vu vl : V) (k : Nat) (U L : List (List Nat)) (NU NL : Nat), vs = [vu, vl, iV k] ∧ Dp K H vu (dG U) ∧ Dp K H vl (dG L) ∧ GraphOk L NL ∧ NL < 64 ∧
  ((U = [[0, 0]] ∧ ∀ H', Same H H' → Q (.str "graph") H') ∨ (GraphOk U NU ∧ NU < 64 ∧ (¬ (2 ≤ k ∧ k ≤ 4) ∧ ∀ H', Same H H' → Q (.str "number") H') ) ∨
    (GraphOk U NU ∧ NU < 64 ∧ 2 ≤ k ∧ k ≤ 4 ∧ ∀ b : Bool, (b = true ↔ OverP U L NU NL k) → ∀ H', Same H H' → Q (.bl b) H'))
theorem ok_law_told (T : Txt K mg) {CN CB : Addr} (XN : ExT K mg "NotGraph" CN) (XB : ExT K mg "BadNumber" CB) (eNN : PySem.W.exmOne K (.ref CN) (.ref CN) = some true) (eBN : PySem.W.exmOne K (.ref CB) (.ref CN) = some false) (eBB : PySem.W.exmOne K (.ref CB) (.ref CB) = some true)
    (D_over : DefOk P w K mg base (L2.CX P w) 3 "over" ["upper", "lower", "k"] (sp_over K CN CB)) : DefOk P w K mg base CX0 4 "_law_told" ["_law_upper", "_law_lower", "_law_k"] (sp_law_told K) := by
  refine T.f_law_told.ok sc_law_told (fun vs H Q E h => ?_) (fun f cdv A outer s H vs Q E hr h => ?_)
  · obtain ⟨_, _, _, _, _, _, _, rfl, _⟩ := h; rfl
  · obtain ⟨vu, vl, k, U, L, NU, NL, rfl, hU, hL, oL, lL, cases3⟩ := h
    have nd := sc_law_told.nd
    refine ⟨_, pss_one (ps_try_many (tb := fun W => tRet (tCallS (sp_over K CN CB) (WE W) (tCons (tVar 0) (tCons (tVar 1) (tCons (tVar 2) tNil))))) (Wout := fun _ _ _ _ => False)
      (l := [(.ref CN, fun _ _ _ => tRet (tC (.str "graph"))), (.ref CB, fun _ _ _ => tRet (tC (.str "number")))]) rfl rfl takes_none5
      (fun W pn xe tk _ => pss_one (ps_ret (pe_callW D_over (hr.mono (by decide)) rfl tk (pa_cons (pv 0) (pa_cons (pv 1) (pa_cons (pv 2) pa_nil))))))
      (HdsOk.cons ⟨rfl, by decide, .inl XN.g⟩ (fun a oe cls d pn _ _ => pss_one (ps_ret pe_str)) (HdsOk.cons ⟨rfl, by decide, .inl XB.g⟩ (fun a oe cls d pn _ _ => pss_one (ps_ret pe_str)) HdsOk.nil))), ?_⟩
    refine ⟨_, rfl, _, rfl, _, rfl, vu, vl, k, U, L, NU, NL, rfl, hU, hL, oL, lL, ?_⟩
    rcases cases3 with ⟨rfl, q⟩ | ⟨oU, lU, nk, q⟩ | ⟨oU, lU, k2, k4, q⟩
    · exact .inl ⟨rfl, fun H' s' => ⟨true, eNN, fun _ a _ => q _ s', fun z => nomatch z⟩⟩
    · exact .inr (.inl ⟨oU, lU, nk, fun H' s' => ⟨false, eBN, (fun z => nomatch z), fun _ => ⟨true, eBB, fun _ a _ => q _ s', fun z => nomatch z⟩⟩⟩)
    · exact .inr (.inr ⟨oU, lU, k2, k4, q⟩)
end
end LT
set_option Elab.async false
set_option linter.all false
set_option maxRecDepth 100000
set_option maxHeartbeats 1000000
namespace LT
open PySem PySem.Spec PyProof.Rows L2
/-! ### letters as texts -/
theorem small_tx : ("abcdefgh" : Str) = tx ((List.range 8).map fun d => 97 + d) := by decide +kernel
theorem large_tx : ("ABCDEFGH" : Str) = tx ((List.range 8).map fun d => 65 + d) := by decide +kernel
theorem ch_inj {a b : Nat} (h : ch a = ch b) : a = b := by
  unfold ch at h
  injection h with h
  have := congrArg (fun (z : Array Nat) => z[0]?) h
  simpa using this
theorem code_inj {l m : Letter} (hl : l.1 < 8) (hm : m.1 < 8) (h : code l = code m) : l = m := by
  obtain ⟨a, b⟩ := l
  obtain ⟨c, d⟩ := m
  unfold code at h
  simp only at hl hm h
  cases b <;> cases d <;> simp at h <;> first | (have : a = c := by omega) <;> subst this <;> rfl | omega
theorem small_at {f : Nat} (h : f < 8) : atI (("abcdefgh" : Str).cps.toList) (f : Int) = some (97 + f) := by
  rw [small_tx, tx_list]
  refine atI_nat ?_
  rw [List.getElem?_map, List.getElem?_range h]
  rfl
theorem large_at {f : Nat} (h : f < 8) : atI (("ABCDEFGH" : Str).cps.toList) (f : Int) = some (65 + f) := by
  rw [large_tx, tx_list]
  refine atI_nat ?_
  rw [List.getElem?_map, List.getElem?_range h]
  rfl
/-- an entry of the table: the digit, the letter behind -/
def dA (b : Bool) (e : Nat × Nat) : PyData := .tuple [iD e.1, .str (ch (code (e.2, b)))]
def dEnts (b : Bool) (es : List (Nat × Nat)) : PyData := .list (es.map (dA b))
theorem iS_ : ¬ (("table" : Str) = "size") := by decide +kernel
def af (k : Nat) (tb : Addr) : List (Str × V) := putF "table" (.ref tb) (putF "size" (iV k) [])
theorem af_table (k : Nat) (tb : Addr) : (af k tb).lookup ("table" : Str) = some (.ref tb) := by
  unfold af
  rw [lookup_putF, if_pos rfl]
theorem af_size (k : Nat) (tb : Addr) : (af k tb).lookup ("size" : Str) = some (iV k) := by
  unfold af
  rw [lookup_putF, if_neg (fun z => iS_ z.symm), lookup_putF, if_pos rfl]
theorem af_no (k : Nat) (tb : Addr) {m : Str} (h1 : ¬ m = "table") (h2 : ¬ m = "size") : (af k tb).lookup m = none := by
  unfold af
  rw [lookup_putF, if_neg h1, lookup_putF, if_neg h2]
  rfl
/-- an Actor as it stands -/
def ActorAt (K : PySem.W.Frag) (C : Addr) (F : Hp) (x : Addr) (k : Nat) (rows : Rows) : Prop :=
  ∃ dx tb kvs, F x = some (.ins C dx (af k tb)) ∧ F tb = some (.dK kvs) ∧
    ∀ l : Letter, l.1 < rows.length → ∃ t, valV kvs (Sum.inr (ch (code l))) = some (.ref t) ∧ Dp K F (.ref t) (dEnts l.2 (tbl k rows l))
theorem ActorAt.mono {K : PySem.W.Frag} {C : Addr} {F H : Hp} {x : Addr} {k : Nat} {rows : Rows} (h : ActorAt K C F x k rows) (s : Same F H) : ActorAt K C H x k rows := by
  obtain ⟨dx, tb, kvs, h1, h2, h3⟩ := h
  exact ⟨dx, tb, kvs, s _ _ h1, s _ _ h2, fun l hl => let ⟨t, a, b⟩ := h3 l hl; ⟨t, a, Dp.mono s b⟩⟩
structure ATxt (K : PySem.W.Frag) (mg : Str → Option Value) (C : Addr) : Prop where
  cl : Cls K C
  nS : NoAttr K C "size"
  nT : NoAttr K C "table"
  mgA : mg "Actor" = some (.ref C)
section
variable {P : Program} {w : World} {K : PySem.W.Frag} {mg : Str → Option Value} {base : Heap}
/-! ### step -/
def sp_step (K : PySem.W.Frag) (C : Addr) : Sp := fun vs H Q _ => ∃ (x : Addr) (k : Nat) (rows : Rows) (wd : List Letter) (d : Nat), vs = [.ref x, .str (wtext wd), iV d] ∧ ActorAt K C H x k rows ∧ MachOk k rows ∧ WordOk rows wd ∧ wd.length ≤ 100 ∧ d < k ∧
  ∀ H' F v, NewIn H H' F → Dp K F v (.tuple [iD (stepW k rows wd d).1, .str (wtext (stepW k rows wd d).2)]) → Q v H'
theorem ok_step (T : Txt K mg) {C fS : Addr} {fdS : FuncData} (TA : ATxt K mg C) (FS : Fun K "step" "Actor.step" s_Actor_step fS fdS) : FnOk P w K mg base CX0 1 fS fdS ["self", "word", "digit"] (sp_step K C) := by
  refine FS.ok sc_Actor_step (fun vs H Q E h => ?_) (fun cdv A outer s H vs Q E hr h => ?_)
  · obtain ⟨_, _, _, _, _, rfl, _⟩ := h; rfl
  · obtain ⟨x, k, rows, wd, d, rfl, hA, hm, hw, hwl, hd, q⟩ := h
    have nd := sc_Actor_step.nd
    have n4 := hm.n4
    refine ⟨_, (pss_cons (ps_set (i := 3) nd rfl (Or.inl rfl) (pe_lst pa_nil))
      (pss_cons (ps_for ph rfl (pi_str (pv 1)) (pg_name (i := 4) nd rfl (Or.inl rfl)) 
        (pss_cons (ps_asg (pe_ix ix_list (pe_dget (hu_of hr) (pe_fld (pv 0) rfl) (pv 4) (fun _ _ => rfl)) (pv 2) (fun _ _ => rfl)) (pg_tup rfl (pgs_cons (pg_name (i := 2) nd rfl (Or.inl rfl)) (pgs_cons (pg_name (i := 5) nd rfl (Or.inl rfl)) pgs_nil))))
        (pss_one (ps_expr (pe_bm PySem.F.plainAttrs_list PySem.F.slot_list_append PySem.F.type_list_append mt_append (pv 3) (pa_cons (pv 5) pa_nil))))))
      (pss_one (ps_ret (pe_tup (pa_cons (pv 2) (pa_cons (pe_join pe_str (pv 3)) pa_nil))))))), ?_⟩
    refine ⟨Nat.zero_le _, fun D hD => ?_⟩
    refine ⟨_, rfl, wtext wd, rfl, for_str (fun i σ H' => ∃ v1 v2, σ = [some (.ref x), some (.str (wtext wd)), some (iV (stepW k rows (wd.take i) d).1), some (.ref D), v1, v2] ∧
      Loc H H' (upd LT.hn D (.lst ((((stepW k rows (wd.take i) d).2.map code).map ch).map V.str))) LT.hn) ⟨none, none, rfl, (Loc.start H).made _ hD⟩ ?_ ?_⟩
    · rintro i c σ H' hc ⟨v1, v2, rfl, L⟩
      unfold wtext at hc
      rw [tx_get, List.getElem?_map] at hc
      cases he : wd[i]? with
      | none => rw [he] at hc; cases hc
      | some l =>
        rw [he] at hc
        cases hc
        have hl : l.1 < rows.length := hw l (List.mem_of_getElem? he)
        have hwi : WordOk rows (wd.take i) := fun y hy => hw y (List.mem_of_mem_take hy)
        obtain ⟨p1, p2, p3⟩ := hm.stepOk hwi hd
        obtain ⟨dx, tb, kvs, a1, a2, a3⟩ := hA.mono L.old
        obtain ⟨t, hv, hdt⟩ := a3 l hl
        obtain ⟨_, es, e0, hes, hds⟩ := Dp.l hdt
        cases e0
        obtain ⟨o, f, ha, ho, hf⟩ := hm.tblAt hl p1
        obtain ⟨ev, hev, hde⟩ := DpAll.getD hds (i := (stepW k rows (wd.take i) d).1) (d := dA l.2 (o, f)) (by rw [List.getElem?_map, ha]; rfl)
        obtain ⟨e, ys, rfl, hey, hdy⟩ := Dp.t hde
        cases hdy with
        | cons g1 r1 =>
          cases r1 with
          | cons g2 r2 =>
            cases r2
            have g1 := Dp.n g1
            have g2 := Dp.s g2
            subst g1
            subst g2
            have hst : stepW k rows (wd.take (i + 1)) d = (o, (stepW k rows (wd.take i) d).2 ++ [(f, l.2)]) := by
              rw [take_succ_get he, stepW_snoc]
              unfold stepF
              rw [List.getD_eq_getElem?_getD, ha]
              rfl
            refine ⟨_, rfl, x, C, dx, _, _, rfl, a1, TA.cl, TA.nT, af_table _ _, _, rfl, tb, .ref t, rfl, (by have q := DGet.k (k := Sum.inr (ch (code l))) a2; rw [hv] at q; exact q), _, rfl, t, _, _, _, rfl, rfl, hes, at_of rfl hev, e, _, rfl, hey, rfl, _, _, rfl, _, _, rfl, rfl, ?_⟩
            refine ⟨_, rfl, .inl ⟨rfl, _, SqL.of (L.at_ upd_same)⟩, _, rfl, D, _, _, rfl, rfl, L.at_ upd_same, ?_, some (.str (ch (code l))), some (.str (ch (code (f, l.2)))), ?_, ?_⟩
            · rw [List.length_map, List.length_map, List.length_map, p3, List.length_take, sizeLine_eq]; omega
            · rw [hst]
              rfl
            · have L2 := L.wr (p := D) upd_same (.lst ((((stepW k rows (wd.take i) d).2.map code).map ch).map V.str ++ [V.str (ch (code (f, l.2)))]))
              rw [upd_upd] at L2
              rw [hst]
              show Loc H _ (upd LT.hn D (.lst (((((stepW k rows (wd.take i) d).2 ++ [(f, l.2)]).map code).map ch).map V.str))) LT.hn
              rw [List.map_append, List.map_append, List.map_append]
              exact L2
    · rintro σ H' ⟨v1, v2, rfl, L⟩
      rw [wtext_length, List.take_length] at L
      rw [wtext_length, List.take_length]
      obtain ⟨p1, p2, p3⟩ := hm.stepOk hw hd
      refine ⟨_, rfl, ⟨_, rfl⟩, _, rfl, "", D, _, rfl, rfl, .inl (SqL.of (L.at_ upd_same)), ?_, ?_⟩
      · refine (len_ch' _).mpr ?_
        rw [List.length_map, p3]
        omega
      · rw [join_ch]
        refine ⟨by show 2 ≤ sizeLine; decide, fun p hp => ?_⟩
        have L2 := L.fix (.tup [iV (stepW k rows wd d).1, .str (wtext (stepW k rows wd d).2)]) hp
        exact q _ _ _ L2.drop (.tup (SqT.of upd_same) (.cons (.int _) (.cons (.str _) .nil)))
end
end LT
set_option Elab.async false
set_option linter.all false
set_option maxRecDepth 100000
set_option maxHeartbeats 1000000
namespace LT
open PySem PySem.Spec PyProof.Rows L2
theorem log_small {d k : Nat} (h : d < k) (h4 : k ≤ 4) : ((d : Int)).natAbs.log2 < 1920 := by
  have e : d = 0 ∨ d = 1 ∨ d = 2 ∨ d = 3 := by omega
  rcases e with rfl | rfl | rfl | rfl <;> decide
section
variable {P : Program} {w : World} {K : PySem.W.Frag} {mg : Str → Option Value} {base : Heap}
/-! ### Actor.moved, moved -/
def sp_moved (K : PySem.W.Frag) (C : Addr) : Sp := fun vs H Q _ => ∃ (x : Addr) (k : Nat) (rows : Rows) (wd : List Letter) (ds : List Nat), vs = [.ref x, .str (wtext wd), .str (dg ds)] ∧ ActorAt K C H x k rows ∧ MachOk k rows ∧ WordOk rows wd ∧ wd.length ≤ 100 ∧ (∀ d ∈ ds, d < k) ∧ ds.length ≤ 60 ∧
  ∀ H' F v, NewIn H H' F → Dp K F v (.tuple [.str (dg (moveW k rows wd ds).1), .str (wtext (moveW k rows wd ds).2)]) → Q v H'
theorem ok_amoved (T : Txt K mg) {C fS fM : Addr} {fdS fdM : FuncData} (TA : ATxt K mg C) (FM : Fun K "moved" "Actor.moved" s_Actor_moved fM fdM) (D_step : FnOk P w K mg base CX0 1 fS fdS ["self", "word", "digit"] (sp_step K C)) (m_step : Meth K C "step" fS) (b_step : Binds K fdS ["self", "word", "digit"] []) :
    FnOk P w K mg base CX0 2 fM fdM ["self", "word", "string"] (sp_moved K C) := by
  refine FM.ok sc_Actor_moved (fun vs H Q E h => ?_) (fun cdv A outer s H vs Q E hr h => ?_)
  · obtain ⟨_, _, _, _, _, rfl, _⟩ := h; rfl
  · obtain ⟨x, k, rows, wd, ds, rfl, hA, hm, hw, hwl, hd, hdl, q⟩ := h
    have nd := sc_Actor_moved.nd
    have k3 := hm.k3
    refine ⟨_, (pss_cons (ps_set (i := 3) nd rfl (Or.inl rfl) (pe_lst pa_nil))
      (pss_cons (ps_for ph rfl (pi_str (pv 2)) (pg_name (i := 4) nd rfl (Or.inl rfl)) 
        (pss_cons (ps_asg (pe_meth (pv 0) TA.cl m_step D_step (hr.mono (by decide)) b_step .nil pass0 (pa_cons (pv 1) (pa_cons (pe_callTy call_int_str (by rfl) T.z_int bb_int (pa_cons (pv 4) pa_nil)) pa_nil))) (pg_tup rfl (pgs_cons (pg_name (i := 5) nd rfl (Or.inl rfl)) (pgs_cons (pg_name (i := 1) nd rfl (Or.inl rfl)) pgs_nil))))
        (pss_one (ps_expr (pe_bm PySem.F.plainAttrs_list PySem.F.slot_list_append PySem.F.type_list_append mt_append (pv 3) (pa_cons (pe_callTy call_str_int (by rfl) T.z_str bb_str (pa_cons (pv 5) pa_nil)) pa_nil))))))
      (pss_one (ps_ret (pe_tup (pa_cons (pe_join pe_str (pv 3)) (pa_cons (pv 1) pa_nil))))))), ?_⟩
    refine ⟨Nat.zero_le _, fun D hD => ?_⟩
    refine ⟨_, rfl, dg ds, rfl, for_str (fun i σ H' => ∃ v1 v2 F, σ = [some (.ref x), some (.str (wtext (moveW k rows wd (ds.take i)).2)), some (.str (dg ds)), some (.ref D), v1, v2] ∧
      Loc H H' (upd LT.hn D (.lst ((((moveW k rows wd (ds.take i)).1.map fun d => 48 + d).map ch).map V.str))) F) ⟨none, none, LT.hn, rfl, (Loc.start H).made _ hD⟩ ?_ ?_⟩
    · rintro i c σ H' hc ⟨v1, v2, F, rfl, L⟩
      unfold dg at hc
      rw [tx_get, List.getElem?_map] at hc
      cases he : ds[i]? with
      | none => rw [he] at hc; cases hc
      | some d =>
        rw [he] at hc
        cases hc
        have hdk := hd d (List.mem_of_getElem? he)
        have hdi : ∀ y ∈ ds.take i, y < k := fun y hy => hd y (List.mem_of_mem_take hy)
        obtain ⟨p1, p2, p3, p4⟩ := hm.moveOk hw hdi
        obtain ⟨q1, q2, q3⟩ := hm.stepOk p2 hdk
        obtain ⟨dx, tb, kvs, a1, a2, a3⟩ := hA.mono L.old
        have hst : moveW k rows wd (ds.take (i + 1)) = ((moveW k rows wd (ds.take i)).1 ++ [(stepW k rows (moveW k rows wd (ds.take i)).2 d).1], (stepW k rows (moveW k rows wd (ds.take i)).2 d).2) := by
          rw [take_succ_get he, moveW_snoc]
          rfl
        refine ⟨_, rfl, x, dx, _, rfl, a1, af_no _ _ (by decide +kernel) (by decide +kernel), _, rfl, _, rfl, ch (48 + d), (d : Int), rfl, int_ch d (by omega), by show 1 ≤ 640; decide,
          x, k, rows, (moveW k rows wd (ds.take i)).2, d, rfl, hA.mono L.old, hm, p2, by omega, hdk, fun H2 F2 v nw hv => ?_⟩
        obtain ⟨e, ys, rfl, hey, hdy⟩ := Dp.t hv
        have L2 := L.call nw
        cases hdy with
        | cons g1 r1 =>
          cases r1 with
          | cons g2 r2 =>
            cases r2
            have g1 := Dp.n g1
            have g2 := Dp.s g2
            subst g1
            subst g2
            refine ⟨e, _, rfl, Same.seqT nw.new hey, rfl, _, _, rfl, _, _, rfl, rfl, ?_⟩
            refine ⟨_, rfl, .inl ⟨rfl, _, SqL.of (L2.at_ upd_same)⟩, _, rfl, _, rfl, log_small q1 (by omega), D, _, _, rfl, rfl, L2.at_ upd_same, ?_, some (.str (ch (48 + d))), some (iV (stepW k rows (moveW k rows wd (ds.take i)).2 d).1), uni F F2, ?_, ?_⟩
            · rw [List.length_map, List.length_map, List.length_map, p3, List.length_take, sizeLine_eq]; omega
            · rw [hst]
              rfl
            · have L3 := L2.wr (p := D) upd_same (.lst ((((moveW k rows wd (ds.take i)).1.map fun d => 48 + d).map ch).map V.str ++ [V.str (ch (48 + (stepW k rows (moveW k rows wd (ds.take i)).2 d).1))]))
              rw [upd_upd] at L3
              rw [hst, str_ch _ (by omega)]
              show Loc H _ (upd LT.hn D (.lst (((((moveW k rows wd (ds.take i)).1 ++ [(stepW k rows (moveW k rows wd (ds.take i)).2 d).1]).map fun d => 48 + d).map ch).map V.str))) _
              rw [List.map_append, List.map_append, List.map_append]
              exact L3
    · rintro σ H' ⟨v1, v2, F, rfl, L⟩
      rw [dg_length, List.take_length] at L
      rw [dg_length, List.take_length]
      obtain ⟨p1, p2, p3, p4⟩ := hm.moveOk hw hd
      refine ⟨⟨_, rfl⟩, _, rfl, "", D, _, rfl, rfl, .inl (SqL.of (L.at_ upd_same)), ?_, ?_⟩
      · refine (len_ch' _).mpr ?_
        rw [List.length_map, p3]
        omega
      · rw [join_ch]
        refine ⟨_, rfl, by show 2 ≤ sizeLine; decide, fun p hp => ?_⟩
        have L2 := L.fix (.tup [.str (dg (moveW k rows wd ds).1), .str (wtext (moveW k rows wd ds).2)]) hp
        exact q _ _ _ L2.drop (.tup (SqT.of upd_same) (.cons (.str _) (.cons (.str _) .nil)))
end
end LT
set_option Elab.async false
set_option linter.all false
set_option maxRecDepth 100000
set_option maxHeartbeats 2000000
namespace LT
open PySem PySem.Spec PyProof.Rows L2
/-- what an Actor's making changes: itself, its table -/
def Mx (C x dx tb : Addr) (k : Nat) (kvs : List (Key × V)) : Hp := upd (upd LT.hn tb (.dK kvs)) x (.ins C dx (af k tb))
section
variable {C x dx tb p : Addr} {k : Nat} {kvs kvs' : List (Key × V)} {o o' : HO}
theorem Mx_x : Mx C x dx tb k kvs x = some (.ins C dx (af k tb)) := upd_same
theorem Mx_tb (h : tb ≠ x) : Mx C x dx tb k kvs tb = some (.dK kvs) := by unfold Mx; rw [upd_ne h, upd_same]
theorem Mx_p (h1 : p ≠ x) (h2 : p ≠ tb) : Mx C x dx tb k kvs p = none := by unfold Mx; rw [upd_ne h1, upd_ne h2]
theorem Mx_put (h : tb ≠ x) (h2 : p ≠ tb) : upd (upd (Mx C x dx tb k kvs) p o) tb (.dK kvs') = upd (Mx C x dx tb k kvs') p o := by
  funext b
  unfold Mx upd
  by_cases h3 : b = tb
  · subst h3
    rw [if_pos rfl, if_neg (fun z => h2 z.symm), if_neg h, if_pos rfl]
  · rw [if_neg h3]
    by_cases h4 : b = p
    · rw [if_pos h4, if_pos h4]
    · rw [if_neg h4, if_neg h4]
      by_cases h5 : b = x
      · rw [if_pos h5, if_pos h5]
      · rw [if_neg h5, if_neg h5, if_neg h3, if_neg h3]
theorem Mx_del (h1 : p ≠ x) (h2 : p ≠ tb) : del (upd (Mx C x dx tb k kvs) p o) p = Mx C x dx tb k kvs := by
  funext b
  by_cases h : b = p
  · subst h
    rw [del_same, Mx_p h1 h2]
  · rw [del_ne h, upd_ne h]
theorem Mx_start (h : tb ≠ x) : upd (upd (upd (upd LT.hn x o) x o') tb (.dK kvs)) x (.ins C dx (af k tb)) = Mx C x dx tb k kvs := by
  funext b
  unfold Mx upd
  by_cases h5 : b = x
  · rw [if_pos h5, if_pos h5]
  · rw [if_neg h5, if_neg h5]
    by_cases h3 : b = tb
    · rw [if_pos h3, if_neg h5, if_pos h3]
    · simp only [if_neg h3, if_neg h5]
end
theorem rep_len {α : Type} (k : Nat) (a : α) : (List.replicate k [a]).flatten.length = k := by
  induction k with
  | zero => rfl
  | succ k ih => rw [List.replicate_succ, List.flatten_cons, List.length_append, ih]; show 1 + k = k + 1; omega
section
variable {P : Program} {w : World} {K : PySem.W.Frag} {mg : Str → Option Value} {base : Heap}
/-! ### Actor -/
def sp_init (K : PySem.W.Frag) (C : Addr) : Sp := fun vs H Q _ => ∃ (x dx : Addr) (m : V) (k : Nat) (rows : Rows), vs = [.ref x, m] ∧ H x = some (.ins C dx []) ∧ Dp K (del H x) m (dM k rows) ∧ MachOk k rows ∧
  ∀ H' F, (∀ b o, b ≠ x → H b = some o → H' b = some o) → Same F H' → (∀ b o, b ≠ x → H b = some o → F b = none) → ActorAt K C F x k rows → Q .non H'
theorem ok_init (T : Txt K mg) {C fI : Addr} {fdI : FuncData} (TA : ATxt K mg C) (FI : Fun K "__init__" "Actor.__init__" s_Actor_init fI fdI) : FnOk P w K mg base CX0 1 fI fdI ["self", "machine"] (sp_init K C) := by
  refine FI.ok sc_Actor_init (fun vs H Q E h => ?_) (fun cdv A outer s H vs Q E hr h => ?_)
  · obtain ⟨_, _, _, _, _, rfl, _⟩ := h; rfl
  · obtain ⟨x, dx, m, k, rows, rfl, hx, hd, hm, q⟩ := h
    have nd := sc_Actor_init.nd
    have k3 := hm.k3
    have n4 := hm.n4
    obtain ⟨a, b, xs, rfl, ha, hb, hds, hl⟩ := Dp.mach hd
    have L0 : Loc (del H x) H (upd LT.hn x (.ins C dx [])) LT.hn :=
      by
      refine ⟨fun c u e => ?_, fun c u e => ?_, Same.nil _, fun c u e => ?_, fun _ _ _ => rfl, fun _ _ _ => rfl⟩
      · by_cases z : c = x
        · subst z; rw [del_same] at e; cases e
        · rw [del_ne z] at e; exact e
      · by_cases z : c = x
        · subst z; rw [upd_same] at e; cases e; exact hx
        · rw [upd_ne z] at e; cases e
      · by_cases z : c = x
        · subst z; rw [del_same] at e; cases e
        · rw [upd_ne z]
    refine ⟨_, (pss_cons (ps_fld (pv 0) (pe_ix ix_tup (pv 1) pe_int (fun _ _ => rfl)) rfl)
      (pss_cons (ps_fld (pv 0) pe_dnewK rfl)
      (pss_one (ps_for ph rfl (pi_enumT (by rfl) T.z_enumerate (pa_cons (pe_ix ix_tup (pv 1) pe_int (fun _ _ => rfl)) pa_nil)) (pg_tup rfl (pgs_cons (pg_name (i := 2) nd rfl (Or.inl rfl)) (pgs_cons (pg_name (i := 3) nd rfl (Or.inl rfl)) pgs_nil))) 
        (pss_cons (ps_set (i := 4) nd rfl (Or.inl rfl) (pe_op op_rep (pe_lst (pa_cons (pe_tup (pa_cons pe_int (pa_cons pe_str pa_nil))) pa_nil)) (pe_fld (pv 0) rfl)))
        (pss_cons (ps_for ph rfl (pi_enumT (by rfl) T.z_enumerate (pa_cons (pv 3) pa_nil)) (pg_tup rfl (pgs_cons (pg_name (i := 5) nd rfl (Or.inl rfl)) (pgs_cons (pg_tup rfl (pgs_cons (pg_name (i := 6) nd rfl (Or.inl rfl)) (pgs_cons (pg_name (i := 7) nd rfl (Or.inl rfl)) pgs_nil))) pgs_nil))) 
          (pss_one (ps_asg (pe_tup (pa_cons (pv 5) (pa_cons (pe_ix ix_str (pe_cs T.c_LARGE) (pv 7) (fun _ _ => rfl)) pa_nil))) (pg_sub (pv 4) (pv 6) set_list))))
        (pss_cons (ps_dput (hu_of hr) (pe_fld (pv 0) rfl) (pe_ix ix_str (pe_cs T.c_SMALL) (pv 2) (fun _ _ => rfl)) (pe_lc (own := [("out", 6), ("following", 7)]) (g := (gTup K 2 (gCons (gName 6) (gCons (gName 7) gNil)))) rfl nd (pi_tup (pv 3)) (blkOk_by (own := [("out", 6), ("following", 7)]) (N := N_Actor_init) (sc := defScope s_Actor_init) (by decide +kernel)) (fun _ _ _ _ _ => (pg_tup rfl (pgs_cons (pg_name (i := 6) nd rfl (Or.inl rfl)) (pgs_cons (pg_name (i := 7) nd rfl (Or.inl rfl)) pgs_nil)))) (fun _ _ _ _ _ => pts_nil) (fun _ _ _ _ _ => (pe_tup (pa_cons (pv 6) (pa_cons (pe_ix ix_str (pe_cs T.c_SMALL) (pv 7) (fun _ _ => rfl)) pa_nil))))) rfl)
        (pss_one (ps_dput (hu_of hr) (pe_fld (pv 0) rfl) (pe_ix ix_str (pe_cs T.c_LARGE) (pv 2) (fun _ _ => rfl)) (pv 4) rfl))))))))), ?_⟩
    -- self.size = machine[0]; self.table = {}
    refine ⟨_, rfl, a, _, 0, _, rfl, rfl, Same.seqT L0.old ha, at_of (j := 0) rfl rfl, _, rfl, x, C, dx, _, rfl, hx, TA.cl, TA.nS, by show 0 < 1000; decide, ?_⟩
    intro tb htb
    have L1 := L0.wr (p := x) upd_same (.ins C dx (putF "size" (iV k) []))
    have L2 := L1.made (.dK []) htb
    have ntx : tb ≠ x := fun e => by rw [e, upd_same] at htb; cases htb
    refine ⟨_, rfl, x, C, dx, _, rfl, L2.at_ (by rw [upd_ne ntx.symm, upd_same]), TA.cl, TA.nT, by show 1 < 1000; decide, ?_⟩
    have L3 := L2.wr (p := x) (by rw [upd_ne ntx.symm, upd_same]) (.ins C dx (af k tb))
    rw [Mx_start ntx] at L3
    refine ⟨_, rfl, a, _, 1, _, rfl, rfl, Same.seqT L3.old ha, at_of (j := 1) rfl rfl, b, xs, rfl, Same.seqT L3.old hb, for_enumT (fun i σ H' => ∃ v2 v3 v4 v5 v6 v7 kvs F, σ = [some (.ref x), some (.ref a), v2, v3, v4, v5, v6, v7] ∧
      Loc (del H x) H' (Mx C x dx tb k kvs) F ∧ kvs.length ≤ 2 * i ∧ ∀ l : Letter, l.1 < i → ∃ t, valV kvs (Sum.inr (ch (code l))) = some (.ref t) ∧ Dp K F (.ref t) (dEnts l.2 (tbl k rows l)))
      ⟨none, none, none, none, none, none, [], LT.hn, rfl, L3, Nat.zero_le _, fun l hl => absurd hl (Nat.not_lt_zero _)⟩ (fun i σ H' ⟨_, _, _, _, _, _, _, _, _, L, _⟩ => Same.seqT L.old hb) ?_ ?_⟩
    · rintro i y T1 σ H' hy ⟨v2, v3, v4, v5, v6, v7, kvs, F, rfl, L, hkl, inv⟩ hT1
      have hi : i < rows.length := by rw [← hl]; exact (List.getElem?_eq_some_iff.mp hy).1
      obtain ⟨dr, h1, h2⟩ := DpAll.get hds hy
      rw [List.getElem?_map, List.getElem?_eq_getElem hi] at h1
      cases h1
      have hmem : rows[i] ∈ rows := List.getElem_mem hi
      generalize hrow : rows[i] = row at h2 hmem
      obtain ⟨r, es, rfl, hres, hdes⟩ := Dp.t h2
      have hel : es.length = k := by
        have := DpAll.length hdes
        rw [List.length_map, hm.rowLen hmem] at this
        exact this
      -- an entry of the row
      have ent : ∀ (j : Nat) (z : V) (Hn : Hp), es[j]? = some z → Same (del H x) Hn → ∃ e o f, row[j]? = some (o, f) ∧ z = .ref e ∧ SqT K Hn e [iV o, iV f] ∧ o < k ∧ f < 8 := fun j z Hn hz sm => by
        obtain ⟨d, g1, g2⟩ := DpAll.get hdes hz
        rw [List.getElem?_map] at g1
        cases he : row[j]? with
        | none => rw [he] at g1; cases g1
        | some p =>
          rw [he] at g1
          cases g1
          obtain ⟨e, rfl, he'⟩ := Dp.ent g2
          have hj : j < k := by rw [← hel]; exact (List.getElem?_eq_some_iff.mp hz).1
          obtain ⟨o, f, q1, q2, q3⟩ := hm.rowAt hmem hj
          rw [he] at q1
          cases q1
          exact ⟨e, o, f, rfl, rfl, Same.seqT sm he', q2, by omega⟩
      have M1 := L.fix (.tup [.int (i : Nat), .ref r]) hT1
      refine ⟨T1, _, rfl, SqT.of upd_same, rfl, _, _, rfl, _, _, rfl, rfl, ?_⟩
      -- back = [(0, "")] * self.size
      refine ⟨by show 2 ≤ sizeLine; decide, fun z hz => ⟨by show 1 ≤ sizeLine; decide, fun l hl' => ?_⟩⟩
      have M2 := M1.fix (.tup [.int 0, .str ""]) hz
      have M3 := M2.fix (.lst [.ref z]) hl'
      refine ⟨_, rfl, x, C, dx, _, _, rfl, M3.at_ Mx_x, TA.cl, TA.nS, af_size _ _, l, (k : Int), [.ref z], rfl, rfl, upd_same, by omega, by omega, ?_, fun p hp => ?_⟩
      · show 1 * (k : Int).toNat ≤ sizeLine
        rw [sizeLine_eq]; omega
      have M4 := M3.made (.lst (List.replicate (k : Int).toNat [V.ref z]).flatten) hp
      have npx : p ≠ x := fun e => by rw [e] at hp; have := M3.at_ (p := x) Mx_x; rw [hp] at this; cases this
      have npt : p ≠ tb := fun e => by rw [e] at hp; have := M3.at_ (p := tb) (Mx_tb ntx); rw [hp] at this; cases this
      generalize hF3 : upd (upd (upd F T1 (HO.tup [V.int (i : Nat), V.ref r])) z (HO.tup [V.int 0, V.str ""])) l (HO.lst [V.ref z]) = F3 at M3 M4
      have sF3 : Same F F3 := by
        rw [← hF3]
        have hz0 : (upd F T1 (HO.tup [V.int (i : Nat), V.ref r])) z = none := M1.ffree hz
        have hl0 : (upd (upd F T1 (HO.tup [V.int (i : Nat), V.ref r])) z (HO.tup [V.int 0, V.str ""])) l = none := M2.ffree hl'
        exact ((Same.upd (L.ffree hT1)).trans (Same.upd hz0)).trans (Same.upd hl0)
      -- for digit, (out, following) in enumerate(row)
      refine ⟨_, rfl, r, es, rfl, Same.seqT M4.old hres, for_enumT (fun j σ H' => ∃ w5 w6 w7 bs F', σ = [some (.ref x), some (.ref a), some (iV i), some (.ref r), some (.ref p), w5, w6, w7] ∧
        Loc (del H x) H' (upd (Mx C x dx tb k kvs) p (.lst bs)) F' ∧ Same F3 F' ∧ bs.length = k ∧ ∀ (d o f : Nat), d < j → row[d]? = some (o, f) → ∃ v, bs[o]? = some v ∧ Dp K F' v (dA true (d, f)))
        ⟨v5, v6, v7, _, F3, rfl, M4, Same.refl _, by rw [toNat_n]; exact rep_len k _, fun d o f hd => absurd hd (Nat.not_lt_zero _)⟩ (fun j σ H' ⟨_, _, _, _, _, _, L, _⟩ => Same.seqT L.old hres) ?_ ?_⟩
      · rintro j y2 T2 σ H5 hy2 ⟨w5, w6, w7, bs, F', rfl, N1, sF, hbl, binv⟩ hT2
        have N2 := N1.fix (.tup [.int (j : Nat), y2]) hT2
        obtain ⟨e, o, f, hrj, rfl, het, ho, hf8⟩ := ent j y2 _ hy2 N2.old
        refine ⟨T2, _, rfl, SqT.of upd_same, rfl, _, _, rfl, _, _, rfl, e, _, rfl, het, rfl, _, _, rfl, _, _, rfl, rfl, rfl, ?_⟩
        refine ⟨_, rfl, _, rfl, "ABCDEFGH", _, _, rfl, rfl, by decide, large_at hf8, by show 2 ≤ sizeLine; decide, fun q2 hq2 => ?_⟩
        have N3 := N2.fix (.tup [iV j, .str ⟨#[65 + f]⟩]) hq2
        refine ⟨_, rfl, _, rfl, p, bs, (o : Int), o, rfl, rfl, N3.at_ upd_same, ?_, ?_⟩
        · unfold ixN
          rw [if_pos (Int.natCast_nonneg o), if_pos (by rw [hbl]; omega), toNat_n]
        · have N4 := N3.wr (p := p) upd_same (.lst (bs.set o (.ref q2)))
          rw [upd_upd] at N4
          have sA : Same F' (upd (upd F' T2 (HO.tup [V.int (j : Nat), V.ref e])) q2 (HO.tup [iV j, V.str ⟨#[65 + f]⟩])) := (Same.upd (N1.ffree hT2)).trans (Same.upd (N2.ffree hq2))
          refine ⟨some (iV j), some (iV o), some (iV f), bs.set o (.ref q2), _, rfl, N4, sF.trans sA, by rw [List.length_set]; exact hbl, fun d o' f' hdj hrd => ?_⟩
          by_cases hdj' : d = j
          · subst hdj'
            rw [hrj] at hrd
            cases hrd
            refine ⟨.ref q2, List.getElem?_set_self (by rw [hbl]; exact ho), .tup (SqT.of upd_same) (.cons (.int _) (.cons ?_ .nil))⟩
            exact .str _
          · obtain ⟨v, g1, g2⟩ := binv d o' f' (by omega) hrd
            have hne : o ≠ o' := fun z => by
              subst z
              exact hdj' (hm.rowInj hmem hrd hrj)
            exact ⟨v, by rw [List.getElem?_set_ne hne]; exact g1, Dp.mono sA g2⟩
      · rintro σ H5 ⟨w5, w6, w7, bs, F', rfl, N1, sF, hbl, binv⟩
        rw [hel] at binv
        -- self.table[SMALL[state]] = [(out, SMALL[following]) for out, following in row]
        refine ⟨_, rfl, r, rfl, ⟨_, Same.seqT N1.old hres⟩, fun D hD => lcT (fun j y F => ∃ o f, row[j]? = some (o, f) ∧ Dp K F y (dA false (o, f))) hD (Same.seqT N1.old hres) (by rw [hel, sizeLine_eq]; omega) (fun j y F F' s h => let ⟨o, f, g1, g2⟩ := h; ⟨o, f, g1, Dp.mono s g2⟩) (fun j y H6 k' hy2 sm kk => ?_) (fun ys H6 F6 nw hF6 hyl hy2 => ?_)⟩
        · obtain ⟨e, o, f, hrj, rfl, het, ho, hf8⟩ := ent j y _ hy2 (N1.old.trans sm)
          refine ⟨e, _, rfl, het, rfl, _, _, rfl, _, _, rfl, rfl, rfl, _, rfl, _, rfl, "abcdefgh", _, _, rfl, rfl, by decide, small_at hf8, by show 2 ≤ sizeLine; decide, fun q2 hq2 => ?_⟩
          refine kk _ _ (upd LT.hn q2 (.tup [iV o, .str ⟨#[97 + f]⟩])) ((NewIn.refl _).alloc _ hq2) ⟨o, f, hrj, .tup (SqT.of upd_same) (.cons (.int _) (.cons ?_ .nil))⟩
          exact .str _
        · have N2 := N1.call nw
          have hdS : Dp K (uni F' F6) (.ref D) (dEnts false row) := by
            refine Dp.mono (N1.right nw) (.lst (SqL.of hF6) (DpAll.of_at (by rw [hyl, hel, List.length_map, hm.rowLen hmem]) fun j y d g1 g2 => ?_))
            obtain ⟨o, f, g3, g4⟩ := hy2 j y g1
            rw [List.getElem?_map, g3] at g2
            cases g2
            exact g4
          have hdB : Dp K (upd (uni F' F6) p (.lst bs)) (.ref p) (dEnts true (backRow k row)) := by
            refine .lst (SqL.of upd_same) (DpAll.of_at (by rw [hbl, List.length_map, backRow_length]) fun o y d g1 g2 => ?_)
            have ho : o < k := by rw [← hbl]; exact (List.getElem?_eq_some_iff.mp g1).1
            obtain ⟨d0, f, g3, g4, _⟩ := hm.rowBack hmem ho
            rw [List.getElem?_map, hm.backAt hmem g3] at g2
            cases g2
            obtain ⟨v, g5, g6⟩ := binv d0 o f g4 g3
            rw [g1] at g5
            cases g5
            exact Dp.mono ((Same.uni_l F' F6).trans (Same.upd (N2.nf (p := p) upd_same))) g6
          refine ⟨_, rfl, x, C, dx, _, _, rfl, N2.at_ (by rw [upd_ne npx.symm]; exact Mx_x), TA.cl, TA.nT, af_table _ _, _, rfl, "abcdefgh", _, _, rfl, rfl, by decide, small_at (by omega), tb, _, rfl, DPut.k (k := Sum.inr (ch (97 + i))) (N2.at_ (by rw [upd_ne npt.symm]; exact Mx_tb ntx)) (by rw [sizeLine_eq]; omega), ?_⟩
          have N3 := N2.wr (p := tb) (by rw [upd_ne npt.symm]; exact Mx_tb ntx) (.dK (putK kvs (Sum.inr (ch (97 + i))) (.ref D)))
          rw [Mx_put ntx npt] at N3
          have l1 := length_putK kvs (Sum.inr (ch (97 + i))) (.ref D)
          -- self.table[LARGE[state]] = back
          refine ⟨_, rfl, _, rfl, x, C, dx, _, _, rfl, N3.at_ (by rw [upd_ne npx.symm]; exact Mx_x), TA.cl, TA.nT, af_table _ _, _, rfl, "ABCDEFGH", _, _, rfl, rfl, by decide, large_at (by omega), tb, _, rfl, DPut.k (k := Sum.inr (ch (65 + i))) (N3.at_ (by rw [upd_ne npt.symm]; exact Mx_tb ntx)) (by rw [sizeLine_eq]; omega), ?_⟩
          have N4 := N3.wr (p := tb) (by rw [upd_ne npt.symm]; exact Mx_tb ntx) (.dK (putK (putK kvs (Sum.inr (ch (97 + i))) (.ref D)) (Sum.inr (ch (65 + i))) (.ref p)))
          rw [Mx_put ntx npt] at N4
          have N5 := N4.freeze (p := p) upd_same
          rw [Mx_del npx npt] at N5
          have l2 := length_putK (putK kvs (Sum.inr (ch (97 + i))) (.ref D)) (Sum.inr (ch (65 + i))) (.ref p)
          have sP : Same (uni F' F6) (upd (uni F' F6) p (.lst bs)) := Same.upd (N2.nf (p := p) upd_same)
          have eS : code (i, false) = 97 + i := rfl
          have eL : code (i, true) = 65 + i := rfl
          have gR : rows.getD i [] = row := by rw [List.getD_eq_getElem?_getD, List.getElem?_eq_getElem hi, hrow]; rfl
          refine ⟨some (iV i), some (.ref r), some (.ref p), w5, w6, w7, _, _, rfl, N5, by omega, fun l' hl2 => ?_⟩
          rw [valV_put, valV_put, ← eL, ← eS]
          by_cases c1 : l' = (i, true)
          · subst c1
            rw [if_pos rfl]
            refine ⟨p, rfl, ?_⟩
            show Dp K _ (.ref p) (dEnts true (backRow k (rows.getD i [])))
            rw [gR]
            exact hdB
          · rw [if_neg (fun z => c1 (code_inj (by omega) (by show i < 8; omega) (ch_inj (Sum.inr.inj z))))]
            by_cases c2 : l' = (i, false)
            · subst c2
              rw [if_pos rfl]
              refine ⟨D, rfl, ?_⟩
              show Dp K _ (.ref D) (dEnts false (rows.getD i []))
              rw [gR]
              exact Dp.mono sP hdS
            · rw [if_neg (fun z => c2 (code_inj (by omega) (by show i < 8; omega) (ch_inj (Sum.inr.inj z))))]
              have hlt : l'.1 < i := by
                obtain ⟨i', b'⟩ := l'
                have : i' ≠ i := fun z => by
                  subst z
                  cases b'
                  · exact c2 rfl
                  · exact c1 rfl
                show i' < i
                have : i' < i + 1 := hl2
                omega
              obtain ⟨t, g1, g2⟩ := inv l' hlt
              exact ⟨t, g1, Dp.mono (((sF3.trans sF).trans (Same.uni_l F' F6)).trans sP) g2⟩
    · rintro σ H' ⟨v2, v3, v4, v5, v6, v7, kvs, F, rfl, L, hkl, inv⟩
      rw [hl] at inv
      have L2 := L.freeze (p := tb) (Mx_tb ntx)
      have L3 := L2.freeze (p := x) (by rw [del_ne ntx.symm]; exact Mx_x)
      have d := L3.drop
      have sF : Same F (upd (upd F tb (.dK kvs)) x (.ins C dx (af k tb))) := (Same.upd (L.nf (Mx_tb ntx))).trans (Same.upd (L2.nf (by rw [del_ne ntx.symm]; exact Mx_x)))
      refine q H' _ (fun c u hc e => d.old _ _ (by rw [del_ne hc]; exact e)) d.new (fun c u hc e => d.ap c u (by rw [del_ne hc]; exact e)) ⟨dx, tb, kvs, upd_same, by rw [upd_ne ntx, upd_same], fun l hl => ?_⟩
      obtain ⟨t, g1, g2⟩ := inv l hl
      exact ⟨t, g1, Dp.mono sF g2⟩
end
end LT
set_option Elab.async false
set_option linter.all false
set_option maxRecDepth 100000
set_option maxHeartbeats 2000000
namespace LT
open PySem PySem.Spec PyProof.Rows L2
section
variable {P : Program} {w : World} {K : PySem.W.Frag} {mg : Str → Option Value} {base : Heap}
def sp_movedF (K : PySem.W.Frag) : Sp := fun vs H Q _ => ∃ (m : V) (k : Nat) (rows : Rows) (wd : List Letter) (ds : List Nat), vs = [m, .str (wtext wd), .str (dg ds)] ∧ Dp K H m (dM k rows) ∧ MachOk k rows ∧ WordOk rows wd ∧ wd.length ≤ 100 ∧ (∀ d ∈ ds, d < k) ∧ ds.length ≤ 60 ∧
  ∀ H' F v, NewIn H H' F → Dp K F v (.tuple [.str (dg (moveW k rows wd ds).1), .str (wtext (moveW k rows wd ds).2)]) → Q v H'
theorem ok_moved (T : Txt K mg) {C fI fM : Addr} {fdI fdM : FuncData} (TA : ATxt K mg C) (MA : Mk K C fI) (D_init : FnOk P w K mg base CX0 1 fI fdI ["self", "machine"] (sp_init K C)) (bI : Binds K fdI ["self", "machine"] [])
    (D_moved : FnOk P w K mg base CX0 2 fM fdM ["self", "word", "string"] (sp_moved K C)) (m_moved : Meth K C "moved" fM) (b_moved : Binds K fdM ["self", "word", "string"] []) : DefOk P w K mg base CX0 3 "moved" ["machine", "word", "string"] (sp_movedF K) := by
  refine T.f_moved.ok sc_moved (fun vs H Q E h => ?_) (fun f cdv A outer s H vs Q E hr h => ?_)
  · obtain ⟨_, _, _, _, _, rfl, _⟩ := h; rfl
  · obtain ⟨m, k, rows, wd, ds, rfl, hd, hm, hw, hwl, hds, hdl, q⟩ := h
    have nd := sc_moved.nd
    refine ⟨_, (pss_one (ps_ret (pe_meth (pe_make MA D_init (hr.mono (by decide)) rfl TA.mgA bI .nil pass0 (pa_cons (pv 0) pa_nil)) TA.cl m_moved D_moved (hr.mono (by decide)) b_moved .nil pass0 (pa_cons (pv 1) (pa_cons (pv 2) pa_nil))))), ?_⟩
    refine ⟨_, rfl, fun x dx nx ndx ne => ?_⟩
    have sx : Same H (del (upd (upd H dx (.own x)) x (.ins C dx [])) x) := fun b o e => by
      have h1 : b ≠ x := ne_of_none e nx
      have h2 : b ≠ dx := ne_of_none e ndx
      rw [del_ne h1, upd_ne h1, upd_ne h2]
      exact e
    refine ⟨x, dx, m, k, rows, rfl, upd_same, Dp.mono sx hd, hm, fun H2 F2 old2 new2 ap2 hA => ⟨rfl, ?_⟩⟩
    have s2 : Same H H2 := fun b o e => old2 b o (ne_of_none e nx) (by rw [upd_ne (ne_of_none e nx), upd_ne (ne_of_none e ndx)]; exact e)
    have hA2 := hA.mono new2
    obtain ⟨dx', tb, kvs, a1, a2, a3⟩ := hA2
    refine ⟨x, dx', _, rfl, a1, af_no _ _ (by decide +kernel) (by decide +kernel), _, rfl, _, rfl, x, k, rows, wd, ds, rfl, hA.mono new2, hm, hw, hwl, hds, hdl, fun H3 F3 v nw hv => ?_⟩
    exact q H3 F3 v ⟨s2.trans nw.old, nw.new, fun b o e => nw.ap b o (s2 _ _ e)⟩ hv
/-! ### level_graph -/
def dW (ws : List (List Letter)) : PyData := .list (ws.map fun wd => .str (wtext wd))
def sp_level_graph (K : PySem.W.Frag) : Sp := fun vs H Q _ => ∃ (m wv : V) (k n : Nat) (rows : Rows) (ws : List (List Letter)), vs = [m, wv, iV n] ∧ Dp K H m (dM k rows) ∧ Dp K H wv (dW ws) ∧ MachOk k rows ∧ 1 ≤ ws.length ∧ ws.length ≤ 6 ∧ (∀ wd ∈ ws, WordOk rows wd ∧ wd.length ≤ 60) ∧ n ≤ 3 ∧
  ∀ H' F v, NewIn H H' F → Dp K F v (dG (levelG k rows ws n)) → Q v H'
theorem pow_small {k n : Nat} (hk : k ≤ 3) (hn : n ≤ 3) : k ^ n ≤ 27 := by
  have h1 : k ^ n ≤ 3 ^ n := Nat.pow_le_pow_left hk n
  have h2 : 3 ^ n ≤ 3 ^ 3 := Nat.pow_le_pow_right (by decide) hn
  have : (3 : Nat) ^ 3 = 27 := by decide
  omega
theorem Dp.words {H : Hp} {v : V} {ws : List (List Letter)} (h : Dp K H v (dW ws)) : ∃ a xs, v = .ref a ∧ SqL K H a xs ∧ xs.length = ws.length ∧ ∀ (i : Nat) (x : V), xs[i]? = some x → ∃ wd, ws[i]? = some wd ∧ x = .str (wtext wd) := by
  obtain ⟨a, xs, rfl, hs, hd⟩ := Dp.l h
  have := DpAll.length hd
  rw [List.length_map] at this
  refine ⟨a, xs, rfl, hs, this, fun i x hx => ?_⟩
  obtain ⟨d, h1, h2⟩ := DpAll.get hd hx
  rw [List.getElem?_map] at h1
  cases he : ws[i]? with
  | none => rw [he] at h1; cases h1
  | some wd =>
    rw [he] at h1
    cases h1
    exact ⟨wd, rfl, Dp.s h2⟩
theorem empty_word : ("" : Str) = wtext [] := by decide +kernel
theorem ok_level_graph (T : Txt K mg) (D_check_word : DefOk P w K mg base CX0 5 "check_word" ["machine", "word"] (sp_w K .non)) (D_power_of : DefOk P w K mg base CX0 1 "power_of" ["k", "n"] sp_power_of) (D_written : DefOk P w K mg base CX0 1 "written" ["k", "n", "number"] sp_written)
    (D_moved : DefOk P w K mg base CX0 3 "moved" ["machine", "word", "string"] (sp_movedF K)) (D_number_of : DefOk P w K mg base CX0 2 "number_of" ["k", "string"] sp_number_of) : DefOk P w K mg base CX0 6 "level_graph" ["machine", "words", "n"] (sp_level_graph K) := by
  refine T.f_level_graph.ok sc_level_graph (fun vs H Q E h => ?_) (fun f cdv A outer s H vs Q E hr h => ?_)
  · obtain ⟨_, _, _, _, _, _, rfl, _⟩ := h; rfl
  · obtain ⟨m, wv, k, n, rows, ws, rfl, hd, hwd, hm, w1, w6, hws, hn3, q⟩ := h
    have nd := sc_level_graph.nd
    have k2 := hm.k2
    have k3 := hm.k3
    have n4 := hm.n4
    obtain ⟨a, b, xs, rfl, ha, hb, hds, hl⟩ := Dp.mach hd
    obtain ⟨wa, wxs, rfl, hwa, hwl, hwi⟩ := Dp.words hwd
    have hp27 := pow_small k3 hn3
    refine ⟨_, (pss_cons (ps_expr (pe_callD D_check_word (hr.mono (by decide)) rfl (pa_cons (pv 0) (pa_cons pe_str pa_nil))))
      (pss_cons (ps_for ph rfl (pi_list (pv 1)) (pg_name (i := 3) nd rfl (Or.inr rfl)) 
        (pss_one (ps_expr (pe_callD D_check_word (hr.mono (by decide)) rfl (pa_cons (pv 0) (pa_cons (pv 3) pa_nil))))))
      (pss_cons (ps_if (PW.pt (pw_or (pt_not (pt_chain op_le op_le pe_int (pe_callB call_len_seq (by rfl) T.z_len bb_len (pa_cons (pv 1) pa_nil)) (pe_ci T.c_MOST_ROWS))) (pw_or1 (pt_cmpR op_lt (pv 2) pe_int (nomark _))))) (pss_one ps_never) pss_nil)
      (pss_cons (ps_set (i := 4) nd rfl (Or.inr rfl) (pe_ix ix_tup (pv 0) pe_int (fun _ _ => rfl)))
      (pss_cons (ps_if (PW.pt (pw_or (pt_cmpR op_gt (pv 2) (pe_ci T.c_MOST_LEVEL) (nomark _)) (pw_or1 (pt_cmpR op_gt (pe_callD D_power_of (hr.mono (by decide)) rfl (pa_cons (pv 4) (pa_cons (pv 2) pa_nil))) (pe_ci T.c_MOST_NUMBERS) (nomark _))))) (pss_one ps_never) pss_nil)
      (pss_cons (ps_set (i := 5) nd rfl (Or.inl rfl) (pe_lst pa_nil))
      (pss_cons (ps_setLc (i := 6) (own := [("number", 7)]) (g := (gName 7)) rfl nd rfl rfl (sw_true rfl rfl rfl (by decide +kernel)) (pi_range1 rfl T.z_range (pa_cons (pe_callD D_power_of (hr.mono (by decide)) rfl (pa_cons (pv 4) (pa_cons (pv 2) pa_nil))) pa_nil)) (blkOk_by (own := [("number", 7)]) (N := N_level_graph) (sc := defScope s_level_graph) (by decide +kernel)) (fun _ _ _ _ _ => (pg_name (i := 7) nd rfl (Or.inl rfl))) (fun _ _ _ _ _ => pts_nil) (fun _ _ _ _ _ => (pe_callD D_written (hr.mono (by decide)) rfl (pa_cons (pv 4) (pa_cons (pv 2) (pa_cons (pv 7) pa_nil))))))
      (pss_cons (ps_for ph rfl (pi_list (pv 1)) (pg_name (i := 3) nd rfl (Or.inr rfl)) 
        (pss_one (ps_expr (pe_bm PySem.F.plainAttrs_list PySem.F.slot_list_append PySem.F.type_list_append mt_append (pv 5) (pa_cons (pe_callTy call_tuple_of (by rfl) T.z_tuple bb_tuple (pa_cons (pe_lc (own := [("string", 8)]) (g := (gName 8)) rfl nd (pi_list (pv 6)) (blkOk_by (own := [("string", 8)]) (N := N_level_graph) (sc := defScope s_level_graph) (by decide +kernel)) (fun _ _ _ _ _ => (pg_name (i := 8) nd rfl (Or.inl rfl))) (fun _ _ _ _ _ => pts_nil) (fun _ _ _ _ _ => (pe_callD D_number_of (hr.mono (by decide)) rfl (pa_cons (pv 4) (pa_cons (pe_ix (r := rIxT K) ix_tup (pe_callD D_moved (hr.mono (by decide)) rfl (pa_cons (pv 0) (pa_cons (pv 3) (pa_cons (pv 8) pa_nil)))) pe_int (fun _ _ => rfl)) pa_nil))))) pa_nil)) pa_nil)))))
      (pss_one (ps_ret (pe_callTy call_tuple_of (by rfl) T.z_tuple bb_tuple (pa_cons (pv 5) pa_nil)))))))))))), ?_⟩
    -- check_word(machine, "")
    refine ⟨_, rfl, .ref a, k, rows, [], by rw [← empty_word]; rfl, hd, hm, (fun _ h => by cases h), Nat.zero_le _, fun H1 s1 => ?_⟩
    refine ⟨_, rfl, wa, rfl, ⟨_, s1.seq hwa⟩, for_list (K := K) (a := wa) (xs := wxs) (fun i σ H' => ∃ v3, σ = [some (.ref a), some (.ref wa), some (iV n), v3, none, none, none, none, none] ∧ Same H H') ⟨none, rfl, s1⟩ (fun _ _ _ _ ⟨_, _, s'⟩ => s'.seq hwa) ?_ ?_⟩
    · rintro i x σ H' hx ⟨v3, rfl, s'⟩
      obtain ⟨wd, h1, rfl⟩ := hwi i x hx
      obtain ⟨g1, g2⟩ := hws wd (List.mem_of_getElem? h1)
      exact ⟨_, rfl, _, rfl, .ref a, k, rows, wd, rfl, Dp.mono s' hd, hm, g1, g2, fun H2 s2 => ⟨_, rfl, s'.trans s2⟩⟩
    · rintro σ H2 ⟨v3, rfl, s2⟩
      refine ⟨_, rfl, wa, _, rfl, .inl (s2.seq hwa), _, _, rfl, rfl, _, rfl, ?_⟩
      refine ite2 (fun _ => ?_) (fun z => absurd (decide_eq_true (show (1 : Int) ≤ ((wxs.length : Nat) : Int) by omega)) z)
      refine ⟨_, _, rfl, rfl, _, rfl, ?_⟩
      refine iteNS (show ((wxs.length : Nat) : Int) ≤ 6 by omega) ?_
      refine ⟨_, rfl, _, _, rfl, rfl, _, rfl, ?_⟩
      refine ite2 (fun z => absurd (of_decide_eq_true z) (by omega)) (fun _ => ?_)
      -- k = machine[0]
      refine ⟨_, rfl, a, _, 0, _, rfl, rfl, Same.seqT s2 ha, at_of (j := 0) rfl rfl, ?_⟩
      refine ⟨_, rfl, _, _, rfl, rfl, _, rfl, ?_⟩
      refine ite2 (fun z => absurd (of_decide_eq_true z) (by omega)) (fun _ => ?_)
      refine ⟨_, rfl, _, rfl, k, n, rfl, by omega, by omega, fun H3 s3 => ⟨_, _, rfl, rfl, _, rfl, ?_⟩⟩
      refine ite2 (fun z => absurd (of_decide_eq_true z) (by omega)) (fun _ => ?_)
      -- rows = []
      refine ⟨Nat.zero_le _, fun D hD => ?_⟩
      have s23 := s2.trans s3
      have L0 : Loc H (upd H3 D (.lst [])) (upd LT.hn D (.lst [])) LT.hn := ((Loc.start H).same s23).made _ hD
      -- strings = [..]
      refine ⟨_, rfl, _, rfl, k, n, rfl, by omega, by omega, fun H4 s4 => ⟨_, rfl, by omega, by omega, fun D2 hD2 => ?_⟩⟩
      have L1 := L0.same s4
      have eN : ((k ^ n : Nat) : Int).toNat = k ^ n := toNat_n _
      rw [eN]
      refine lcR (fun i y F => y = .str (dg (digs k n i))) hD2 (by rw [sizeLine_eq]; omega) (fun _ _ _ _ _ h => h) (fun i H5 k' hi sm kk => ?_) (fun ys H5 F5 nw5 hF5 hyl hy => ?_)
      · exact ⟨rfl, _, rfl, _, rfl, _, rfl, k, n, i, rfl, by omega, by omega, by omega, fun H6 s6 => kk _ _ LT.hn (NewIn.of_same s6) rfl⟩
      · have L2 := L1.call nw5
        have hys : ys = (List.range (k ^ n)).map fun i => V.str (dg (digs k n i)) := ys_eq hyl hy
        have hD2F : SqL K (uni LT.hn F5) D2 ys := SqL.of (by rw [uni_r rfl]; exact hF5)
        have hstr : SqL K H5 D2 ys := SqL.of (nw5.new _ _ hF5)
        have nDD : D2 ≠ D := fun e => by subst e; have := L1.at_ (p := D2) upd_same; rw [hD2] at this; cases this
        refine ⟨_, rfl, wa, rfl, ⟨_, L2.old.seq hwa⟩, for_list (K := K) (a := wa) (xs := wxs) (fun i σ H' => ∃ v3 zs F, σ = [some (.ref a), some (.ref wa), some (iV n), v3, some (iV k), some (.ref D), some (.ref D2), none, none] ∧ Loc H H' (upd LT.hn D (.lst zs)) F ∧ Same F5 F ∧ DpAll K F zs ((ws.take i).map fun wd => dT (levelRow k rows n wd)))
          ⟨v3, [], uni LT.hn F5, rfl, L2, (fun b o e => by rw [uni_r rfl]; exact e), .nil⟩ (fun _ _ _ _ ⟨_, _, _, _, L, _⟩ => L.old.seq hwa) ?_ ?_⟩
        · rintro i x σ H6 hx ⟨v3', zs, F, rfl, L, sF, hz⟩
          obtain ⟨wd, h1, rfl⟩ := hwi i x hx
          obtain ⟨g1, g2⟩ := hws wd (List.mem_of_getElem? h1)
          have hD2H : SqL K H6 D2 ys := SqL.of (L.new _ _ (sF _ _ hF5))
          have hzl : zs.length ≤ 6 := by
            have := DpAll.length hz
            rw [List.length_map, List.length_take] at this
            omega
          refine ⟨_, rfl, .inl ⟨rfl, _, SqL.of (L.at_ upd_same)⟩, ?_⟩
          refine ⟨_, rfl, D2, rfl, ⟨_, hD2H⟩, fun D3 hD3 => lcL (fun i y F => y = iV (entry k rows wd n i)) hD3 hD2H (by rw [hyl, sizeLine_eq]; omega) (fun _ _ _ _ _ h => h) (fun j y H7 k' hy2 sm kk => ?_) (fun us H7 F7 nw7 hF7 hul hu => ?_)⟩
          · have hjl : j < k ^ n := by rw [← hyl]; exact (List.getElem?_eq_some_iff.mp hy2).1
            obtain rfl := hy j y hy2
            have hdl := digs_lt (k := k) (by omega) n j
            obtain ⟨m1, m2, m3, m4⟩ := hm.moveOk g1 hdl
            refine ⟨rfl, _, rfl, _, rfl, _, rfl, _, rfl, .ref a, k, rows, wd, digs k n j, rfl, Dp.mono (L.old.trans sm) hd, hm, g1, by omega, hdl, by rw [digs_length]; omega, fun H8 F8 v nw8 hv => ?_⟩
            obtain ⟨e, es, rfl, hes, hde⟩ := Dp.t hv
            cases hde with
            | cons c1 r1 =>
              cases r1 with
              | cons c2 r2 =>
                cases r2
                have c1 := Dp.s c1
                have c2 := Dp.s c2
                subst c1
                subst c2
                refine ⟨e, _, 0, _, rfl, rfl, Same.seqT nw8.new hes, at_of (j := 0) rfl rfl, k, (moveW k rows wd (digs k n j)).1, rfl, k2, by omega, by rw [m3, digs_length]; omega, m1, fun H9 s9 => kk _ _ LT.hn (NewIn.of_same (nw8.old.trans s9)) rfl⟩
          · have L3 := L.call nw7
            have hus : us = (levelRow k rows n wd).map iV := by
              rw [ys_eq hul hu, hyl]
              unfold levelRow
              rw [List.map_map]
              rfl
            refine ⟨D3, us, rfl, .inl ⟨SqL.of (nw7.new _ _ hF7), fun p hp => ?_⟩⟩
            have L4 := L3.fix (.tup us) hp
            have hpF := L3.ffree hp
            refine ⟨D, zs, .ref p, rfl, rfl, L4.at_ upd_same, by rw [sizeLine_eq]; omega, ?_⟩
            have L5 := L4.wr (p := D) upd_same (.lst (zs ++ [.ref p]))
            rw [upd_upd] at L5
            refine ⟨some (.str (wtext wd)), zs ++ [.ref p], upd (uni F F7) p (.tup us), rfl, L5, (sF.trans (Same.uni_l F F7)).trans (Same.upd hpF), ?_⟩
            rw [take_succ_get h1, List.map_append]
            refine DpAll.snoc (DpAll.mono ((Same.uni_l F F7).trans (Same.upd hpF)) hz) (.tup (SqT.of upd_same) ?_)
            rw [hus]
            exact DpAll.of_ints _
        · rintro σ H6 ⟨v3', zs, F, rfl, L, sF, hz⟩
          refine ⟨_, rfl, D, zs, rfl, .inl ⟨SqL.of (L.at_ upd_same), fun p hp => ?_⟩⟩
          have L2 := L.fix (.tup zs) hp
          have hpF := L.ffree hp
          refine q _ _ _ L2.drop (.tup (SqT.of upd_same) ?_)
          rw [hwl, List.take_length] at hz
          have e : (ws.map fun wd => dT (levelRow k rows n wd)) = (levelG k rows ws n).map dT := by unfold levelG; rw [List.map_map]; rfl
          rw [e] at hz
          exact DpAll.mono (Same.upd hpF) hz
end
end LT
set_option Elab.async false
set_option linter.all false
set_option maxRecDepth 100000
set_option maxHeartbeats 2000000
namespace LT
open PySem PySem.Spec PyProof.Rows L2
theorem del_upd {M : Hp} {p : Addr} {o : HO} (h : M p = none) : del (upd M p o) p = M := by
  funext b
  by_cases c : b = p
  · subst c
    rw [del_same, h]
  · rw [del_ne c, upd_ne c]
theorem upd_swap {M : Hp} {a b : Addr} {o u : HO} (h : a ≠ b) : upd (upd M a o) b u = upd (upd M b u) a o := by
  funext c
  by_cases c1 : c = a
  · subst c1
    rw [upd_ne h, upd_same, upd_same]
  · by_cases c2 : c = b
    · subst c2
      rw [upd_same, upd_ne c1, upd_same]
    · rw [upd_ne c2, upd_ne c1, upd_ne c1, upd_ne c2]
theorem Loc.wr2 {H0 H M F : Hp} {p : Addr} {o : HO} (L : Loc H0 H (upd M p o) F) (o' : HO) : Loc H0 (upd H p o') (upd M p o') F := by
  have := L.wr (p := p) upd_same o'
  rw [show upd (upd M p o) p o' = upd M p o' from upd_upd] at this
  exact this
theorem ixN_nat {n i : Nat} (h : i < n) : ixN n (i : Int) = some i := by
  unfold ixN
  rw [if_pos (Int.natCast_nonneg i), if_pos (by omega), toNat_n]
theorem rep_ints (N : Nat) : (List.replicate N [V.int 0]).flatten = (List.replicate N 0).map iV := by
  induction N with
  | zero => rfl
  | succ n ih => rw [List.replicate_succ, List.flatten_cons, ih, List.replicate_succ, List.map_cons]; rfl
theorem at_iV {ns : List Nat} {i y : Nat} (h : ns[i]? = some y) : (ns.map iV)[i]? = some (iV y) := by
  rw [List.getElem?_map, h]
  rfl
section
variable {P : Program} {w : World} {K : PySem.W.Frag} {mg : Str → Option Value} {base : Heap}
def sp_backs (K : PySem.W.Frag) : Sp := fun vs H Q _ => ∃ (g : V) (G : List (List Nat)) (N : Nat), vs = [g] ∧ Dp K H g (dG G) ∧ GraphOk G N ∧ N < 64 ∧ ∀ H' F v Bs, NewIn H H' F → Dp K F v (dLL Bs) → BacksOf G N Bs → Q v H'
theorem ok_backs (T : Txt K mg) : DefOk P w K mg base CX0 1 "_backs" ["graph"] (sp_backs K) := by
  refine T.f_backs.ok sc_backs (fun vs H Q E h => ?_) (fun f cdv A outer s H vs Q E hr h => ?_)
  · obtain ⟨_, _, _, rfl, _⟩ := h; rfl
  · obtain ⟨g, G, N, rfl, hd, hg, hN, q⟩ := h
    have nd := sc_backs.nd
    obtain ⟨a, xs, rfl, ha, hl, item, itemG⟩ := Dp.rows hd
    have g6 := hg.hi
    refine ⟨_, (pss_cons (ps_set (i := 1) nd rfl (Or.inl rfl) (pe_lst pa_nil))
      (pss_cons (ps_for ph rfl (pi_tup (pv 0)) (pg_name (i := 2) nd rfl (Or.inl rfl)) 
        (pss_cons (ps_set (i := 3) nd rfl (Or.inl rfl) (pe_op op_rep (pe_lst (pa_cons pe_int pa_nil)) (pe_callB call_len_seq (by rfl) T.z_len bb_len (pa_cons (pv 2) pa_nil))))
        (pss_cons (ps_for ph rfl (pi_enumT (by rfl) T.z_enumerate (pa_cons (pv 2) pa_nil)) (pg_tup rfl (pgs_cons (pg_name (i := 4) nd rfl (Or.inl rfl)) (pgs_cons (pg_name (i := 5) nd rfl (Or.inl rfl)) pgs_nil))) 
          (pss_one (ps_asg (pv 4) (pg_sub (pv 3) (pv 5) set_list))))
        (pss_one (ps_expr (pe_bm PySem.F.plainAttrs_list PySem.F.slot_list_append PySem.F.type_list_append mt_append (pv 1) (pa_cons (pv 3) pa_nil)))))))
      (pss_one (ps_ret (pv 1))))), ?_⟩
    refine ⟨Nat.zero_le _, fun D hD => ?_⟩
    refine ⟨_, rfl, a, rfl, ⟨_, (Same.upd hD |> fun s => Same.seqT s ha)⟩, for_tup (K := K) (a := a) (xs := xs) (fun i σ H' => ∃ v2 v3 v4 v5 Bs zs F, σ = [some (.ref a), some (.ref D), v2, v3, v4, v5] ∧ Loc H H' (upd LT.hn D (.lst zs)) F ∧ DpAll K F zs (Bs.map dL) ∧ Bs.length = i ∧
      ∀ (j : Nat) (row bk : List Nat), G[j]? = some row → Bs[j]? = some bk → bk.length = N ∧ ∀ x y : Nat, row[x]? = some y → bk[y]? = some x)
      ⟨none, none, none, none, [], [], LT.hn, rfl, (Loc.start H).made _ hD, .nil, rfl, fun j row bk _ h => by simp at h⟩ (fun i σ H' _ ⟨_, _, _, _, _, _, _, _, L, _⟩ => Same.seqT L.old ha) ?_ ?_⟩
    · rintro i x σ H' hx ⟨v2, v3, v4, v5, Bs, zs, F, rfl, L, hz, hB, inv⟩
      obtain ⟨r, row, hrow, rfl, hrr⟩ := item i x hx
      have hmem := List.mem_of_getElem? hrow
      have hrl := hg.len hmem
      have hzl : zs.length ≤ 6 := by
        have h1 := DpAll.length hz
        rw [List.length_map, hB] at h1
        have h2 := (List.getElem?_eq_some_iff.mp hx).1
        omega
      refine ⟨by show 1 ≤ sizeLine; decide, fun l hl0 => ?_⟩
      have L1 := L.fix (.lst [.int 0]) hl0
      refine ⟨_, rfl, r, _, rfl, .inr (Same.seqT L1.old hrr), l, (((row.map iV).length : Nat) : Int), [.int 0], rfl, rfl, upd_same, by omega, by rw [List.length_map, hrl]; omega, ?_, fun p hp => ?_⟩
      · show 1 * ((((row.map iV).length : Nat) : Int)).toNat ≤ sizeLine
        rw [toNat_n, List.length_map, hrl, sizeLine_eq]; omega
      have L2 := L1.made (.lst (List.replicate ((((row.map iV).length : Nat) : Int)).toNat [V.int 0]).flatten) hp
      have npD : p ≠ D := fun e => by rw [e] at hp; have := L1.at_ (p := D) upd_same; rw [hp] at this; cases this
      have sl : Same F (upd F l (.lst [.int 0])) := Same.upd (L.ffree hl0)
      refine ⟨_, rfl, r, _, rfl, Same.seqT L2.old hrr, for_enumT (fun j σ H' => ∃ w4 w5 nb F', σ = [some (.ref a), some (.ref D), some (.ref r), some (.ref p), w4, w5] ∧ Loc H H' (upd (upd LT.hn D (.lst zs)) p (.lst (nb.map iV))) F' ∧ Same F F' ∧ nb.length = N ∧
        ∀ b y : Nat, b < j → row[b]? = some y → nb[y]? = some b) ⟨v4, v5, List.replicate N 0, _, rfl, ?_, sl, List.length_replicate, fun b y hb => absurd hb (Nat.not_lt_zero _)⟩ (fun j σ H' ⟨_, _, _, _, _, L, _⟩ => Same.seqT L.old hrr) ?_ ?_⟩
      · rw [toNat_n, List.length_map, hrl, rep_ints] at L2
        rw [toNat_n, List.length_map, hrl, rep_ints]
        exact L2
      · rintro j y T2 σ H5 hy ⟨w4, w5, nb, F', rfl, N1, sF, hnl, binv⟩ hT2
        rw [List.getElem?_map] at hy
        cases hrj : row[j]? with
        | none => rw [hrj] at hy; cases hy
        | some e =>
          rw [hrj] at hy
          cases hy
          have heN := hg.lt hmem (List.mem_of_getElem? hrj)
          have N2 := N1.fix (.tup [.int (j : Nat), iV e]) hT2
          refine ⟨T2, _, rfl, SqT.of upd_same, rfl, _, _, rfl, _, _, rfl, rfl, ?_⟩
          refine ⟨_, rfl, _, rfl, _, rfl, p, _, (e : Int), e, rfl, rfl, N2.at_ upd_same, ixN_nat (by rw [List.length_map, hnl]; exact heN), ?_⟩
          have N3 := N2.wr (p := p) upd_same (.lst ((nb.map iV).set e (V.int (j : Nat))))
          rw [upd_upd] at N3
          have em : (nb.map iV).set e (V.int (j : Nat)) = (nb.set e j).map iV := by rw [List.map_set]; rfl
          refine ⟨some (iV j), some (iV e), nb.set e j, _, rfl, by rw [← em]; exact N3, sF.trans (Same.upd (N1.ffree hT2)), by rw [List.length_set]; exact hnl, fun b y hb hby => ?_⟩
          by_cases c : b = j
          · subst c
            rw [hrj] at hby
            cases hby
            exact List.getElem?_set_self (by rw [hnl]; exact heN)
          · have hne : e ≠ y := fun z => by
              subst z
              exact c (nodup_at (hg.nodup hmem) hby hrj)
            rw [List.getElem?_set_ne hne]
            exact binv b y (by omega) hby
      · rintro σ H5 ⟨w4, w5, nb, F', rfl, N1, sF, hnl, binv⟩
        rw [List.length_map, hrl] at binv
        refine ⟨_, rfl, .inl ⟨rfl, _, SqL.of (N1.at_ (by rw [upd_ne npD.symm, upd_same]))⟩, _, rfl, D, zs, _, rfl, rfl, N1.at_ (by rw [upd_ne npD.symm, upd_same]), by rw [sizeLine_eq]; omega, ?_⟩
        have N2 := N1.wr (p := D) (by rw [upd_ne npD.symm, upd_same]) (.lst (zs ++ [.ref p]))
        rw [upd_swap npD, upd_upd] at N2
        have N3 := N2.freeze (p := p) upd_same
        rw [del_upd (by rw [upd_ne npD])] at N3
        have sP : Same F' (upd F' p (.lst (nb.map iV))) := Same.upd (N1.nf (p := p) upd_same)
        refine ⟨some (.ref r), some (.ref p), w4, w5, Bs ++ [nb], zs ++ [.ref p], _, rfl, N3, ?_, by rw [List.length_append, hB]; rfl, fun j row' bk hj hb => ?_⟩
        · rw [List.map_append]
          exact DpAll.snoc (DpAll.mono (sF.trans sP) hz) (.lst (SqL.of upd_same) (DpAll.of_ints nb))
        · by_cases c : j < Bs.length
          · rw [List.getElem?_append_left c] at hb
            exact inv j row' bk hj hb
          · have e : j = Bs.length := by
              have := (List.getElem?_eq_some_iff.mp hb).1
              rw [List.length_append, List.length_singleton] at this
              omega
            subst e
            rw [List.getElem?_append_right (Nat.le_refl _), Nat.sub_self] at hb
            cases hb
            rw [hB, hrow] at hj
            cases hj
            refine ⟨hnl, fun x y hxy => binv x y ?_ hxy⟩
            rw [← hrl]
            exact (List.getElem?_eq_some_iff.mp hxy).1
    · rintro σ H' ⟨v2, v3, v4, v5, Bs, zs, F, rfl, L, hz, hB, inv⟩
      have L2 := L.freeze (p := D) upd_same
      refine ⟨_, rfl, q _ _ _ Bs L2.drop (.lst (SqL.of upd_same) (DpAll.mono (Same.upd (L.nf (p := D) upd_same)) hz)) ⟨by rw [hB, hl], inv⟩⟩
/-! ### _steps -/
def sp_steps (K : PySem.W.Frag) : Sp := fun vs H Q _ => ∃ (g b : V) (x : Nat) (G Bs : List (List Nat)) (N : Nat), vs = [g, b, iV x] ∧ Dp K H g (dG G) ∧ Dp K H b (dLL Bs) ∧ GraphOk G N ∧ N < 64 ∧ BacksOf G N Bs ∧ x < N ∧
  ∀ H' F v ns, NewIn H H' F → Dp K F v (dL ns) → (∀ y, y ∈ ns ↔ Adj G x y) → Q v H'
theorem ok_steps (T : Txt K mg) : DefOk P w K mg base CX0 1 "_steps" ["graph", "backs", "number"] (sp_steps K) := by
  refine T.f_steps.ok sc_steps (fun vs H Q E h => ?_) (fun f cdv A outer s H vs Q E hr h => ?_)
  · obtain ⟨_, _, _, _, _, _, rfl, _⟩ := h; rfl
  · obtain ⟨g, b, x, G, Bs, N, rfl, hd, hb, hg, hN, hB, hx, q⟩ := h
    have nd := sc_steps.nd
    obtain ⟨a, xs, rfl, ha, hl, item, itemG⟩ := Dp.rows hd
    obtain ⟨ba, ys, rfl, hba, hbd⟩ := Dp.l hb
    have hbl : ys.length = Bs.length := by
      have := DpAll.length hbd
      rw [List.length_map] at this
      exact this
    have g6 := hg.hi
    refine ⟨_, (pss_cons (ps_set (i := 3) nd rfl (Or.inl rfl) (pe_lst pa_nil))
      (pss_cons (ps_for ph rfl (pi_zipM (by rfl) T.z_zip (pa_cons (pv 0) (pa_cons (pv 1) pa_nil))) (pg_tup rfl (pgs_cons (pg_name (i := 4) nd rfl (Or.inl rfl)) (pgs_cons (pg_name (i := 5) nd rfl (Or.inl rfl)) pgs_nil))) 
        (pss_cons (ps_expr (pe_bm PySem.F.plainAttrs_list PySem.F.slot_list_append PySem.F.type_list_append mt_append (pv 3) (pa_cons (pe_ix ix_tup (pv 4) (pv 2) (fun _ _ => rfl)) pa_nil)))
        (pss_one (ps_expr (pe_bm PySem.F.plainAttrs_list PySem.F.slot_list_append PySem.F.type_list_append mt_append (pv 3) (pa_cons (pe_ix ix_list (pv 5) (pv 2) (fun _ _ => rfl)) pa_nil))))))
      (pss_one (ps_ret (pv 3))))), ?_⟩
    refine ⟨Nat.zero_le _, fun D hD => ?_⟩
    have sD : Same H (upd H D (.lst [])) := Same.upd hD
    refine ⟨_, rfl, _, rfl, a, ba, _, _, rfl, Same.seqT sD ha, sD.seq hba, for_zipM (by rw [hl, hbl, hB.1]) (fun i σ H' => ∃ v4 v5 ns F, σ = [some (.ref a), some (.ref ba), some (iV x), some (.ref D), v4, v5] ∧ Loc H H' (upd LT.hn D (.lst (ns.map iV))) F ∧ ns.length = 2 * i ∧
      ∀ y, y ∈ ns ↔ ∃ (j : Nat) (row : List Nat), j < i ∧ G[j]? = some row ∧ (row[x]? = some y ∨ row[y]? = some x))
      ⟨none, none, [], LT.hn, rfl, (Loc.start H).made _ hD, rfl, fun y => ⟨fun h => (by cases h), fun ⟨j, _, hj, _⟩ => absurd hj (Nat.not_lt_zero _)⟩⟩ (fun i σ H' ⟨_, _, _, _, _, L, _⟩ => ⟨Same.seqT L.old ha, L.old.seq hba⟩) ?_ ?_⟩
    · rintro i y z T1 σ H' hy hz ⟨v4, v5, ns, F, rfl, L, hnl, inv⟩ hT1
      obtain ⟨r, row, hrow, rfl, hrr⟩ := item i y hy
      obtain ⟨d, e1, e2⟩ := DpAll.get hbd hz
      rw [List.getElem?_map] at e1
      cases hbk : Bs[i]? with
      | none => rw [hbk] at e1; cases e1
      | some bk =>
        rw [hbk] at e1
        cases e1
        obtain ⟨t, rfl, ht⟩ := Dp.li e2
        have hmem := List.mem_of_getElem? hrow
        have hi6 : i < 6 := by
          have := (List.getElem?_eq_some_iff.mp hrow).1
          omega
        obtain ⟨y1, hy1, _⟩ := hg.at_ hmem hx
        obtain ⟨x0, hx0, _⟩ := hg.back hmem hx
        have hbx : bk[x]? = some x0 := (back_iff hg hB hrow hbk x0 x).mpr hx0
        have L1 := L.fix (.tup [.ref r, .ref t]) hT1
        refine ⟨T1, _, rfl, SqT.of upd_same, rfl, _, _, rfl, _, _, rfl, rfl, ?_⟩
        refine ⟨_, rfl, .inl ⟨rfl, _, SqL.of (L1.at_ upd_same)⟩, _, rfl, _, rfl, r, _, _, _, rfl, rfl, Same.seqT L1.old hrr, at_of rfl (at_iV hy1), D, _, _, rfl, rfl, L1.at_ upd_same, by rw [List.length_map, hnl, sizeLine_eq]; omega, ?_⟩
        have L2 := L1.wr (p := D) upd_same (.lst (ns.map iV ++ [iV y1]))
        rw [upd_upd] at L2
        refine ⟨_, rfl, .inl ⟨rfl, _, SqL.of (L2.at_ upd_same)⟩, _, rfl, _, rfl, t, _, _, _, rfl, rfl, L2.old.seq ht, at_of rfl (at_iV hbx), D, _, _, rfl, rfl, L2.at_ upd_same, by rw [List.length_append, List.length_map, hnl, sizeLine_eq]; show 2 * i + 1 < _; omega, ?_⟩
        have L3 := L2.wr2 (.lst (ns.map iV ++ [iV y1] ++ [iV x0]))
        refine ⟨some (.ref r), some (.ref t), ns ++ [y1] ++ [x0], _, rfl, by rw [List.map_append, List.map_append]; exact L3, by rw [List.length_append, List.length_append, hnl]; show 2 * i + 1 + 1 = _; omega, fun y => ?_⟩
        rw [List.mem_append, List.mem_append, List.mem_singleton, List.mem_singleton, inv]
        constructor
        · rintro ((⟨j, row', hj, h1, h2⟩ | rfl) | rfl)
          · exact ⟨j, row', by omega, h1, h2⟩
          · exact ⟨i, row, by omega, hrow, .inl hy1⟩
          · exact ⟨i, row, by omega, hrow, .inr hx0⟩
        · rintro ⟨j, row', hj, h1, h2⟩
          by_cases c : j < i
          · exact .inl (.inl ⟨j, row', c, h1, h2⟩)
          · have : j = i := by omega
            subst this
            rw [hrow] at h1
            cases h1
            rcases h2 with h2 | h2
            · rw [hy1] at h2
              cases h2
              exact .inl (.inr rfl)
            · exact .inr (nodup_at (hg.nodup hmem) h2 hx0)
    · rintro σ H' ⟨v4, v5, ns, F, rfl, L, hnl, inv⟩
      have L2 := L.freeze (p := D) upd_same
      refine ⟨_, rfl, q _ _ _ ns L2.drop (.lst (SqL.of upd_same) (DpAll.of_ints ns)) fun y => ?_⟩
      rw [inv, hl]
      constructor
      · rintro ⟨j, row, _, h1, h2⟩
        exact ⟨row, List.mem_of_getElem? h1, h2⟩
      · rintro ⟨row, hr', h2⟩
        obtain ⟨j, hj, e⟩ := List.mem_iff_getElem.mp hr'
        exact ⟨j, row, hj, by rw [List.getElem?_eq_getElem hj, e], h2⟩
end
end LT
set_option Elab.async false
set_option linter.all false
set_option maxRecDepth 100000
set_option maxHeartbeats 4000000
namespace LT
open PySem PySem.Spec PyProof.Rows L2
/-! ### a dict of numbers, all True -/
def kv (ks : List Nat) : List (Key × V) := ks.map fun (n : Nat) => (Sum.inl (n : Int), V.bl true)
theorem valV_kv (y : Nat) : ∀ ks : List Nat, valV (kv ks) (Sum.inl (y : Int)) = if y ∈ ks then some (.bl true) else none
  | [] => rfl
  | k :: ks => by
    have ih := valV_kv y ks
    show valV ((Sum.inl (k : Int), V.bl true) :: kv ks) _ = _
    by_cases h : k = y
    · subst h
      rw [valV_pos rfl, if_pos List.mem_cons_self]
    · rw [valV_neg (fun z => h (by have := Sum.inl.inj z; omega)), ih]
      by_cases c : y ∈ ks
      · rw [if_pos c, if_pos (List.mem_cons_of_mem _ c)]
      · rw [if_neg c, if_neg (fun z => by rcases List.mem_cons.mp z with z | z; exact h z.symm; exact c z)]
theorem kv_put {ks : List Nat} {y : Nat} (h : y ∉ ks) : putK (kv ks) (Sum.inl (y : Int)) (.bl true) = kv (ks ++ [y]) := by
  rw [putK_new _ (by rw [valV_kv, if_neg h])]
  unfold kv
  rw [List.map_append]
  rfl
theorem kv_length (ks : List Nat) : (kv ks).length = ks.length := by unfold kv; rw [List.length_map]
theorem at_last {α : Type} {zs : List α} {m : Nat} {v : α} (hl : zs.length = m + 1) (h : zs[m]? = some v) : atI zs (-1) = some v := by
  have e : zs = zs.take m ++ [v] := by
    rw [← take_succ_get h, ← hl, List.take_length]
  rw [e]
  exact atI_last _ _
theorem cut_last {zs : List V} {m : Nat} (hl : zs.length = m + 1) : cutV zs none (some (-1)) = zs.take m := by
  unfold cutV
  rw [HT.sIx_none, List.drop_zero, Nat.sub_zero, hl]
  congr 1
  unfold HT.sIx
  simp
  try omega
/-- what the search changes: the dict, the list of layers -/
def MM (Mt D : Addr) (kvs : List (Key × V)) (zs : List V) : Hp := upd (upd LT.hn Mt (.dK kvs)) D (.lst zs)
section
variable {Mt D p : Addr} {kvs kvs' : List (Key × V)} {zs zs' : List V} {o : HO}
theorem MM_D : MM Mt D kvs zs D = some (.lst zs) := upd_same
theorem MM_M (h : Mt ≠ D) : MM Mt D kvs zs Mt = some (.dK kvs) := by unfold MM; rw [upd_ne h, upd_same]
theorem MM_p (h1 : p ≠ Mt) (h2 : p ≠ D) : MM Mt D kvs zs p = none := by unfold MM; rw [upd_ne h2, upd_ne h1]
theorem MM_put (h : Mt ≠ D) : upd (MM Mt D kvs zs) Mt (.dK kvs') = MM Mt D kvs' zs := by
  unfold MM
  rw [upd_swap (fun z => h z.symm), show upd (upd LT.hn Mt (HO.dK kvs)) Mt (HO.dK kvs') = upd LT.hn Mt (.dK kvs') from upd_upd]
theorem MM_app : upd (MM Mt D kvs zs) D (.lst zs') = MM Mt D kvs zs' := by unfold MM; exact upd_upd
end
section
variable {P : Program} {w : World} {K : PySem.W.Frag} {mg : Str → Option Value} {base : Heap}
/-- between two rounds of the search -/
def LyW (K : PySem.W.Frag) (g vb : V) (x N : Nat) (G : List (List Nat)) (H F1 : Hp) (Mt D : Addr) (μ : Nat) (σ : L2.St) (H' : Hp) : Prop :=
  ∃ m Ls ks zs F v5 v6 v7, σ = [some g, some (iV x), some vb, some (.ref Mt), some (.ref D), v5, v6, v7] ∧ Loc H H' (MM Mt D (kv ks) zs) F ∧ Same F1 F ∧ DpAll K F zs (Ls.map dL) ∧ BfsInv G x m Ls ks ∧ m + (if Ls[m]? = some [] then 0 else 1) ≤ ks.length ∧ μ = 2 * (N - ks.length) + (if Ls[m]? = some [] then 0 else 1)
def sp_lays (K : PySem.W.Frag) : Sp := fun vs H Q _ => ∃ (g : V) (x : Nat) (G : List (List Nat)) (N : Nat), vs = [g, iV x] ∧ Dp K H g (dG G) ∧ GraphOk G N ∧ N < 64 ∧ x < N ∧ ∀ H' F v Ls, NewIn H H' F → Dp K F v (dLL Ls) → IsLayers G x Ls → Q v H'
theorem ok_lays (T : Txt K mg) (D_backs : DefOk P w K mg base CX0 1 "_backs" ["graph"] (sp_backs K)) (D_steps : DefOk P w K mg base CX0 1 "_steps" ["graph", "backs", "number"] (sp_steps K)) : DefOk P w K mg base CX0 2 "_layers" ["graph", "number"] (sp_lays K) := by
  refine T.f_lays.ok sc_lays (fun vs H Q E h => ?_) (fun f cdv A outer s H vs Q E hr h => ?_)
  · obtain ⟨_, _, _, _, rfl, _⟩ := h; rfl
  · obtain ⟨g, x, G, N, rfl, hd, hg, hN, hx, q⟩ := h
    have nd := sc_lays.nd
    refine ⟨_, (pss_cons (ps_set (i := 2) nd rfl (Or.inl rfl) (pe_callD D_backs (hr.mono (by decide)) rfl (pa_cons (pv 0) pa_nil)))
      (pss_cons (ps_set (i := 3) nd rfl (Or.inl rfl) (pe_disp (pps_cons (pv 1) pe_bl pps_nil) (by rfl) (by rfl) (fun z => by cases z) (by decide)))
      (pss_cons (ps_set (i := 4) nd rfl (Or.inl rfl) (pe_lst (pa_cons (pe_lst (pa_cons (pv 1) pa_nil)) pa_nil)))
      (pss_cons (ps_while ph (pt_truth (pe_ix ix_list (pv 4) (pe_un un_neg pe_int) (fun _ _ => rfl)) (by intro _; rfl)) 
        (pss_cons (ps_set (i := 5) nd rfl (Or.inl rfl) (pe_lst pa_nil))
        (pss_cons (ps_for ph rfl (pi_list (pe_ix ix_list (pv 4) (pe_un un_neg pe_int) (fun _ _ => rfl))) (pg_name (i := 6) nd rfl (Or.inl rfl)) 
          (pss_one (ps_for ph rfl (pi_list (pe_callD D_steps (hr.mono (by decide)) rfl (pa_cons (pv 0) (pa_cons (pv 2) (pa_cons (pv 6) pa_nil))))) (pg_name (i := 7) nd rfl (Or.inl rfl)) 
            (pss_one (ps_if (pt_cmp (pc_dnotin (hu_of hr) (pv 7) (pv 3))) (pss_cons (ps_dput (hu_of hr) (pv 3) (pv 7) pe_bl rfl)
              (pss_one (ps_expr (pe_bm PySem.F.plainAttrs_list PySem.F.slot_list_append PySem.F.type_list_append mt_append (pv 5) (pa_cons (pv 7) pa_nil))))) pss_nil)))))
        (pss_one (ps_expr (pe_bm PySem.F.plainAttrs_list PySem.F.slot_list_append PySem.F.type_list_append mt_append (pv 4) (pa_cons (pe_callB cr_sorted (by rfl) T.z_sorted bb_sorted (pa_cons (pv 5) pa_nil)) pa_nil)))))))
      (pss_one (ps_ret (pe_slice sl_list (pv 4) po_none (po_some (pe_un un_neg pe_int))))))))), ?_⟩
    -- backs, met, layers
    refine ⟨_, rfl, g, G, N, rfl, hd, hg, hN, fun H1 F1 vb Bs nw1 hvb hB => ?_⟩
    have L0 : Loc H H1 LT.hn (uni LT.hn F1) := (Loc.start H).call nw1
    have sF1 : Same F1 (uni LT.hn F1) := fun b o e => by rw [uni_r rfl]; exact e
    refine fun Mt hMt => ⟨_, rfl, upd_same, [(Sum.inl (x : Int), .bl true)], rfl, by show 1 ≤ 15; decide, ?_⟩
    have L1 := (L0.made (.dK []) hMt).wr2 (.dK (mergeK [] [(Sum.inl (x : Int), .bl true)]))
    refine ⟨_, rfl, by show 1 ≤ sizeLine; decide, fun p0 hp0 => ⟨by show 1 ≤ sizeLine; decide, fun D hD => ?_⟩⟩
    have L2 := L1.fix (.lst [iV x]) hp0
    have nMD : Mt ≠ D := fun e => by rw [← e] at hD; have := L2.at_ (p := Mt) upd_same; rw [hD] at this; cases this
    have L3 : Loc H _ (MM Mt D (kv [x]) [.ref p0]) (upd (uni LT.hn F1) p0 (.lst [iV x])) := L2.made (.lst [.ref p0]) hD
    have s03 : Same (uni LT.hn F1) (upd (uni LT.hn F1) p0 (.lst [iV x])) := Same.upd (L1.ffree hp0)
    refine ⟨LyW K g vb x N G H (uni LT.hn F1) Mt D, ⟨_, 0, [[x]], [x], [.ref p0], _, none, none, none, rfl, L3, s03, .cons (.lst (SqL.of upd_same) (DpAll.of_ints [x])) .nil, BfsInv.start, by simp, rfl⟩, ?_⟩
    rintro μ σ H' ⟨m, Ls, ks, zs, F, v5, v6, v7, rfl, L, sF, hz, hb, hmk, rfl⟩
    have hLl := hb.len
    have hzl : zs.length = m + 1 := by
      have := DpAll.length hz
      rw [List.length_map] at this
      omega
    have hkN := hb.bound hg hx
    obtain ⟨last, hlast⟩ : ∃ last, Ls[m]? = some last := ⟨Ls[m]'(by omega), List.getElem?_eq_getElem _⟩
    obtain ⟨zl, hzm, hdl⟩ := DpAll.getD hz (i := m) (d := dL last) (by rw [List.getElem?_map, hlast]; rfl)
    obtain ⟨t, rfl, ht⟩ := Dp.li hdl
    have hlastN : ∀ y ∈ last, y < N := fun y hy => hg.reach hx (((hb.lay m last hlast).2 y).mp hy).1
    refine ⟨_, rfl, _, rfl, D, zs, -1, _, rfl, rfl, SqL.of (L.at_ MM_D), at_last hzl hzm, !(last.map iV).isEmpty, .inl ⟨_, L.new.seq ht, rfl⟩, ?_⟩
    by_cases hne : last = []
    case pos =>
      subst hne
      refine iteF ?_
      refine ⟨_, rfl, _, rfl, _, rfl, D, zs, rfl, SqL.of (L.at_ MM_D), fun p hp => ?_⟩
      have e : cutV zs none (some (-1)) = zs.take m := cut_last hzl
      show Q (.ref p) (upd H' p (.lst (cutV zs none (some (-1)))))
      rw [e]
      have L4 := L.fix (.lst (zs.take m)) hp
      refine q _ _ _ Ls.dropLast L4.drop (.lst (SqL.of upd_same) ?_) (hb.fin hlast)
      have e2 : Ls.dropLast = Ls.take m := by rw [List.dropLast_eq_take, hLl]; rfl
      rw [e2, List.map_take]
      exact DpAll.mono (Same.upd (L.ffree hp)) (DpAll.take m hz)
    case neg =>
      have eT : (!(last.map iV).isEmpty) = true := by
        cases last with
        | nil => exact absurd rfl hne
        | cons _ _ => rfl
      rw [eT]
      refine iteT ⟨fun σ' H' => ∃ m', m' < 2 * (N - ks.length) + (if Ls[m]? = some [] then 0 else 1) ∧ LyW K g vb x N G H (uni LT.hn F1) Mt D m' σ' H', fun _ _ h => h, ?_⟩
      -- following = []
      refine ⟨Nat.zero_le _, fun Fo hFo => ?_⟩
      have nFM : Fo ≠ Mt := fun e => by rw [e] at hFo; have := L.at_ (p := Mt) (MM_M nMD); rw [hFo] at this; cases this
      have nFD : Fo ≠ D := fun e => by rw [e] at hFo; have := L.at_ (p := D) MM_D; rw [hFo] at this; cases this
      have L5 := L.made (.lst []) hFo
      -- for one in layers[-1]
      refine ⟨_, rfl, _, rfl, D, zs, -1, _, rfl, rfl, SqL.of (L5.at_ (by rw [upd_ne nFD.symm]; exact MM_D)), at_last hzl hzm, t, rfl, ⟨_, L5.new.seq ht⟩, for_list (K := K) (a := t) (xs := last.map iV) (fun i σ H' => ∃ fs F' v6 v7, σ = [some g, some (iV x), some vb, some (.ref Mt), some (.ref D), some (.ref Fo), v6, v7] ∧
        Loc H H' (upd (MM Mt D (kv (ks ++ fs)) zs) Fo (.lst (fs.map iV))) F' ∧ Same F F' ∧ (ks ++ fs).Nodup ∧ ∀ y, y ∈ fs ↔ (y ∉ ks ∧ ∃ one ∈ last.take i, Adj G one y))
        ⟨[], F, v6, v7, rfl, by rw [List.append_nil]; exact L5, Same.refl _, by rw [List.append_nil]; exact hb.nd, fun y => ⟨fun h => (by cases h), fun ⟨_, o, ho, _⟩ => (by simp at ho)⟩⟩ (fun i σ H' _ ⟨_, _, _, _, _, L, sF, _⟩ => (sF.trans L.new).seq ht) ?_ ?_⟩
      · rintro i y σ H5 hy ⟨fs, F', w6, w7, rfl, M1, sF', hnd, hfs⟩
        rw [List.getElem?_map] at hy
        cases hone : last[i]? with
        | none => rw [hone] at hy; cases hy
        | some one =>
          rw [hone] at hy
          cases hy
          have honeN := hlastN one (List.mem_of_getElem? hone)
          -- for other in _steps(graph, backs, one)
          refine ⟨_, rfl, _, rfl, _, rfl, g, vb, one, G, Bs, N, rfl, Dp.mono M1.old hd, Dp.mono ((sF1.trans (sF.trans sF')).trans M1.new) hvb, hg, hN, hB, honeN, fun H6 F6 v2 ns nw6 hv2 hns => ?_⟩
          obtain ⟨s2, rfl, hs2⟩ := Dp.li hv2
          have M2 := M1.call nw6
          refine ⟨s2, rfl, ⟨_, nw6.new.seq hs2⟩, for_list (K := K) (a := s2) (xs := ns.map iV) (fun j σ H' => ∃ fs F7 w7, σ = [some g, some (iV x), some vb, some (.ref Mt), some (.ref D), some (.ref Fo), some (iV one), w7] ∧
            Loc H H' (upd (MM Mt D (kv (ks ++ fs)) zs) Fo (.lst (fs.map iV))) F7 ∧ Same (uni F' F6) F7 ∧ (ks ++ fs).Nodup ∧ ∀ y, y ∈ fs ↔ (y ∉ ks ∧ ((∃ o ∈ last.take i, Adj G o y) ∨ y ∈ ns.take j)))
            ⟨fs, uni F' F6, w7, rfl, M2, Same.refl _, hnd, fun y => by rw [hfs, List.take_zero]; simp⟩ (fun j σ H' _ ⟨_, _, _, _, L, sF, _⟩ => (((M1.right nw6).trans sF).trans L.new).seq hs2) ?_ ?_⟩
          · rintro j z σ H7 hz2 ⟨fs, F7, w7, rfl, M3, sF7, hnd, hfs⟩
            rw [List.getElem?_map] at hz2
            cases hoth : ns[j]? with
            | none => rw [hoth] at hz2; cases hz2
            | some y =>
              rw [hoth] at hz2
              cases hz2
              have hyN : y < N := (hg.adj ((hns y).mp (List.mem_of_getElem? hoth))).2
              have lenN : (ks ++ fs).length ≤ N := by
                have := hnd.length_le_of_subset (l₂ := List.range N) fun z hz => by
                  rcases List.mem_append.mp hz with h | h
                  · exact List.mem_range.mpr (hg.reach hx ((hb.met z).mp h))
                  · obtain ⟨_, h | h⟩ := (hfs z).mp h
                    · obtain ⟨o, _, ha⟩ := h
                      exact List.mem_range.mpr (hg.adj ha).2
                    · exact List.mem_range.mpr (hg.adj ((hns z).mp (List.mem_of_mem_take h))).2
                rw [List.length_range] at this
                exact this
              refine ⟨_, rfl, _, rfl, Mt, _, rfl, DGet.k (k := Sum.inl (y : Int)) (M3.at_ (by rw [upd_ne nFM.symm]; exact MM_M nMD)), _, rfl, ?_⟩
              rw [valV_kv]
              by_cases c : y ∈ ks ++ fs
              · rw [if_pos c]
                refine iteF ⟨fs, F7, _, rfl, M3, sF7, hnd, fun y' => ?_⟩
                rw [hfs, take_succ_get hoth, List.mem_append, List.mem_singleton]
                constructor
                · rintro ⟨h1, h2 | h2⟩
                  · exact ⟨h1, .inl h2⟩
                  · exact ⟨h1, .inr (.inl h2)⟩
                · rintro ⟨h1, h2 | h2 | h2⟩
                  · exact ⟨h1, .inl h2⟩
                  · exact ⟨h1, .inr h2⟩
                  · subst h2
                    rcases List.mem_append.mp c with c | c
                    · exact absurd c h1
                    · exact (hfs y').mp c
              · rw [if_neg c]
                refine iteT ?_
                refine ⟨_, rfl, _, rfl, Mt, _, rfl, DPut.k (k := Sum.inl (y : Int)) (M3.at_ (by rw [upd_ne nFM.symm]; exact MM_M nMD)) (by rw [kv_length, sizeLine_eq]; omega), ?_⟩
                have M4 := M3.wr (p := Mt) (by rw [upd_ne nFM.symm]; exact MM_M nMD) (.dK (putK (kv (ks ++ fs)) (Sum.inl (y : Int)) (.bl true)))
                rw [upd_swap nFM, MM_put nMD, kv_put c] at M4
                rw [kv_put c]
                have lfs : fs.length ≤ N := by rw [List.length_append] at lenN; omega
                refine ⟨_, rfl, .inl ⟨rfl, _, SqL.of (M4.at_ upd_same)⟩, _, rfl, Fo, _, _, rfl, rfl, M4.at_ upd_same, by rw [List.length_map, sizeLine_eq]; omega, ?_⟩
                have M5 := M4.wr2 (.lst (fs.map iV ++ [iV y]))
                refine ⟨fs ++ [y], F7, _, rfl, by rw [← List.append_assoc, List.map_append]; exact M5, sF7, by rw [← List.append_assoc]; exact nd_snoc hnd c, fun y' => ?_⟩
                rw [List.mem_append, List.mem_singleton, hfs, take_succ_get hoth, List.mem_append, List.mem_singleton]
                constructor
                · rintro (⟨h1, h2 | h2⟩ | h2)
                  · exact ⟨h1, .inl h2⟩
                  · exact ⟨h1, .inr (.inl h2)⟩
                  · subst h2
                    exact ⟨fun z => c (List.mem_append_left _ z), .inr (.inr rfl)⟩
                · rintro ⟨h1, h2 | h2 | h2⟩
                  · exact .inl ⟨h1, .inl h2⟩
                  · exact .inl ⟨h1, .inr h2⟩
                  · exact .inr h2
          · rintro σ H7 ⟨fs, F7, w7, rfl, M3, sF7, hnd, hfs⟩
            rw [List.length_map, List.take_length] at hfs
            refine ⟨fs, F7, _, _, rfl, M3, sF'.trans ((Same.uni_l F' F6).trans sF7), hnd, fun y => ?_⟩
            rw [hfs, take_succ_get hone]
            constructor
            · rintro ⟨h1, ⟨o, h2, h3⟩ | h2⟩
              · exact ⟨h1, o, List.mem_append_left _ h2, h3⟩
              · exact ⟨h1, one, by simp, (hns y).mp h2⟩
            · rintro ⟨h1, o, h2, h3⟩
              rcases List.mem_append.mp h2 with h2 | h2
              · exact ⟨h1, .inl ⟨o, h2, h3⟩⟩
              · rw [List.mem_singleton.mp h2] at h3
                exact ⟨h1, .inr ((hns y).mpr h3)⟩
      · rintro σ H5 ⟨fs, F', w6, w7, rfl, M1, sF', hnd, hfs⟩
        rw [List.length_map, List.take_length] at hfs
        have lenN : (ks ++ fs).length ≤ N := by
          have := hnd.length_le_of_subset (l₂ := List.range N) fun z hz => by
            rcases List.mem_append.mp hz with h | h
            · exact List.mem_range.mpr (hg.reach hx ((hb.met z).mp h))
            · obtain ⟨_, o, _, ha⟩ := (hfs z).mp h
              exact List.mem_range.mpr (hg.adj ha).2
          rw [List.length_range] at this
          exact this
        have lenS : ks.length + fs.length ≤ N := by rw [List.length_append] at lenN; exact lenN
        -- layers.append(sorted(following))
        refine ⟨_, rfl, .inl ⟨rfl, _, SqL.of (M1.at_ (by rw [upd_ne nFD.symm]; exact MM_D))⟩, _, rfl, Fo, fs.map Int.ofNat, rfl, SqL.of (by rw [← map_iV]; exact M1.at_ upd_same), by rw [List.length_map]; omega, fun zs' p hperm hsrt hp => ?_⟩
        obtain ⟨ms, hms1, hmp, hmsrt⟩ := sorted_nat hperm hsrt
        have M2 := M1.fix (.lst (zs'.map V.int)) hp
        refine ⟨D, zs, .ref p, rfl, rfl, M2.at_ (by rw [upd_ne nFD.symm]; exact MM_D), by rw [hzl, sizeLine_eq]; omega, ?_⟩
        have M3 := M2.wr (p := D) (by rw [upd_ne nFD.symm]; exact MM_D) (.lst (zs ++ [.ref p]))
        rw [upd_swap nFD, MM_app] at M3
        have M4 := M3.freeze (p := Fo) upd_same
        rw [del_upd (MM_p nFM nFD)] at M4
        have sA : Same F' (upd F' p (.lst (zs'.map V.int))) := Same.upd (M1.ffree hp)
        have sB : Same (upd F' p (.lst (zs'.map V.int))) (upd (upd F' p (.lst (zs'.map V.int))) Fo (.lst (fs.map iV))) := Same.upd (M3.nf (p := Fo) upd_same)
        have hb2 := hb.step hlast hne hnd hfs hmp hmsrt
        have e0 : (if Ls[m]? = some [] then 0 else 1) = 1 := if_neg (by rw [hlast]; intro z; exact hne (Option.some.inj z))
        have e1 : (Ls ++ [ms])[m + 1]? = some ms := by
          rw [← hLl, List.getElem?_append_right (Nat.le_refl _), Nat.sub_self]
          rfl
        have e2 : (if (Ls ++ [ms])[m + 1]? = some [] then 0 else 1) ≤ 1 ∧ (if (Ls ++ [ms])[m + 1]? = some [] then 0 else 1) ≤ fs.length := by
          rw [e1]
          by_cases c : ms = []
          · rw [if_pos (by rw [c])]
            omega
          · rw [if_neg (fun z => c (Option.some.inj z))]
            have : 0 < fs.length := by
              rw [← hmp.length_eq]
              exact List.length_pos_iff.mpr c
            omega
        refine ⟨_, ?_, m + 1, Ls ++ [ms], ks ++ fs, zs ++ [.ref p], _, some (.ref Fo), w6, w7, rfl, M4, (sF.trans sF').trans (sA.trans sB), ?_, hb2, by rw [List.length_append]; omega, rfl⟩
        · rw [e0, List.length_append]
          by_cases c : ms = []
          · rw [e1, if_pos (by rw [c])]
            omega
          · have : 0 < fs.length := by
              rw [← hmp.length_eq]
              exact List.length_pos_iff.mpr c
            omega
        · rw [List.map_append]
          refine DpAll.snoc (DpAll.mono (sF'.trans (sA.trans sB)) hz) (Dp.mono sB (.lst (SqL.of upd_same) ?_))
          rw [hms1]
          exact DpAll.of_ints ms
end
end LT
set_option Elab.async false
set_option linter.all false
set_option maxRecDepth 100000
set_option maxHeartbeats 4000000
namespace LT
open PySem PySem.Spec PyProof.Rows L2
theorem inV_ints (y : Nat) : ∀ L : List Nat, inV (iV y) (L.map iV) = decide (y ∈ L)
  | [] => rfl
  | a :: L => by
    have ih := inV_ints y L
    unfold inV at ih ⊢
    rw [List.map_cons, List.any_cons, ih]
    have e : eqV (iV a) (iV y) = decide (a = y) := by
      unfold iV
      simp only [eqV]
      first | rfl | (by_cases h : a = y <;> simp [h] <;> omega)
    rw [e]
    by_cases h : a = y
    · subst h; simp
    · by_cases c : y ∈ L
      · simp [c]
      · simp [c, h]; intro z; exact h z.symm
theorem flat_ints (L : List Nat) : (L.map iV).all flatV = true := by
  rw [List.all_eq_true]
  intro x hx
  obtain ⟨n, _, rfl⟩ := List.mem_map.mp hx
  rfl
theorem put_len (c : List (Key × V)) (k : Key) (x : V) : (putK c k x).length ≤ c.length + 1 := by
  unfold putK
  split
  · rw [List.length_map]; omega
  · simp
section
variable {P : Program} {w : World} {K : PySem.W.Frag} {mg : Str → Option Value} {base : Heap}
theorem ok_layers (T : Txt K mg) {CN : Addr} (D_check_graph : DefOk P w K mg base (L2.CX P w) 2 "check_graph" ["graph"] (sp_check_graph K CN)) (D_check_number : DefOk P w K mg base CX0 1 "check_number" ["graph", "number"] (sp_check_number K)) (D_lays : DefOk P w K mg base CX0 2 "_layers" ["graph", "number"] (sp_lays K)) :
    DefOk P w K mg base CX0 3 "layers" ["graph", "number"] (sp_lays K) := by
  refine T.f_layers.ok sc_layers (fun vs H Q E h => ?_) (fun f cdv A outer s H vs Q E hr h => ?_)
  · obtain ⟨_, _, _, _, rfl, _⟩ := h; rfl
  · obtain ⟨g, x, G, N, rfl, hd, hg, hN, hx, q⟩ := h
    have nd := sc_layers.nd
    refine ⟨_, (pss_cons (ps_expr (pe_callN D_check_graph (hr.mono (by decide)) rfl (pa_cons (pv 0) pa_nil)))
      (pss_cons (ps_expr (pe_callD D_check_number (hr.mono (by decide)) rfl (pa_cons (pv 0) (pa_cons (pv 1) pa_nil))))
      (pss_one (ps_ret (pe_callD D_lays (hr.mono (by decide)) rfl (pa_cons (pv 0) (pa_cons (pv 1) pa_nil))))))), ?_⟩
    refine ⟨_, rfl, g, G, N, true, rfl, hd, hg.sh hN, fun _ H1 s1 => ?_, (fun z => nomatch z)⟩
    refine ⟨_, rfl, _, rfl, g, x, G, N, rfl, Dp.mono s1 hd, hg, hx, fun H2 s2 => ?_⟩
    exact ⟨_, rfl, _, rfl, g, x, G, N, rfl, Dp.mono (s1.trans s2) hd, hg, hN, hx, fun H3 F3 v Ls nw hv hL => q H3 F3 v Ls ⟨(s1.trans s2).trans nw.old, nw.new, fun b o e => nw.ap b o ((s1.trans s2) _ _ e)⟩ hv hL⟩
def optV : Option Nat → V
  | some r => iV r
  | none => .non
def sp_distance (K : PySem.W.Frag) : Sp := fun vs H Q _ => ∃ (g : V) (x y : Nat) (G : List (List Nat)) (N : Nat), vs = [g, iV x, iV y] ∧ Dp K H g (dG G) ∧ GraphOk G N ∧ N < 64 ∧ x < N ∧ y < N ∧ ∀ H' d, Same H H' → IsDist G x y d → Q (optV d) H'
theorem ok_distance (T : Txt K mg) {CN : Addr} (D_check_graph : DefOk P w K mg base (L2.CX P w) 2 "check_graph" ["graph"] (sp_check_graph K CN)) (D_check_number : DefOk P w K mg base CX0 1 "check_number" ["graph", "number"] (sp_check_number K)) (D_lays : DefOk P w K mg base CX0 2 "_layers" ["graph", "number"] (sp_lays K)) :
    DefOk P w K mg base CX0 3 "distance" ["graph", "one", "other"] (sp_distance K) := by
  refine T.f_distance.ok sc_distance (fun vs H Q E h => ?_) (fun f cdv A outer s H vs Q E hr h => ?_)
  · obtain ⟨_, _, _, _, _, rfl, _⟩ := h; rfl
  · obtain ⟨g, x, y, G, N, rfl, hd, hg, hN, hx, hy, q⟩ := h
    have nd := sc_distance.nd
    refine ⟨_, (pss_cons (ps_expr (pe_callN D_check_graph (hr.mono (by decide)) rfl (pa_cons (pv 0) pa_nil)))
      (pss_cons (ps_expr (pe_callD D_check_number (hr.mono (by decide)) rfl (pa_cons (pv 0) (pa_cons (pv 1) pa_nil))))
      (pss_cons (ps_expr (pe_callD D_check_number (hr.mono (by decide)) rfl (pa_cons (pv 0) (pa_cons (pv 2) pa_nil))))
      (pss_cons (ps_for ph rfl (pi_enum (by rfl) T.z_enumerate (pa_cons (pe_callD D_lays (hr.mono (by decide)) rfl (pa_cons (pv 0) (pa_cons (pv 1) pa_nil))) pa_nil)) (pg_tup rfl (pgs_cons (pg_name (i := 3) nd rfl (Or.inl rfl)) (pgs_cons (pg_name (i := 4) nd rfl (Or.inl rfl)) pgs_nil))) 
        (pss_one (ps_if (pt_cmpR op_in_seq (pv 2) (pv 4) (by rfl)) (pss_one (ps_ret (pv 3))) pss_nil)))
      (pss_one (ps_ret pe_non)))))), ?_⟩
    refine ⟨_, rfl, g, G, N, true, rfl, hd, hg.sh hN, fun _ H1 s1 => ?_, (fun z => nomatch z)⟩
    refine ⟨_, rfl, _, rfl, g, x, G, N, rfl, Dp.mono s1 hd, hg, hx, fun H2 s2 => ?_⟩
    refine ⟨_, rfl, _, rfl, g, y, G, N, rfl, Dp.mono (s1.trans s2) hd, hg, hy, fun H3 s3 => ?_⟩
    have s13 := (s1.trans s2).trans s3
    refine ⟨_, rfl, _, rfl, g, x, G, N, rfl, Dp.mono s13 hd, hg, hN, hx, fun H4 F4 v Ls nw hv hL => ?_⟩
    obtain ⟨la, lxs, rfl, hls, hld⟩ := Dp.l hv
    have s4 := s13.trans nw.old
    refine ⟨la, lxs, rfl, nw.new.seq hls, for_enumL (fun i σ H' => ∃ v3 v4, σ = [some g, some (iV x), some (iV y), v3, v4] ∧ Same H4 H' ∧ ∀ (j : Nat) (L : List Nat), j < i → Ls[j]? = some L → y ∉ L) ⟨none, none, rfl, Same.refl _, fun j L hj => absurd hj (Nat.not_lt_zero _)⟩ (fun i σ H' ⟨_, _, _, s', _⟩ => (nw.new.trans s').seq hls) ?_ ?_⟩
    · rintro i z T1 σ H' hz ⟨v3, v4, rfl, s', inv⟩ hT
      obtain ⟨d, e1, e2⟩ := DpAll.get hld hz
      rw [List.getElem?_map] at e1
      cases hLi : Ls[i]? with
      | none => rw [hLi] at e1; cases e1
      | some L =>
        rw [hLi] at e1
        cases e1
        obtain ⟨t, rfl, ht⟩ := Dp.li e2
        have s5 := s'.trans (Same.upd (o := .tup [.int (i : Nat), .ref t]) hT)
        refine ⟨T1, _, rfl, SqT.of upd_same, rfl, _, _, rfl, _, _, rfl, rfl, ?_⟩
        refine ⟨_, rfl, _, rfl, t, _, rfl, .inl ((nw.new.trans s5).seq ht), rfl, flat_ints L, _, rfl, ?_⟩
        show if inV (iV y) (L.map iV) = true then _ else _
        rw [inV_ints]
        by_cases c : y ∈ L
        · rw [decide_eq_true c]
          exact iteT ⟨_, rfl, q _ (some i) (s4.trans s5) (hL.dist_some hLi c)⟩
        · rw [decide_eq_false c]
          refine iteF ⟨_, _, rfl, s5, fun j L' hj hL' => ?_⟩
          by_cases e : j < i
          · exact inv j L' e hL'
          · have : j = i := by omega
            subst this
            rw [hLi] at hL'
            cases hL'
            exact c
    · rintro σ H' ⟨v3, v4, rfl, s', inv⟩
      refine q _ none (s4.trans s') (hL.dist_none fun i L hi => inv i L ?_ hi)
      have := DpAll.length hld
      rw [List.length_map] at this
      rw [this]
      exact (List.getElem?_eq_some_iff.mp hi).1
/-! ### parts -/
def sp_parts (K : PySem.W.Frag) : Sp := fun vs H Q _ => ∃ (g : V) (G : List (List Nat)) (N : Nat), vs = [g] ∧ Dp K H g (dG G) ∧ GraphOk G N ∧ N < 64 ∧ ∀ H' F v ps, NewIn H H' F → Dp K F v (dLL ps) → IsParts G N ps → Q v H'
theorem ok_parts (T : Txt K mg) {CN : Addr} (D_check_graph : DefOk P w K mg base (L2.CX P w) 2 "check_graph" ["graph"] (sp_check_graph K CN)) (D_lays : DefOk P w K mg base CX0 2 "_layers" ["graph", "number"] (sp_lays K)) :
    DefOk P w K mg base CX0 3 "parts" ["graph"] (sp_parts K) := by
  refine T.f_parts.ok sc_parts (fun vs H Q E h => ?_) (fun f cdv A outer s H vs Q E hr h => ?_)
  · obtain ⟨_, _, _, rfl, _⟩ := h; rfl
  · obtain ⟨g, G, N, rfl, hd, hg, hN, q⟩ := h
    have nd := sc_parts.nd
    obtain ⟨a, xs, r, r0, rfl, ha, hal, hx0, hr0, hrr, hrl⟩ := Dp.row0 hd hg
    refine ⟨_, (pss_cons (ps_expr (pe_callN D_check_graph (hr.mono (by decide)) rfl (pa_cons (pv 0) pa_nil)))
      (pss_cons (ps_set (i := 1) nd rfl (Or.inl rfl) pe_dnewK)
      (pss_cons (ps_set (i := 2) nd rfl (Or.inl rfl) (pe_lst pa_nil))
      (pss_cons (ps_for ph rfl (pi_range1 rfl T.z_range (pa_cons (pe_callB call_len_seq (by rfl) T.z_len bb_len (pa_cons (pe_ix ix_tup (pv 0) pe_int (fun _ _ => rfl)) pa_nil)) pa_nil)) (pg_name (i := 3) nd rfl (Or.inl rfl)) 
        (pss_one (ps_if (pt_cmp (pc_dnotin (hu_of hr) (pv 3) (pv 1))) (pss_cons (ps_set (i := 4) nd rfl (Or.inl rfl) (pe_callB cr_sorted (by rfl) T.z_sorted bb_sorted (pa_cons (pe_lc2 (own := [("layer", 6), ("one", 5)]) (wi1 := iList K (tVar 6)) (vs1 := [5]) (g := (gName 6)) (g1 := (gName 5)) rfl nd (pi_list (pe_callD D_lays (hr.mono (by decide)) rfl (pa_cons (pv 0) (pa_cons (pv 3) pa_nil)))) (blkOk_by (own := [("layer", 6), ("one", 5)]) (N := N_parts) (sc := defScope s_parts) (by decide +kernel)) (by decide) (fun _ _ _ _ _ => (pg_name (i := 6) nd rfl (Or.inl rfl))) (fun _ _ _ _ _ => pts_nil) (fun _ _ _ _ _ => (pi_list (pv 6))) (fun _ _ _ _ _ => (pg_name (i := 5) nd rfl (Or.inl rfl))) (fun _ _ _ _ _ => pts_nil) (fun _ _ _ _ _ => (pv 5))) pa_nil)))
          (pss_cons (ps_for ph rfl (pi_list (pv 4)) (pg_name (i := 5) nd rfl (Or.inl rfl)) 
            (pss_one (ps_dput (hu_of hr) (pv 1) (pv 5) pe_bl rfl)))
          (pss_one (ps_expr (pe_bm PySem.F.plainAttrs_list PySem.F.slot_list_append PySem.F.type_list_append mt_append (pv 2) (pa_cons (pv 4) pa_nil)))))) pss_nil)))
      (pss_one (ps_ret (pv 2))))))), ?_⟩
    refine ⟨_, rfl, .ref a, G, N, true, rfl, hd, hg.sh hN, fun _ H1 s1 => ?_, (fun z => nomatch z)⟩
    -- met, found
    intro Mt hMt
    have L0 := (((Loc.start H).same s1).made (.dK []) hMt)
    refine ⟨Nat.zero_le _, fun D hD => ?_⟩
    have nMD : Mt ≠ D := fun e => by rw [← e, upd_same] at hD; cases hD
    have L1 : Loc H _ (MM Mt D [] []) LT.hn := L0.made (.lst []) hD
    have hlr : (r0.map iV).length = N := by rw [List.length_map, hrl]
    refine ⟨_, rfl, a, _, 0, _, rfl, rfl, Same.seqT L1.old ha, at_of (j := 0) rfl hx0, r, _, rfl, .inr (Same.seqT L1.old hrr), ?_⟩
    rw [hlr]
    refine ⟨_, rfl, by omega, by omega, ?_⟩
    rw [toNat_n]
    refine for_range (lo := 0) (n := N) (fun i σ H' => ∃ v3 v4 v5 kvs ps zs F, σ = [some (.ref a), some (.ref Mt), some (.ref D), v3, v4, v5, none] ∧ Loc H H' (MM Mt D kvs zs) F ∧ DpAll K F zs (ps.map dL) ∧ PartsAt G N i ps ∧ ps.length ≤ i ∧ kvs.length ≤ i * 64 ∧
      ∀ y : Nat, (valV kvs (Sum.inl (y : Int))).isSome = true ↔ ∃ p ∈ ps, y ∈ p) ⟨none, none, none, [], [], [], LT.hn, rfl, L1, .nil, ⟨fun p hp => (by cases hp), fun x hx => absurd hx (Nat.not_lt_zero _)⟩, Nat.le_refl _, Nat.zero_le _, fun y => ⟨fun h => (by cases h), fun ⟨_, h, _⟩ => (by cases h)⟩⟩ ?_ ?_
    · rintro i σ H' hi ⟨v3, v4, v5, kvs, ps, zs, F, rfl, L, hz, hpa, hpl, hkl, hmet⟩
      rw [z_i]
      refine ⟨_, rfl, _, rfl, Mt, _, rfl, DGet.k (k := Sum.inl (i : Int)) (L.at_ (MM_M nMD)), _, rfl, ?_⟩
      by_cases c : (valV kvs (Sum.inl (i : Int))).isSome = true
      · rw [c]
        exact iteF ⟨_, _, _, kvs, ps, zs, F, rfl, L, hz, hpa.old ((hmet i).mp c), by omega, by omega, hmet⟩
      · rw [Bool.eq_false_iff.mpr c]
        refine iteT ?_
        -- part = sorted([one for layer in _layers(graph, number) for one in layer])
        refine ⟨_, rfl, _, rfl, .ref a, i, G, N, rfl, Dp.mono L.old hd, hg, hN, hi, fun H4 F4 v Ls nw hv hL => ?_⟩
        obtain ⟨la, lxs, rfl, hls, hld⟩ := Dp.l hv
        have L4 := L.call nw
        have hflat := hL.flat_len hg hi
        refine ⟨la, rfl, ⟨_, nw.new.seq hls⟩, fun D2 hD2 => ?_⟩
        have hxl : lxs.length = Ls.length := by rw [DpAll.length hld, List.length_map]
        have hls4 : ∀ zs, SqL K (upd H4 D2 (.lst zs)) la lxs := fun zs => (nw.new.trans (Same.upd hD2)).seq hls
        refine ⟨fun j m H => m = lxs.length - j ∧ j ≤ lxs.length ∧ H = upd H4 D2 (.lst (((Ls.take j).flatten).map iV)), ⟨_, rfl, Nat.zero_le _, rfl⟩, ?_⟩
        rintro j m _ ⟨rfl, hj, rfl⟩
        by_cases hlt : j < lxs.length
        · -- one layer
          have hlj : Ls[j]? = some (Ls[j]'(by omega)) := List.getElem?_eq_getElem _
          generalize Ls[j]'(by omega) = Lj at hlj
          obtain ⟨zj, hzj, hdj⟩ := DpAll.getD hld (i := j) (d := dL Lj) (by rw [List.getElem?_map, hlj]; rfl)
          obtain ⟨t, rfl, ht⟩ := Dp.li hdj
          have hsum : (Ls.take j).flatten.length + Lj.length ≤ N := by
            have e1 : (Ls.take (j + 1)).flatten = (Ls.take j).flatten ++ Lj := by rw [take_succ_get hlj]; simp
            have e2 : (Ls.take (j + 1)).flatten.length ≤ Ls.flatten.length := by
              conv => rhs; rw [← List.take_append_drop (j + 1) Ls, List.flatten_append, List.length_append]
              omega
            rw [e1, List.length_append] at e2
            omega
          refine .inr ⟨⟨lxs, lxs[j], hls4 _, by simp [hlt]⟩, fun H => H = upd H4 D2 (.lst (((Ls.take (j + 1)).flatten).map iV)), fun H' e => ⟨lxs.length - (j + 1), by omega, rfl, hlt, e⟩, fun x H' y => ?_⟩
          obtain ⟨e, y⟩ := y
          subst e
          have := y lxs (hls4 _)
          rw [hzj] at this
          cases this
          refine ⟨rfl, ?_⟩
          have ht4 : ∀ zs, SqL K (upd H4 D2 (.lst zs)) t (Lj.map iV) := fun zs => (nw.new.trans (Same.upd hD2)).seq ht
          refine ⟨_, rfl, t, rfl, ⟨_, ht4 _⟩, ?_⟩
          refine ⟨fun i m H => m = Lj.length - i ∧ i ≤ Lj.length ∧ H = upd H4 D2 (.lst (((Ls.take j).flatten ++ Lj.take i).map iV)), ⟨_, rfl, Nat.zero_le _, by rw [List.take_zero, List.append_nil]⟩, ?_⟩
          rintro i2 m _ ⟨rfl, hi2, rfl⟩
          by_cases hlt2 : i2 < Lj.length
          · have hyi : Lj[i2]? = some (Lj[i2]) := List.getElem?_eq_getElem _
            refine .inr ⟨⟨_, _, ht4 _, by rw [List.getElem?_map, hyi]; rfl⟩, fun H => H = upd H4 D2 (.lst (((Ls.take j).flatten ++ Lj.take (i2 + 1)).map iV)), fun H' e => ⟨Lj.length - (i2 + 1), by omega, rfl, hlt2, e⟩, fun x H' y => ?_⟩
            obtain ⟨e, y⟩ := y
            subst e
            have := y _ (ht4 _)
            rw [List.getElem?_map, hyi] at this
            cases this
            refine ⟨rfl, _, rfl, _, upd_same, ?_, ?_⟩
            · rw [List.length_map, List.length_append, List.length_take, sizeLine_eq]; omega
            · rw [upd_upd, take_succ_get hyi, ← List.append_assoc, List.map_append (l₂ := [Lj[i2]])]; rfl
          · have : i2 = Lj.length := by omega
            subst this
            refine .inl ⟨⟨_, ht4 _, by rw [List.length_map]; omega⟩, ?_⟩
            show _ = _
            rw [take_succ_get hlj, List.take_length]
            simp
        · have : j = lxs.length := by omega
          subst this
          refine .inl ⟨⟨lxs, hls4 _, Nat.le_refl _⟩, ?_⟩
          have L5 := L4.fix (.lst (((Ls.take lxs.length).flatten).map iV)) hD2
          rw [hxl, List.take_length] at L5 ⊢
          -- sorted
          refine ⟨D2, Ls.flatten.map Int.ofNat, rfl, SqL.of (by rw [← map_iV]; exact upd_same), by rw [List.length_map]; omega, fun zs' p hperm hsrt hp => ?_⟩
          obtain ⟨ms, hms1, hmp, hmsrt⟩ := sorted_nat hperm hsrt
          have L6 := L5.fix (.lst (zs'.map V.int)) hp
          rw [hms1] at L6 ⊢
          have hmN : ms.length ≤ N := by rw [hmp.length_eq]; exact hflat
          have hsF : SqL K (upd (uni F F4) p (.lst (ms.map iV))) p (ms.map iV) := SqL.of upd_same
          have s6 : Same (uni F F4) (upd (upd (uni F F4) D2 (.lst (Ls.flatten.map iV))) p (.lst (ms.map iV))) := (Same.upd (L4.ffree hD2)).trans (Same.upd (L5.ffree hp))
          refine ⟨_, rfl, p, rfl, ⟨_, L6.new.seq (SqL.of upd_same)⟩, for_list (K := K) (a := p) (xs := ms.map iV) (fun j σ H' => ∃ v5 kvs', σ = [some (.ref a), some (.ref Mt), some (.ref D), some (iV i), some (.ref p), v5, none] ∧
            Loc H H' (MM Mt D kvs' zs) (upd (upd (uni F F4) D2 (.lst (Ls.flatten.map iV))) p (.lst (ms.map iV))) ∧ kvs'.length ≤ i * 64 + j ∧
            ∀ y : Nat, (valV kvs' (Sum.inl (y : Int))).isSome = true ↔ ((∃ q ∈ ps, y ∈ q) ∨ y ∈ ms.take j))
            ⟨v5, kvs, rfl, L6, by omega, fun y => by rw [hmet y, List.take_zero]; simp⟩ (fun j σ H' _ ⟨_, _, _, L, _, _⟩ => L.new.seq (SqL.of upd_same)) ?_ ?_⟩
          · rintro j y σ H7 hy ⟨w5, kvs', rfl, L7, hkl', hmet'⟩
            rw [List.getElem?_map] at hy
            cases hyj : ms[j]? with
            | none => rw [hyj] at hy; cases hy
            | some y0 =>
              rw [hyj] at hy
              cases hy
              have hjN : j < ms.length := (List.getElem?_eq_some_iff.mp hyj).1
              refine ⟨_, rfl, _, rfl, Mt, _, rfl, DPut.k (k := Sum.inl (y0 : Int)) (L7.at_ (MM_M nMD)) (by rw [sizeLine_eq]; omega), ?_⟩
              have L8 := L7.wr (p := Mt) (MM_M nMD) (.dK (putK kvs' (Sum.inl (y0 : Int)) (.bl true)))
              rw [MM_put nMD] at L8
              refine ⟨_, _, rfl, L8, Nat.le_trans (put_len _ _ _) (by omega), fun y => ?_⟩
              rw [take_succ_get hyj, List.mem_append, List.mem_singleton]
              by_cases c : y = y0
              · subst c
                rw [valV_put, if_pos rfl]
                simp
              · rw [valV_put, if_neg (fun z => c (by have := Sum.inl.inj z; omega)), hmet' y]
                simp [c]
          · rintro σ H7 ⟨w5, kvs', rfl, L7, hkl', hmet'⟩
            rw [List.length_map] at hkl'
            rw [List.length_map, List.take_length] at hmet'
            refine ⟨_, rfl, .inl ⟨rfl, _, SqL.of (L7.at_ MM_D)⟩, _, rfl, D, zs, .ref p, rfl, rfl, L7.at_ MM_D, by rw [DpAll.length hz, List.length_map, sizeLine_eq]; omega, ?_⟩
            have L8 := L7.wr (p := D) MM_D (.lst (zs ++ [.ref p]))
            rw [MM_app] at L8
            refine ⟨_, _, _, kvs', ps ++ [ms], zs ++ [.ref p], _, rfl, L8, ?_, hpa.new hi hL hmp hmsrt, by rw [List.length_append, List.length_singleton]; omega, by omega, fun y => ?_⟩
            · rw [List.map_append]
              exact DpAll.snoc (DpAll.mono ((Same.uni_l F F4).trans s6) hz) (.lst (SqL.of upd_same) (DpAll.of_ints ms))
            · rw [hmet' y]
              simp
    · rintro σ H' ⟨v3, v4, v5, kvs, ps, zs, F, rfl, L, hz, hpa, hpl, hkl, hmet⟩
      have L2 := L.freeze (p := D) MM_D
      exact ⟨_, rfl, q _ _ _ ps L2.drop (.lst (SqL.of upd_same) (DpAll.mono (Same.upd (L.nf MM_D)) hz)) hpa.fin⟩
end
end LT
set_option Elab.async false
set_option linter.all false
set_option maxRecDepth 100000
set_option maxHeartbeats 4000000
namespace LT
open PySem PySem.Spec PyProof.Rows L2
theorem int_mod (r : Int) {n : Nat} (h : 0 < n) : V.int (r % (n : Int)) = iV (r % (n : Int)).toNat := by
  unfold iV
  rw [Int.toNat_of_nonneg (Int.emod_nonneg _ (by omega))]
theorem cut_take {α : List V} {j : Nat} (h : j ≤ α.length) : cutV α none (some (j : Int)) = α.take j := by
  unfold cutV
  rw [HT.sIx_none, HT.sIx_nat, List.drop_zero, Nat.sub_zero, Nat.min_eq_left h]
theorem cut_drop {α : List V} {j : Nat} (h : j ≤ α.length) : cutV α (some (j : Int)) none = α.drop j := by
  unfold cutV
  rw [HT.sIx_none, HT.sIx_nat, Nat.min_eq_left h]
  exact List.take_of_length_le (by rw [List.length_drop]; exact Nat.le_refl _)
theorem cut_mid {α : List V} {i j : Nat} (h : i ≤ j) (h2 : j ≤ α.length) : cutV α (some (i : Int)) (some (j : Int)) = (α.drop i).take (j - i) := by
  unfold cutV
  rw [HT.sIx_nat, HT.sIx_nat, Nat.min_eq_left h2, Nat.min_eq_left (Nat.le_trans h h2)]
section
variable {P : Program} {w : World} {K : PySem.W.Frag} {mg : Str → Option Value} {base : Heap}
/-! ### numbers out of a cell -/
def sp_values (K : PySem.W.Frag) : Sp := fun vs H Q _ => ∃ (c : Int) (n : Nat), vs = [.int c, iV n, iV 997] ∧ n ≤ 64 ∧ ∀ H' F v ns, NewIn H H' F → Dp K F v (dL ns) → ns.length = n → Q v H'
theorem ok_law_values (T : Txt K mg) : DefOk P w K mg base CX0 1 "_law_values" ["_law_cell_here", "_law_count", "_law_size"] (sp_values K) := by
  refine T.f_law_values.ok sc_law_values (fun vs H Q E h => ?_) (fun f cdv A outer s H vs Q E hr h => ?_)
  · obtain ⟨_, _, rfl, _⟩ := h; rfl
  · obtain ⟨c, n, rfl, hn, q⟩ := h
    have nd := sc_law_values.nd
    refine ⟨_, (pss_cons (ps_set (i := 3) nd rfl (Or.inl rfl) (pe_lst pa_nil))
      (pss_cons (ps_set (i := 4) nd rfl (Or.inl rfl) (pv 0))
      (pss_cons (ps_for ph rfl (pi_range1 rfl T.z_range (pa_cons (pv 1) pa_nil)) (pg_name (i := 5) nd rfl (Or.inl rfl)) 
        (pss_one (ps_if (pt_cmpR op_ge (pv 4) (pe_op op_pow pe_int pe_int) (nomark _)) (pss_cons (ps_expr (pe_bm PySem.F.plainAttrs_list PySem.F.slot_list_append PySem.F.type_list_append mt_append (pv 3) (pa_cons (pe_op op_mod (pe_callTy call_int1 (by rfl) T.z_int bb_int (pa_cons (pv 4) pa_nil)) (pv 2)) pa_nil)))
          (pss_one (ps_set (i := 4) nd rfl (Or.inl rfl) (pe_op op_fdiv (pv 4) (pv 2))))) (pss_cons (ps_set (i := 6) nd rfl (Or.inl rfl) (pe_op op_mod (pe_op op_add (pe_op op_add (pe_op op_mul (pe_op op_mod (pe_callTy call_int1 (by rfl) T.z_int bb_int (pa_cons (pv 0) pa_nil)) pe_int) pe_int) (pe_op op_mul (pv 5) pe_int)) pe_int) pe_int))
          (pss_one (ps_expr (pe_bm PySem.F.plainAttrs_list PySem.F.slot_list_append PySem.F.type_list_append mt_append (pv 3) (pa_cons (pe_op op_mod (pe_op op_mod (pe_op op_mul (pv 6) pe_int) pe_int) (pv 2)) pa_nil))))))))
      (pss_one (ps_ret (pv 3)))))), ?_⟩
    refine ⟨Nat.zero_le _, fun D hD => ?_⟩
    refine ⟨_, rfl, _, rfl, _, rfl, by omega, by omega, ?_⟩
    rw [toNat_n]
    refine for_range (lo := 0) (n := n) (fun i σ H' => ∃ (r : Int), ∃ v5 v6 ns, σ = [some (.int c), some (iV n), some (iV 997), some (.ref D), some (.int r), v5, v6] ∧ H' = upd H D (.lst (ns.map iV)) ∧ ns.length = i) ⟨c, none, none, [], rfl, rfl, rfl⟩ ?_ ?_
    · rintro i σ H' hi ⟨r, v5, v6, ns, rfl, rfl, hl⟩
      rw [z_i]
      have hz : (ns.map iV).length < sizeLine := by rw [List.length_map, sizeLine_eq]; omega
      have e : ∀ x : Int, upd (upd H D (.lst (ns.map iV))) D (.lst (ns.map iV ++ [V.int (x % ((997 : Nat) : Int))])) = upd H D (.lst ((ns ++ [(x % ((997 : Nat) : Int)).toNat]).map iV)) := fun x => by
        rw [upd_upd, int_mod x (by decide), List.map_append]
        rfl
      refine ⟨_, rfl, 10, 12, rfl, rfl, ⟨by decide, by decide, by decide⟩, _, _, rfl, rfl, _, rfl, ?_⟩
      refine ite2 (fun _ => ?_) (fun _ => ?_)
      · refine ⟨_, rfl, .inl ⟨rfl, _, SqL.of upd_same⟩, _, rfl, .inl ⟨r, rfl, _, rfl, _, _, rfl, rfl, (by show (0 : Int) < _; decide), D, _, _, rfl, rfl, upd_same, hz, ?_⟩⟩
        refine ⟨_, rfl, _, rfl, _, _, rfl, rfl, ⟨by decide, by decide⟩, ?_⟩
        exact ⟨_, _, v6, _, rfl, e r, by rw [List.length_append, hl]; rfl⟩
      · refine ⟨_, rfl, .inl ⟨c, rfl, _, _, rfl, rfl, (by show (0 : Int) < _; decide), _, _, rfl, rfl, .inr ⟨by decide, by decide⟩, _, rfl, _, _, rfl, rfl, .inr ⟨by decide, by decide⟩, _, _, rfl, rfl, _, _, rfl, rfl, _, _, rfl, rfl, (by show (0 : Int) < _; decide), ?_⟩⟩
        refine ⟨_, rfl, .inl ⟨rfl, _, SqL.of upd_same⟩, _, rfl, _, _, rfl, rfl, .inr ⟨by decide, by decide⟩, _, _, rfl, rfl, (by show (0 : Int) < _; decide), _, rfl, _, _, rfl, rfl, (by show (0 : Int) < _; decide), D, _, _, rfl, rfl, upd_same, hz, ?_⟩
        exact ⟨_, _, _, _, rfl, e _, by rw [List.length_append, hl]; rfl⟩
    · rintro σ H' ⟨r, v5, v6, ns, rfl, rfl, hl⟩
      exact ⟨_, rfl, q _ _ _ ns ((NewIn.refl H).alloc _ hD) (.lst (SqL.of upd_same) (DpAll.of_ints ns)) hl⟩
/-! ### a permutation out of a number -/
def sp_arranged (K : PySem.W.Frag) : Sp := fun vs H Q _ => ∃ (m k : Nat), vs = [iV m, iV k] ∧ 1 ≤ k ∧ k ≤ 64 ∧ ∀ H' F v os, NewIn H H' F → Dp K F v (dT os) → os.Perm (List.range k) → Q v H'
theorem ok_law_arranged (T : Txt K mg) : DefOk P w K mg base CX0 1 "_law_arranged" ["_law_value", "_law_size"] (sp_arranged K) := by
  refine T.f_law_arranged.ok sc_law_arranged (fun vs H Q E h => ?_) (fun f cdv A outer s H vs Q E hr h => ?_)
  · obtain ⟨_, _, rfl, _⟩ := h; rfl
  · obtain ⟨m0, k, rfl, hk1, hk, q⟩ := h
    have nd := sc_law_arranged.nd
    refine ⟨_, (pss_cons (ps_set (i := 2) nd rfl (Or.inl rfl) (pe_listRg rfl (by rfl) T.z_list (prg_1 (by rfl) T.z_range (pv 1))))
      (pss_cons (ps_set (i := 3) nd rfl (Or.inl rfl) (pe_lst pa_nil))
      (pss_cons (ps_for ph rfl (pi_range1 rfl T.z_range (pa_cons (pv 1) pa_nil)) (pg_name (i := 4) nd rfl (Or.inl rfl)) 
        (pss_cons (ps_set (i := 5) nd rfl (Or.inl rfl) (pe_op op_mod (pv 0) (pe_callB call_len_seq (by rfl) T.z_len bb_len (pa_cons (pv 2) pa_nil))))
        (pss_cons (ps_set (i := 0) nd rfl (Or.inl rfl) (pe_op op_fdiv (pv 0) (pe_callB call_len_seq (by rfl) T.z_len bb_len (pa_cons (pv 2) pa_nil))))
        (pss_cons (ps_expr (pe_bm PySem.F.plainAttrs_list PySem.F.slot_list_append PySem.F.type_list_append mt_append (pv 3) (pa_cons (pe_ix ix_list (pv 2) (pv 5) (fun _ _ => rfl)) pa_nil)))
        (pss_one (ps_set (i := 2) nd rfl (Or.inl rfl) (pe_op op_cat (pe_slice sl_list (pv 2) po_none (po_some (pv 5))) (pe_slice sl_list (pv 2) (po_some (pe_op op_add (pv 5) pe_int)) po_none))))))))
      (pss_one (ps_ret (pe_callTy call_tuple_of (by rfl) T.z_tuple bb_tuple (pa_cons (pv 3) pa_nil))))))), ?_⟩
    refine ⟨_, rfl, (k : Int), rfl, RgOk.of_le (Int.le_refl 0) (by omega) (by omega) (by omega), fun l0 hl0 => ?_⟩
    rw [rgV_iV]
    have L0 := (Loc.start H).fix (.lst ((List.range k).map iV)) hl0
    refine ⟨Nat.zero_le _, fun D hD => ?_⟩
    have L1 := L0.made (.lst []) hD
    refine ⟨_, rfl, _, rfl, by omega, by omega, ?_⟩
    rw [toNat_n]
    refine for_range (lo := 0) (n := k) (fun i σ H' => ∃ (m : Nat), ∃ l ls os v4 v5 F, σ = [some (iV m), some (iV k), some (.ref l), some (.ref D), v4, v5] ∧ Loc H H' (upd hn D (.lst (os.map iV))) F ∧ F l = some (.lst (ls.map iV)) ∧ (os ++ ls).Perm (List.range k) ∧ os.length = i) ⟨m0, l0, List.range k, [], none, none, _, rfl, L1, upd_same, List.Perm.refl _, rfl⟩ ?_ ?_
    · rintro i σ H' hi ⟨m, l, ls, os, v4, v5, F, rfl, L, hl, hp, hos⟩
      rw [z_i]
      have hll : os.length + ls.length = k := by
        have := hp.length_eq
        rw [List.length_append, List.length_range] at this
        exact this
      have hpos : 0 < ls.length := by omega
      have hlm : (ls.map iV).length = ls.length := List.length_map ..
      have hlH := L.new _ _ hl
      refine ⟨_, rfl, _, rfl, l, _, rfl, .inl (SqL.of hlH), _, _, rfl, rfl, by rw [hlm]; omega, ?_⟩
      rw [hlm]
      refine ⟨_, rfl, _, rfl, l, _, rfl, .inl (SqL.of hlH), _, _, rfl, rfl, ⟨by rw [hlm]; omega, by rw [hlm]; omega⟩, ?_⟩
      rw [hlm]
      have hat : m % ls.length < ls.length := Nat.mod_lt _ hpos
      have hle : m % ls.length ≤ (ls.map iV).length := by omega
      refine ⟨_, rfl, .inl ⟨rfl, _, SqL.of (L.at_ upd_same)⟩, _, rfl, _, rfl, l, _, ((m % ls.length : Nat) : Int), _, rfl, rfl, SqL.of hlH, at_of (j := m % ls.length) rfl (at_iV (List.getElem?_eq_getElem hat)), D, _, _, rfl, rfl, L.at_ upd_same, by rw [List.length_map, sizeLine_eq]; omega, ?_⟩
      have e0 : os.map iV ++ [iV ls[m % ls.length]] = (os ++ [ls[m % ls.length]]).map iV := by rw [List.map_append]; rfl
      rw [e0]
      have L2 := L.wr2 (p := D) (.lst ((os ++ [ls[m % ls.length]]).map iV))
      have hl2 := L2.new _ _ hl
      refine ⟨_, rfl, _, rfl, _, rfl, l, _, rfl, SqL.of hl2, fun p1 hp1 => ?_⟩
      have e1 : cutV (ls.map iV) none (some ((m : Int) % (ls.length : Int))) = (ls.take (m % ls.length)).map iV := (cut_take hle).trans List.map_take.symm
      rw [e1]
      have L3 := L2.fix (.lst ((ls.take (m % ls.length)).map iV)) hp1
      have hf3 : (upd F p1 (.lst ((ls.take (m % ls.length)).map iV))) l = some (.lst (ls.map iV)) := by rw [upd_ne (ne_of_none hl2 hp1)]; exact hl
      refine ⟨_, rfl, _, rfl, _, _, rfl, rfl, _, rfl, l, _, rfl, SqL.of (L3.new _ _ hf3), fun p2 hp2 => ?_⟩
      have e2 : cutV (ls.map iV) (some ((m : Int) % (ls.length : Int) + 1)) none = (ls.drop (m % ls.length + 1)).map iV := (cut_drop (j := m % ls.length + 1) (by omega)).trans List.map_drop.symm
      rw [e2]
      have L4 := L3.fix (.lst ((ls.drop (m % ls.length + 1)).map iV)) hp2
      have hp1' := L4.new p1 (.lst ((ls.take (m % ls.length)).map iV)) (by rw [upd_ne (ne_of_none (L3.new _ _ upd_same) hp2), upd_same])
      refine ⟨p1, p2, _, _, rfl, rfl, hp1', upd_same, by rw [List.length_map, List.length_map, List.length_take, List.length_drop, sizeLine_eq]; omega, fun p3 hp3 => ?_⟩
      rw [← List.map_append]
      have L5 := L4.fix (.lst ((ls.take (m % ls.length) ++ ls.drop (m % ls.length + 1)).map iV)) hp3
      refine ⟨m / ls.length, p3, _, os ++ [ls[m % ls.length]], _, _, _, rfl, L5, upd_same, ?_, by rw [List.length_append, hos]; rfl⟩
      refine List.Perm.trans ?_ hp
      rw [List.append_assoc]
      refine List.Perm.append_left os ?_
      have e3 : ls = ls.take (m % ls.length) ++ ls[m % ls.length] :: ls.drop (m % ls.length + 1) := by
        rw [List.getElem_cons_drop, List.take_append_drop]
      conv => rhs; rw [e3]
      rw [List.singleton_append]
      exact List.perm_middle.symm
    · rintro σ H' ⟨m, l, ls, os, v4, v5, F, rfl, L, hl, hp, hos⟩
      have : ls = [] := by
        have := hp.length_eq
        rw [List.length_append, List.length_range] at this
        exact List.length_eq_zero_iff.mp (by omega)
      subst this
      rw [List.append_nil] at hp
      refine ⟨_, rfl, D, _, rfl, .inl ⟨SqL.of (L.at_ upd_same), fun t ht => ?_⟩⟩
      have L2 := L.fix (.tup (os.map iV)) ht
      exact q _ _ _ os L2.drop (.tup (.inl (.inl upd_same)) (DpAll.of_ints os)) hp
end
end LT
set_option Elab.async false
set_option linter.all false
set_option maxRecDepth 100000
set_option maxHeartbeats 4000000
namespace LT
open PySem PySem.Spec PyProof.Rows L2
theorem perm_get {os : List Nat} {k j : Nat} (h : os.Perm (List.range k)) (hj : j < k) : ∃ o, os[j]? = some o ∧ o < k := by
  have hl : os.length = k := by rw [h.length_eq, List.length_range]
  refine ⟨os[j], List.getElem?_eq_getElem _, ?_⟩
  exact List.mem_range.mp (h.mem_iff.mp (List.getElem_mem _))
section
variable {P : Program} {w : World} {K : PySem.W.Frag} {mg : Str → Option Value} {base : Heap}
/-! ### a machine out of two cells -/
def sp_lawm (K : PySem.W.Frag) : Sp := fun vs H Q _ => ∃ (c c2 : Int) (k n : Nat), vs = [.int c, .int c2, iV k, iV n] ∧ 2 ≤ k ∧ k ≤ 3 ∧ 1 ≤ n ∧ n ≤ 4 ∧
  ∀ H' F v rows, NewIn H H' F → Dp K F v (dM k rows) → MachOk k rows → rows.length = n → Q v H'
theorem ok_law_machine (T : Txt K mg) (D_law_values : DefOk P w K mg base CX0 1 "_law_values" ["_law_cell_here", "_law_count", "_law_size"] (sp_values K)) (D_law_arranged : DefOk P w K mg base CX0 1 "_law_arranged" ["_law_value", "_law_size"] (sp_arranged K)) :
    DefOk P w K mg base CX0 2 "_law_machine" ["_law_cell_here", "_law_second", "_law_k", "_law_n"] (sp_lawm K) := by
  refine T.f_law_machine.ok sc_law_machine (fun vs H Q E h => ?_) (fun f cdv A outer s H vs Q E hr h => ?_)
  · obtain ⟨_, _, _, _, rfl, _⟩ := h; rfl
  · obtain ⟨c, c2, k, n, rfl, k2, k3, n1, n4, q⟩ := h
    have nd := sc_law_machine.nd
    refine ⟨_, (pss_cons (ps_set (i := 4) nd rfl (Or.inl rfl) (pe_callD D_law_values (hr.mono (by decide)) rfl (pa_cons (pv 0) (pa_cons (pe_op op_add (pv 3) pe_int) (pa_cons pe_int pa_nil)))))
      (pss_cons (ps_set (i := 5) nd rfl (Or.inl rfl) (pe_callD D_law_values (hr.mono (by decide)) rfl (pa_cons (pv 1) (pa_cons (pe_op op_mul (pv 3) (pv 2)) (pa_cons pe_int pa_nil)))))
      (pss_cons (ps_set (i := 6) nd rfl (Or.inl rfl) (pe_op op_mod (pe_ix ix_list (pv 4) (pv 3) (fun _ _ => rfl)) pe_int))
      (pss_cons (ps_set (i := 7) nd rfl (Or.inl rfl) (pe_lst pa_nil))
      (pss_cons (ps_for ph rfl (pi_range1 rfl T.z_range (pa_cons (pv 3) pa_nil)) (pg_name (i := 8) nd rfl (Or.inl rfl)) 
        (pss_cons (ps_set (i := 9) nd rfl (Or.inl rfl) (pe_callD D_law_arranged (hr.mono (by decide)) rfl (pa_cons (pe_ix ix_list (pv 4) (pv 8) (fun _ _ => rfl)) (pa_cons (pv 2) pa_nil))))
        (pss_cons (ps_set (i := 10) nd rfl (Or.inl rfl) (pe_lst pa_nil))
        (pss_cons (ps_for ph rfl (pi_range1 rfl T.z_range (pa_cons (pv 2) pa_nil)) (pg_name (i := 11) nd rfl (Or.inl rfl)) 
          (pss_cons (ps_set (i := 12) nd rfl (Or.inl rfl) (pe_op op_mod (pe_ix ix_list (pv 5) (pe_op op_add (pe_op op_mul (pv 8) (pv 2)) (pv 11)) (fun _ _ => rfl)) (pv 3)))
          (pss_cons (ps_if (PW.pt (pw_and (pt_cmpR op_eq (pv 6) pe_int (nomark _)) (pw_and1 (pt_cmpR op_ne (pv 11) (pe_op op_mod (pe_ix ix_list (pv 5) (pe_op op_mul (pv 8) (pv 2)) (fun _ _ => rfl)) (pv 2)) (nomark _))))) (pss_one (ps_set (i := 12) nd rfl (Or.inl rfl) (pe_op op_sub (pv 3) pe_int))) pss_nil)
          (pss_one (ps_expr (pe_bm PySem.F.plainAttrs_list PySem.F.slot_list_append PySem.F.type_list_append mt_append (pv 10) (pa_cons (pe_tup (pa_cons (pe_ix ix_tup (pv 9) (pv 11) (fun _ _ => rfl)) (pa_cons (pv 12) pa_nil))) pa_nil)))))))
        (pss_one (ps_expr (pe_bm PySem.F.plainAttrs_list PySem.F.slot_list_append PySem.F.type_list_append mt_append (pv 7) (pa_cons (pe_callTy call_tuple_of (by rfl) T.z_tuple bb_tuple (pa_cons (pv 10) pa_nil)) pa_nil))))))))
      (pss_cons (ps_if (PW.pt (pw_or (pt_cmpR op_eq (pv 6) pe_int (nomark _)) (pw_or1 (pt_cmpR op_eq (pv 6) pe_int (nomark _))))) (pss_one (ps_asg (pe_callTy call_tuple_of (by rfl) T.z_tuple bb_tuple (pa_cons (pe_lc (own := [("_law_digit", 11)]) (g := (gName 11)) rfl nd (pi_range1 rfl T.z_range (pa_cons (pv 2) pa_nil)) (blkOk_by (own := [("_law_digit", 11)]) (N := N_law_machine) (sc := defScope s_law_machine) (by decide +kernel)) (fun _ _ _ _ _ => (pg_name (i := 11) nd rfl (Or.inl rfl))) (fun _ _ _ _ _ => pts_nil) (fun _ _ _ _ _ => (pe_tup (pa_cons (pv 11) (pa_cons (pe_op op_sub (pv 3) pe_int) pa_nil))))) pa_nil)) (pg_sub (pv 7) (pe_op op_sub (pv 3) pe_int) set_list))) pss_nil)
      (pss_one (ps_ret (pe_tup (pa_cons (pv 2) (pa_cons (pe_callTy call_tuple_of (by rfl) T.z_tuple bb_tuple (pa_cons (pv 7) pa_nil)) pa_nil))))))))))), ?_⟩
    refine ⟨_, rfl, _, rfl, _, _, rfl, rfl, c, n + 1, rfl, by omega, fun H1 F1 va vs nw1 hva hvl => ?_⟩
    have hnk : n * k ≤ 12 := Nat.mul_le_mul n4 k3
    refine ⟨_, rfl, _, rfl, _, rfl, _, _, rfl, rfl, .inl ⟨by omega, by omega⟩, c2, n * k, rfl, by omega, fun H2 F2 vt ts nw2 hvt htl => ?_⟩
    have L2 := ((Loc.start H).call nw1).call nw2
    have s1 : Same F1 (uni (uni hn F1) F2) := fun b o e => by rw [uni_l (by rw [uni_r rfl]; exact e)]
    have s2 : Same F2 (uni (uni hn F1) F2) := ((Loc.start H).call nw1).right nw2
    generalize uni (uni hn F1) F2 = F at L2 s1 s2
    obtain ⟨a, rfl, ha⟩ := Dp.li (Dp.mono s1 hva)
    obtain ⟨b, rfl, hb⟩ := Dp.li (Dp.mono s2 hvt)
    have hvn : vs[n]? = some (vs[n]'(by omega)) := List.getElem?_eq_getElem _
    generalize vs[n]'(by omega) = vn at hvn
    refine ⟨_, rfl, _, rfl, a, _, (n : Nat), _, rfl, rfl, L2.new.seq ha, at_of (j := n) rfl (at_iV hvn), _, _, rfl, rfl, (by show (0 : Int) < _; decide), ?_⟩
    refine ⟨Nat.zero_le _, fun R hR => ?_⟩
    have L3 := L2.made (.lst []) hR
    refine ⟨_, rfl, _, rfl, by omega, by omega, ?_⟩
    rw [toNat_n]
    refine for_range (lo := 0) (n := n) (fun i σ H' => ∃ v8 v9 v10 v11 v12 rs zs F3, σ = [some (.int c), some (.int c2), some (iV k), some (iV n), some (.ref a), some (.ref b), some (.int ((vn : Int) % 4)), some (.ref R), v8, v9, v10, v11, v12] ∧
      Loc H H' (upd hn R (.lst zs)) F3 ∧ Same F F3 ∧ DpAll K F3 zs (rs.map dRow) ∧ rs.length = i ∧ ∀ r ∈ rs, (r.map Prod.fst).Perm (List.range k) ∧ ∀ e ∈ r, e.2 < n) ⟨none, none, none, none, none, [], [], F, rfl, L3, Same.refl _, .nil, rfl, fun r h => (by cases h)⟩ ?_ ?_
    · rintro i σ H' hi ⟨v8, v9, v10, v11, v12, rs, zs, F3, rfl, L, sF, hz, hrl, hrs⟩
      rw [z_i]
      have hvi : vs[i]? = some (vs[i]'(by omega)) := List.getElem?_eq_getElem _
      generalize vs[i]'(by omega) = vi at hvi
      refine ⟨_, rfl, _, rfl, a, _, (i : Nat), _, rfl, rfl, (sF.trans L.new).seq ha, at_of (j := i) rfl (at_iV hvi), _, rfl, vi, k, rfl, by omega, by omega, fun H4 F4 vo os nw4 hvo hos => ?_⟩
      have L4 := L.call nw4
      obtain ⟨o, rfl, ho⟩ := Dp.ti (Dp.mono (L.right nw4) hvo)
      have sF4 : Same F (uni F3 F4) := sF.trans (Same.uni_l _ _)
      have hz4 := DpAll.mono (Same.uni_l F3 F4) hz
      generalize uni F3 F4 = F5 at L4 ho sF4 hz4
      refine ⟨Nat.zero_le _, fun W hW => ?_⟩
      have nRW : R ≠ W := fun e => by have := L4.at_ (p := R) upd_same; rw [e, hW] at this; cases this
      have L5 := L4.made (.lst []) hW
      refine ⟨_, rfl, _, rfl, by omega, by omega, ?_⟩
      rw [toNat_n]
      refine for_range (lo := 0) (n := k) (fun j σ H' => ∃ v11 v12 es ys F6, σ = [some (.int c), some (.int c2), some (iV k), some (iV n), some (.ref a), some (.ref b), some (.int ((vn : Int) % 4)), some (.ref R), some (iV i), some (.ref o), some (.ref W), v11, v12] ∧
        Loc H H' (upd (upd hn R (.lst zs)) W (.lst ys)) F6 ∧ Same F5 F6 ∧ DpAll K F6 ys (es.map dE) ∧ es.map Prod.fst = os.take j ∧ ∀ e ∈ es, e.2 < n) ⟨v11, v12, [], [], F5, rfl, L5, Same.refl _, .nil, rfl, fun r h => (by cases h)⟩ ?_ ?_
      · rintro j σ H6 hj ⟨v11, v12, es, ys, F6, rfl, L6, sF6, hy, hes, hen⟩
        rw [z_i]
        have hik : i * k + j < n * k := by
          have : (i + 1) * k ≤ n * k := Nat.mul_le_mul_right k hi
          rw [Nat.succ_mul] at this
          omega
        have hbt := ((sF4.trans sF6).trans L6.new).seq hb
        have ht1 : ts[i * k + j]? = some (ts[i * k + j]'(by omega)) := List.getElem?_eq_getElem _
        generalize ts[i * k + j]'(by omega) = t1 at ht1
        have ht0 : ts[i * k]? = some (ts[i * k]'(by omega)) := List.getElem?_eq_getElem _
        generalize ts[i * k]'(by omega) = t0 at ht0
        refine ⟨_, rfl, _, rfl, _, rfl, _, _, rfl, rfl, .inl ⟨by omega, by omega⟩, _, rfl, _, _, rfl, rfl, b, _, ((i * k + j : Nat) : Int), _, rfl, rfl, hbt, at_of (j := i * k + j) rfl (at_iV ht1), _, rfl, _, _, rfl, rfl, (by show (0 : Int) < (n : Int); omega), ?_⟩
        have hf : t1 % n < n := Nat.mod_lt _ n1
        have en : V.int ((n : Int) - 1) = iV (n - 1) := by unfold iV; congr 1; omega
        have hen1 : n - 1 < n := by omega
        obtain ⟨oj, hoj, hojk⟩ := perm_get hos hj
        have hoH := Same.seqT (sF6.trans L6.new) ho
        have hcount : ys.length = j := by
          have h1 := DpAll.length hy
          have h2 := congrArg List.length hes
          rw [List.length_map] at h1 h2
          rw [List.length_take, hos.length_eq, List.length_range] at h2
          omega
        have tail : ∀ f0, f0 < n → ∀ t, H6 t = none → Loc H (upd (upd H6 t (.tup [iV oj, iV f0])) W (.lst (ys ++ [.ref t]))) (upd (upd hn R (.lst zs)) W (.lst (ys ++ [.ref t]))) (upd F6 t (.tup [iV oj, iV f0])) ∧ Same F5 (upd F6 t (.tup [iV oj, iV f0])) ∧
            DpAll K (upd F6 t (.tup [iV oj, iV f0])) (ys ++ [.ref t]) ((es ++ [(oj, f0)]).map dE) ∧ (es ++ [(oj, f0)]).map Prod.fst = os.take (j + 1) ∧ ∀ e ∈ es ++ [(oj, f0)], e.2 < n := fun f0 hf0 t ht => by
          refine ⟨(L6.fix (.tup [iV oj, iV f0]) ht).wr2 (.lst (ys ++ [.ref t])), sF6.trans (Same.upd (L6.ffree ht)), ?_, ?_, fun e he => ?_⟩
          · rw [List.map_append]
            exact DpAll.snoc (DpAll.mono (Same.upd (L6.ffree ht)) hy) (.tup (.inl (.inl upd_same)) (.cons (.int _) (.cons (.int _) .nil)))
          · rw [List.map_append, hes, take_succ_get hoj]
            rfl
          · rcases List.mem_append.mp he with he | he
            · exact hen e he
            · rw [List.mem_singleton.mp he]
              exact hf0
        have wq : ∀ (t : Addr) (o' : HO), H6 t = none → (upd H6 t o') W = some (.lst ys) := fun t o' ht => (L6.fix o' ht).at_ upd_same
        refine ⟨_, rfl, rfl, _, rfl, ite2 (fun _ => ⟨_, rfl, _, rfl, _, rfl, _, rfl, _, _, rfl, rfl, .inl ⟨by omega, by omega⟩, b, _, ((i * k : Nat) : Int), _, rfl, rfl, hbt, at_of (j := i * k) rfl (at_iV ht0), _, rfl, _, _, rfl, rfl, (by show (0 : Int) < (k : Int); omega), rfl, _, rfl, ite2 (fun _ => ⟨_, rfl, _, _, rfl, rfl, ?_⟩) (fun _ => ?_)⟩) (fun _ => ?_)⟩
        · simp only [en]
          refine ⟨_, rfl, .inl ⟨rfl, _, SqL.of (L6.at_ upd_same)⟩, _, rfl, _, rfl, o, _, (j : Nat), _, rfl, rfl, hoH, at_of (j := j) rfl (at_iV hoj), _, rfl, by show 2 ≤ sizeLine; decide, fun t ht => ⟨W, _, .ref t, rfl, rfl, wq t _ ht, by rw [hcount, sizeLine_eq]; omega, ?_⟩⟩
          obtain ⟨h1, h2, h3, h4, h5⟩ := tail (n - 1) hen1 t ht
          exact ⟨_, _, _, _, _, rfl, h1, h2, h3, h4, h5⟩
        all_goals
          refine ⟨_, rfl, .inl ⟨rfl, _, SqL.of (L6.at_ upd_same)⟩, _, rfl, _, rfl, o, _, (j : Nat), _, rfl, rfl, hoH, at_of (j := j) rfl (at_iV hoj), _, rfl, by show 2 ≤ sizeLine; decide, fun t ht => ⟨W, _, .ref t, rfl, rfl, wq t _ ht, by rw [hcount, sizeLine_eq]; omega, ?_⟩⟩
          obtain ⟨h1, h2, h3, h4, h5⟩ := tail (t1 % n) hf t ht
          exact ⟨_, _, _, _, _, rfl, h1, h2, h3, h4, h5⟩
      · rintro σ H6 ⟨v11, v12, es, ys, F6, rfl, L6, sF6, hy, hes, hen⟩
        rw [show k = os.length by rw [hos.length_eq, List.length_range], List.take_length] at hes
        refine ⟨_, rfl, .inl ⟨rfl, _, SqL.of (L6.at_ (by rw [upd_ne nRW]; exact upd_same))⟩, _, rfl, W, _, rfl, .inl ⟨SqL.of (L6.at_ upd_same), fun t ht => ?_⟩⟩
        have L7 := L6.fix (.tup ys) ht
        have hz7 : DpAll K (upd F6 t (.tup ys)) (zs ++ [.ref t]) ((rs ++ [es]).map dRow) := by
          rw [List.map_append]
          exact DpAll.snoc (DpAll.mono (sF6.trans (Same.upd (L6.ffree ht))) hz4) (.tup (.inl (.inl upd_same)) (DpAll.mono (Same.upd (L6.ffree ht)) hy))
        have hzl : zs.length = i := by rw [DpAll.length hz, List.length_map, hrl]
        refine ⟨R, zs, .ref t, rfl, rfl, L7.at_ (by rw [upd_ne nRW]; exact upd_same), by rw [hzl, sizeLine_eq]; omega, ?_⟩
        have L8 := L7.wr (p := R) (by rw [upd_ne nRW]; exact upd_same) (.lst (zs ++ [.ref t]))
        rw [upd_swap nRW.symm, show upd (upd hn R (HO.lst zs)) R (.lst (zs ++ [.ref t])) = upd hn R (.lst (zs ++ [.ref t])) from upd_upd] at L8
        have L9 := L8.freeze (p := W) upd_same
        rw [del_upd (by rw [upd_ne nRW.symm])] at L9
        have s9 : Same (upd F6 t (.tup ys)) (upd (upd F6 t (.tup ys)) W (.lst ys)) := Same.upd (L8.nf (p := W) upd_same)
        refine ⟨_, _, _, _, _, rs ++ [es], zs ++ [.ref t], _, rfl, L9, (sF4.trans (sF6.trans (Same.upd (L6.ffree ht)))).trans s9, DpAll.mono s9 hz7, by rw [List.length_append, hrl]; rfl, fun r hr => ?_⟩
        rcases List.mem_append.mp hr with hr | hr
        · exact hrs r hr
        · rw [List.mem_singleton.mp hr, hes]
          exact ⟨hos, hen⟩
    · rintro σ H' ⟨v8, v9, v10, v11, v12, rs, zs, F3, rfl, L, sF, hz, hrl, hrs⟩
      have hzl : zs.length = n := by rw [DpAll.length hz, List.length_map, hrl]
      have fin : ∀ (H' F3 : Hp) (zs : List V) (rs : Rows), Loc H H' (upd hn R (.lst zs)) F3 → DpAll K F3 zs (rs.map dRow) → rs.length = n → (∀ r ∈ rs, (r.map Prod.fst).Perm (List.range k) ∧ ∀ e ∈ r, e.2 < n) →
          ∀ t, H' t = none → ∀ u, (upd H' t (.tup zs)) u = none → Q (.ref u) (upd (upd H' t (.tup zs)) u (.tup [iV k, .ref t])) := fun H' F3 zs rs L hz hrl hrs t ht u hu => by
        have L2 := L.fix (.tup zs) ht
        have L3 := L2.fix (.tup [iV k, .ref t]) hu
        have s1 := Same.upd (o := HO.tup zs) (L.ffree ht)
        have s2 := Same.upd (o := HO.tup [iV k, .ref t]) (L2.ffree hu)
        refine q _ _ _ rs L3.drop (.tup (.inl (.inl upd_same)) (.cons (.int _) (.cons (.tup (Same.seqT s2 (.inl (.inl upd_same))) (DpAll.mono (s1.trans s2) hz)) .nil))) ⟨k2, k3, by omega, by omega, fun r hr => (hrs r hr).1, fun r hr e he => by rw [hrl]; exact (hrs r hr).2 e he⟩ hrl
      -- the last row
      have en : V.int ((n : Int) - 1) = iV (n - 1) := by unfold iV; congr 1; omega
      refine ⟨_, rfl, rfl, _, rfl, ite2 (fun _ => iteT ?_) (fun _ => ⟨_, rfl, rfl, _, rfl, ite2 (fun _ => ?_) (fun _ => ?_)⟩)⟩
      case refine_3 =>
        exact ⟨_, rfl, _, rfl, R, zs, rfl, .inl ⟨SqL.of (L.at_ upd_same), fun t ht => ⟨by show 2 ≤ sizeLine; decide, fun u hu => fin H' F3 zs rs L hz hrl hrs t ht u hu⟩⟩⟩
      all_goals
        refine ⟨_, rfl, _, rfl, by omega, by omega, fun D hD => ?_⟩
        rw [toNat_n]
        refine lcR (fun i y F => Dp K F y (dE (i, n - 1))) hD (by rw [sizeLine_eq]; omega) (fun _ _ _ _ s h => Dp.mono s h) (fun i H5 k' hi sm kk => ?_) (fun ys H5 F5 nw5 hF5 hyl hy => ?_)
        · refine ⟨rfl, _, rfl, _, rfl, _, _, rfl, rfl, by show 2 ≤ sizeLine; decide, fun t ht => kk _ _ _ ((NewIn.refl _).alloc _ ht) (.tup (.inl (.inl upd_same)) (.cons ?_ (.cons ?_ .nil)))⟩
          · exact .int _
          · show Dp K _ (V.int ((n : Int) - 1)) _
            rw [en]
            exact .int _
        · have L5 := L.call nw5
          refine ⟨D, ys, rfl, .inl ⟨SqL.of (nw5.new _ _ hF5), fun t ht => ?_⟩⟩
          have L6 := L5.fix (.tup ys) ht
          have hya : DpAll K F5 ys (((List.range k).map fun d => (d, n - 1)).map dE) := by
            refine DpAll.of_at (by rw [hyl, List.length_map, List.length_map, List.length_range]) fun i y d h1 h2 => ?_
            have hik : i < k := by rw [← hyl]; exact (List.getElem?_eq_some_iff.mp h1).1
            rw [List.getElem?_map, List.getElem?_map, List.getElem?_range hik] at h2
            cases h2
            exact hy i y h1
          refine ⟨_, rfl, _, rfl, _, _, rfl, rfl, R, zs, (n : Int) - 1, n - 1, rfl, rfl, L6.at_ upd_same, by rw [show (n : Int) - 1 = ((n - 1 : Nat) : Int) by omega]; exact ixN_nat (by omega), ?_⟩
          have L7 := L6.wr2 (p := R) (.lst (zs.set (n - 1) (.ref t)))
          have s7 : Same (uni F3 F5) (upd (uni F3 F5) t (.tup ys)) := Same.upd (L5.ffree ht)
          have hz7 : DpAll K (upd (uni F3 F5) t (.tup ys)) (zs.set (n - 1) (.ref t)) ((rs.set (n - 1) ((List.range k).map fun d => (d, n - 1))).map dRow) := by
            rw [List.map_set]
            exact DpAll.set (.tup (.inl (.inl upd_same)) (DpAll.mono ((L.right nw5).trans s7) hya)) _ (DpAll.mono ((Same.uni_l _ _).trans s7) hz)
          refine ⟨_, rfl, _, rfl, R, _, rfl, .inl ⟨SqL.of (L7.at_ upd_same), fun t2 ht2 => ⟨by show 2 ≤ sizeLine; decide, fun u hu => fin _ _ _ _ L7 hz7 (by rw [List.length_set, hrl]) (fun r hr => ?_) t2 ht2 u hu⟩⟩⟩
          rcases List.mem_or_eq_of_mem_set hr with hr | rfl
          · exact hrs r hr
          · refine ⟨?_, fun e he => ?_⟩
            · rw [List.map_map, show (Prod.fst ∘ fun (d : Nat) => (d, n - 1)) = id from rfl, List.map_id]
            · obtain ⟨d, _, rfl⟩ := List.mem_map.mp he
              exact Nat.sub_lt n1 Nat.one_pos
end
end LT
set_option Elab.async false
set_option linter.all false
set_option maxRecDepth 100000
set_option maxHeartbeats 4000000
namespace LT
open PySem PySem.Spec PyProof.Rows L2
def letAt (p : Nat) : Letter := (p / 2, p % 2 == 1)
theorem ord_let : ∀ p, p < 16 → ORD[p]? = some (code (letAt p)) := by decide
section
variable {P : Program} {w : World} {K : PySem.W.Frag} {mg : Str → Option Value} {base : Heap}
/-! ### a word out of a cell -/
def sp_lawword (K : PySem.W.Frag) : Sp := fun vs H Q _ => ∃ (c : Int) (n : Nat), vs = [.int c, iV n, iV 4] ∧ 1 ≤ n ∧ n ≤ 8 ∧ ∀ H' wd, Same H H' → (∀ l ∈ wd, l.1 < n) → wd.length ≤ 4 → Q (.str (wtext wd)) H'
theorem ok_law_word (T : Txt K mg) (D_law_values : DefOk P w K mg base CX0 1 "_law_values" ["_law_cell_here", "_law_count", "_law_size"] (sp_values K)) :
    DefOk P w K mg base CX0 2 "_law_word" ["_law_cell_here", "_law_n", "_law_most"] (sp_lawword K) := by
  refine T.f_law_word.ok sc_law_word (fun vs H Q E h => ?_) (fun f cdv A outer s H vs Q E hr h => ?_)
  · obtain ⟨_, _, rfl, _⟩ := h; rfl
  · obtain ⟨c, n, rfl, n1, n8, q⟩ := h
    have nd := sc_law_word.nd
    refine ⟨_, (pss_cons (ps_set (i := 3) nd rfl (Or.inl rfl) (pe_callD D_law_values (hr.mono (by decide)) rfl (pa_cons (pv 0) (pa_cons (pe_op op_add (pv 2) pe_int) (pa_cons pe_int pa_nil)))))
      (pss_cons (ps_set (i := 4) nd rfl (Or.inr rfl) (pe_slice sl_str pe_str po_none (po_some (pe_op op_mul pe_int (pv 1)))))
      (pss_one (ps_ret (pe_join pe_str (pe_lc (own := [("_law_value", 5)]) (g := (gName 5)) rfl nd (pi_list (pe_slice sl_list (pv 3) (po_some pe_int) (po_some (pe_op op_add pe_int (pe_op op_mod (pe_ix ix_list (pv 3) pe_int (fun _ _ => rfl)) (pe_op op_add (pv 2) pe_int)))))) (blkOk_by (own := [("_law_value", 5)]) (N := N_law_word) (sc := defScope s_law_word) (by decide +kernel)) (fun _ _ _ _ _ => (pg_name (i := 5) nd rfl (Or.inl rfl))) (fun _ _ _ _ _ => pts_nil) (fun _ _ _ _ _ => (pe_ix ix_str (pv 4) (pe_op op_mod (pv 5) (pe_callB call_len_str (by rfl) T.z_len bb_len (pa_cons (pv 4) pa_nil))) (fun _ _ => rfl))))))))), ?_⟩
    refine ⟨_, rfl, _, rfl, _, _, rfl, rfl, c, 5, rfl, by omega, fun H1 F1 va vs nw1 hva hvl => ?_⟩
    obtain ⟨a, rfl, ha⟩ := Dp.li hva
    have haH := nw1.new.seq ha
    refine ⟨_, rfl, _, _, rfl, rfl, .inr ⟨by omega, by omega⟩, _, rfl, _, rfl, by show 16 ≤ sizeLine; decide, ?_⟩
    have ecut : cutS ("aAbBcCdDeEfFgGhH" : Str) none (some (2 * (n : Int))) = tx (ORD.take (2 * n)) := by rw [order_tx]; exact cutS_take ORD (2 * n)
    rw [ecut]
    have hv0 : vs[0]? = some (vs[0]'(by omega)) := List.getElem?_eq_getElem _
    generalize vs[0]'(by omega) = v0 at hv0
    refine ⟨⟨_, rfl⟩, _, rfl, _, rfl, _, rfl, a, _, 0, _, rfl, rfl, haH, at_of (j := 0) rfl (at_iV hv0), _, rfl, _, _, rfl, rfl, _, _, rfl, rfl, (by show (0 : Int) < _; decide), _, _, rfl, rfl, _, rfl, a, _, rfl, haH, fun p hp => ?_⟩
    have ec : cutV (vs.map iV) (some 1) (some (1 + (v0 : Int) % (((4 : Nat) : Int) + 1))) = ((vs.drop 1).take (v0 % 5)).map iV := by
      have hm : v0 % 5 < 5 := Nat.mod_lt _ (by decide)
      have h := cut_mid (α := vs.map iV) (i := 1) (j := 1 + v0 % 5) (by omega) (by rw [List.length_map, hvl]; omega)
      rw [show 1 + v0 % 5 - 1 = v0 % 5 by omega, ← List.map_drop, ← List.map_take] at h
      exact h
    rw [ec]
    have hul : ((vs.drop 1).take (v0 % 5)).length ≤ 4 := by
      have hm : v0 % 5 < 5 := Nat.mod_lt _ (by decide)
      rw [List.length_take]
      omega
    generalize (vs.drop 1).take (v0 % 5) = us at hul
    refine ⟨p, rfl, ⟨_, SqL.of upd_same⟩, fun D hD => lcL (fun i y F => y = V.str (ch (code (letAt (us.getD i 0 % (2 * n)))))) hD (SqL.of upd_same) (by rw [List.length_map, sizeLine_eq]; omega) (fun _ _ _ _ _ h => h) (fun i x H4 k' hx sm kk => ?_) (fun ys H4 F4 nw4 hF4 hyl hy => ?_)⟩
    · rw [List.getElem?_map] at hx
      cases hu : us[i]? with
      | none => rw [hu] at hx; cases hx
      | some u =>
        rw [hu] at hx
        cases hx
        have eg : us.getD i 0 = u := by rw [List.getD_eq_getElem?_getD, hu]; rfl
        have hl : (tx (ORD.take (2 * n))).length = 2 * n := by
          rw [tx_length, List.length_take]
          show min (2 * n) 16 = _
          omega
        have hp2 : u % (2 * n) < 2 * n := Nat.mod_lt _ (by omega)
        refine ⟨rfl, _, rfl, _, rfl, _, rfl, _, rfl, by rw [hl, sizeLine_eq]; omega, ?_⟩
        rw [hl]
        refine ⟨_, _, rfl, rfl, (by show (0 : Int) < ((2 * n : Nat) : Int); omega), _, ((u % (2 * n) : Nat) : Int), code (letAt (u % (2 * n))), rfl, rfl, by rw [hl, sizeLine_eq]; omega, ?_, kk _ _ LT.hn (NewIn.refl _) (by rw [eg]; rfl)⟩
        rw [tx_list]
        have e : (ORD.take (2 * n))[u % (2 * n)]? = some (code (letAt (u % (2 * n)))) := by
          rw [List.getElem?_take, if_pos hp2]
          exact ord_let _ (by omega)
        unfold atI
        rw [ixN_nat (List.getElem?_eq_some_iff.mp e).1]
        exact e
    · have ey : ys = ((((List.range us.length).map fun i => letAt (us.getD i 0 % (2 * n))).map code).map ch).map V.str := by
        rw [ys_eq hyl hy, List.length_map, List.map_map, List.map_map, List.map_map]
        rfl
      refine ⟨"", D, _, rfl, rfl, .inl (SqL.of (by rw [← ey]; exact nw4.new _ _ hF4)), ?_, ?_⟩
      · refine (len_ch' _).mpr ?_
        rw [List.length_map, List.length_map, List.length_range]
        omega
      · rw [join_ch]
        refine q H4 _ ((nw1.old.trans (Same.upd hp)).trans nw4.old) (fun l hl => ?_) (by rw [List.length_map, List.length_range]; exact hul)
        obtain ⟨i, _, rfl⟩ := List.mem_map.mp hl
        show us.getD i 0 % (2 * n) / 2 < n
        have hp2 : us.getD i 0 % (2 * n) < 2 * n := Nat.mod_lt _ (by omega)
        omega
/-! ### is each fibre as large as each other -/
def cnt (k : Nat) (p : List Nat) (y : Nat) : Nat := (fibre k p y).length
theorem cnt_snoc {k : Nat} {p : List Nat} {x y : Nat} : cnt k (p ++ [x]) y = cnt k p y + if x / k = y then 1 else 0 := by
  unfold cnt fibre
  rw [List.filter_append, List.length_append]
  by_cases h : x / k = y
  · rw [if_pos h, List.filter_cons_of_pos (by simp [h])]
    rfl
  · rw [if_neg h, List.filter_cons_of_neg (by simp [h])]
    rfl
theorem put_mem {c : List (Key × V)} {k : Key} {x : V} {kv : Key × V} (h : kv ∈ putK c k x) : kv.1 = k ∨ ∃ kv' ∈ c, kv'.1 = kv.1 := by
  unfold putK at h
  split at h
  · obtain ⟨kv', h1, rfl⟩ := List.mem_map.mp h
    refine .inr ⟨kv', h1, ?_⟩
    split <;> rfl
  · rcases List.mem_append.mp h with h | h
    · exact .inr ⟨kv, h, rfl⟩
    · rw [List.mem_singleton.mp h]
      exact .inl rfl
def sp_even (K : PySem.W.Frag) : Sp := fun vs H Q _ => ∃ (v : V) (p : List Nat) (k c : Nat), vs = [v, iV k] ∧ Dp K H v (dL p) ∧ p ≠ [] ∧ p.length ≤ 1000 ∧ k ≤ 1000 ∧ 1 ≤ c ∧ c ≤ k ∧ (∀ z ∈ p, (fibre k p (z / k)).length = c) ∧ ∀ H', Same H H' → Q (.bl true) H'
theorem ok_law_is_even (T : Txt K mg) : DefOk P w K mg base CX0 1 "_law_is_even" ["_law_part", "_law_k"] (sp_even K) := by
  refine T.f_law_is_even.ok sc_law_is_even (fun vs H Q E h => ?_) (fun f cdv A outer s H vs Q E hr h => ?_)
  · obtain ⟨_, _, _, _, rfl, _⟩ := h; rfl
  · obtain ⟨v, p, k, c, rfl, hd, hne, hpl, hk, c1, ck, hev, q⟩ := h
    have nd := sc_law_is_even.nd
    obtain ⟨a, rfl, ha⟩ := Dp.li hd
    refine ⟨_, (pss_cons (ps_set (i := 2) nd rfl (Or.inr rfl) pe_dnewK)
      (pss_cons (ps_for ph rfl (pi_list (pv 0)) (pg_name (i := 3) nd rfl (Or.inl rfl)) 
        (pss_one (ps_dput (hu_of hr) (pv 2) (pe_op op_fdiv (pv 3) (pv 1)) (pe_op op_add (pe_dget2 (hu_of hr) (pv 2) (pe_op op_fdiv (pv 3) (pv 1)) pe_int ⟨rfl, rfl, rfl, rfl⟩) pe_int) rfl)))
      (pss_cons (ps_lock (ps_setLc (i := 4) (own := [("_law_number", 3)]) (g := (gName 3)) rfl nd rfl rfl (sw_true rfl rfl rfl (by decide +kernel)) (pi_keys (pv 2)) (blkOk_by (own := [("_law_number", 3)]) (N := N_law_is_even) (sc := defScope s_law_is_even) (by decide +kernel)) (fun _ _ _ _ _ => (pg_name (i := 3) nd rfl (Or.inl rfl))) (fun _ _ _ _ _ => pts_nil) (fun _ _ _ _ _ => (pe_dget (hu_of hr) (pv 2) (pv 3) (fun _ _ => rfl)))))
      (pss_one (ps_ret (pe_and (pe_cmpR op_le pe_int (pe_callB (cr_min rfl) (by rfl) T.z_min bb_min (pa_cons (pv 4) pa_nil)) (nomark _)) (pe_and (pe_cmpR op_eq (pe_callB (cr_max rfl) (by rfl) T.z_max bb_max (pa_cons (pv 4) pa_nil)) (pe_callB (cr_min rfl) (by rfl) T.z_min bb_min (pa_cons (pv 4) pa_nil)) (nomark _)) (pe_one (pe_cmpR op_le (pe_callB (cr_max rfl) (by rfl) T.z_max bb_max (pa_cons (pv 4) pa_nil)) (pv 1) (nomark _)))))))))), ?_⟩
    intro D hD
    refine ⟨_, rfl, a, rfl, ⟨_, (Same.upd hD).seq ha⟩, for_list (K := K) (a := a) (xs := p.map iV) (fun i σ H' => ∃ v3 kvs, σ = [some (.ref a), some (iV k), some (.ref D), v3, none] ∧ H' = upd H D (.dK kvs) ∧ kvs.length ≤ i ∧
      (∀ y : Nat, valV kvs (Sum.inl (y : Int)) = if 0 < cnt k (p.take i) y then some (iV (cnt k (p.take i) y)) else none) ∧ ∀ kv ∈ kvs, ∃ z ∈ p.take i, kv.1 = Sum.inl (((z / k : Nat) : Int)))
      ⟨none, [], rfl, rfl, Nat.le_refl _, fun y => rfl, fun kv h => (by cases h)⟩ (fun i σ H' _ ⟨_, _, _, e, _⟩ => by rw [e]; exact (Same.upd hD).seq ha) ?_ ?_⟩
    · rintro i x σ H' hx ⟨v3, kvs, rfl, rfl, hkl, hval, hkey⟩
      rw [List.getElem?_map] at hx
      cases hz : p[i]? with
      | none => rw [hz] at hx; cases hx
      | some z =>
        rw [hz] at hx
        cases hx
        have hi : i < p.length := (List.getElem?_eq_some_iff.mp hz).1
        have kp : 0 < k := by omega
        have hx : (valV kvs (Sum.inl ((z / k : Nat) : Int))).getD (V.int 0) = iV (cnt k (p.take i) (z / k)) := by
          rw [hval]
          split
          · rfl
          · rw [show cnt k (p.take i) (z / k) = 0 by omega]
            rfl
        refine ⟨_, rfl, D, rfl, .inl ⟨kvs, .inl upd_same⟩, _, rfl, _, rfl, _, _, rfl, rfl, ⟨by omega, by omega⟩, _, DGet.k (k := Sum.inl ((z / k : Nat) : Int)) upd_same, _, _, hx, rfl, _, rfl, _, rfl, _, rfl, _, _, rfl, rfl, ⟨by omega, by omega⟩, D, _, rfl, DPut.k (k := Sum.inl ((z / k : Nat) : Int)) upd_same (by rw [sizeLine_eq]; omega), ?_⟩
        refine ⟨_, _, rfl, upd_upd, Nat.le_trans (put_len _ _ _) (by omega), fun y => ?_, fun kv h => ?_⟩
        · rw [valV_put, hval, take_succ_get hz, cnt_snoc]
          by_cases e : y = z / k
          · subst e
            rw [if_pos rfl, if_pos rfl, if_pos (by omega)]
            rfl
          · rw [if_neg (fun w => e (by have := Sum.inl.inj w; omega)), if_neg (c := z / k = y) (fun w => e w.symm), Nat.add_zero]
        · rw [take_succ_get hz]
          rcases put_mem h with h | ⟨kv', h, e⟩
          · exact ⟨z, by simp, h⟩
          · obtain ⟨z', h1, h2⟩ := hkey kv' h
            exact ⟨z', List.mem_append_left _ h1, by rw [← e]; exact h2⟩
    · rintro σ H' ⟨v3, kvs, rfl, rfl, hkl, hval, hkey⟩
      rw [List.length_map, List.take_length] at *
      refine ⟨D, .dK kvs, upd_same, trivial, fun od => ?_⟩
      rw [upd_upd]
      refine ⟨_, rfl, D, od, rfl, .inl ⟨kvs, upd_same, fun L hL => lc_it walk_keys (fun i H' => H' = upd (upd H D (.frz od (.dK kvs))) L (.lst (List.replicate i (iV c)))) rfl (fun i H' _ e => ?_) (fun i x H1 H2 hi e y => ?_) (fun H' e => ?_)⟩⟩
      all_goals have nLD : L ≠ D := fun e => by subst e; rw [upd_same] at hL; cases hL
      · rw [e, upd_ne nLD.symm, upd_same]
      · obtain ⟨rfl, kk, v, hkv, rfl⟩ := y
        subst e
        obtain ⟨z, hz1, hz2⟩ := hkey _ (List.mem_of_getElem? hkv)
        have e1 : valV kvs kk = some (iV c) := by
          rw [show kk = _ from hz2, hval, if_pos (by unfold cnt; rw [hev z hz1]; omega)]
          unfold cnt
          rw [hev z hz1]
        have g := DGet.k (k := kk) (kvs := kvs) (a := D) (H := upd (upd H D (.frz od (.dK kvs))) L (.lst (List.replicate i (iV c))))
        refine ⟨rfl, ?_⟩
        unfold tYes
        dsimp only
        rw [if_pos rfl]
        refine ⟨_, rfl, _, rfl, D, iV c, rfl, .inl ⟨kvs, kk, .inr ⟨od, by rw [upd_ne nLD.symm, upd_same]⟩, rfl, e1.symm⟩, _, upd_same, by rw [List.length_replicate, sizeLine_eq]; omega, ?_⟩
        show upd (upd _ L _) L _ = _
        rw [upd_upd, ← List.replicate_succ']
      · subst e
        refine ⟨by rw [upd_ne nLD.symm, upd_same], ?_⟩
        have eH : upd (upd (upd H D (.frz od (.dK kvs))) L (.lst (List.replicate kvs.length (iV c)))) D (.dK kvs) = upd (upd H D (.dK kvs)) L (.lst (List.replicate kvs.length (iV c))) := by
          rw [upd_swap nLD, upd_upd]
        rw [eH]
        have hLs : SqL K (upd (upd H D (.dK kvs)) L (.lst (List.replicate kvs.length (iV c)))) L ((List.replicate kvs.length (c : Int)).map V.int) := SqL.of (by rw [List.map_replicate]; exact upd_same)
        have kpos : 0 < (List.replicate kvs.length (c : Int)).length := by
          rw [List.length_replicate]
          cases kvs with
          | cons _ _ => simp
          | nil =>
            obtain ⟨z, hz⟩ := List.exists_mem_of_ne_nil p hne
            have := hval (z / k)
            rw [if_pos (by unfold cnt; rw [hev z hz]; omega)] at this
            cases this
        have hm : ∀ m : Int, m ∈ List.replicate kvs.length (c : Int) → m = c := fun m h => List.eq_of_mem_replicate h
        refine ⟨_, rfl, L, _, rfl, hLs, kpos, fun m1 h1 _ => ?_⟩
        obtain rfl := hm m1 h1
        refine ⟨_, _, rfl, rfl, _, rfl, ?_⟩
        rw [decide_eq_true (by omega)]
        refine iteT ⟨_, rfl, L, _, rfl, hLs, kpos, fun m2 h2 _ => ?_⟩
        obtain rfl := hm m2 h2
        refine ⟨_, rfl, L, _, rfl, hLs, kpos, fun m3 h3 _ => ?_⟩
        obtain rfl := hm m3 h3
        refine ⟨rfl, _, rfl, ?_⟩
        rw [decide_eq_true rfl]
        refine iteT ⟨_, rfl, L, _, rfl, hLs, kpos, fun m4 h4 _ => ?_⟩
        obtain rfl := hm m4 h4
        refine ⟨_, rfl, _, _, rfl, rfl, ?_⟩
        show Q (.bl (decide ((c : Int) ≤ (k : Int)))) _
        rw [decide_eq_true (by omega)]
        refine q _ ((Same.upd hD).trans (Same.upd (p := L) ?_))
        rw [upd_ne nLD] at hL ⊢
        exact hL
end
end LT
set_option Elab.async false
set_option linter.all false
set_option maxRecDepth 100000
set_option maxHeartbeats 8000000
namespace LT
open PySem PySem.Spec PyProof.Rows L2
theorem units65 {k : Nat} {A : Around} (r : Room k A) : A.units + 65 < cLine := by have := r.un; omega
theorem mod_nat (c : Int) (n : Nat) (h : 0 < n) : ∃ r : Nat, c % (n : Int) = (r : Int) ∧ r < n := by
  have h1 := Int.emod_nonneg c (b := (n : Int)) (by omega)
  have h2 := Int.emod_lt_of_pos c (b := (n : Int)) (by omega)
  exact ⟨(c % (n : Int)).toNat, by omega, by omega⟩
theorem words_of : ∀ (ys : List V) (n : Nat), (∀ (i : Nat) (y : V), ys[i]? = some y → ∃ wd : List Letter, y = V.str (wtext wd) ∧ (∀ l ∈ wd, l.1 < n) ∧ wd.length ≤ 4) →
    ∃ ws : List (List Letter), ys = ws.map (fun wd => V.str (wtext wd)) ∧ ∀ wd ∈ ws, (∀ l ∈ wd, l.1 < n) ∧ wd.length ≤ 4
  | [], n, _ => ⟨[], rfl, fun wd h => by cases h⟩
  | y :: ys, n, q => by
    obtain ⟨wd, rfl, h1, h2⟩ := q 0 y rfl
    obtain ⟨ws, rfl, h3⟩ := words_of ys n fun i y h => q (i + 1) y h
    refine ⟨wd :: ws, rfl, fun w hw => ?_⟩
    rcases List.mem_cons.mp hw with rfl | hw
    · exact ⟨h1, h2⟩
    · exact h3 w hw
theorem DpAll.strs {K : PySem.W.Frag} {H : Hp} : ∀ ws : List (List Letter), DpAll K H (ws.map fun wd => V.str (wtext wd)) (ws.map fun wd => PyData.str (wtext wd))
  | [] => .nil
  | wd :: ws => .cons (.str _) (DpAll.strs ws)
theorem any_dL {ms : List Nat} {qs : List (List Nat)} (h : ms ∈ qs) : (!(qs.map dL).any fun z => PyData.eqv z (dL ms)) = false := by
  have : ((qs.map dL).any fun z => PyData.eqv z (dL ms)) = true := by
    rw [List.any_eq_true]
    exact ⟨dL ms, List.mem_map.mpr ⟨ms, h, rfl⟩, by rw [eqv_dL]; exact decide_eq_true rfl⟩
  rw [this]
  rfl
theorem Over.P {U L : List (List Nat)} {k N : Nat} (o : Over U L k N) : OverP U L (k * N) N k := ⟨o.len, rfl, fun i u l hu hl x y h => o.proj i u l x y hu hl h⟩
section
variable {K : PySem.W.Frag} {H : Hp} {Q : V → Hp → Prop}
theorem cat_q {x y : V} {ds es : List PyData} (hx : Dp K H x (.tuple ds)) (hy : Dp K H y (.tuple es)) (hz : ds.length + es.length ≤ 1000) (q : ∀ v H', Same H H' → Dp K H' v (.tuple (ds ++ es)) → Q v H') : rCatA K x y H Q := by
  obtain ⟨a, xs, rfl, ha, hda⟩ := Dp.t hx
  obtain ⟨b, ys, rfl, hb, hdb⟩ := Dp.t hy
  refine ⟨a, b, xs, ys, rfl, rfl, ha, hb, by rw [DpAll.length hda, DpAll.length hdb, sizeLine_eq]; omega, fun e => ?_, fun _ e => ?_, fun _ _ p hp => ?_⟩
  · subst e
    cases hda
    exact q _ _ (Same.refl H) hy
  · subst e
    cases hdb
    rw [List.append_nil] at q
    exact q _ _ (Same.refl H) hx
  · have s := Same.upd (o := HO.tup (xs ++ ys)) hp
    exact q _ _ s (.tup (.inl (.inl upd_same)) (DpAll.append (DpAll.mono s hda) (DpAll.mono s hdb)))
theorem sl_q {x : V} {ds : List PyData} {lo hi : Option Int} (hx : Dp K H x (.tuple ds)) (q : ∀ v H', Same H H' → Dp K H' v (.tuple ((ds.drop (HT.sIx ds.length 0 lo)).take (HT.sIx ds.length ds.length hi - HT.sIx ds.length 0 lo))) → Q v H') : rSlA K x lo hi H Q := by
  obtain ⟨a, xs, rfl, ha, hda⟩ := Dp.t hx
  have hl := DpAll.length hda
  refine ⟨a, xs, rfl, ha, fun e => ?_, fun _ p hp => ?_⟩
  · rw [hl] at e
    rw [e.1, e.2, List.drop_zero, Nat.sub_zero, List.take_length] at q
    exact q _ _ (Same.refl H) hx
  · have s := Same.upd (o := HO.tup (cutV xs lo hi)) hp
    have hd2 : DpAll K H (cutV xs lo hi) ((ds.drop (HT.sIx ds.length 0 lo)).take (HT.sIx ds.length ds.length hi - HT.sIx ds.length 0 lo)) := by
      unfold cutV
      rw [hl]
      exact DpAll.take _ (DpAll.drop _ hda)
    exact q _ _ s (.tup (.inl (.inl upd_same)) (DpAll.mono s hd2))
end
section
variable {P : Program} {w : World} {K : PySem.W.Frag} {mg : Str → Option Value} {base : Heap}
theorem far_if {σ : L2.St} {H : Hp} {vl : V} {k x y N : Nat} {U G : List (List Nat)} {d : Option Nat} {Q : Bool → Hp → Prop} (h1 : σ[1]? = some (some (iV k))) (h6 : σ[6]? = some (some vl)) (h10 : σ[10]? = some (some (iV x))) (h11 : σ[11]? = some (some (iV y))) (h12 : σ[12]? = some (some (optV d)))
    (o : Over U G k N) (hN : N < 64) (hk : k ≤ 100) (hG : Dp K H vl (dG G)) (hx : x < k * N) (hy : y < k * N) (hd : IsDist U x y d) (q : ∀ H', Same H H' → Q false H') :
    tAnd (tB (tNotN (tVar 12))) (tTest (tOp (rI0 fun i j => V.bl (decide (j < i))) (tCall (sp_distance K) [] E0 (tCons (tVar 6) (tCons (tOp (rI CDiv fun i j => V.int (i / j)) (tVar 10) (tVar 1)) (tCons (tOp (rI CDiv fun i j => V.int (i / j)) (tVar 11) (tVar 1)) tNil)))) (tVar 12))) σ H Q := by
  have kp := o.kp
  refine ⟨_, h12, _, rfl, ?_⟩
  cases d with
  | none => exact iteF (q _ (Same.refl H))
  | some r =>
    refine iteT ⟨_, h6, _, h10, _, h1, _, _, rfl, rfl, ⟨by omega, by omega⟩, _, h11, _, h1, _, _, rfl, rfl, ⟨by omega, by omega⟩, vl, x / k, y / k, G, N, rfl, hG, o.low, hN, o.div_lt hx, o.div_lt hy, fun H' d' s hd' => ?_⟩
    obtain ⟨r', rfl, hle⟩ := o.dist hd hd'
    refine ⟨_, h12, (r' : Int), (r : Int), rfl, rfl, _, rfl, ?_⟩
    have e : decide ((r : Int) < (r' : Int)) = false := decide_eq_false (by omega)
    show Q (decide ((r : Int) < (r' : Int))) H'
    rw [e]
    exact q _ s
theorem len_flat : ∀ Ls : List (List Nat), (∀ L ∈ Ls, L ≠ []) → Ls.length ≤ Ls.flatten.length
  | [], _ => Nat.le_refl _
  | L :: Ls, h => by
    have h1 := len_flat Ls fun M hM => h M (List.mem_cons_of_mem _ hM)
    have h2 := List.length_pos_iff.mpr (h L List.mem_cons_self)
    rw [List.flatten_cons, List.length_append, List.length_cons]
    omega
theorem IsLayers.len_le {G : List (List Nat)} {x : Nat} {Ls : List (List Nat)} (h : IsLayers G x Ls) : Ls.length ≤ Ls.flatten.length :=
  len_flat Ls fun L hL => by
    obtain ⟨i, hi, e⟩ := List.mem_iff_getElem.mp hL
    exact (h.lay i L (by rw [List.getElem?_eq_getElem hi, e])).1
theorem cut_takeA {xs : List V} {j : Nat} : cutV xs none (some (j : Int)) = xs.take j := by
  unfold cutV
  rw [HT.sIx_none, HT.sIx_nat, List.drop_zero, Nat.sub_zero]
  by_cases h : j ≤ xs.length
  · rw [Nat.min_eq_left h]
  · rw [Nat.min_eq_right (by omega), List.take_length, List.take_of_length_le (by omega)]
theorem sum_cast : ∀ ns : List Nat, (ns.map Int.ofNat).sum = ((ns.sum : Nat) : Int)
  | [] => rfl
  | n :: ns => by
    rw [List.map_cons, List.sum_cons, List.sum_cons, sum_cast ns]
    exact (Int.natCast_add _ _).symm
theorem lay_fin {Ls : List Nat} {ys : List V} (h : ys.length = Ls.length) (q : ∀ (i : Nat) (y : V), ys[i]? = some y → y = iV (Ls.getD i 0)) : ys = Ls.map iV := by
  rw [ys_eq h q]
  refine List.ext_getElem? fun i => ?_
  rw [List.getElem?_map, List.getElem?_map]
  by_cases c : i < Ls.length
  · rw [List.getElem?_range c]
    show some (iV (Ls.getD i 0)) = _
    rw [List.getD_eq_getElem?_getD, List.getElem?_eq_getElem c]
    rfl
  · rw [List.getElem?_eq_none (by rw [List.length_range]; omega), List.getElem?_eq_none (by omega)]
    rfl
theorem lay_step {Ls : List (List Nat)} {xs : List V} {σ : L2.St} {H1 H : Hp} {i : Nat} {x : V} {k : V → Hp → Prop} (hσ : σ.length = 23) (hd : DpAll K H1 xs (Ls.map dL)) (hx : xs[i]? = some x) (sm : Same H1 H) (kk : ∀ (y : V) (H' F' : Hp), NewIn H H' F' → y = iV ((Ls.map List.length).getD i 0) → k y H') :
    gName 22 x (wipe σ [22]) H fun σ2 H2 => wipe σ2 [22] = wipe σ [22] ∧ tCB (rLen K) (tCons (tVar 22) tNil) σ2 H2 k := by
  obtain ⟨d, e1, e2⟩ := DpAll.get hd hx
  rw [List.getElem?_map] at e1
  cases hL : Ls[i]? with
  | none => rw [hL] at e1; cases e1
  | some L =>
    rw [hL] at e1
    cases e1
    obtain ⟨t, rfl, ht⟩ := Dp.li e2
    have e22 : (σ.set 22 none).set 22 (some (V.ref t)) = σ.set 22 (some (V.ref t)) := List.set_set ..
    show wipe ((σ.set 22 none).set 22 (some (V.ref t))) [22] = σ.set 22 none ∧ tCB (rLen K) (tCons (tVar 22) tNil) ((σ.set 22 none).set 22 (some (V.ref t))) H k
    rw [e22]
    refine ⟨List.set_set .., _, by rw [List.getElem?_set_self (by omega)], t, _, rfl, .inl (sm.seq ht), kk _ _ LT.hn (NewIn.refl _) ?_⟩
    rw [List.length_map, List.getD_eq_getElem?_getD, List.getElem?_map, hL]
    rfl
theorem cut_tl (x : PyData) (xs : List PyData) : ((x :: xs).drop (HT.sIx (x :: xs).length 0 (some 1))).take (HT.sIx (x :: xs).length (x :: xs).length none - HT.sIx (x :: xs).length 0 (some 1)) = xs := by
  have h : HT.sIx (x :: xs).length 0 (some 1) = 1 := by
    show HT.sIx (x :: xs).length 0 (some ((1 : Nat) : Int)) = 1
    rw [HT.sIx_nat, List.length_cons]
    omega
  rw [h, HT.sIx_none]
  exact List.take_of_length_le (by rw [List.length_cons, Nat.add_sub_cancel]; exact Nat.le_refl _)
theorem cut_hd (x : PyData) (xs : List PyData) : ((x :: xs).drop (HT.sIx (x :: xs).length 0 none)).take (HT.sIx (x :: xs).length (x :: xs).length (some 1) - HT.sIx (x :: xs).length 0 none) = [x] := by
  have h : HT.sIx (x :: xs).length (x :: xs).length (some 1) = 1 := by
    show HT.sIx (x :: xs).length (x :: xs).length (some ((1 : Nat) : Int)) = 1
    rw [HT.sIx_nat, List.length_cons]
    omega
  rw [h, HT.sIx_none]
  rfl
theorem swap_graph {u0 : List Nat} {R : List (List Nat)} {M o1 o2 a b : Nat} (g : GraphOk (u0 :: R) M) (h1 : u0[o1]? = some a) (h2 : u0[o2]? = some b) : GraphOk (((u0.set o1 b).set o2 a) :: R) M := by
  obtain ⟨l1, rfl⟩ := List.getElem?_eq_some_iff.mp h1
  obtain ⟨l2, rfl⟩ := List.getElem?_eq_some_iff.mp h2
  refine ⟨fun row hr => ?_, g.lo, g.hi, g.n1, g.n2⟩
  rcases List.mem_cons.mp hr with rfl | hr
  · exact (List.set_set_perm l1 l2).trans (g.rows u0 List.mem_cons_self)
  · exact g.rows row (List.mem_cons_of_mem _ hr)
theorem swap_at {u0 : List Nat} {o1 o2 a b x y : Nat} (h1 : u0[o1]? = some a) (h2 : u0[o2]? = some b) (h : ((u0.set o1 b).set o2 a)[x]? = some y) : (x = o2 ∧ y = a) ∨ (x = o1 ∧ y = b) ∨ u0[x]? = some y := by
  by_cases c2 : x = o2
  · subst c2
    rw [List.getElem?_set_self (by rw [List.length_set]; exact (List.getElem?_eq_some_iff.mp h2).1)] at h
    exact .inl ⟨rfl, (Option.some.inj h).symm⟩
  · rw [List.getElem?_set_ne (fun z => c2 z.symm)] at h
    by_cases c1 : x = o1
    · subst c1
      rw [List.getElem?_set_self (List.getElem?_eq_some_iff.mp h1).1] at h
      exact .inr (.inl ⟨rfl, (Option.some.inj h).symm⟩)
    · rw [List.getElem?_set_ne (fun z => c1 z.symm)] at h
      exact .inr (.inr h)
theorem swap_one {u0 : List Nat} {o1 o2 a b : Nat} (h1 : u0[o1]? = some a) (h2 : u0[o2]? = some b) : ((u0.set o1 b).set o2 a)[o1]? = some b := by
  have l1 := (List.getElem?_eq_some_iff.mp h1).1
  by_cases c : o1 = o2
  · subst c
    rw [List.getElem?_set_self (by rw [List.length_set]; exact l1)]
    rw [h1] at h2
    exact h2
  · rw [List.getElem?_set_ne (fun z => c z.symm), List.getElem?_set_self l1]
theorem swap_iff {u0 : List Nat} {R G : List (List Nat)} {k N o1 o2 a b : Nat} (o : Over (u0 :: R) G k N) (h1 : u0[o1]? = some a) (h2 : u0[o2]? = some b) : OverP (((u0.set o1 b).set o2 a) :: R) G (k * N) N k ↔ b / k = a / k := by
  obtain ⟨l0, S, rfl, _⟩ := o.low.head
  have p1 := o.proj 0 u0 l0 o1 a rfl rfl h1
  have p2 := o.proj 0 u0 l0 o2 b rfl rfl h2
  constructor
  · intro z
    have q := z.2.2 0 _ l0 rfl rfl o1 b (swap_one h1 h2)
    rw [p1] at q
    exact (Option.some.inj q).symm
  · intro e
    refine ⟨o.len, rfl, fun i u l hu hl x y hx => ?_⟩
    cases i with
    | zero =>
      cases hu
      cases hl
      rcases swap_at h1 h2 hx with ⟨rfl, rfl⟩ | ⟨rfl, rfl⟩ | h
      · rw [p2, e]
      · rw [p1, e]
      · exact o.proj 0 u0 l0 x y rfl rfl h
    | succ i => exact o.proj (i + 1) u l x y hu hl hx
def sp_law (K : PySem.W.Frag) : Sp := fun vs H Q _ => ∃ (a : Addr) (ns : List Int), vs = [.ref a] ∧ SqL K H a (ns.map V.int) ∧ ∀ H', Q (.bl true) H'
set_option maxHeartbeats 8000000 in
theorem ok_law (T : Txt K mg) {f : Addr} {fd : FuncData} (FL : Fun K "law" "law" s_law f fd) (D_law_cell : DefOk P w K mg base CX0 1 "_law_cell" ["_law_script", "_law_k"] (sp_law_cell K))
    (D_law_machine : DefOk P w K mg base CX0 2 "_law_machine" ["_law_cell_here", "_law_second", "_law_k", "_law_n"] (sp_lawm K))
    (D_law_word : DefOk P w K mg base CX0 2 "_law_word" ["_law_cell_here", "_law_n", "_law_most"] (sp_lawword K))
    (D_law_is_even : DefOk P w K mg base CX0 1 "_law_is_even" ["_law_part", "_law_k"] (sp_even K))
    (D_level_graph : DefOk P w K mg base CX0 6 "level_graph" ["machine", "words", "n"] (sp_level_graph K))
    (D_law_told : DefOk P w K mg base CX0 4 "_law_told" ["_law_upper", "_law_lower", "_law_k"] (sp_law_told K))
    (D_parts : DefOk P w K mg base CX0 3 "parts" ["graph"] (sp_parts K))
    (D_layers : DefOk P w K mg base CX0 3 "layers" ["graph", "number"] (sp_lays K))
    (D_distance : DefOk P w K mg base CX0 3 "distance" ["graph", "one", "other"] (sp_distance K)) :
    FnOk P w K mg base CX0 7 f fd ["_law_script"] (sp_law K) := by
  refine FL.ok sc_law (fun vs H Q E h => ?_) (fun cdv A outer s H vs Q E hr h => ?_)
  · obtain ⟨_, _, rfl, _⟩ := h; rfl
  · obtain ⟨sc, ns, rfl, hs, q⟩ := h
    have nd := sc_law.nd
    refine ⟨_, (pss_cons (ps_set (i := 1) nd rfl (Or.inl rfl) (pe_op op_add pe_int (pe_op op_mod (pe_callD D_law_cell (hr.mono (by decide)) rfl (pa_cons (pv 0) (pa_cons pe_int pa_nil))) pe_int)))
      (pss_cons (ps_set (i := 2) nd rfl (Or.inr rfl) (pe_op op_add pe_int (pe_op op_mod (pe_op op_fdiv (pe_callD D_law_cell (hr.mono (by decide)) rfl (pa_cons (pv 0) (pa_cons pe_int pa_nil))) pe_int) pe_int)))
      (pss_cons (ps_set (i := 3) nd rfl (Or.inl rfl) (pe_callD D_law_machine (hr.mono (by decide)) rfl (pa_cons (pe_callD D_law_cell (hr.mono (by decide)) rfl (pa_cons (pv 0) (pa_cons pe_int pa_nil))) (pa_cons (pe_callD D_law_cell (hr.mono (by decide)) rfl (pa_cons (pv 0) (pa_cons pe_int pa_nil))) (pa_cons (pv 1) (pa_cons (pv 2) pa_nil))))))
      (pss_cons (ps_setLc (i := 4) (own := [("_law_j", 21)]) (g := (gName 21)) rfl nd rfl rfl (sw_true rfl rfl rfl (by decide +kernel)) (pi_range1 rfl T.z_range (pa_cons (pe_op op_add pe_int (pe_op op_mod (pe_callD D_law_cell (hr.mono (by decide)) rfl (pa_cons (pv 0) (pa_cons pe_int pa_nil))) pe_int)) pa_nil)) (blkOk_by (own := [("_law_j", 21)]) (N := N_law) (sc := defScope s_law) (by decide +kernel)) (fun _ _ _ _ _ => (pg_name (i := 21) nd rfl (Or.inl rfl))) (fun _ _ _ _ _ => pts_nil) (fun _ _ _ _ _ => (pe_callD D_law_word (hr.mono (by decide)) rfl (pa_cons (pe_callD D_law_cell (hr.mono (by decide)) rfl (pa_cons (pv 0) (pa_cons (pe_op op_add pe_int (pv 21)) pa_nil))) (pa_cons (pv 2) (pa_cons pe_int pa_nil))))))
      (pss_cons (ps_set (i := 5) nd rfl (Or.inl rfl) (pe_op op_mod (pe_op op_fdiv (pe_callD D_law_cell (hr.mono (by decide)) rfl (pa_cons (pv 0) (pa_cons pe_int pa_nil))) pe_int) pe_int))
      (pss_cons (ps_set (i := 6) nd rfl (Or.inl rfl) (pe_callD D_level_graph (hr.mono (by decide)) rfl (pa_cons (pv 3) (pa_cons (pv 4) (pa_cons (pv 5) pa_nil)))))
      (pss_cons (ps_set (i := 7) nd rfl (Or.inl rfl) (pe_callD D_level_graph (hr.mono (by decide)) rfl (pa_cons (pv 3) (pa_cons (pv 4) (pa_cons (pe_op op_add (pv 5) pe_int) pa_nil)))))
      (pss_cons (ps_if (pt_cmpR op_notBl (pe_callD D_law_told (hr.mono (by decide)) rfl (pa_cons (pv 7) (pa_cons (pv 6) (pa_cons (pv 1) pa_nil)))) pe_bl (nomark _)) (pss_one (ps_ret pe_bl)) pss_nil)
      (pss_cons (ps_set (i := 8) nd rfl (Or.inl rfl) (pe_callD D_parts (hr.mono (by decide)) rfl (pa_cons (pv 6) pa_nil)))
      (pss_cons (ps_for ph rfl (pi_list (pe_callD D_parts (hr.mono (by decide)) rfl (pa_cons (pv 7) pa_nil))) (pg_name (i := 9) nd rfl (Or.inl rfl)) 
        (pss_cons (ps_set (i := 19) nd rfl (Or.inl rfl) (pe_lst pa_nil))
        (pss_cons (ps_for ph rfl (pi_list (pv 9)) (pg_name (i := 20) nd rfl (Or.inl rfl)) 
          (pss_one (ps_if (pt_cmpR op_notIn_seq (pe_op op_fdiv (pv 20) (pv 1)) (pv 19) (by rfl)) (pss_one (ps_expr (pe_bm PySem.F.plainAttrs_list PySem.F.slot_list_append PySem.F.type_list_append mt_append (pv 19) (pa_cons (pe_op op_fdiv (pv 20) (pv 1)) pa_nil)))) pss_nil)))
        (pss_cons (ps_set (i := 19) nd rfl (Or.inl rfl) (pe_callB cr_sorted (by rfl) T.z_sorted bb_sorted (pa_cons (pv 19) pa_nil)))
        (pss_one (ps_if (PW.pt (pw_or (pt_cmpR (op_notInD (units65 hr)) (pv 19) (pv 8) (by rfl)) (pw_or1 (pt_not (pt_val (pe_callD D_law_is_even (hr.mono (by decide)) rfl (pa_cons (pv 9) (pa_cons (pv 1) pa_nil)))))))) (pss_one (ps_ret pe_bl)) pss_nil))))))
      (pss_cons (ps_set (i := 10) nd rfl (Or.inl rfl) (pe_op op_mod (pe_callD D_law_cell (hr.mono (by decide)) rfl (pa_cons (pv 0) (pa_cons pe_int pa_nil))) (pe_callB call_len_seq (by rfl) T.z_len bb_len (pa_cons (pe_ix ix_tup (pv 7) pe_int (fun _ _ => rfl)) pa_nil))))
      (pss_cons (ps_set (i := 11) nd rfl (Or.inl rfl) (pe_op op_mod (pe_callD D_law_cell (hr.mono (by decide)) rfl (pa_cons (pv 0) (pa_cons pe_int pa_nil))) (pe_callB call_len_seq (by rfl) T.z_len bb_len (pa_cons (pe_ix ix_tup (pv 7) pe_int (fun _ _ => rfl)) pa_nil))))
      (pss_cons (ps_set (i := 12) nd rfl (Or.inl rfl) (pe_callD D_distance (hr.mono (by decide)) rfl (pa_cons (pv 7) (pa_cons (pv 10) (pa_cons (pv 11) pa_nil)))))
      (pss_cons (ps_if (PW.pt (pw_and (pt_cmp (pc_notN (pv 12))) (pw_and1 (pt_cmpR op_gt (pe_callD D_distance (hr.mono (by decide)) rfl (pa_cons (pv 6) (pa_cons (pe_op op_fdiv (pv 10) (pv 1)) (pa_cons (pe_op op_fdiv (pv 11) (pv 1)) pa_nil)))) (pv 12) (nomark _))))) (pss_one (ps_ret pe_bl)) pss_nil)
      (pss_cons (ps_setLc (i := 13) (own := [("_law_layer", 22)]) (g := (gName 22)) rfl nd rfl rfl (sw_true rfl rfl rfl (by decide +kernel)) (pi_list (pe_callD D_layers (hr.mono (by decide)) rfl (pa_cons (pv 7) (pa_cons (pv 10) pa_nil)))) (blkOk_by (own := [("_law_layer", 22)]) (N := N_law) (sc := defScope s_law) (by decide +kernel)) (fun _ _ _ _ _ => (pg_name (i := 22) nd rfl (Or.inl rfl))) (fun _ _ _ _ _ => pts_nil) (fun _ _ _ _ _ => (pe_callB (r := rLen K) call_len_seq (by rfl) T.z_len bb_len (pa_cons (pv 22) pa_nil))))
      (pss_cons (ps_setLc (i := 14) (own := [("_law_layer", 22)]) (g := (gName 22)) rfl nd rfl rfl (sw_true rfl rfl rfl (by decide +kernel)) (pi_list (pe_callD D_layers (hr.mono (by decide)) rfl (pa_cons (pv 6) (pa_cons (pe_op op_fdiv (pv 10) (pv 1)) pa_nil)))) (blkOk_by (own := [("_law_layer", 22)]) (N := N_law) (sc := defScope s_law) (by decide +kernel)) (fun _ _ _ _ _ => (pg_name (i := 22) nd rfl (Or.inl rfl))) (fun _ _ _ _ _ => pts_nil) (fun _ _ _ _ _ => (pe_callB (r := rLen K) call_len_seq (by rfl) T.z_len bb_len (pa_cons (pv 22) pa_nil))))
      (pss_cons (ps_for ph rfl (pi_range1 rfl T.z_range (pa_cons (pe_callB call_len_seq (by rfl) T.z_len bb_len (pa_cons (pv 14) pa_nil)) pa_nil)) (pg_name (i := 15) nd rfl (Or.inl rfl)) 
        (pss_one (ps_if (pt_cmpR op_lt (pe_callB (cr_sum rfl) (by rfl) T.z_sum bb_sum (pa_cons (pe_slice sl_list (pv 13) po_none (po_some (pe_op op_add (pv 15) pe_int))) pa_nil)) (pe_callB (cr_sum rfl) (by rfl) T.z_sum bb_sum (pa_cons (pe_slice sl_list (pv 14) po_none (po_some (pe_op op_add (pv 15) pe_int))) pa_nil)) (nomark _)) (pss_one (ps_ret pe_bl)) pss_nil)))
      (pss_cons (ps_set (i := 16) nd rfl (Or.inl rfl) (pe_callTy call_list_of (by rfl) T.z_list bb_list (pa_cons (pe_ix ix_tup (pv 7) pe_int (fun _ _ => rfl)) pa_nil)))
      (pss_cons (ps_set (i := 17) nd rfl (Or.inl rfl) (pe_ix ix_list (pv 16) (pv 10) (fun _ _ => rfl)))
      (pss_cons (ps_asg (pe_ix ix_list (pv 16) (pv 11) (fun _ _ => rfl)) (pg_sub (pv 16) (pv 10) set_list))
      (pss_cons (ps_asg (pv 17) (pg_sub (pv 16) (pv 11) set_list))
      (pss_cons (ps_set (i := 18) nd rfl (Or.inl rfl) (pe_op op_catA (pe_tup (pa_cons (pe_callTy call_tuple_of (by rfl) T.z_tuple bb_tuple (pa_cons (pv 16) pa_nil)) pa_nil)) (pe_slice sl_tupA (pv 7) (po_some pe_int) po_none)))
      (pss_cons (ps_if (pt_cmpR op_ne (pe_callD D_law_told (hr.mono (by decide)) rfl (pa_cons (pv 18) (pa_cons (pv 6) (pa_cons (pv 1) pa_nil)))) (pe_cmpR op_eq (pe_op op_fdiv (pe_ix ix_list (pv 16) (pv 10) (fun _ _ => rfl)) (pv 1)) (pe_op op_fdiv (pv 17) (pv 1)) (nomark _)) (nomark _)) (pss_one (ps_ret pe_bl)) pss_nil)
      (pss_cons (ps_if (PW.pt (pw_or (pt_cmpR op_notBl (pe_callD D_law_told (hr.mono (by decide)) rfl (pa_cons (pv 7) (pa_cons (pe_op op_catA (pv 6) (pe_slice sl_tupA (pv 6) po_none (po_some pe_int))) (pa_cons (pv 1) pa_nil)))) pe_bl (nomark _)) (pw_or1 (pt_cmpR op_notBl (pe_callD D_law_told (hr.mono (by decide)) rfl (pa_cons (pv 7) (pa_cons (pv 7) (pa_cons (pv 1) pa_nil)))) pe_bl (nomark _))))) (pss_one (ps_ret pe_bl)) pss_nil)
      (pss_one (ps_ret (pe_and (pe_cmpR op_eq (pe_callD D_law_told (hr.mono (by decide)) rfl (pa_cons (pe_tup (pa_cons (pe_tup (pa_cons pe_int (pa_cons pe_int pa_nil))) pa_nil)) (pa_cons (pv 6) (pa_cons pe_int pa_nil)))) pe_str (nomark _)) (pe_one (pe_cmpR op_eq (pe_callD D_law_told (hr.mono (by decide)) rfl (pa_cons (pv 7) (pa_cons (pv 6) (pa_cons pe_int pa_nil)))) pe_str (nomark _)))))))))))))))))))))))))))))), ?_⟩
    -- k
    refine ⟨_, rfl, sc, ns, 0, rfl, hs, fun c0 => ?_⟩
    obtain ⟨r0, hr0, lr0⟩ := mod_nat c0 2 (by decide)
    refine ⟨c0, 2, rfl, rfl, by show (0 : Int) < 2; decide, 2, (r0 : Int), rfl, congrArg V.int hr0, ?_⟩
    -- n
    refine ⟨_, rfl, sc, ns, 0, rfl, hs, fun c1 => ?_⟩
    obtain ⟨r1, hr1, lr1⟩ := mod_nat (c1 / 2) 4 (by decide)
    refine ⟨c1, 2, rfl, rfl, ⟨by decide, by decide⟩, c1 / 2, 4, rfl, rfl, by show (0 : Int) < 4; decide, 1, (r1 : Int), rfl, congrArg V.int hr1, ?_⟩
    -- machine
    refine ⟨_, rfl, sc, ns, 1, rfl, hs, fun c2 => ?_⟩
    refine ⟨_, rfl, sc, ns, 2, rfl, hs, fun c3 => ?_⟩
    refine ⟨_, rfl, _, rfl, c2, c3, 2 + r0, 1 + r1, rfl, by omega, by omega, by omega, by omega, fun H1 F1 vm rows nw1 hvm hm hrl => ?_⟩
    have L1 : Loc H H1 hn F1 := by
      have := (Loc.start H).call nw1
      rw [show uni hn F1 = F1 from funext fun b => uni_r rfl] at this
      exact this
    -- words
    refine ⟨_, rfl, sc, ns, 3, rfl, L1.old.seq hs, fun c4 => ?_⟩
    obtain ⟨r4, hr4, lr4⟩ := mod_nat c4 2 (by decide)
    refine ⟨c4, 2, rfl, rfl, by show (0 : Int) < 2; decide, 1, (r4 : Int), rfl, congrArg V.int hr4, _, rfl, by omega, by omega, fun D hD => ?_⟩
    have eN : (1 + (r4 : Int)).toNat = 1 + r4 := by omega
    rw [eN]
    refine lcR (fun i y F => ∃ wd : List Letter, y = V.str (wtext wd) ∧ (∀ l ∈ wd, l.1 < 1 + r1) ∧ wd.length ≤ 4) hD (by rw [sizeLine_eq]; omega) (fun _ _ _ _ _ h => h) (fun i H5 k' hi sm kk => ?_) (fun ys H5 F5 nw5 hF5 hyl hy => ?_)
    · exact ⟨rfl, _, rfl, _, rfl, 4, (i : Int), rfl, rfl, sc, ns, 4 + i, rfl, sm.seq (L1.old.seq hs), fun c5 => ⟨_, rfl, c5, 1 + r1, rfl, by omega, by omega, fun H6 wd s6 h1 h2 => kk _ _ _ (NewIn.of_same s6) ⟨wd, rfl, h1, h2⟩⟩⟩
    obtain ⟨ws, hws, hwq⟩ := words_of ys (1 + r1) hy
    have hwl : ws.length = 1 + r4 := by rw [← hyl, hws, List.length_map]
    have L5 := L1.call nw5
    have hvm5 := Dp.mono (Same.uni_l F1 F5) hvm
    have hvw5 : Dp K (uni F1 F5) (.ref D) (dW ws) := by
      refine Dp.mono (L1.right nw5) (.lst (SqL.of hF5) ?_)
      rw [hws]
      exact DpAll.strs ws
    generalize uni F1 F5 = F at L5 hvm5 hvw5
    -- level
    refine ⟨_, rfl, sc, ns, 3, rfl, L5.old.seq hs, fun c6 => ?_⟩
    obtain ⟨n, hn6, ln⟩ : ∃ r : Nat, c6 / 2 % 3 = (r : Int) ∧ r < 3 := mod_nat (c6 / 2) 3 (by decide)
    refine ⟨c6, 2, rfl, rfl, ⟨by decide, by decide⟩, c6 / 2, 3, rfl, rfl, by show (0 : Int) < 3; decide, ?_⟩
    have hwk : ∀ wd ∈ ws, WordOk rows wd ∧ wd.length ≤ 60 := fun wd h => ⟨fun l hl => by rw [hrl]; exact (hwq wd h).1 l hl, by have := (hwq wd h).2; omega⟩
    refine ⟨_, rfl, _, rfl, _, rfl, vm, .ref D, 2 + r0, n, rows, ws, by show [_, _, V.int (c6 / 2 % 3)] = _; rw [hn6]; rfl, Dp.mono L5.new hvm5, Dp.mono L5.new hvw5, hm, by omega, by omega, hwk, by omega, fun H7 F7 vl nw7 hvl => ?_⟩
    have L7 := L5.call nw7
    have s7 := Same.uni_l F F7
    have hvl7 := Dp.mono (L5.right nw7) hvl
    have hvm7 := Dp.mono s7 hvm5
    have hvw7 := Dp.mono s7 hvw5
    generalize uni F F7 = F8 at L7 hvl7 hvm7 hvw7
    refine ⟨_, rfl, _, rfl, _, rfl, _, _, rfl, rfl, vm, .ref D, 2 + r0, n + 1, rows, ws, by show [_, _, V.int (c6 / 2 % 3 + 1)] = _; rw [hn6]; rfl, Dp.mono L7.new hvm7, Dp.mono L7.new hvw7, hm, by omega, by omega, hwk, by omega, fun H8 F9 vu nw8 hvu => ?_⟩
    have L8 := L7.call nw8
    have hvl8 := Dp.mono (Same.uni_l F8 F9) hvl7
    have hvu8 := Dp.mono (L7.right nw8) hvu
    generalize uni F8 F9 = FF at L8 hvl8 hvu8
    have hp27 := pow_small (k := 2 + r0) (n := n + 1) (by omega) (by omega)
    have ov := hm.over (ws := ws) (n := n) (by omega) (by omega) (fun wd h => (hwk wd h).1) (by omega)
    have hUl : (levelG (2 + r0) rows ws (n + 1)).length ≤ 2 := by unfold levelG; rw [List.length_map]; omega
    have ekN : (2 + r0) ^ (n + 1) = (2 + r0) * (2 + r0) ^ n := by rw [Nat.pow_succ, Nat.mul_comm]
    have k2 : 2 ≤ 2 + r0 := by omega
    have k3 : 2 + r0 ≤ 3 := by omega
    rw [ekN] at hp27
    generalize levelG (2 + r0) rows ws (n + 1) = U at ov hUl hvu hvu8
    generalize levelG (2 + r0) rows ws n = G at ov hvl hvl8
    generalize (2 + r0) ^ n = N at ov hp27
    have hN : N ≤ 13 := by
      have := Nat.mul_le_mul_right N k2
      omega
    have hU0 := Dp.mono L8.new hvu8
    have hG0 := Dp.mono L8.new hvl8
    have hs0 := L8.old.seq hs
    have hovP := ov.P
    clear hvu hvl hvu8 hvl8 L8 L7 L5 L1 hvl7 hvm7 hvw7 s7 nw7 nw8 nw5 nw1 hwk hwq hws hy hyl hF5 hD eN hvm hvm5 hvw5 hm hrl ekN
    -- told
    refine ⟨_, rfl, _, rfl, _, rfl, vu, vl, 2 + r0, U, G, (2 + r0) * N, N, rfl, hU0, hG0, ov.low, by omega, .inr (.inr ⟨ov.up, by omega, k2, by omega, fun b hb H10 s10 => ?_⟩)⟩
    obtain rfl : b = true := hb.mpr hovP
    refine ⟨true, true, rfl, rfl, _, rfl, iteF ?_⟩
    -- below
    refine ⟨_, rfl, vl, G, N, rfl, Dp.mono s10 hG0, ov.low, by omega, fun H11 F11 vb qs nw11 hvb hqs => ?_⟩
    have s11 := s10.trans nw11.old
    -- part by part
    refine ⟨_, rfl, vu, U, (2 + r0) * N, rfl, Dp.mono s11 hU0, ov.up, by omega, fun H12 F12 vp ps nw12 hvp hps => ?_⟩
    have s12 := s11.trans nw12.old
    have hvb12 := Dp.mono (nw11.new.trans nw12.old) hvb
    obtain ⟨pa, pxs, rfl, hpa, hpd⟩ := Dp.l (Dp.mono nw12.new hvp)
    refine ⟨pa, rfl, ⟨_, hpa⟩, for_list (K := K) (a := pa) (xs := pxs) (fun i σ H' => ∃ v9 v19 v20, σ = [some (.ref sc), some (iV (2 + r0)), some (iV (1 + r1)), some vm, some (.ref D), some (.int (c6 / 2 % 3)), some vl, some vu, some vb, v9, none, none, none, none, none, none, none, none, none, v19, v20, none, none] ∧ Same H12 H') ⟨none, none, none, rfl, Same.refl _⟩ (fun i σ H' _ ⟨_, _, _, _, s'⟩ => s'.seq hpa) ?_ ?_⟩
    · rintro i x σ Hi hx ⟨v9, v19, v20, rfl, sI⟩
      obtain ⟨d, e1, e2⟩ := DpAll.get hpd hx
      rw [List.getElem?_map] at e1
      cases hpi : ps[i]? with
      | none => rw [hpi] at e1; cases e1
      | some p =>
      rw [hpi] at e1
      cases e1
      have hp := List.mem_of_getElem? hpi
      obtain ⟨t, rfl, ht⟩ := Dp.li e2
      have htI := sI.seq ht
      obtain ⟨hsp, x0, hx0, hpx⟩ := hps.part p hp
      have hpne : p ≠ [] := fun e => by
        have := (hpx x0).mpr Comp.refl
        rw [e] at this
        cases this
      have hpN : ∀ y ∈ p, y < (2 + r0) * N := fun y hy => let ⟨_, h⟩ := (hpx y).mp hy; ov.up.reach hx0 h
      have hpl : p.length ≤ (2 + r0) * N := by
        have := List.Nodup.length_le_of_subset (l₁ := p) (hsp.imp fun {a b} q => Nat.ne_of_lt q) (l₂ := List.range ((2 + r0) * N)) fun z hz => List.mem_range.mpr (hpN z hz)
        rw [List.length_range] at this
        exact this
      refine ⟨Nat.zero_le _, fun Ud hUd => ?_⟩
      refine ⟨_, rfl, t, rfl, ⟨_, (Same.upd hUd).seq htI⟩, for_list (K := K) (a := t) (xs := p.map iV) (fun j σ H' => ∃ v20 us, σ = [some (.ref sc), some (iV (2 + r0)), some (iV (1 + r1)), some vm, some (.ref D), some (.int (c6 / 2 % 3)), some vl, some vu, some vb, some (.ref t), none, none, none, none, none, none, none, none, none, some (.ref Ud), v20, none, none] ∧
        H' = upd Hi Ud (.lst (us.map iV)) ∧ us.length ≤ j ∧ us.Nodup ∧ ∀ b, b ∈ us ↔ ∃ z ∈ p.take j, z / (2 + r0) = b) ⟨v20, [], rfl, rfl, Nat.le_refl _, List.nodup_nil, fun b => ⟨fun h => (by cases h), fun ⟨_, h, _⟩ => (by cases h)⟩⟩ (fun j σ H' _ ⟨_, _, _, e, _⟩ => by rw [e]; exact (Same.upd hUd).seq htI) ?_ ?_⟩
      · rintro j y σ H' hy ⟨v20, us, rfl, rfl, hul, hun, hus⟩
        rw [List.getElem?_map] at hy
        cases hz : p[j]? with
        | none => rw [hz] at hy; cases hy
        | some z =>
        rw [hz] at hy
        cases hy
        have hjl : j < p.length := (List.getElem?_eq_some_iff.mp hz).1
        refine ⟨_, rfl, _, rfl, _, _, rfl, rfl, ⟨by omega, by omega⟩, _, rfl, Ud, us.map iV, rfl, .inl (SqL.of upd_same), rfl, flat_ints us, _, rfl, ?_⟩
        show if (!inV (iV (z / (2 + r0))) (us.map iV)) = true then _ else _
        rw [inV_ints]
        by_cases c : z / (2 + r0) ∈ us
        · rw [decide_eq_true c]
          refine iteF ⟨_, us, rfl, rfl, by omega, hun, fun b => ?_⟩
          rw [hus, take_succ_get hz]
          constructor
          · rintro ⟨z', h1, h2⟩
            exact ⟨z', List.mem_append_left _ h1, h2⟩
          · rintro ⟨z', h1, h2⟩
            rcases List.mem_append.mp h1 with h1 | h1
            · exact ⟨z', h1, h2⟩
            · rw [List.mem_singleton.mp h1] at h2
              subst h2
              exact (hus _).mp c
        · rw [decide_eq_false c]
          refine iteT ?_
          refine ⟨_, rfl, .inl ⟨rfl, _, SqL.of upd_same⟩, _, rfl, _, rfl, _, _, rfl, rfl, ⟨by omega, by omega⟩, Ud, _, _, rfl, rfl, upd_same, by rw [List.length_map, sizeLine_eq]; omega, ?_⟩
          refine ⟨_, us ++ [z / (2 + r0)], rfl, by rw [upd_upd, List.map_append]; rfl, by rw [List.length_append]; exact Nat.succ_le_succ hul, nd_snoc hun c, fun b => ?_⟩
          rw [List.mem_append, List.mem_singleton, hus, take_succ_get hz]
          constructor
          · rintro (⟨z', h1, h2⟩ | h2)
            · exact ⟨z', List.mem_append_left _ h1, h2⟩
            · exact ⟨z, by simp, h2.symm⟩
          · rintro ⟨z', h1, h2⟩
            rcases List.mem_append.mp h1 with h1 | h1
            · exact .inl ⟨z', h1, h2⟩
            · rw [List.mem_singleton.mp h1] at h2
              exact .inr h2.symm
      · rintro σ H' ⟨v20, us, rfl, rfl, hul, hun, hus⟩
        rw [List.length_map] at hul
        rw [List.length_map, List.take_length] at hus
        refine ⟨_, rfl, Ud, us.map Int.ofNat, rfl, SqL.of (by rw [← map_iV]; exact upd_same), by rw [List.length_map]; omega, fun zs' p' hperm hsrt hp' => ?_⟩
        obtain ⟨ms, hms1, hmp, hmsrt⟩ := sorted_nat hperm hsrt
        have hms : ms.Pairwise (· < ·) := strict_of (hmp.nodup_iff.mpr hun) hmsrt
        have hmq : ms ∈ qs := ov.under hps hqs hp hms fun b => by rw [hmp.mem_iff, hus]
        obtain ⟨cc, hc1, hck, hcc⟩ := ov.even hps hp
        have sU : Same Hi (upd (upd Hi Ud (.lst (us.map iV))) p' (.lst (zs'.map V.int))) := (Same.upd hUd).trans (Same.upd hp')
        rw [hms1] at sU ⊢
        refine ⟨_, rfl, _, rfl, dL ms, qs.map dL, .lst (SqL.of upd_same) (DpAll.of_ints ms), Dp.mono (sI.trans sU) hvb12, shaped_dL ms, shaped_dLL qs, _, rfl, ?_⟩
        rw [any_dL hmq]
        refine iteF ⟨_, rfl, _, rfl, .ref t, p, 2 + r0, cc, rfl, .lst (sU.seq htI) (DpAll.of_ints p), hpne, by omega, by omega, hc1, hck, hcc, fun H' s' => ⟨_, rfl, ?_⟩⟩
        exact iteF ⟨_, _, _, rfl, (sI.trans sU).trans s'⟩
    · rintro σ Hi ⟨v9, v19, v20, rfl, sI⟩
      have s13 := s12.trans sI
      have hU := Dp.mono s13 hU0
      have hG := Dp.mono s13 hG0
      have hsI := s13.seq hs0
      clear hvb hvb12 hpa hpd hvp nw12 nw11 hqs hps s12 s11 s10 sI s13 hU0 hG0 hs0 hb
      obtain ⟨ua, uxs, ur, u0, rfl, hua, hual, hux0, hu0, hur, hurl⟩ := Dp.row0 hU ov.up
      have hlr : (u0.map iV).length = (2 + r0) * N := by rw [List.length_map, hurl]
      have kNpos : 0 < (2 + r0) * N := ov.up.n1
      -- one, other
      refine ⟨_, rfl, sc, ns, 6, rfl, hsI, fun c7 => ⟨_, rfl, ua, uxs, 0, _, rfl, rfl, hua, at_of (j := 0) rfl hux0, ur, _, rfl, .inr hur, ?_⟩⟩
      rw [hlr]
      obtain ⟨o1, ho1, lo1⟩ := mod_nat c7 ((2 + r0) * N) kNpos
      refine ⟨c7, _, rfl, rfl, by show (0 : Int) < (((2 + r0) * N : Nat) : Int); omega, ?_⟩
      simp only [ho1]
      refine ⟨_, rfl, sc, ns, 7, rfl, hsI, fun c8 => ⟨_, rfl, ua, uxs, 0, _, rfl, rfl, hua, at_of (j := 0) rfl hux0, ur, _, rfl, .inr hur, ?_⟩⟩
      rw [hlr]
      obtain ⟨o2, ho2, lo2⟩ := mod_nat c8 ((2 + r0) * N) kNpos
      refine ⟨c8, _, rfl, rfl, by show (0 : Int) < (((2 + r0) * N : Nat) : Int); omega, ?_⟩
      simp only [ho2]
      -- far
      refine ⟨_, rfl, _, rfl, _, rfl, .ref ua, o1, o2, U, (2 + r0) * N, rfl, hU, ov.up, by omega, lo1, lo2, fun H14 d s14 hd => ?_⟩
      refine far_if (vl := vl) (k := 2 + r0) (x := o1) (y := o2) (d := d) rfl rfl rfl rfl rfl ov (by omega) (by omega) (Dp.mono s14 hG) lo1 lo2 hd fun H15 s15 => ?_
      refine iteF ?_
      have s15 := s14.trans s15
      -- high
      refine ⟨_, rfl, _, rfl, .ref ua, o1, U, (2 + r0) * N, rfl, Dp.mono s15 hU, ov.up, by omega, lo1, fun H16 F16 v Us nw16 hv hUs => ?_⟩
      obtain ⟨la, lxs, rfl, hla, hld⟩ := Dp.l (Dp.mono nw16.new hv)
      have hlen : Us.length ≤ 1000 := by
        have h1 := hUs.flat_len ov.up lo1
        have h2 := hUs.len_le
        omega
      refine ⟨la, rfl, ⟨_, hla⟩, fun D1 hD1 => lcL (fun i y F => y = iV ((Us.map List.length).getD i 0)) hD1 hla (by rw [DpAll.length hld, List.length_map, sizeLine_eq]; omega) (fun _ _ _ _ _ h => h) (fun i x H4 k' hx sm kk => lay_step rfl hld hx sm kk) (fun ys1 H17 F17 nw17 hF17 hyl1 hy1 => ?_)⟩
      have eys1 : ys1 = (Us.map List.length).map iV := lay_fin (by rw [hyl1, DpAll.length hld, List.length_map, List.length_map]) hy1
      have s17 := (s15.trans nw16.old).trans nw17.old
      have hhi : SqL K H17 D1 ((Us.map List.length).map iV) := by
        rw [← eys1]
        exact SqL.of (nw17.new _ _ hF17)
      -- low
      refine ⟨_, rfl, _, rfl, _, rfl, _, _, rfl, rfl, ⟨by omega, by omega⟩, vl, o1 / (2 + r0), G, N, rfl, Dp.mono s17 hG, ov.low, by omega, ov.div_lt lo1, fun H18 F18 v2 Ws nw18 hv2 hWs => ?_⟩
      obtain ⟨lb, lys, rfl, hlb, hle⟩ := Dp.l (Dp.mono nw18.new hv2)
      have hlen2 : Ws.length ≤ 1000 := by
        have h1 := hWs.flat_len ov.low (ov.div_lt lo1)
        have h2 := hWs.len_le
        omega
      refine ⟨lb, rfl, ⟨_, hlb⟩, fun D2 hD2 => lcL (fun i y F => y = iV ((Ws.map List.length).getD i 0)) hD2 hlb (by rw [DpAll.length hle, List.length_map, sizeLine_eq]; omega) (fun _ _ _ _ _ h => h) (fun i x H4 k' hx sm kk => lay_step rfl hle hx sm kk) (fun ys2 H19 F19 nw19 hF19 hyl2 hy2 => ?_)⟩
      have eys2 : ys2 = (Ws.map List.length).map iV := lay_fin (by rw [hyl2, DpAll.length hle, List.length_map, List.length_map]) hy2
      have s19a := nw18.old.trans nw19.old
      have s19 := s17.trans s19a
      have hhi9 := s19a.seq hhi
      have hlo9 : SqL K H19 D2 ((Ws.map List.length).map iV) := by
        rw [← eys2]
        exact SqL.of (nw19.new _ _ hF19)
      clear hhi hv hv2 hla hld hlb hle nw16 nw17 nw18 nw19 hF17 hF19 hy1 hy2 eys1 eys2 s14 s15 s17 s19a
      have ewl : ((Ws.map List.length).map iV).length = Ws.length := by rw [List.length_map, List.length_map]
      -- step by step
      refine ⟨_, rfl, D2, _, rfl, .inl hlo9, ?_⟩
      rw [ewl]
      refine ⟨_, rfl, by omega, by omega, ?_⟩
      rw [toNat_n]
      refine for_range (lo := 0) (n := Ws.length) (fun i σ H' => ∃ v9 v15 v19 v20, σ = [some (.ref sc), some (iV (2 + r0)), some (iV (1 + r1)), some vm, some (.ref D), some (.int (c6 / 2 % 3)), some vl, some (.ref ua), some vb, v9, some (iV o1), some (iV o2), some (optV d), some (.ref D1), some (.ref D2), v15, none, none, none, v19, v20, none, none] ∧ Same H19 H') ⟨v9, none, v19, v20, rfl, Same.refl _⟩ ?_ ?_
      · rintro i σ Hj hi ⟨v9, v15, v19, v20, rfl, sj⟩
        rw [z_i]
        refine ⟨_, rfl, _, rfl, _, _, rfl, rfl, _, rfl, D1, _, rfl, sj.seq hhi9, fun p1 hp1 => ?_⟩
        have e1 : cutV ((Us.map List.length).map iV) none (some ((i : Int) + 1)) = (((Us.map List.length).take (i + 1)).map Int.ofNat).map V.int := by rw [← map_iV]; exact (cut_takeA (j := i + 1)).trans List.map_take.symm
        rw [e1]
        refine ⟨p1, _, rfl, SqL.of upd_same, ?_⟩
        refine ⟨_, rfl, _, rfl, _, _, rfl, rfl, _, rfl, D2, _, rfl, (sj.trans (Same.upd hp1)).seq hlo9, fun p2 hp2 => ?_⟩
        have e2 : cutV ((Ws.map List.length).map iV) none (some ((i : Int) + 1)) = (((Ws.map List.length).take (i + 1)).map Int.ofNat).map V.int := by rw [← map_iV]; exact (cut_takeA (j := i + 1)).trans List.map_take.symm
        rw [e2]
        refine ⟨p2, _, rfl, SqL.of upd_same, ?_⟩
        rw [sum_cast, sum_cast]
        have hb := ov.balls lo1 hUs hWs i
        refine ⟨_, _, rfl, rfl, _, rfl, ite2 (fun z => absurd (of_decide_eq_true z) (by omega)) (fun _ => ?_)⟩
        exact ⟨_, _, _, _, rfl, sj.trans ((Same.upd hp1).trans (Same.upd hp2))⟩
      · rintro σ Hj ⟨v9, v15, v19, v20, rfl, sj⟩
        have sJ := s19.trans sj
        clear hhi9 hlo9 s19 sj
        have hua' := Same.seqT sJ hua
        have hur' := Same.seqT sJ hur
        -- the changed row
        refine ⟨_, rfl, ua, uxs, 0, _, rfl, rfl, hua', at_of (j := 0) rfl hux0, ur, _, rfl, .inr hur', fun Rw hRw => ?_⟩
        have l1 : o1 < u0.length := by omega
        have l2 : o2 < u0.length := by omega
        have ha1 : u0[o1]? = some u0[o1] := List.getElem?_eq_getElem _
        have hb1 : u0[o2]? = some u0[o2] := List.getElem?_eq_getElem _
        generalize u0[o1] = a1 at ha1
        generalize u0[o2] = b1 at hb1
        refine ⟨_, rfl, _, rfl, Rw, _, (o1 : Int), _, rfl, rfl, SqL.of upd_same, at_of (j := o1) rfl (at_iV ha1), ?_⟩
        refine ⟨_, rfl, _, rfl, Rw, _, (o2 : Int), _, rfl, rfl, SqL.of upd_same, at_of (j := o2) rfl (at_iV hb1), _, rfl, _, rfl, Rw, _, (o1 : Int), o1, rfl, rfl, upd_same, ixN_nat (by rw [List.length_map]; exact l1), ?_⟩
        refine ⟨_, rfl, _, rfl, _, rfl, Rw, _, (o2 : Int), o2, rfl, rfl, upd_same, ixN_nat (by rw [List.length_set, List.length_map]; exact l2), ?_⟩
        rw [upd_upd, upd_upd]
        have er : ((u0.map iV).set o1 (iV b1)).set o2 (iV a1) = ((u0.set o1 b1).set o2 a1).map iV := by rw [List.map_set, List.map_set]
        rw [er]
        have hU' := Dp.mono (sJ.trans (Same.upd (o := HO.lst (((u0.set o1 b1).set o2 a1).map iV)) hRw)) hU
        have sR : Same Hj (upd Hj Rw (.lst (((u0.set o1 b1).set o2 a1).map iV))) := Same.upd hRw
        cases U with
        | nil => cases hu0
        | cons u R =>
        cases hu0
        -- changed
        refine ⟨_, rfl, Rw, _, rfl, .inl ⟨SqL.of upd_same, fun t1 ht1 => ⟨by show 1 ≤ sizeLine; decide, fun t2 ht2 => ⟨_, rfl, _, rfl, ?_⟩⟩⟩⟩
        have st1 := Same.upd (o := HO.tup (((u0.set o1 b1).set o2 a1).map iV)) ht1
        have st2 := Same.upd (o := HO.tup [V.ref t1]) ht2
        unfold tNoPart
        dsimp only
        refine sl_q (Dp.mono (st1.trans st2) hU') fun v3 H3 s3 hv3 => ?_
        have hx2 : Dp K H3 (.ref t2) (.tuple [dT ((u0.set o1 b1).set o2 a1)]) :=
          Dp.mono s3 (.tup (.inl (.inl upd_same)) (.cons (Dp.mono st2 (.tup (.inl (.inl upd_same)) (DpAll.of_ints _))) .nil))
        refine cat_q hx2 hv3 ?_ fun v4 H4 s4 hv4 => ?_
        · rw [List.length_take]
          have : ((u0 :: R).map dT).length ≤ 2 := by rw [List.length_map]; exact hUl
          rw [List.length_drop]
          show 1 + _ ≤ 1000
          omega
        have e := cut_tl (dT u0) (R.map dT)
        have hv4' : Dp K H4 v4 (dG (((u0.set o1 b1).set o2 a1) :: R)) := by
          rw [show List.map dT (u0 :: R) = dT u0 :: R.map dT from rfl, e] at hv4
          exact hv4
        have sV := ((st1.trans st2).trans s3).trans s4
        have sW := (sJ.trans sR).trans sV
        refine ⟨_, rfl, _, rfl, _, rfl, v4, vl, 2 + r0, ((u0.set o1 b1).set o2 a1) :: R, G, (2 + r0) * N, N, rfl, hv4', Dp.mono sW hG, ov.low, by omega, .inr (.inr ⟨swap_graph ov.up ha1 hb1, by omega, k2, by omega, fun b hb H5 s5 => ?_⟩)⟩
        rw [swap_iff ov ha1 hb1] at hb
        have hRw5 := (sV.trans s5) Rw _ upd_same
        have eb : b = decide (V.int ((b1 : Int) / ((2 + r0 : Nat) : Int)) = V.int ((a1 : Int) / ((2 + r0 : Nat) : Int))) := by
          rw [Bool.eq_iff_iff, hb, decide_eq_true_iff]
          constructor
          · intro e
            show V.int ((b1 / (2 + r0) : Nat) : Int) = V.int ((a1 / (2 + r0) : Nat) : Int)
            rw [e]
          · intro e
            have e2 : ((b1 / (2 + r0) : Nat) : Int) = ((a1 / (2 + r0) : Nat) : Int) := V.int.inj e
            omega
        refine ⟨_, rfl, _, rfl, Rw, _, (o1 : Int), _, rfl, rfl, SqL.of hRw5, at_of (j := o1) rfl (at_iV (swap_one ha1 hb1)), _, rfl, _, _, rfl, rfl, ⟨by omega, by omega⟩, _, rfl, _, rfl, _, _, rfl, rfl, ⟨by omega, by omega⟩, rfl, rfl, _, rfl, ?_⟩
        refine iteNS (congrArg V.bl eb) ?_
        have sX := sW.trans s5
        have hUX := Dp.mono sX hU
        have hGX := Dp.mono sX hG
        clear hv4 hv4' hv3 hx2 sV sW s5 s4 s3 st1 st2 hU' sR eb hb hRw5 e er ht1 ht2 hRw
        obtain ⟨l0, S, rfl, hl0⟩ := ov.low.head
        have hGl : (l0 :: S).length ≤ 2 := by rw [← ov.len]; exact hUl
        -- other levels
        refine ⟨_, rfl, _, rfl, _, rfl, _, rfl, ?_⟩
        dsimp only
        refine sl_q hGX fun v5 H6 s6 hv5 => ?_
        have e := cut_hd (dT l0) (S.map dT)
        rw [show List.map dT (l0 :: S) = dT l0 :: S.map dT from rfl, e] at hv5
        refine cat_q (Dp.mono s6 hGX) hv5 (by rw [List.length_map]; show _ + 1 ≤ 1000; omega) fun v6 H7 s7 hv6 => ?_
        have hv6' : Dp K H7 v6 (dG ((l0 :: S) ++ [l0])) := by
          unfold dG
          rw [List.map_append]
          exact hv6
        have gL : GraphOk ((l0 :: S) ++ [l0]) N := by
          refine ⟨fun row hr => ov.low.rows row ?_, by simp, by rw [List.length_append]; show _ + 1 ≤ 6; omega, ov.low.n1, ov.low.n2⟩
          rcases List.mem_append.mp hr with hr | hr
          · exact hr
          · rw [List.mem_singleton.mp hr]
            exact List.mem_cons_self
        refine ⟨_, rfl, .ref ua, v6, 2 + r0, u0 :: R, (l0 :: S) ++ [l0], (2 + r0) * N, N, rfl, Dp.mono (s6.trans s7) hUX, hv6', gL, by omega, .inr (.inr ⟨ov.up, by omega, k2, by omega, fun b hb H8' s8 => ?_⟩)⟩
        have hbf : b = false := by
          cases b with
          | false => rfl
          | true =>
            have h1 := (hb.mp rfl).1
            have h2 := ov.len
            rw [List.length_append] at h1
            have h3 : [l0].length = 1 := rfl
            omega
        subst hbf
        refine ⟨false, false, rfl, rfl, _, rfl, iteF ?_⟩
        have sY := (s6.trans s7).trans s8
        refine ⟨_, rfl, _, rfl, _, rfl, .ref ua, .ref ua, 2 + r0, u0 :: R, u0 :: R, (2 + r0) * N, (2 + r0) * N, rfl, Dp.mono sY hUX, Dp.mono sY hUX, ov.up, by omega, .inr (.inr ⟨ov.up, by omega, k2, by omega, fun b hb H9' s9 => ?_⟩)⟩
        have hbf : b = false := by
          cases b with
          | false => rfl
          | true =>
            have h1 := (hb.mp rfl).2.1
            have h2 := Nat.mul_le_mul_right ((2 + r0) * N) k2
            omega
        subst hbf
        refine ⟨false, false, rfl, rfl, _, rfl, iteF ?_⟩
        -- refusals
        have sZ := sY.trans s9
        refine ⟨by show 2 ≤ sizeLine; decide, fun t3 ht3 => ⟨by show 1 ≤ sizeLine; decide, fun t4 ht4 => ⟨_, rfl, .ref t4, vl, 9, [[0, 0]], l0 :: S, 2, N, rfl, ?_, ?_, ov.low, by omega, .inl ⟨rfl, fun Ha sa => ⟨rfl, _, rfl, ?_⟩⟩⟩⟩⟩
        · exact .tup (.inl (.inl upd_same)) (.cons (Dp.mono (Same.upd ht4) (.tup (.inl (.inl upd_same)) (DpAll.of_ints [0, 0]))) .nil)
        · exact Dp.mono (sZ.trans ((Same.upd ht3).trans (Same.upd ht4))) hGX
        rw [decide_eq_true rfl]
        have sQ := (sZ.trans ((Same.upd ht3).trans (Same.upd ht4))).trans sa
        refine iteT ⟨_, rfl, _, rfl, .ref ua, vl, 5, u0 :: R, l0 :: S, (2 + r0) * N, N, rfl, Dp.mono sQ hUX, Dp.mono sQ hGX, ov.low, by omega, .inr (.inl ⟨ov.up, by omega, by omega, fun Hb sb => ⟨rfl, ?_⟩⟩)⟩
        exact q Hb
end
end LT
set_option Elab.async false
set_option linter.all false
set_option maxRecDepth 100000
namespace LT
open PySem PySem.Spec PyProof.Rows L2
/-! What the top has written, and the end. -/
section
variable {K : PySem.W.Frag} {h : Heap} {mg : Str → Option Value}
/-- an error of the class at E is, or is not, what «except S» names -/
theorem exm_at {E S : Addr} {b : Bool} (hE : PySem.W.subIn K (.ref S) (.type "BaseException") = some true) (hS : PySem.W.isClsIn K S = true) (tS : PySem.W.typeIn K (.ref S) = some (.type "type")) (hb : PySem.W.subIn K (.ref E) (.ref S) = some b) : PySem.W.exmOne K (.ref E) (.ref S) = some b := by
  have x1 : (PySem.W.clsIn K S).isSome = true := hS
  have x2 : ((PySem.W.clsIn K S).isSome && PySem.W.typeIn K (.ref S) == some (.type "type")) = true := by
    rw [x1, tS]
    rfl
  show (if (PySem.W.subIn K (.ref S) (.type "BaseException") == some true) = true then (if ((PySem.W.clsIn K S).isSome && PySem.W.typeIn K (.ref S) == some (.type "type")) = true then PySem.W.subIn K (.ref E) (.ref S) else none) else none) = _
  rw [if_pos (by rw [hE]; rfl), if_pos x2, hb]
theorem tf {x : Str} {st : Stmt} {ps : List Str} {f : Addr} {oc kV doc pm cdv ct : Value} {od an : Option Addr} {osl : Array (Option Value)} (X : K.In h) (G : h.Ns mainGlobals mg) (a : PySem.W.nsIn K mainGlobals x = some (some (.ref f)))
    (l : K.lookup f = some ⟨oc, od, .func (PySem.W.fnOf x x (defArgs st) (defBody st) (defScope st) .none kV doc pm an cdv ct), osl⟩) (c : PySem.W.codeIn K cdv x = true) (k : PySem.W.keepIn K (.ref f) = true)
    (b : ∀ (kV doc pm : Value) (an : Option Addr) (cdv ct : Value) (us : List Value), us.length = ps.length → bindArgs (PySem.W.fnOf x x (defArgs st) (defBody st) (defScope st) .none kV doc pm an cdv ct) ⟨us, []⟩ = pure (ps.zip us)) : TopFun K mg x st ps :=
  ⟨f, _, PySem.W.mg_of X G a, fun_mk l c k, (fun_mk (st := st) l c k).binds b⟩
end
set_option maxHeartbeats 4000000 in
theorem all_mk {P : Program} {w : World} {K : PySem.W.Frag} {h : Heap} {mg : Str → Option Value} {fa : Addr} (X : K.In h) (G : h.Ns mainGlobals mg) (hfa : mg "law" = some (.ref fa))
    {t_DIGITS : Tok}
    {t_LEAST_DIGITS : Tok}
    {t_MOST_DIGITS : Tok}
    {t_MOST_STATES : Tok}
    {t_MOST_WIDE : Tok}
    {t_MOST_LENGTH : Tok}
    {t_SMALL : Tok}
    {t_LARGE : Tok}
    {t_ORDER : Tok}
    {t_LONGEST : Tok}
    {t_MOST_ROWS : Tok}
    {t_MOST_NUMBERS : Tok}
    {t_MOST_LEVEL : Tok}
    {f_is_row : Addr} {od_is_row an_is_row : Option Addr} {sl_is_row : Array (Option Value)} {oc_is_row kV_is_row dc_is_row pm_is_row cd_is_row ct_is_row : Value}
    {f_is_wide : Addr} {od_is_wide an_is_wide : Option Addr} {sl_is_wide : Array (Option Value)} {oc_is_wide kV_is_wide dc_is_wide pm_is_wide cd_is_wide ct_is_wide : Value}
    {f_is_machine : Addr} {od_is_machine an_is_machine : Option Addr} {sl_is_machine : Array (Option Value)} {oc_is_machine kV_is_machine dc_is_machine pm_is_machine cd_is_machine ct_is_machine : Value}
    {f_check_machine : Addr} {od_check_machine an_check_machine : Option Addr} {sl_check_machine : Array (Option Value)} {oc_check_machine kV_check_machine dc_check_machine pm_check_machine cd_check_machine ct_check_machine : Value}
    {f_has_digits : Addr} {od_has_digits an_has_digits : Option Addr} {sl_has_digits : Array (Option Value)} {oc_has_digits kV_has_digits dc_has_digits pm_has_digits cd_has_digits ct_has_digits : Value}
    {f_letters_of : Addr} {od_letters_of an_letters_of : Option Addr} {sl_letters_of : Array (Option Value)} {oc_letters_of kV_letters_of dc_letters_of pm_letters_of cd_letters_of ct_letters_of : Value}
    {f_is_word : Addr} {od_is_word an_is_word : Option Addr} {sl_is_word : Array (Option Value)} {oc_is_word kV_is_word dc_is_word pm_is_word cd_is_word ct_is_word : Value}
    {f_refuse_word : Addr} {od_refuse_word an_refuse_word : Option Addr} {sl_refuse_word : Array (Option Value)} {oc_refuse_word kV_refuse_word dc_refuse_word pm_refuse_word cd_refuse_word ct_refuse_word : Value}
    {f_check_word : Addr} {od_check_word an_check_word : Option Addr} {sl_check_word : Array (Option Value)} {oc_check_word kV_check_word dc_check_word pm_check_word cd_check_word ct_check_word : Value}
    {f_moved : Addr} {od_moved an_moved : Option Addr} {sl_moved : Array (Option Value)} {oc_moved kV_moved dc_moved pm_moved cd_moved ct_moved : Value}
    {f_is_graph : Addr} {od_is_graph an_is_graph : Option Addr} {sl_is_graph : Array (Option Value)} {oc_is_graph kV_is_graph dc_is_graph pm_is_graph cd_is_graph ct_is_graph : Value}
    {f_check_graph : Addr} {od_check_graph an_check_graph : Option Addr} {sl_check_graph : Array (Option Value)} {oc_check_graph kV_check_graph dc_check_graph pm_check_graph cd_check_graph ct_check_graph : Value}
    {f_check_number : Addr} {od_check_number an_check_number : Option Addr} {sl_check_number : Array (Option Value)} {oc_check_number kV_check_number dc_check_number pm_check_number cd_check_number ct_check_number : Value}
    {f_digit_count : Addr} {od_digit_count an_digit_count : Option Addr} {sl_digit_count : Array (Option Value)} {oc_digit_count kV_digit_count dc_digit_count pm_digit_count cd_digit_count ct_digit_count : Value}
    {f_number_of : Addr} {od_number_of an_number_of : Option Addr} {sl_number_of : Array (Option Value)} {oc_number_of kV_number_of dc_number_of pm_number_of cd_number_of ct_number_of : Value}
    {f_power_of : Addr} {od_power_of an_power_of : Option Addr} {sl_power_of : Array (Option Value)} {oc_power_of kV_power_of dc_power_of pm_power_of cd_power_of ct_power_of : Value}
    {f_written : Addr} {od_written an_written : Option Addr} {sl_written : Array (Option Value)} {oc_written kV_written dc_written pm_written cd_written ct_written : Value}
    {f_level_graph : Addr} {od_level_graph an_level_graph : Option Addr} {sl_level_graph : Array (Option Value)} {oc_level_graph kV_level_graph dc_level_graph pm_level_graph cd_level_graph ct_level_graph : Value}
    {f_steps : Addr} {od_steps an_steps : Option Addr} {sl_steps : Array (Option Value)} {oc_steps kV_steps dc_steps pm_steps cd_steps ct_steps : Value}
    {f_backs : Addr} {od_backs an_backs : Option Addr} {sl_backs : Array (Option Value)} {oc_backs kV_backs dc_backs pm_backs cd_backs ct_backs : Value}
    {f_lays : Addr} {od_lays an_lays : Option Addr} {sl_lays : Array (Option Value)} {oc_lays kV_lays dc_lays pm_lays cd_lays ct_lays : Value}
    {f_distance : Addr} {od_distance an_distance : Option Addr} {sl_distance : Array (Option Value)} {oc_distance kV_distance dc_distance pm_distance cd_distance ct_distance : Value}
    {f_parts : Addr} {od_parts an_parts : Option Addr} {sl_parts : Array (Option Value)} {oc_parts kV_parts dc_parts pm_parts cd_parts ct_parts : Value}
    {f_layers : Addr} {od_layers an_layers : Option Addr} {sl_layers : Array (Option Value)} {oc_layers kV_layers dc_layers pm_layers cd_layers ct_layers : Value}
    {f_over : Addr} {od_over an_over : Option Addr} {sl_over : Array (Option Value)} {oc_over kV_over dc_over pm_over cd_over ct_over : Value}
    {f_law_cell : Addr} {od_law_cell an_law_cell : Option Addr} {sl_law_cell : Array (Option Value)} {oc_law_cell kV_law_cell dc_law_cell pm_law_cell cd_law_cell ct_law_cell : Value}
    {f_law_values : Addr} {od_law_values an_law_values : Option Addr} {sl_law_values : Array (Option Value)} {oc_law_values kV_law_values dc_law_values pm_law_values cd_law_values ct_law_values : Value}
    {f_law_arranged : Addr} {od_law_arranged an_law_arranged : Option Addr} {sl_law_arranged : Array (Option Value)} {oc_law_arranged kV_law_arranged dc_law_arranged pm_law_arranged cd_law_arranged ct_law_arranged : Value}
    {f_law_machine : Addr} {od_law_machine an_law_machine : Option Addr} {sl_law_machine : Array (Option Value)} {oc_law_machine kV_law_machine dc_law_machine pm_law_machine cd_law_machine ct_law_machine : Value}
    {f_law_word : Addr} {od_law_word an_law_word : Option Addr} {sl_law_word : Array (Option Value)} {oc_law_word kV_law_word dc_law_word pm_law_word cd_law_word ct_law_word : Value}
    {f_law_told : Addr} {od_law_told an_law_told : Option Addr} {sl_law_told : Array (Option Value)} {oc_law_told kV_law_told dc_law_told pm_law_told cd_law_told ct_law_told : Value}
    {f_law_is_even : Addr} {od_law_is_even an_law_is_even : Option Addr} {sl_law_is_even : Array (Option Value)} {oc_law_is_even kV_law_is_even dc_law_is_even pm_law_is_even cd_law_is_even ct_law_is_even : Value}
    {f_law : Addr} {od_law an_law : Option Addr} {sl_law : Array (Option Value)} {oc_law kV_law dc_law pm_law cd_law ct_law : Value}
    {C CN CB : Addr}
    {f_I : Addr} {od_I an_I : Option Addr} {sl_I : Array (Option Value)} {oc_I kV_I dc_I pm_I cd_I ct_I : Value}
    {f_S : Addr} {od_S an_S : Option Addr} {sl_S : Array (Option Value)} {oc_S kV_S dc_S pm_S cd_S ct_S : Value}
    {f_M : Addr} {od_M an_M : Option Addr} {sl_M : Array (Option Value)} {oc_M kV_M dc_M pm_M cd_M ct_M : Value}
    (z_len : PySem.W.nsIn K mainGlobals "len" = some none)
    (z_sorted : PySem.W.nsIn K mainGlobals "sorted" = some none)
    (z_list : PySem.W.nsIn K mainGlobals "list" = some none)
    (z_range : PySem.W.nsIn K mainGlobals "range" = some none)
    (z_all : PySem.W.nsIn K mainGlobals "all" = some none)
    (z_int : PySem.W.nsIn K mainGlobals "int" = some none)
    (z_str : PySem.W.nsIn K mainGlobals "str" = some none)
    (z_tuple : PySem.W.nsIn K mainGlobals "tuple" = some none)
    (z_reversed : PySem.W.nsIn K mainGlobals "reversed" = some none)
    (z_enumerate : PySem.W.nsIn K mainGlobals "enumerate" = some none)
    (z_zip : PySem.W.nsIn K mainGlobals "zip" = some none)
    (z_sum : PySem.W.nsIn K mainGlobals "sum" = some none)
    (z_max : PySem.W.nsIn K mainGlobals "max" = some none)
    (z_min : PySem.W.nsIn K mainGlobals "min" = some none)
    (c_DIGITS : PySem.W.nsIn K mainGlobals "DIGITS" = some (some (.str "0123" t_DIGITS)))
    (c_LEAST_DIGITS : PySem.W.nsIn K mainGlobals "LEAST_DIGITS" = some (some (.int 2 t_LEAST_DIGITS)))
    (c_MOST_DIGITS : PySem.W.nsIn K mainGlobals "MOST_DIGITS" = some (some (.int 4 t_MOST_DIGITS)))
    (c_MOST_STATES : PySem.W.nsIn K mainGlobals "MOST_STATES" = some (some (.int 8 t_MOST_STATES)))
    (c_MOST_WIDE : PySem.W.nsIn K mainGlobals "MOST_WIDE" = some (some (.int 200 t_MOST_WIDE)))
    (c_MOST_LENGTH : PySem.W.nsIn K mainGlobals "MOST_LENGTH" = some (some (.int 60 t_MOST_LENGTH)))
    (c_SMALL : PySem.W.nsIn K mainGlobals "SMALL" = some (some (.str "abcdefgh" t_SMALL)))
    (c_LARGE : PySem.W.nsIn K mainGlobals "LARGE" = some (some (.str "ABCDEFGH" t_LARGE)))
    (c_ORDER : PySem.W.nsIn K mainGlobals "ORDER" = some (some (.str "aAbBcCdDeEfFgGhH" t_ORDER)))
    (c_LONGEST : PySem.W.nsIn K mainGlobals "LONGEST" = some (some (.int 60 t_LONGEST)))
    (c_MOST_ROWS : PySem.W.nsIn K mainGlobals "MOST_ROWS" = some (some (.int 6 t_MOST_ROWS)))
    (c_MOST_NUMBERS : PySem.W.nsIn K mainGlobals "MOST_NUMBERS" = some (some (.int 1024 t_MOST_NUMBERS)))
    (c_MOST_LEVEL : PySem.W.nsIn K mainGlobals "MOST_LEVEL" = some (some (.int 10 t_MOST_LEVEL)))
    (a_is_row : PySem.W.nsIn K mainGlobals "_is_row" = some (some (.ref f_is_row)))
    (l_is_row : K.lookup f_is_row = some ⟨oc_is_row, od_is_row, .func (PySem.W.fnOf "_is_row" "_is_row" (defArgs s_is_row) (defBody s_is_row) (defScope s_is_row) .none kV_is_row dc_is_row pm_is_row an_is_row cd_is_row ct_is_row), sl_is_row⟩)
    (k_is_row : PySem.W.keepIn K (.ref f_is_row) = true)
    (d_is_row : PySem.W.codeIn K cd_is_row "_is_row" = true)
    (a_is_wide : PySem.W.nsIn K mainGlobals "is_wide" = some (some (.ref f_is_wide)))
    (l_is_wide : K.lookup f_is_wide = some ⟨oc_is_wide, od_is_wide, .func (PySem.W.fnOf "is_wide" "is_wide" (defArgs s_is_wide) (defBody s_is_wide) (defScope s_is_wide) .none kV_is_wide dc_is_wide pm_is_wide an_is_wide cd_is_wide ct_is_wide), sl_is_wide⟩)
    (k_is_wide : PySem.W.keepIn K (.ref f_is_wide) = true)
    (d_is_wide : PySem.W.codeIn K cd_is_wide "is_wide" = true)
    (a_is_machine : PySem.W.nsIn K mainGlobals "is_machine" = some (some (.ref f_is_machine)))
    (l_is_machine : K.lookup f_is_machine = some ⟨oc_is_machine, od_is_machine, .func (PySem.W.fnOf "is_machine" "is_machine" (defArgs s_is_machine) (defBody s_is_machine) (defScope s_is_machine) .none kV_is_machine dc_is_machine pm_is_machine an_is_machine cd_is_machine ct_is_machine), sl_is_machine⟩)
    (k_is_machine : PySem.W.keepIn K (.ref f_is_machine) = true)
    (d_is_machine : PySem.W.codeIn K cd_is_machine "is_machine" = true)
    (a_check_machine : PySem.W.nsIn K mainGlobals "check_machine" = some (some (.ref f_check_machine)))
    (l_check_machine : K.lookup f_check_machine = some ⟨oc_check_machine, od_check_machine, .func (PySem.W.fnOf "check_machine" "check_machine" (defArgs s_check_machine) (defBody s_check_machine) (defScope s_check_machine) .none kV_check_machine dc_check_machine pm_check_machine an_check_machine cd_check_machine ct_check_machine), sl_check_machine⟩)
    (k_check_machine : PySem.W.keepIn K (.ref f_check_machine) = true)
    (d_check_machine : PySem.W.codeIn K cd_check_machine "check_machine" = true)
    (a_has_digits : PySem.W.nsIn K mainGlobals "has_digits" = some (some (.ref f_has_digits)))
    (l_has_digits : K.lookup f_has_digits = some ⟨oc_has_digits, od_has_digits, .func (PySem.W.fnOf "has_digits" "has_digits" (defArgs s_has_digits) (defBody s_has_digits) (defScope s_has_digits) .none kV_has_digits dc_has_digits pm_has_digits an_has_digits cd_has_digits ct_has_digits), sl_has_digits⟩)
    (k_has_digits : PySem.W.keepIn K (.ref f_has_digits) = true)
    (d_has_digits : PySem.W.codeIn K cd_has_digits "has_digits" = true)
    (a_letters_of : PySem.W.nsIn K mainGlobals "letters_of" = some (some (.ref f_letters_of)))
    (l_letters_of : K.lookup f_letters_of = some ⟨oc_letters_of, od_letters_of, .func (PySem.W.fnOf "letters_of" "letters_of" (defArgs s_letters_of) (defBody s_letters_of) (defScope s_letters_of) .none kV_letters_of dc_letters_of pm_letters_of an_letters_of cd_letters_of ct_letters_of), sl_letters_of⟩)
    (k_letters_of : PySem.W.keepIn K (.ref f_letters_of) = true)
    (d_letters_of : PySem.W.codeIn K cd_letters_of "letters_of" = true)
    (a_is_word : PySem.W.nsIn K mainGlobals "is_word" = some (some (.ref f_is_word)))
    (l_is_word : K.lookup f_is_word = some ⟨oc_is_word, od_is_word, .func (PySem.W.fnOf "is_word" "is_word" (defArgs s_is_word) (defBody s_is_word) (defScope s_is_word) .none kV_is_word dc_is_word pm_is_word an_is_word cd_is_word ct_is_word), sl_is_word⟩)
    (k_is_word : PySem.W.keepIn K (.ref f_is_word) = true)
    (d_is_word : PySem.W.codeIn K cd_is_word "is_word" = true)
    (a_refuse_word : PySem.W.nsIn K mainGlobals "refuse_word" = some (some (.ref f_refuse_word)))
    (l_refuse_word : K.lookup f_refuse_word = some ⟨oc_refuse_word, od_refuse_word, .func (PySem.W.fnOf "refuse_word" "refuse_word" (defArgs s_refuse_word) (defBody s_refuse_word) (defScope s_refuse_word) .none kV_refuse_word dc_refuse_word pm_refuse_word an_refuse_word cd_refuse_word ct_refuse_word), sl_refuse_word⟩)
    (k_refuse_word : PySem.W.keepIn K (.ref f_refuse_word) = true)
    (d_refuse_word : PySem.W.codeIn K cd_refuse_word "refuse_word" = true)
    (a_check_word : PySem.W.nsIn K mainGlobals "check_word" = some (some (.ref f_check_word)))
    (l_check_word : K.lookup f_check_word = some ⟨oc_check_word, od_check_word, .func (PySem.W.fnOf "check_word" "check_word" (defArgs s_check_word) (defBody s_check_word) (defScope s_check_word) .none kV_check_word dc_check_word pm_check_word an_check_word cd_check_word ct_check_word), sl_check_word⟩)
    (k_check_word : PySem.W.keepIn K (.ref f_check_word) = true)
    (d_check_word : PySem.W.codeIn K cd_check_word "check_word" = true)
    (a_moved : PySem.W.nsIn K mainGlobals "moved" = some (some (.ref f_moved)))
    (l_moved : K.lookup f_moved = some ⟨oc_moved, od_moved, .func (PySem.W.fnOf "moved" "moved" (defArgs s_moved) (defBody s_moved) (defScope s_moved) .none kV_moved dc_moved pm_moved an_moved cd_moved ct_moved), sl_moved⟩)
    (k_moved : PySem.W.keepIn K (.ref f_moved) = true)
    (d_moved : PySem.W.codeIn K cd_moved "moved" = true)
    (a_is_graph : PySem.W.nsIn K mainGlobals "is_graph" = some (some (.ref f_is_graph)))
    (l_is_graph : K.lookup f_is_graph = some ⟨oc_is_graph, od_is_graph, .func (PySem.W.fnOf "is_graph" "is_graph" (defArgs s_is_graph) (defBody s_is_graph) (defScope s_is_graph) .none kV_is_graph dc_is_graph pm_is_graph an_is_graph cd_is_graph ct_is_graph), sl_is_graph⟩)
    (k_is_graph : PySem.W.keepIn K (.ref f_is_graph) = true)
    (d_is_graph : PySem.W.codeIn K cd_is_graph "is_graph" = true)
    (a_check_graph : PySem.W.nsIn K mainGlobals "check_graph" = some (some (.ref f_check_graph)))
    (l_check_graph : K.lookup f_check_graph = some ⟨oc_check_graph, od_check_graph, .func (PySem.W.fnOf "check_graph" "check_graph" (defArgs s_check_graph) (defBody s_check_graph) (defScope s_check_graph) .none kV_check_graph dc_check_graph pm_check_graph an_check_graph cd_check_graph ct_check_graph), sl_check_graph⟩)
    (k_check_graph : PySem.W.keepIn K (.ref f_check_graph) = true)
    (d_check_graph : PySem.W.codeIn K cd_check_graph "check_graph" = true)
    (a_check_number : PySem.W.nsIn K mainGlobals "check_number" = some (some (.ref f_check_number)))
    (l_check_number : K.lookup f_check_number = some ⟨oc_check_number, od_check_number, .func (PySem.W.fnOf "check_number" "check_number" (defArgs s_check_number) (defBody s_check_number) (defScope s_check_number) .none kV_check_number dc_check_number pm_check_number an_check_number cd_check_number ct_check_number), sl_check_number⟩)
    (k_check_number : PySem.W.keepIn K (.ref f_check_number) = true)
    (d_check_number : PySem.W.codeIn K cd_check_number "check_number" = true)
    (a_digit_count : PySem.W.nsIn K mainGlobals "_digit_count" = some (some (.ref f_digit_count)))
    (l_digit_count : K.lookup f_digit_count = some ⟨oc_digit_count, od_digit_count, .func (PySem.W.fnOf "_digit_count" "_digit_count" (defArgs s_digit_count) (defBody s_digit_count) (defScope s_digit_count) .none kV_digit_count dc_digit_count pm_digit_count an_digit_count cd_digit_count ct_digit_count), sl_digit_count⟩)
    (k_digit_count : PySem.W.keepIn K (.ref f_digit_count) = true)
    (d_digit_count : PySem.W.codeIn K cd_digit_count "_digit_count" = true)
    (a_number_of : PySem.W.nsIn K mainGlobals "number_of" = some (some (.ref f_number_of)))
    (l_number_of : K.lookup f_number_of = some ⟨oc_number_of, od_number_of, .func (PySem.W.fnOf "number_of" "number_of" (defArgs s_number_of) (defBody s_number_of) (defScope s_number_of) .none kV_number_of dc_number_of pm_number_of an_number_of cd_number_of ct_number_of), sl_number_of⟩)
    (k_number_of : PySem.W.keepIn K (.ref f_number_of) = true)
    (d_number_of : PySem.W.codeIn K cd_number_of "number_of" = true)
    (a_power_of : PySem.W.nsIn K mainGlobals "power_of" = some (some (.ref f_power_of)))
    (l_power_of : K.lookup f_power_of = some ⟨oc_power_of, od_power_of, .func (PySem.W.fnOf "power_of" "power_of" (defArgs s_power_of) (defBody s_power_of) (defScope s_power_of) .none kV_power_of dc_power_of pm_power_of an_power_of cd_power_of ct_power_of), sl_power_of⟩)
    (k_power_of : PySem.W.keepIn K (.ref f_power_of) = true)
    (d_power_of : PySem.W.codeIn K cd_power_of "power_of" = true)
    (a_written : PySem.W.nsIn K mainGlobals "written" = some (some (.ref f_written)))
    (l_written : K.lookup f_written = some ⟨oc_written, od_written, .func (PySem.W.fnOf "written" "written" (defArgs s_written) (defBody s_written) (defScope s_written) .none kV_written dc_written pm_written an_written cd_written ct_written), sl_written⟩)
    (k_written : PySem.W.keepIn K (.ref f_written) = true)
    (d_written : PySem.W.codeIn K cd_written "written" = true)
    (a_level_graph : PySem.W.nsIn K mainGlobals "level_graph" = some (some (.ref f_level_graph)))
    (l_level_graph : K.lookup f_level_graph = some ⟨oc_level_graph, od_level_graph, .func (PySem.W.fnOf "level_graph" "level_graph" (defArgs s_level_graph) (defBody s_level_graph) (defScope s_level_graph) .none kV_level_graph dc_level_graph pm_level_graph an_level_graph cd_level_graph ct_level_graph), sl_level_graph⟩)
    (k_level_graph : PySem.W.keepIn K (.ref f_level_graph) = true)
    (d_level_graph : PySem.W.codeIn K cd_level_graph "level_graph" = true)
    (a_steps : PySem.W.nsIn K mainGlobals "_steps" = some (some (.ref f_steps)))
    (l_steps : K.lookup f_steps = some ⟨oc_steps, od_steps, .func (PySem.W.fnOf "_steps" "_steps" (defArgs s_steps) (defBody s_steps) (defScope s_steps) .none kV_steps dc_steps pm_steps an_steps cd_steps ct_steps), sl_steps⟩)
    (k_steps : PySem.W.keepIn K (.ref f_steps) = true)
    (d_steps : PySem.W.codeIn K cd_steps "_steps" = true)
    (a_backs : PySem.W.nsIn K mainGlobals "_backs" = some (some (.ref f_backs)))
    (l_backs : K.lookup f_backs = some ⟨oc_backs, od_backs, .func (PySem.W.fnOf "_backs" "_backs" (defArgs s_backs) (defBody s_backs) (defScope s_backs) .none kV_backs dc_backs pm_backs an_backs cd_backs ct_backs), sl_backs⟩)
    (k_backs : PySem.W.keepIn K (.ref f_backs) = true)
    (d_backs : PySem.W.codeIn K cd_backs "_backs" = true)
    (a_lays : PySem.W.nsIn K mainGlobals "_layers" = some (some (.ref f_lays)))
    (l_lays : K.lookup f_lays = some ⟨oc_lays, od_lays, .func (PySem.W.fnOf "_layers" "_layers" (defArgs s_lays) (defBody s_lays) (defScope s_lays) .none kV_lays dc_lays pm_lays an_lays cd_lays ct_lays), sl_lays⟩)
    (k_lays : PySem.W.keepIn K (.ref f_lays) = true)
    (d_lays : PySem.W.codeIn K cd_lays "_layers" = true)
    (a_distance : PySem.W.nsIn K mainGlobals "distance" = some (some (.ref f_distance)))
    (l_distance : K.lookup f_distance = some ⟨oc_distance, od_distance, .func (PySem.W.fnOf "distance" "distance" (defArgs s_distance) (defBody s_distance) (defScope s_distance) .none kV_distance dc_distance pm_distance an_distance cd_distance ct_distance), sl_distance⟩)
    (k_distance : PySem.W.keepIn K (.ref f_distance) = true)
    (d_distance : PySem.W.codeIn K cd_distance "distance" = true)
    (a_parts : PySem.W.nsIn K mainGlobals "parts" = some (some (.ref f_parts)))
    (l_parts : K.lookup f_parts = some ⟨oc_parts, od_parts, .func (PySem.W.fnOf "parts" "parts" (defArgs s_parts) (defBody s_parts) (defScope s_parts) .none kV_parts dc_parts pm_parts an_parts cd_parts ct_parts), sl_parts⟩)
    (k_parts : PySem.W.keepIn K (.ref f_parts) = true)
    (d_parts : PySem.W.codeIn K cd_parts "parts" = true)
    (a_layers : PySem.W.nsIn K mainGlobals "layers" = some (some (.ref f_layers)))
    (l_layers : K.lookup f_layers = some ⟨oc_layers, od_layers, .func (PySem.W.fnOf "layers" "layers" (defArgs s_layers) (defBody s_layers) (defScope s_layers) .none kV_layers dc_layers pm_layers an_layers cd_layers ct_layers), sl_layers⟩)
    (k_layers : PySem.W.keepIn K (.ref f_layers) = true)
    (d_layers : PySem.W.codeIn K cd_layers "layers" = true)
    (a_over : PySem.W.nsIn K mainGlobals "over" = some (some (.ref f_over)))
    (l_over : K.lookup f_over = some ⟨oc_over, od_over, .func (PySem.W.fnOf "over" "over" (defArgs s_over) (defBody s_over) (defScope s_over) .none kV_over dc_over pm_over an_over cd_over ct_over), sl_over⟩)
    (k_over : PySem.W.keepIn K (.ref f_over) = true)
    (d_over : PySem.W.codeIn K cd_over "over" = true)
    (a_law_cell : PySem.W.nsIn K mainGlobals "_law_cell" = some (some (.ref f_law_cell)))
    (l_law_cell : K.lookup f_law_cell = some ⟨oc_law_cell, od_law_cell, .func (PySem.W.fnOf "_law_cell" "_law_cell" (defArgs s_law_cell) (defBody s_law_cell) (defScope s_law_cell) .none kV_law_cell dc_law_cell pm_law_cell an_law_cell cd_law_cell ct_law_cell), sl_law_cell⟩)
    (k_law_cell : PySem.W.keepIn K (.ref f_law_cell) = true)
    (d_law_cell : PySem.W.codeIn K cd_law_cell "_law_cell" = true)
    (a_law_values : PySem.W.nsIn K mainGlobals "_law_values" = some (some (.ref f_law_values)))
    (l_law_values : K.lookup f_law_values = some ⟨oc_law_values, od_law_values, .func (PySem.W.fnOf "_law_values" "_law_values" (defArgs s_law_values) (defBody s_law_values) (defScope s_law_values) .none kV_law_values dc_law_values pm_law_values an_law_values cd_law_values ct_law_values), sl_law_values⟩)
    (k_law_values : PySem.W.keepIn K (.ref f_law_values) = true)
    (d_law_values : PySem.W.codeIn K cd_law_values "_law_values" = true)
    (a_law_arranged : PySem.W.nsIn K mainGlobals "_law_arranged" = some (some (.ref f_law_arranged)))
    (l_law_arranged : K.lookup f_law_arranged = some ⟨oc_law_arranged, od_law_arranged, .func (PySem.W.fnOf "_law_arranged" "_law_arranged" (defArgs s_law_arranged) (defBody s_law_arranged) (defScope s_law_arranged) .none kV_law_arranged dc_law_arranged pm_law_arranged an_law_arranged cd_law_arranged ct_law_arranged), sl_law_arranged⟩)
    (k_law_arranged : PySem.W.keepIn K (.ref f_law_arranged) = true)
    (d_law_arranged : PySem.W.codeIn K cd_law_arranged "_law_arranged" = true)
    (a_law_machine : PySem.W.nsIn K mainGlobals "_law_machine" = some (some (.ref f_law_machine)))
    (l_law_machine : K.lookup f_law_machine = some ⟨oc_law_machine, od_law_machine, .func (PySem.W.fnOf "_law_machine" "_law_machine" (defArgs s_law_machine) (defBody s_law_machine) (defScope s_law_machine) .none kV_law_machine dc_law_machine pm_law_machine an_law_machine cd_law_machine ct_law_machine), sl_law_machine⟩)
    (k_law_machine : PySem.W.keepIn K (.ref f_law_machine) = true)
    (d_law_machine : PySem.W.codeIn K cd_law_machine "_law_machine" = true)
    (a_law_word : PySem.W.nsIn K mainGlobals "_law_word" = some (some (.ref f_law_word)))
    (l_law_word : K.lookup f_law_word = some ⟨oc_law_word, od_law_word, .func (PySem.W.fnOf "_law_word" "_law_word" (defArgs s_law_word) (defBody s_law_word) (defScope s_law_word) .none kV_law_word dc_law_word pm_law_word an_law_word cd_law_word ct_law_word), sl_law_word⟩)
    (k_law_word : PySem.W.keepIn K (.ref f_law_word) = true)
    (d_law_word : PySem.W.codeIn K cd_law_word "_law_word" = true)
    (a_law_told : PySem.W.nsIn K mainGlobals "_law_told" = some (some (.ref f_law_told)))
    (l_law_told : K.lookup f_law_told = some ⟨oc_law_told, od_law_told, .func (PySem.W.fnOf "_law_told" "_law_told" (defArgs s_law_told) (defBody s_law_told) (defScope s_law_told) .none kV_law_told dc_law_told pm_law_told an_law_told cd_law_told ct_law_told), sl_law_told⟩)
    (k_law_told : PySem.W.keepIn K (.ref f_law_told) = true)
    (d_law_told : PySem.W.codeIn K cd_law_told "_law_told" = true)
    (a_law_is_even : PySem.W.nsIn K mainGlobals "_law_is_even" = some (some (.ref f_law_is_even)))
    (l_law_is_even : K.lookup f_law_is_even = some ⟨oc_law_is_even, od_law_is_even, .func (PySem.W.fnOf "_law_is_even" "_law_is_even" (defArgs s_law_is_even) (defBody s_law_is_even) (defScope s_law_is_even) .none kV_law_is_even dc_law_is_even pm_law_is_even an_law_is_even cd_law_is_even ct_law_is_even), sl_law_is_even⟩)
    (k_law_is_even : PySem.W.keepIn K (.ref f_law_is_even) = true)
    (d_law_is_even : PySem.W.codeIn K cd_law_is_even "_law_is_even" = true)
    (a_law : PySem.W.nsIn K mainGlobals "law" = some (some (.ref f_law)))
    (l_law : K.lookup f_law = some ⟨oc_law, od_law, .func (PySem.W.fnOf "law" "law" (defArgs s_law) (defBody s_law) (defScope s_law) .none kV_law dc_law pm_law an_law cd_law ct_law), sl_law⟩)
    (k_law : PySem.W.keepIn K (.ref f_law) = true)
    (d_law : PySem.W.codeIn K cd_law "law" = true)
    (aC : PySem.W.nsIn K mainGlobals "Actor" = some (some (.ref C)))
    (aN : PySem.W.nsIn K mainGlobals "NotGraph" = some (some (.ref CN)))
    (aB : PySem.W.nsIn K mainGlobals "BadNumber" = some (some (.ref CB)))
    (a_I : PySem.W.findIn K (.ref C) "__init__" = some (some (.ref f_I)))
    (i_I : PySem.W.isFn K (.ref f_I) = true)
    (l_I : K.lookup f_I = some ⟨oc_I, od_I, .func (PySem.W.fnOf "__init__" "Actor.__init__" (defArgs s_Actor_init) (defBody s_Actor_init) (defScope s_Actor_init) .none kV_I dc_I pm_I an_I cd_I ct_I), sl_I⟩)
    (k_I : PySem.W.keepIn K (.ref f_I) = true)
    (d_I : PySem.W.codeIn K cd_I "Actor.__init__" = true)
    (a_S : PySem.W.findIn K (.ref C) "step" = some (some (.ref f_S)))
    (i_S : PySem.W.isFn K (.ref f_S) = true)
    (l_S : K.lookup f_S = some ⟨oc_S, od_S, .func (PySem.W.fnOf "step" "Actor.step" (defArgs s_Actor_step) (defBody s_Actor_step) (defScope s_Actor_step) .none kV_S dc_S pm_S an_S cd_S ct_S), sl_S⟩)
    (k_S : PySem.W.keepIn K (.ref f_S) = true)
    (d_S : PySem.W.codeIn K cd_S "Actor.step" = true)
    (a_M : PySem.W.findIn K (.ref C) "moved" = some (some (.ref f_M)))
    (i_M : PySem.W.isFn K (.ref f_M) = true)
    (l_M : K.lookup f_M = some ⟨oc_M, od_M, .func (PySem.W.fnOf "moved" "Actor.moved" (defArgs s_Actor_moved) (defBody s_Actor_moved) (defScope s_Actor_moved) .none kV_M dc_M pm_M an_M cd_M ct_M), sl_M⟩)
    (k_M : PySem.W.keepIn K (.ref f_M) = true)
    (d_M : PySem.W.codeIn K cd_M "Actor.moved" = true)
    (pg : PySem.W.plainGet K C Str.empty = true)
    (hd : PySem.W.hasDictIn K C = true)
    (po : PySem.W.plainOver K C = true)
    (sa : PySem.W.findIn K (.ref C) "__setattr__" = some (some (.builtin "object.__setattr__")))
    (mk : PySem.W.makesIn K C = true)
    (kc : PySem.W.keepIn K (.ref C) = true)
    (nS : PySem.W.findIn K (.ref C) "size" = some none)
    (nT : PySem.W.findIn K (.ref C) "table" = some none)
    (xN : PySem.W.excIn K CN [.type "ValueError", .type "Exception", .type "BaseException", .type "object"] "ValueError.__new__" = true)
    (kN : PySem.W.keepIn K (.ref CN) = true)
    (bN : PySem.W.subIn K (.ref CN) (.type "BaseException") = some true)
    (tN : PySem.W.typeIn K (.ref CN) = some (.type "type"))
    (iN : PySem.W.isClsIn K CN = true)
    (xB : PySem.W.excIn K CB [.type "ValueError", .type "Exception", .type "BaseException", .type "object"] "ValueError.__new__" = true)
    (kB : PySem.W.keepIn K (.ref CB) = true)
    (bB : PySem.W.subIn K (.ref CB) (.type "BaseException") = some true)
    (tB : PySem.W.typeIn K (.ref CB) = some (.type "type"))
    (iB : PySem.W.isClsIn K CB = true)
    (sNN : PySem.W.subIn K (.ref CN) (.ref CN) = some true)
    (sBN : PySem.W.subIn K (.ref CB) (.ref CN) = some false)
    (sBB : PySem.W.subIn K (.ref CB) (.ref CB) = some true) :
    ∃ fd : FuncData, (∀ (s : Shared) (v : Value), BindsTo s fd ⟨[v], []⟩ [("_law_script", v)]) ∧ ∀ base : Heap, K.In base → base.Ns mainGlobals mg → FnOk P w K mg base CX0 7 fa fd ["_law_script"] (sp_law K) := by
  have e := hfa.symm.trans (PySem.W.mg_of X G a_law)
  cases e
  have T : Txt K mg := ⟨PySem.W.mg_none_of X G z_len, PySem.W.mg_none_of X G z_sorted, PySem.W.mg_none_of X G z_list, PySem.W.mg_none_of X G z_range, PySem.W.mg_none_of X G z_all, PySem.W.mg_none_of X G z_int, PySem.W.mg_none_of X G z_str, PySem.W.mg_none_of X G z_tuple, PySem.W.mg_none_of X G z_reversed, PySem.W.mg_none_of X G z_enumerate, PySem.W.mg_none_of X G z_zip, PySem.W.mg_none_of X G z_sum, PySem.W.mg_none_of X G z_max, PySem.W.mg_none_of X G z_min, ⟨t_DIGITS, PySem.W.mg_of X G c_DIGITS⟩, ⟨t_LEAST_DIGITS, PySem.W.mg_of X G c_LEAST_DIGITS⟩, ⟨t_MOST_DIGITS, PySem.W.mg_of X G c_MOST_DIGITS⟩, ⟨t_MOST_STATES, PySem.W.mg_of X G c_MOST_STATES⟩, ⟨t_MOST_WIDE, PySem.W.mg_of X G c_MOST_WIDE⟩, ⟨t_MOST_LENGTH, PySem.W.mg_of X G c_MOST_LENGTH⟩, ⟨t_SMALL, PySem.W.mg_of X G c_SMALL⟩, ⟨t_LARGE, PySem.W.mg_of X G c_LARGE⟩, ⟨t_ORDER, PySem.W.mg_of X G c_ORDER⟩, ⟨t_LONGEST, PySem.W.mg_of X G c_LONGEST⟩, ⟨t_MOST_ROWS, PySem.W.mg_of X G c_MOST_ROWS⟩, ⟨t_MOST_NUMBERS, PySem.W.mg_of X G c_MOST_NUMBERS⟩, ⟨t_MOST_LEVEL, PySem.W.mg_of X G c_MOST_LEVEL⟩, tf X G a_is_row l_is_row d_is_row k_is_row (fun _ _ _ _ _ _ us hl => match us, hl with | [_, _, _], _ => rfl), tf X G a_is_wide l_is_wide d_is_wide k_is_wide (fun _ _ _ _ _ _ us hl => match us, hl with | [_], _ => rfl), tf X G a_is_machine l_is_machine d_is_machine k_is_machine (fun _ _ _ _ _ _ us hl => match us, hl with | [_], _ => rfl), tf X G a_check_machine l_check_machine d_check_machine k_check_machine (fun _ _ _ _ _ _ us hl => match us, hl with | [_], _ => rfl), tf X G a_has_digits l_has_digits d_has_digits k_has_digits (fun _ _ _ _ _ _ us hl => match us, hl with | [_, _], _ => rfl), tf X G a_letters_of l_letters_of d_letters_of k_letters_of (fun _ _ _ _ _ _ us hl => match us, hl with | [_], _ => rfl), tf X G a_is_word l_is_word d_is_word k_is_word (fun _ _ _ _ _ _ us hl => match us, hl with | [_, _], _ => rfl), tf X G a_refuse_word l_refuse_word d_refuse_word k_refuse_word (fun _ _ _ _ _ _ us hl => match us, hl with | [_, _], _ => rfl), tf X G a_check_word l_check_word d_check_word k_check_word (fun _ _ _ _ _ _ us hl => match us, hl with | [_, _], _ => rfl), tf X G a_moved l_moved d_moved k_moved (fun _ _ _ _ _ _ us hl => match us, hl with | [_, _, _], _ => rfl), tf X G a_is_graph l_is_graph d_is_graph k_is_graph (fun _ _ _ _ _ _ us hl => match us, hl with | [_], _ => rfl), tf X G a_check_graph l_check_graph d_check_graph k_check_graph (fun _ _ _ _ _ _ us hl => match us, hl with | [_], _ => rfl), tf X G a_check_number l_check_number d_check_number k_check_number (fun _ _ _ _ _ _ us hl => match us, hl with | [_, _], _ => rfl), tf X G a_digit_count l_digit_count d_digit_count k_digit_count (fun _ _ _ _ _ _ us hl => match us, hl with | [_], _ => rfl), tf X G a_number_of l_number_of d_number_of k_number_of (fun _ _ _ _ _ _ us hl => match us, hl with | [_, _], _ => rfl), tf X G a_power_of l_power_of d_power_of k_power_of (fun _ _ _ _ _ _ us hl => match us, hl with | [_, _], _ => rfl), tf X G a_written l_written d_written k_written (fun _ _ _ _ _ _ us hl => match us, hl with | [_, _, _], _ => rfl), tf X G a_level_graph l_level_graph d_level_graph k_level_graph (fun _ _ _ _ _ _ us hl => match us, hl with | [_, _, _], _ => rfl), tf X G a_steps l_steps d_steps k_steps (fun _ _ _ _ _ _ us hl => match us, hl with | [_, _, _], _ => rfl), tf X G a_backs l_backs d_backs k_backs (fun _ _ _ _ _ _ us hl => match us, hl with | [_], _ => rfl), tf X G a_lays l_lays d_lays k_lays (fun _ _ _ _ _ _ us hl => match us, hl with | [_, _], _ => rfl), tf X G a_distance l_distance d_distance k_distance (fun _ _ _ _ _ _ us hl => match us, hl with | [_, _, _], _ => rfl), tf X G a_parts l_parts d_parts k_parts (fun _ _ _ _ _ _ us hl => match us, hl with | [_], _ => rfl), tf X G a_layers l_layers d_layers k_layers (fun _ _ _ _ _ _ us hl => match us, hl with | [_, _], _ => rfl), tf X G a_over l_over d_over k_over (fun _ _ _ _ _ _ us hl => match us, hl with | [_, _, _], _ => rfl), tf X G a_law_cell l_law_cell d_law_cell k_law_cell (fun _ _ _ _ _ _ us hl => match us, hl with | [_, _], _ => rfl), tf X G a_law_values l_law_values d_law_values k_law_values (fun _ _ _ _ _ _ us hl => match us, hl with | [_, _, _], _ => rfl), tf X G a_law_arranged l_law_arranged d_law_arranged k_law_arranged (fun _ _ _ _ _ _ us hl => match us, hl with | [_, _], _ => rfl), tf X G a_law_machine l_law_machine d_law_machine k_law_machine (fun _ _ _ _ _ _ us hl => match us, hl with | [_, _, _, _], _ => rfl), tf X G a_law_word l_law_word d_law_word k_law_word (fun _ _ _ _ _ _ us hl => match us, hl with | [_, _, _], _ => rfl), tf X G a_law_told l_law_told d_law_told k_law_told (fun _ _ _ _ _ _ us hl => match us, hl with | [_, _, _], _ => rfl), tf X G a_law_is_even l_law_is_even d_law_is_even k_law_is_even (fun _ _ _ _ _ _ us hl => match us, hl with | [_, _], _ => rfl), tf X G a_law l_law d_law k_law (fun _ _ _ _ _ _ us hl => match us, hl with | [_], _ => rfl)⟩
  have TA : ATxt K mg C := ⟨⟨pg, hd, po, sa⟩, nS, nT, PySem.W.mg_of X G aC⟩
  have XN : ExT K mg "NotGraph" CN := ⟨PySem.W.mg_of X G aN, xN, kN, bN, tN⟩
  have XB : ExT K mg "BadNumber" CB := ⟨PySem.W.mg_of X G aB, xB, kB, bB, tB⟩
  have FI := fun_mk (st := s_Actor_init) l_I d_I k_I
  have FS := fun_mk (st := s_Actor_step) l_S d_S k_S
  have FM := fun_mk (st := s_Actor_moved) l_M d_M k_M
  have BI := FI.binds (ps := ["self", "machine"]) (fun _ _ _ _ _ _ us hl => match us, hl with | [_, _], _ => rfl)
  have BS := FS.binds (ps := ["self", "word", "digit"]) (fun _ _ _ _ _ _ us hl => match us, hl with | [_, _, _], _ => rfl)
  have BM := FM.binds (ps := ["self", "word", "string"]) (fun _ _ _ _ _ _ us hl => match us, hl with | [_, _, _], _ => rfl)
  refine ⟨PySem.W.fnOf "law" "law" (defArgs s_law) (defBody s_law) (defScope s_law) .none kV_law dc_law pm_law an_law cd_law ct_law, fun s v => .of_eq rfl, fun base _ _ => ?_⟩
  have D_is_wide := ok_is_wide (P := P) (w := w) (base := base) T (ok_is_row T)
  have D_check_machine := ok_check_machine T (ok_is_machine T D_is_wide)
  have D_check_word := ok_check_word T D_check_machine (ok_refuse_word T (ok_is_word T (ok_letters_of T)))
  have D_digit_count := ok_digit_count (P := P) (w := w) (base := base) T XB
  have D_check_graph := ok_check_graph (P := P) (w := w) (base := base) T XN (ok_is_graph T)
  have D_step := ok_step (P := P) (w := w) (base := base) T TA FS
  have D_moved := ok_moved T TA ⟨mk, a_I, i_I, kc⟩ (ok_init (P := P) (w := w) (base := base) T TA FI) BI (ok_amoved T TA FM D_step ⟨a_S, i_S, k_S⟩ BS) ⟨a_M, i_M, k_M⟩ BM
  have D_level_graph := ok_level_graph T D_check_word (ok_power_of T) (ok_written T) D_moved (ok_number_of T D_digit_count (ok_has_digits T))
  have D_lays := ok_lays (P := P) (w := w) (base := base) T (ok_backs T) (ok_steps T)
  have D_law_values := ok_law_values (P := P) (w := w) (base := base) T
  have D_law_told := ok_law_told T XN XB (exm_at bN iN tN sNN) (exm_at bN iN tN sBN) (exm_at bB iB tB sBB) (ok_over T D_check_graph D_digit_count)
  exact ok_law T (fun_mk (st := s_law) l_law d_law k_law) (ok_law_cell T) (ok_law_machine T D_law_values (ok_law_arranged T)) (ok_law_word T D_law_values) (ok_law_is_even T) D_level_graph D_law_told (ok_parts T D_check_graph D_lays) (ok_layers T D_check_graph (ok_check_number T) D_lays) (ok_distance T D_check_graph (ok_check_number T) D_lays)
theorem walk {l : PySem.W.OpenLaw} {q : Program} {loose : List Str} {XP : (Str → Option Value) → Heap → Prop} {YP : World → Heap → Prop} {d : DefRec} {K : Params → PySem.W.Frag} (hn : l.most = some 63) (hdf : d.params.defaults = [])
    (hY : ∀ (w : World) (h : Heap), YP w h → (K w.params).In h)
    (F : ∀ (w : World) (mg : Str → Option Value) (fa : Addr) (h : Heap), (K w.params).In h → h.Ns mainGlobals mg → mg d.name = some (.ref fa) →
      ∃ fd : FuncData, (∀ (s : Shared) (u : Value), BindsTo s fd ⟨[u], []⟩ [("_law_script", u)]) ∧ ∀ base : Heap, (K w.params).In base → base.Ns mainGlobals mg → FnOk l.prog w (K w.params) mg base CX0 7 fa fd ["_law_script"] (sp_law (K w.params))) :
    PySem.W.WalkO q loose XP YP l.row.toRowW d [] (fun f vs => PySem.call f vs) :=
  L2.walk_of (n := 63) (k := 7) (x := "_law_script") (CX := fun _ => CX0) (sp := fun w => sp_law (K w.params)) hn (by decide) hdf ⟨rfl, by decide, by decide⟩ hY F (fun _ _ a ns hl _ hS => ⟨a, ns, rfl, hS, fun _ => rfl⟩) fun _ _ _ _ _ z => z
end LT
set_option Elab.async false
set_option maxRecDepth 100000
open PySem PySem.W PyProof.Rows in
set_option maxRecDepth 100000 in
set_option maxHeartbeats 0 in
theorem PySem.Challenge.cw_leafturner_k72_whole_levels_over_levels_holds : PySem.Challenge.rw_leafturner_k72_whole_levels_over_levels.Holds := by
  w_on; o_law; k_head; (case hw => w_witness2)
  k_fill
  refine LT.walk (l := PySem.Challenge.rw_leafturner_k72_whole_levels_over_levels) rfl rfl (fun w h Y => PySem.W.kIn_of Y) ?F
  case F =>
    intro w mg fa h KX G hmg
    refine' LT.all_mk KX G hmg ?z_len ?z_sorted ?z_list ?z_range ?z_all ?z_int ?z_str ?z_tuple ?z_reversed ?z_enumerate ?z_zip ?z_sum ?z_max ?z_min ?c_DIGITS ?c_LEAST_DIGITS ?c_MOST_DIGITS ?c_MOST_STATES ?c_MOST_WIDE ?c_MOST_LENGTH ?c_SMALL ?c_LARGE ?c_ORDER ?c_LONGEST ?c_MOST_ROWS ?c_MOST_NUMBERS ?c_MOST_LEVEL ?a_is_row ?l_is_row ?k_is_row ?d_is_row ?a_is_wide ?l_is_wide ?k_is_wide ?d_is_wide ?a_is_machine ?l_is_machine ?k_is_machine ?d_is_machine ?a_check_machine ?l_check_machine ?k_check_machine ?d_check_machine ?a_has_digits ?l_has_digits ?k_has_digits ?d_has_digits ?a_letters_of ?l_letters_of ?k_letters_of ?d_letters_of ?a_is_word ?l_is_word ?k_is_word ?d_is_word ?a_refuse_word ?l_refuse_word ?k_refuse_word ?d_refuse_word ?a_check_word ?l_check_word ?k_check_word ?d_check_word ?a_moved ?l_moved ?k_moved ?d_moved ?a_is_graph ?l_is_graph ?k_is_graph ?d_is_graph ?a_check_graph ?l_check_graph ?k_check_graph ?d_check_graph ?a_check_number ?l_check_number ?k_check_number ?d_check_number ?a_digit_count ?l_digit_count ?k_digit_count ?d_digit_count ?a_number_of ?l_number_of ?k_number_of ?d_number_of ?a_power_of ?l_power_of ?k_power_of ?d_power_of ?a_written ?l_written ?k_written ?d_written ?a_level_graph ?l_level_graph ?k_level_graph ?d_level_graph ?a_steps ?l_steps ?k_steps ?d_steps ?a_backs ?l_backs ?k_backs ?d_backs ?a_lays ?l_lays ?k_lays ?d_lays ?a_distance ?l_distance ?k_distance ?d_distance ?a_parts ?l_parts ?k_parts ?d_parts ?a_layers ?l_layers ?k_layers ?d_layers ?a_over ?l_over ?k_over ?d_over ?a_law_cell ?l_law_cell ?k_law_cell ?d_law_cell ?a_law_values ?l_law_values ?k_law_values ?d_law_values ?a_law_arranged ?l_law_arranged ?k_law_arranged ?d_law_arranged ?a_law_machine ?l_law_machine ?k_law_machine ?d_law_machine ?a_law_word ?l_law_word ?k_law_word ?d_law_word ?a_law_told ?l_law_told ?k_law_told ?d_law_told ?a_law_is_even ?l_law_is_even ?k_law_is_even ?d_law_is_even ?a_law ?l_law ?k_law ?d_law ?aC ?aN ?aB ?a_I ?i_I ?l_I ?k_I ?d_I ?a_S ?i_S ?l_S ?k_S ?d_S ?a_M ?i_M ?l_M ?k_M ?d_M ?pg ?hd ?po ?sa ?mk ?kc ?nS ?nT ?xN ?kN ?bN ?tN ?iN ?xB ?kB ?bB ?tB ?iB ?sNN ?sBN ?sBB
    (case z_len => k_is)
    (case z_sorted => k_is)
    (case z_list => k_is)
    (case z_range => k_is)
    (case z_all => k_is)
    (case z_int => k_is)
    (case z_str => k_is)
    (case z_tuple => k_is)
    (case z_reversed => k_is)
    (case z_enumerate => k_is)
    (case z_zip => k_is)
    (case z_sum => k_is)
    (case z_max => k_is)
    (case z_min => k_is)
    (case c_DIGITS => k_is)
    (case c_LEAST_DIGITS => k_is)
    (case c_MOST_DIGITS => k_is)
    (case c_MOST_STATES => k_is)
    (case c_MOST_WIDE => k_is)
    (case c_MOST_LENGTH => k_is)
    (case c_SMALL => k_is)
    (case c_LARGE => k_is)
    (case c_ORDER => k_is)
    (case c_LONGEST => k_is)
    (case c_MOST_ROWS => k_is)
    (case c_MOST_NUMBERS => k_is)
    (case c_MOST_LEVEL => k_is)
    (case a_is_row => k_is)
    (case l_is_row => k_is)
    (case k_is_row => k_is)
    (case d_is_row => k_is)
    (case a_is_wide => k_is)
    (case l_is_wide => k_is)
    (case k_is_wide => k_is)
    (case d_is_wide => k_is)
    (case a_is_machine => k_is)
    (case l_is_machine => k_is)
    (case k_is_machine => k_is)
    (case d_is_machine => k_is)
    (case a_check_machine => k_is)
    (case l_check_machine => k_is)
    (case k_check_machine => k_is)
    (case d_check_machine => k_is)
    (case a_has_digits => k_is)
    (case l_has_digits => k_is)
    (case k_has_digits => k_is)
    (case d_has_digits => k_is)
    (case a_letters_of => k_is)
    (case l_letters_of => k_is)
    (case k_letters_of => k_is)
    (case d_letters_of => k_is)
    (case a_is_word => k_is)
    (case l_is_word => k_is)
    (case k_is_word => k_is)
    (case d_is_word => k_is)
    (case a_refuse_word => k_is)
    (case l_refuse_word => k_is)
    (case k_refuse_word => k_is)
    (case d_refuse_word => k_is)
    (case a_check_word => k_is)
    (case l_check_word => k_is)
    (case k_check_word => k_is)
    (case d_check_word => k_is)
    (case a_moved => k_is)
    (case l_moved => k_is)
    (case k_moved => k_is)
    (case d_moved => k_is)
    (case a_is_graph => k_is)
    (case l_is_graph => k_is)
    (case k_is_graph => k_is)
    (case d_is_graph => k_is)
    (case a_check_graph => k_is)
    (case l_check_graph => k_is)
    (case k_check_graph => k_is)
    (case d_check_graph => k_is)
    (case a_check_number => k_is)
    (case l_check_number => k_is)
    (case k_check_number => k_is)
    (case d_check_number => k_is)
    (case a_digit_count => k_is)
    (case l_digit_count => k_is)
    (case k_digit_count => k_is)
    (case d_digit_count => k_is)
    (case a_number_of => k_is)
    (case l_number_of => k_is)
    (case k_number_of => k_is)
    (case d_number_of => k_is)
    (case a_power_of => k_is)
    (case l_power_of => k_is)
    (case k_power_of => k_is)
    (case d_power_of => k_is)
    (case a_written => k_is)
    (case l_written => k_is)
    (case k_written => k_is)
    (case d_written => k_is)
    (case a_level_graph => k_is)
    (case l_level_graph => k_is)
    (case k_level_graph => k_is)
    (case d_level_graph => k_is)
    (case a_steps => k_is)
    (case l_steps => k_is)
    (case k_steps => k_is)
    (case d_steps => k_is)
    (case a_backs => k_is)
    (case l_backs => k_is)
    (case k_backs => k_is)
    (case d_backs => k_is)
    (case a_lays => k_is)
    (case l_lays => k_is)
    (case k_lays => k_is)
    (case d_lays => k_is)
    (case a_distance => k_is)
    (case l_distance => k_is)
    (case k_distance => k_is)
    (case d_distance => k_is)
    (case a_parts => k_is)
    (case l_parts => k_is)
    (case k_parts => k_is)
    (case d_parts => k_is)
    (case a_layers => k_is)
    (case l_layers => k_is)
    (case k_layers => k_is)
    (case d_layers => k_is)
    (case a_over => k_is)
    (case l_over => k_is)
    (case k_over => k_is)
    (case d_over => k_is)
    (case a_law_cell => k_is)
    (case l_law_cell => k_is)
    (case k_law_cell => k_is)
    (case d_law_cell => k_is)
    (case a_law_values => k_is)
    (case l_law_values => k_is)
    (case k_law_values => k_is)
    (case d_law_values => k_is)
    (case a_law_arranged => k_is)
    (case l_law_arranged => k_is)
    (case k_law_arranged => k_is)
    (case d_law_arranged => k_is)
    (case a_law_machine => k_is)
    (case l_law_machine => k_is)
    (case k_law_machine => k_is)
    (case d_law_machine => k_is)
    (case a_law_word => k_is)
    (case l_law_word => k_is)
    (case k_law_word => k_is)
    (case d_law_word => k_is)
    (case a_law_told => k_is)
    (case l_law_told => k_is)
    (case k_law_told => k_is)
    (case d_law_told => k_is)
    (case a_law_is_even => k_is)
    (case l_law_is_even => k_is)
    (case k_law_is_even => k_is)
    (case d_law_is_even => k_is)
    (case a_law => k_is)
    (case l_law => k_is)
    (case k_law => k_is)
    (case d_law => k_is)
    (case aC => k_is)
    (case aN => k_is)
    (case aB => k_is)
    (case a_I => k_is)
    (case i_I => k_is)
    (case l_I => k_is)
    (case k_I => k_is)
    (case d_I => k_is)
    (case a_S => k_is)
    (case i_S => k_is)
    (case l_S => k_is)
    (case k_S => k_is)
    (case d_S => k_is)
    (case a_M => k_is)
    (case i_M => k_is)
    (case l_M => k_is)
    (case k_M => k_is)
    (case d_M => k_is)
    (case pg => k_is)
    (case hd => k_is)
    (case po => k_is)
    (case sa => k_is)
    (case mk => k_is)
    (case kc => k_is)
    (case nS => k_is)
    (case nT => k_is)
    (case xN => k_exc)
    (case kN => k_is)
    (case bN => k_is)
    (case tN => k_is)
    (case iN => k_is)
    (case xB => k_exc)
    (case kB => k_is)
    (case bB => k_is)
    (case tB => k_is)
    (case iB => k_is)
    (case sNN => first | rfl | k_is)
    (case sBN => k_is)
    (case sBB => first | rfl | k_is)
#print axioms PySem.Challenge.cw_leafturner_k72_whole_levels_over_levels_holds
