import PyProof.Rows.All
import Wide.All
import OpenK.AllK
import Wide.FinOn
import HandS.ForMost
import HandS.Wide
import HandS.WideBits
import HandS.Property
import HandS.TupLen
import HandS.Walk
import HandS.IsInst
import HandS.Conv
import HandS.Sort
import KE.KeyNested
import HandS.TupAny
import KE.GoesEnum
import PyProof.LongRange
import HandS.Evl
import HandS.TryOnly
import HandS.Ends
import PySem.Challenge.RW_sandthreads_k93_whole_every_length
/-! ## SandDec -/
set_option linter.all false
set_option Elab.async false
namespace Sand

/-! ### neighbours in a list -/
def Nx {V : Type} : List V → V → V → Prop
  | x :: y :: t, v, u => (v = x ∧ u = y) ∨ Nx (y :: t) v u
  | _, _, _ => False

section
variable {V : Type}
theorem nx_two {x y : V} {t : List V} {v u : V} : Nx (x :: y :: t) v u ↔ (v = x ∧ u = y) ∨ Nx (y :: t) v u := Iff.rfl
theorem nx_one {x v u : V} : Nx [x] v u ↔ False := Iff.rfl
theorem nx_nil {v u : V} : Nx ([] : List V) v u ↔ False := Iff.rfl
theorem nx_app {v u : V} : ∀ (s : List V) (p q : V) (t : List V), Nx (s ++ p :: q :: t) v u ↔ Nx (s ++ [p]) v u ∨ (v = p ∧ u = q) ∨ Nx (q :: t) v u
  | [], p, q, t => by
    show Nx (p :: q :: t) v u ↔ Nx [p] v u ∨ _
    rw [nx_two, nx_one]
    exact ⟨fun h => .inr h, fun h => h.elim False.elim id⟩
  | [x], p, q, t => by
    show Nx (x :: p :: q :: t) v u ↔ Nx [x, p] v u ∨ _
    rw [nx_two, nx_two, nx_two, nx_one]
    constructor
    · rintro (h | h | h)
      · exact .inl (.inl h)
      · exact .inr (.inl h)
      · exact .inr (.inr h)
    · rintro ((h | h) | h | h)
      · exact .inl h
      · exact h.elim
      · exact .inr (.inl h)
      · exact .inr (.inr h)
  | x :: y :: s, p, q, t => by
    have ih := nx_app (v := v) (u := u) (y :: s) p q t
    show Nx (x :: y :: (s ++ p :: q :: t)) v u ↔ Nx (x :: y :: (s ++ [p])) v u ∨ _
    rw [nx_two, nx_two]
    show _ ∨ Nx ((y :: s) ++ p :: q :: t) v u ↔ (_ ∨ Nx ((y :: s) ++ [p]) v u) ∨ _
    rw [ih]
    constructor
    · rintro (h | h | h)
      · exact .inl (.inl h)
      · exact .inl (.inr h)
      · exact .inr h
    · rintro ((h | h) | h)
      · exact .inl h
      · exact .inr (.inl h)
      · exact .inr (.inr h)
theorem nx_rev {v u : V} : ∀ l : List V, Nx l.reverse v u ↔ Nx l u v
  | [] => Iff.rfl
  | [x] => Iff.rfl
  | x :: y :: t => by
    have ih := nx_rev (v := v) (u := u) (y :: t)
    have e : (x :: y :: t).reverse = t.reverse ++ y :: x :: [] := by simp
    have e2 : (y :: t).reverse = t.reverse ++ [y] := by simp
    rw [e, nx_app, ← e2, ih, nx_two, nx_one]
    constructor
    · rintro (h | h | h)
      · exact .inr h
      · exact .inl ⟨h.2, h.1⟩
      · exact h.elim
    · rintro (h | h)
      · exact .inr (.inl ⟨h.2, h.1⟩)
      · exact .inl h
/-- the first of two neighbours is no last one, the second no first one -/
theorem nx_fst {v u x : V} : ∀ s : List V, Nx (s ++ [x]) v u → v ∈ s
  | [], h => h.elim
  | [y], h => by
    rcases (show (v = y ∧ u = x) ∨ Nx [x] v u from h) with h | h
    · simp [h.1]
    · exact h.elim
  | y :: z :: s, h => by
    rcases (show (v = y ∧ u = z) ∨ Nx ((z :: s) ++ [x]) v u from h) with h | h
    · simp [h.1]
    · exact List.mem_cons_of_mem _ (nx_fst (z :: s) h)
theorem nx_snd {v u x : V} : ∀ t : List V, Nx (x :: t) v u → u ∈ t
  | [], h => h.elim
  | y :: t, h => by
    rcases (show (v = x ∧ u = y) ∨ Nx (y :: t) v u from h) with h | h
    · simp [h.2]
    · exact List.mem_cons_of_mem _ (nx_snd t h)
theorem nx_mem {v u : V} : ∀ {l : List V}, Nx l v u → v ∈ l ∧ u ∈ l
  | [], h => h.elim
  | [x], h => h.elim
  | x :: y :: t, h => by
    rcases (show (v = x ∧ u = y) ∨ Nx (y :: t) v u from h) with h | h
    · simp [h.1, h.2]
    · have q := nx_mem h
      exact ⟨List.mem_cons_of_mem _ q.1, List.mem_cons_of_mem _ q.2⟩
theorem nx_next {s t : List V} {v u : V} (nd : (s ++ v :: t).Nodup) (h : Nx (s ++ v :: t) v u) : t.head? = some u := by
  have hs : v ∉ s := fun m => (List.nodup_append.mp nd).2.2 v m v (by simp) rfl
  have ht : v ∉ t := (List.nodup_cons.mp (List.nodup_append.mp nd).2.1).1
  cases t with
  | nil => exact (hs (nx_fst s h)).elim
  | cons q t =>
    rcases (nx_app s v q t).mp h with h | h | h
    · exact (hs (nx_fst s h)).elim
    · simp [h.2]
    · exact (ht (nx_mem h).1).elim
theorem nx_prev {s t : List V} {v u : V} (nd : (s ++ v :: t).Nodup) (h : Nx (s ++ v :: t) u v) : u ∈ s := by
  have ht : v ∉ t := (List.nodup_cons.mp (List.nodup_append.mp nd).2.1).1
  cases t with
  | nil => exact nx_fst s h
  | cons q t =>
    rcases (nx_app s v q t).mp h with h | h | h
    · exact nx_fst s h
    · exact (ht (by simp [h.2])).elim
    · exact (ht (nx_mem h).2).elim
theorem nx_of_next {s t : List V} {v u : V} (h : t.head? = some u) : Nx (s ++ v :: t) v u := by
  cases t with
  | nil => simp at h
  | cons q t =>
    simp at h
    exact (nx_app s v q t).mpr (.inr (.inl ⟨rfl, h.symm⟩))

/-! ### a closed row of squares -/
/-- neighbours in a closed row -/
def Cy (c : List V) (v u : V) : Prop := Nx c v u ∨ Nx c u v ∨ (c.head? = some v ∧ c.getLast? = some u) ∨ (c.head? = some u ∧ c.getLast? = some v)
theorem cy_symm {c : List V} {v u : V} (h : Cy c v u) : Cy c u v := by
  rcases h with h | h | h | h
  · exact .inr (.inl h)
  · exact .inl h
  · exact .inr (.inr (.inr h))
  · exact .inr (.inr (.inl h))
theorem cy_mem {c : List V} {v u : V} (h : Cy c v u) : v ∈ c ∧ u ∈ c := by
  rcases h with h | h | h | h
  · exact nx_mem h
  · exact (nx_mem h).symm
  · exact ⟨List.mem_of_mem_head? h.1, List.mem_of_mem_getLast? h.2⟩
  · exact ⟨List.mem_of_mem_getLast? h.2, List.mem_of_mem_head? h.1⟩
/-- told from another square on -/
theorem cy_rot {s t : List V} {x : V} {v u : V} : Cy (s ++ x :: t) v u ↔ Cy (x :: t ++ s) v u := by
  cases s with
  | nil => simp
  | cons y s =>
    -- y :: s ++ x :: t : neighbours in y :: s, in x :: t, last of y :: s to x, last of x :: t to y
    have hl : ∃ s' z, y :: s = s' ++ [z] := by
      rcases List.eq_nil_or_concat (y :: s) with h | ⟨s', z, h⟩
      · cases h
      · exact ⟨s', z, by simpa using h⟩
    have ht : ∃ t' z, x :: t = t' ++ [z] := by
      rcases List.eq_nil_or_concat (x :: t) with h | ⟨s', z, h⟩
      · cases h
      · exact ⟨s', z, by simpa using h⟩
    obtain ⟨s', z, hs⟩ := hl
    obtain ⟨t', w, ht⟩ := ht
    have a1 : ∀ a b : V, Nx (y :: s ++ x :: t) a b ↔ Nx (y :: s) a b ∨ (a = z ∧ b = x) ∨ Nx (x :: t) a b := fun a b => by
      rw [hs, List.append_assoc]
      exact nx_app s' z x t
    have a2 : ∀ a b : V, Nx (x :: t ++ y :: s) a b ↔ Nx (x :: t) a b ∨ (a = w ∧ b = y) ∨ Nx (y :: s) a b := fun a b => by
      rw [ht, List.append_assoc]
      exact nx_app t' w y s
    have b1 : (y :: s ++ x :: t).head? = some y := rfl
    have b2 : (x :: t ++ y :: s).head? = some x := rfl
    have c1 : (y :: s ++ x :: t).getLast? = some w := by rw [ht, ← List.append_assoc, List.getLast?_concat]
    have c2 : (x :: t ++ y :: s).getLast? = some z := by rw [hs, ← List.append_assoc, List.getLast?_concat]
    unfold Cy
    rw [a1, a1, a2, a2, b1, b2, c1, c2]
    simp only [Option.some.injEq]
    constructor
    · rintro ((h | h | h) | (h | h | h) | h | h)
      · exact .inl (.inr (.inr h))
      · exact .inr (.inr (.inr ⟨h.2.symm, h.1.symm⟩))
      · exact .inl (.inl h)
      · exact .inr (.inl (.inr (.inr h)))
      · exact .inr (.inr (.inl ⟨h.2.symm, h.1.symm⟩))
      · exact .inr (.inl (.inl h))
      · exact .inr (.inl (.inr (.inl ⟨h.2.symm, h.1.symm⟩)))
      · exact .inl (.inr (.inl ⟨h.2.symm, h.1.symm⟩))
    · rintro ((h | h | h) | (h | h | h) | h | h)
      · exact .inl (.inr (.inr h))
      · exact .inr (.inr (.inr ⟨h.2.symm, h.1.symm⟩))
      · exact .inl (.inl h)
      · exact .inr (.inl (.inr (.inr h)))
      · exact .inr (.inr (.inl ⟨h.2.symm, h.1.symm⟩))
      · exact .inr (.inl (.inl h))
      · exact .inr (.inl (.inr (.inl ⟨h.2.symm, h.1.symm⟩)))
      · exact .inl (.inr (.inl ⟨h.2.symm, h.1.symm⟩))
end

/-! ### threads above a frontier: a path for each column, closed threads -/
section
variable {V : Type} [DecidableEq V]
/-- n columns; fr: the square of each column at the frontier; e: the column to which its thread leads; P: the thread; C: the closed ones; E: the links; S: the squares -/
structure Dec (n : Nat) (fr : Nat → V) (e : Nat → Nat) (P : Nat → List V) (C : List (List V)) (E : V → V → Prop) (S : V → Prop) : Prop where
  lt : ∀ i, i < n → e i < n
  inv : ∀ i, i < n → e (e i) = i
  ne : ∀ i, i < n → e i ≠ i
  hd : ∀ i, i < n → ∃ t, t ≠ [] ∧ P i = fr i :: t
  rev : ∀ i, i < n → P (e i) = (P i).reverse
  nd : ∀ i, i < n → (P i).Nodup
  dj : ∀ i, i < n → ∀ k, k < n → ∀ v, v ∈ P i → v ∈ P k → k = i ∨ k = e i
  cnd : ∀ c, c ∈ C → c.Nodup ∧ c ≠ []
  cdj : C.Pairwise fun c d => ∀ v, v ∈ c → v ∉ d
  cp : ∀ c, c ∈ C → ∀ i, i < n → ∀ v, v ∈ c → v ∉ P i
  cov : ∀ v, S v ↔ (∃ i, i < n ∧ v ∈ P i) ∨ ∃ c, c ∈ C ∧ v ∈ c
  ed : ∀ v u, E v u ↔ (∃ i, i < n ∧ Nx (P i) v u) ∨ ∃ c, c ∈ C ∧ Cy c v u

variable {n : Nat} {fr : Nat → V} {e : Nat → Nat} {P : Nat → List V} {C : List (List V)} {E : V → V → Prop} {S : V → Prop}
theorem Dec.congr (D : Dec n fr e P C E S) {fr' : Nat → V} {e' : Nat → Nat} {E' : V → V → Prop} {S' : V → Prop} (hf : ∀ i, i < n → fr' i = fr i) (he : ∀ i, i < n → e' i = e i) (hE : ∀ v u, E' v u ↔ E v u) (hS : ∀ v, S' v ↔ S v) : Dec n fr' e' P C E' S' where
  lt := fun i h => by rw [he i h]; exact D.lt i h
  inv := fun i h => by rw [he i h, he _ (D.lt i h)]; exact D.inv i h
  ne := fun i h => by rw [he i h]; exact D.ne i h
  hd := fun i h => by rw [hf i h]; exact D.hd i h
  rev := fun i h => by rw [he i h]; exact D.rev i h
  nd := D.nd
  dj := fun i h k hk v a b => by rw [he i h]; exact D.dj i h k hk v a b
  cnd := D.cnd
  cdj := D.cdj
  cp := D.cp
  cov := fun v => (hS v).trans (D.cov v)
  ed := fun v u => (hE v u).trans (D.ed v u)
theorem Dec.inj (D : Dec n fr e P C E S) {i k : Nat} (hi : i < n) (hk : k < n) (h : e i = e k) : i = k := by
  rw [← D.inv i hi, h, D.inv k hk]
theorem Dec.frS (D : Dec n fr e P C E S) {i : Nat} (hi : i < n) : S (fr i) := by
  obtain ⟨t, _, h⟩ := D.hd i hi
  exact (D.cov _).mpr (.inl ⟨i, hi, by rw [h]; exact List.mem_cons_self⟩)
/-- the two columns of a thread have no common square -/
theorem Dec.fne (D : Dec n fr e P C E S) {i k : Nat} (hi : i < n) (hk : k < n) (h : fr i = fr k) : i = k := by
  obtain ⟨t, tn, h1⟩ := D.hd i hi
  obtain ⟨t', _, h2⟩ := D.hd k hk
  have m1 : fr i ∈ P i := by rw [h1]; exact List.mem_cons_self
  have m2 : fr i ∈ P k := by rw [h2, h]; exact List.mem_cons_self
  rcases D.dj i hi k hk _ m1 m2 with q | q
  · exact q.symm
  · -- the head of P i is the head of its reverse: one square alone, so the columns would be equal
    have hr := D.rev i hi
    rw [← q, h2, h1, ← h] at hr
    -- fr i :: t' = (fr i :: t).reverse = t.reverse ++ [fr i]
    have hn := D.nd i hi
    rw [h1] at hn
    cases ht : t.reverse with
    | nil => exact (tn (by simpa using congrArg List.reverse ht)).elim
    | cons z zs =>
      exfalso
      rw [List.reverse_cons, ht] at hr
      have e1 : fr i = z := (List.cons.inj hr).1
      have : z ∈ t := by
        have : z ∈ t.reverse := by rw [ht]; exact List.mem_cons_self
        exact List.mem_reverse.mp this
      exact (List.nodup_cons.mp hn).1 (by rw [e1]; exact this)

theorem Dec.last (D : Dec n fr e P C E S) {i : Nat} (hi : i < n) : ∃ t, t ≠ [] ∧ P i = t ++ [fr (e i)] := by
  obtain ⟨t, tn, h⟩ := D.hd (e i) (D.lt i hi)
  have hr := D.rev (e i) (D.lt i hi)
  rw [D.inv i hi, h] at hr
  exact ⟨t.reverse, by simpa using tn, by rw [hr]; simp⟩

/-! the three steps -/
/-- a new square below the column i0 -/
theorem Dec.ext (D : Dec n fr e P C E S) {i0 : Nat} (h0 : i0 < n) {x : V} (hx : ¬ S x) :
    ∃ P', Dec n (fun k => if k = i0 then x else fr k) e P' C (fun v u => E v u ∨ (v = fr i0 ∧ u = x) ∨ (v = x ∧ u = fr i0)) (fun v => S v ∨ v = x) := by
  have hj := D.lt i0 h0
  have hji := D.ne i0 h0
  have hP : ∀ i, i < n → x ∉ P i := fun i hi m => hx ((D.cov x).mpr (.inl ⟨i, hi, m⟩))
  have hC : ∀ c, c ∈ C → x ∉ c := fun c hc m => hx ((D.cov x).mpr (.inr ⟨c, hc, m⟩))
  let P' : Nat → List V := fun k => if k = i0 then x :: P k else if k = e i0 then P k ++ [x] else P k
  have p0 : P' i0 = x :: P i0 := by show (if i0 = i0 then _ else _) = _; rw [if_pos rfl]
  have p1 : P' (e i0) = P (e i0) ++ [x] := by show (if e i0 = i0 then _ else if e i0 = e i0 then _ else _) = _; rw [if_neg hji, if_pos rfl]
  have p2 : ∀ k, k ≠ i0 → k ≠ e i0 → P' k = P k := fun k a b => by show (if k = i0 then _ else if k = e i0 then _ else _) = _; rw [if_neg a, if_neg b]
  have mem : ∀ k, k < n → ∀ v, v ∈ P' k ↔ v ∈ P k ∨ (v = x ∧ (k = i0 ∨ k = e i0)) := fun k hk v => by
    by_cases a : k = i0
    · rw [a, p0]; simp; constructor
      · rintro (h | h)
        · exact .inr h
        · exact .inl h
      · rintro (h | h)
        · exact .inr h
        · exact .inl h
    · by_cases b : k = e i0
      · rw [b, p1]; simp
      · rw [p2 k a b]; simp [a, b]
  have nx : ∀ k, k < n → ∀ v u, Nx (P' k) v u ↔ Nx (P k) v u ∨ (k = i0 ∧ v = x ∧ u = fr i0) ∨ (k = e i0 ∧ v = fr i0 ∧ u = x) := fun k hk v u => by
    obtain ⟨t, tn, ht⟩ := D.hd i0 h0
    have f0 : ∀ v u, Nx (x :: P i0) v u ↔ (v = x ∧ u = fr i0) ∨ Nx (P i0) v u := fun v u => by rw [ht]; exact nx_two
    by_cases a : k = i0
    · subst a
      rw [p0, f0]
      constructor
      · rintro (h | h)
        · exact .inr (.inl ⟨rfl, h⟩)
        · exact .inl h
      · rintro (h | h | h)
        · exact .inr h
        · exact .inl h.2
        · exact (hji h.1.symm).elim
    · by_cases b : k = e i0
      · subst b
        have er : P (e i0) ++ [x] = (x :: P i0).reverse := by rw [D.rev i0 h0]; simp
        rw [p1, er, nx_rev, f0, D.rev i0 h0, nx_rev]
        constructor
        · rintro (h | h)
          · exact .inr (.inr ⟨rfl, h.2, h.1⟩)
          · exact .inl h
        · rintro (h | h | h)
          · exact .inr h
          · exact (a h.1).elim
          · exact .inl ⟨h.2.2, h.2.1⟩
      · rw [p2 k a b]; simp [a, b]
  refine ⟨P', ⟨D.lt, D.inv, D.ne, fun i hi => ?_, fun i hi => ?_, fun i hi => ?_, fun i hi k hk v a b => ?_, D.cnd, D.cdj, fun c hc i hi v hv hm => ?_, fun v => ?_, fun v u => ?_⟩⟩
  · by_cases a : i = i0
    · subst a
      obtain ⟨t, tn, ht⟩ := D.hd i hi
      exact ⟨P i, by rw [ht]; simp, by rw [p0, if_pos rfl]⟩
    · obtain ⟨t, tn, ht⟩ := D.hd i hi
      show ∃ t, t ≠ [] ∧ P' i = (if i = i0 then x else fr i) :: t
      rw [if_neg a]
      by_cases b : i = e i0
      · refine ⟨t ++ [x], by simp, ?_⟩
        rw [b, p1, ← b, ht]; rfl
      · exact ⟨t, tn, by rw [p2 i a b, ht]⟩
  · by_cases a : i = i0
    · subst a
      rw [p0, p1, D.rev i hi]; simp
    · by_cases b : i = e i0
      · subst b
        rw [D.inv i0 h0, p0, p1, D.rev i0 h0]; simp
      · rw [p2 i a b, p2 (e i) (fun q => b (by rw [← q, D.inv i hi])) (fun q => a (D.inj hi h0 q)), D.rev i hi]
  · by_cases a : i = i0
    · subst a
      rw [p0]
      exact List.nodup_cons.mpr ⟨hP i hi, D.nd i hi⟩
    · by_cases b : i = e i0
      · subst b
        rw [p1]
        refine List.nodup_append.mpr ⟨D.nd _ hj, by simp, fun u hu w hw q => ?_⟩
        simp at hw
        subst hw
        exact hP _ hj (q ▸ hu)
      · rw [p2 i a b]
        exact D.nd i hi
  · rcases (mem i hi v).mp a with a | ⟨a1, a2⟩
    · rcases (mem k hk v).mp b with b | ⟨b1, b2⟩
      · exact D.dj i hi k hk v a b
      · exact (hP i hi (b1 ▸ a)).elim
    · rcases (mem k hk v).mp b with b | ⟨b1, b2⟩
      · exact (hP k hk (a1 ▸ b)).elim
      · rcases a2 with rfl | rfl
        · exact b2
        · rcases b2 with rfl | rfl
          · exact .inr (D.inv k hk).symm
          · exact .inl rfl
  · rcases (mem i hi v).mp hm with h | ⟨h, _⟩
    · exact D.cp c hc i hi v hv h
    · exact hC c hc (h ▸ hv)
  · show (S v ∨ v = x) ↔ _
    rw [D.cov v]
    constructor
    · rintro ((⟨i, hi, m⟩ | h) | h)
      · exact .inl ⟨i, hi, (mem i hi v).mpr (.inl m)⟩
      · exact .inr h
      · exact .inl ⟨i0, h0, (mem i0 h0 v).mpr (.inr ⟨h, .inl rfl⟩)⟩
    · rintro (⟨i, hi, m⟩ | h)
      · rcases (mem i hi v).mp m with m | ⟨m, _⟩
        · exact .inl (.inl ⟨i, hi, m⟩)
        · exact .inr m
      · exact .inl (.inr h)
  · show (E v u ∨ _) ↔ _
    rw [D.ed v u]
    constructor
    · rintro ((⟨i, hi, m⟩ | h) | h | h)
      · exact .inl ⟨i, hi, (nx i hi v u).mpr (.inl m)⟩
      · exact .inr h
      · exact .inl ⟨e i0, hj, (nx _ hj v u).mpr (.inr (.inr ⟨rfl, h⟩))⟩
      · exact .inl ⟨i0, h0, (nx _ h0 v u).mpr (.inr (.inl ⟨rfl, h⟩))⟩
    · rintro (⟨i, hi, m⟩ | h)
      · rcases (nx i hi v u).mp m with m | m | m
        · exact .inl (.inl ⟨i, hi, m⟩)
        · exact .inr (.inr m.2)
        · exact .inr (.inl m.2)
      · exact .inl (.inr h)

/-- two columns exchanged -/
def sw (l r k : Nat) : Nat := if k = l then r else if k = r then l else k
theorem sw_lt {l r k n : Nat} (hl : l < n) (hr : r < n) (hk : k < n) : sw l r k < n := by
  unfold sw; split
  · exact hr
  · split
    · exact hl
    · exact hk
theorem sw_sw (l r k : Nat) : sw l r (sw l r k) = k := by
  unfold sw
  by_cases a : k = l
  · subst a
    by_cases b : r = k
    · simp [b]
    · simp [b]
  · by_cases b : k = r
    · subst b; simp [a]
    · simp [a, b]
theorem Dec.swap (D : Dec n fr e P C E S) {l r : Nat} (hl : l < n) (hr : r < n) :
    Dec n (fun k => fr (sw l r k)) (fun k => sw l r (e (sw l r k))) (fun k => P (sw l r k)) C E S where
  lt := fun i h => sw_lt hl hr (D.lt _ (sw_lt hl hr h))
  inv := fun i h => by
    show sw l r (e (sw l r (sw l r (e (sw l r i))))) = i
    rw [sw_sw, D.inv _ (sw_lt hl hr h), sw_sw]
  ne := fun i h q => D.ne _ (sw_lt hl hr h) (by
    have := congrArg (sw l r) q
    rw [sw_sw] at this
    exact this)
  hd := fun i h => D.hd _ (sw_lt hl hr h)
  rev := fun i h => by
    show P (sw l r (sw l r (e (sw l r i)))) = _
    rw [sw_sw]
    exact D.rev _ (sw_lt hl hr h)
  nd := fun i h => D.nd _ (sw_lt hl hr h)
  dj := fun i h k hk v a b => by
    rcases D.dj _ (sw_lt hl hr h) _ (sw_lt hl hr hk) v a b with q | q
    · exact .inl (by have := congrArg (sw l r) q; rw [sw_sw, sw_sw] at this; exact this)
    · exact .inr (by have := congrArg (sw l r) q; rw [sw_sw] at this; exact this)
  cnd := D.cnd
  cdj := D.cdj
  cp := fun c hc i h v hv => D.cp c hc _ (sw_lt hl hr h) v hv
  cov := fun v => (D.cov v).trans (or_congr ⟨fun ⟨i, hi, m⟩ => ⟨sw l r i, sw_lt hl hr hi, by rw [sw_sw]; exact m⟩, fun ⟨i, hi, m⟩ => ⟨_, sw_lt hl hr hi, m⟩⟩ Iff.rfl)
  ed := fun v u => (D.ed v u).trans (or_congr ⟨fun ⟨i, hi, m⟩ => ⟨sw l r i, sw_lt hl hr hi, by rw [sw_sw]; exact m⟩, fun ⟨i, hi, m⟩ => ⟨_, sw_lt hl hr hi, m⟩⟩ Iff.rfl)

/-- where the columns lead when l and r are joined above, and a new thread begins below them -/
def capE (e : Nat → Nat) (l r k : Nat) : Nat := if k = l then r else if k = r then l else if k = e l then e r else if k = e r then e l else e k
theorem capE_l {e : Nat → Nat} {l r : Nat} : capE e l r l = r := by unfold capE; rw [if_pos rfl]
theorem capE_r {e : Nat → Nat} {l r : Nat} (h : l ≠ r) : capE e l r r = l := by unfold capE; rw [if_neg h.symm, if_pos rfl]
theorem capE_o {e : Nat → Nat} {l r k : Nat} (h1 : k ≠ l) (h2 : k ≠ r) (h3 : k ≠ e l) (h4 : k ≠ e r) : capE e l r k = e k := by unfold capE; rw [if_neg h1, if_neg h2, if_neg h3, if_neg h4]

/-- l and r end in one thread: it closes -/
theorem Dec.close (D : Dec n fr e P C E S) {l r : Nat} (hl : l < n) (hr : r < n) (hlr : e l = r) {x y : V} (hxy : x ≠ y) (hx : ¬ S x) (hy : ¬ S y) :
    ∃ P', Dec n (fun k => if k = l then x else if k = r then y else fr k) e P' (P l :: C) (fun v u => E v u ∨ ((v = fr l ∧ u = fr r) ∨ (v = fr r ∧ u = fr l)) ∨ (v = x ∧ u = y) ∨ (v = y ∧ u = x)) (fun v => S v ∨ v = x ∨ v = y) := by
  have hne : l ≠ r := fun q => D.ne l hl (hlr.trans q.symm)
  have hrl : e r = l := by rw [← hlr]; exact D.inv l hl
  have hPx : ∀ i, i < n → x ∉ P i := fun i hi m => hx ((D.cov x).mpr (.inl ⟨i, hi, m⟩))
  have hPy : ∀ i, i < n → y ∉ P i := fun i hi m => hy ((D.cov y).mpr (.inl ⟨i, hi, m⟩))
  have hCx : ∀ c, c ∈ C → x ∉ c := fun c hc m => hx ((D.cov x).mpr (.inr ⟨c, hc, m⟩))
  have hCy : ∀ c, c ∈ C → y ∉ c := fun c hc m => hy ((D.cov y).mpr (.inr ⟨c, hc, m⟩))
  let P' : Nat → List V := fun k => if k = l then [x, y] else if k = r then [y, x] else P k
  have pl : P' l = [x, y] := if_pos rfl
  have pr : P' r = [y, x] := by show (if r = l then _ else if r = r then _ else _) = _; rw [if_neg hne.symm, if_pos rfl]
  have po : ∀ k, k ≠ l → k ≠ r → P' k = P k := fun k a b => by show (if k = l then _ else if k = r then _ else _) = _; rw [if_neg a, if_neg b]
  have cyl : ∀ v u, Cy (P l) v u ↔ Nx (P l) v u ∨ Nx (P l) u v ∨ (v = fr l ∧ u = fr r) ∨ (v = fr r ∧ u = fr l) := fun v u => by
    obtain ⟨t, tn, ht⟩ := D.hd l hl
    obtain ⟨t', tn', ht'⟩ := D.last hl
    have h1 : (P l).head? = some (fr l) := by rw [ht]; rfl
    have h2 : (P l).getLast? = some (fr r) := by rw [ht', hlr]; simp
    unfold Cy
    rw [h1, h2]
    simp only [Option.some.injEq]
    constructor
    · rintro (h | h | h | h)
      · exact .inl h
      · exact .inr (.inl h)
      · exact .inr (.inr (.inl ⟨h.1.symm, h.2.symm⟩))
      · exact .inr (.inr (.inr ⟨h.2.symm, h.1.symm⟩))
    · rintro (h | h | h | h)
      · exact .inl h
      · exact .inr (.inl h)
      · exact .inr (.inr (.inl ⟨h.1.symm, h.2.symm⟩))
      · exact .inr (.inr (.inr ⟨h.2.symm, h.1.symm⟩))
  have pR : P r = (P l).reverse := by rw [← hlr]; exact D.rev l hl
  refine ⟨P', ⟨D.lt, D.inv, D.ne, fun i hi => ?_, fun i hi => ?_, fun i hi => ?_, fun i hi k hk v a b => ?_, fun c hc => ?_, ?_, fun c hc i hi v hv hm => ?_, fun v => ?_, fun v u => ?_⟩⟩
  · by_cases a : i = l
    · subst a; exact ⟨[y], by simp, by rw [pl, if_pos rfl]⟩
    · by_cases b : i = r
      · subst b; exact ⟨[x], by simp, by rw [pr, if_neg a, if_pos rfl]⟩
      · obtain ⟨t, tn, ht⟩ := D.hd i hi
        exact ⟨t, tn, by rw [po i a b, ht, if_neg a, if_neg b]⟩
  · by_cases a : i = l
    · subst a; rw [hlr, pr, pl]; rfl
    · by_cases b : i = r
      · subst b; rw [hrl, pr, pl]; rfl
      · rw [po i a b, po (e i) (fun q => b (D.inj hi hr (q.trans hrl.symm))) (fun q => a (D.inj hi hl (q.trans hlr.symm))), D.rev i hi]
  · by_cases a : i = l
    · subst a; rw [pl]; simp [hxy]
    · by_cases b : i = r
      · subst b; rw [pr]; simp [hxy.symm]
      · rw [po i a b]; exact D.nd i hi
  · have key : ∀ i, i < n → ∀ v, v ∈ P' i → (i = l ∨ i = r) ∧ (v = x ∨ v = y) ∨ (i ≠ l ∧ i ≠ r) ∧ v ∈ P i := fun i hi v m => by
      by_cases a : i = l
      · subst a; rw [pl] at m; simp at m; exact .inl ⟨.inl rfl, m⟩
      · by_cases b : i = r
        · subst b; rw [pr] at m; simp at m; exact .inl ⟨.inr rfl, m.symm⟩
        · rw [po i a b] at m; exact .inr ⟨⟨a, b⟩, m⟩
    rcases key i hi v a with ⟨a1, a2⟩ | ⟨a1, a2⟩
    · rcases key k hk v b with ⟨b1, b2⟩ | ⟨b1, b2⟩
      · rcases a1 with rfl | rfl
        · rcases b1 with rfl | rfl
          · exact .inl rfl
          · exact .inr hlr.symm
        · rcases b1 with rfl | rfl
          · exact .inr hrl.symm
          · exact .inl rfl
      · rcases a2 with rfl | rfl
        · exact (hPx k hk b2).elim
        · exact (hPy k hk b2).elim
    · rcases key k hk v b with ⟨b1, b2⟩ | ⟨b1, b2⟩
      · rcases b2 with rfl | rfl
        · exact (hPx i hi a2).elim
        · exact (hPy i hi a2).elim
      · exact D.dj i hi k hk v a2 b2
  · rcases List.mem_cons.mp hc with rfl | hc
    · obtain ⟨t, tn, ht⟩ := D.hd l hl
      exact ⟨D.nd l hl, by rw [ht]; simp⟩
    · exact D.cnd c hc
  · exact List.pairwise_cons.mpr ⟨fun c hc v hv hm => D.cp c hc l hl v hm hv, D.cdj⟩
  · have key : v ∈ P i ∧ i ≠ l ∧ i ≠ r ∨ v = x ∨ v = y := by
      by_cases a : i = l
      · subst a; rw [pl] at hm; simp at hm; exact .inr hm
      · by_cases b : i = r
        · subst b; rw [pr] at hm; simp at hm; exact .inr hm.symm
        · rw [po i a b] at hm; exact .inl ⟨hm, a, b⟩
    rcases List.mem_cons.mp hc with rfl | hc
    · rcases key with ⟨m, a, b⟩ | m | m
      · rcases D.dj l hl i hi v hv m with q | q
        · exact a q
        · exact b (q.trans hlr)
      · exact hPx l hl (m ▸ hv)
      · exact hPy l hl (m ▸ hv)
    · rcases key with ⟨m, _⟩ | m | m
      · exact D.cp c hc i hi v hv m
      · exact hCx c hc (m ▸ hv)
      · exact hCy c hc (m ▸ hv)
  · show (S v ∨ v = x ∨ v = y) ↔ _
    rw [D.cov v]
    constructor
    · rintro ((⟨i, hi, m⟩ | ⟨c, hc, m⟩) | h | h)
      · by_cases a : i = l
        · subst a; exact .inr ⟨P i, List.mem_cons_self, m⟩
        · by_cases b : i = r
          · subst b; exact .inr ⟨P l, List.mem_cons_self, by rw [pR] at m; exact List.mem_reverse.mp m⟩
          · exact .inl ⟨i, hi, by rw [po i a b]; exact m⟩
      · exact .inr ⟨c, List.mem_cons_of_mem _ hc, m⟩
      · exact .inl ⟨l, hl, by rw [pl]; simp [h]⟩
      · exact .inl ⟨l, hl, by rw [pl]; simp [h]⟩
    · rintro (⟨i, hi, m⟩ | ⟨c, hc, m⟩)
      · by_cases a : i = l
        · subst a; rw [pl] at m; simp at m; exact .inr m
        · by_cases b : i = r
          · subst b; rw [pr] at m; simp at m; exact .inr m.symm
          · rw [po i a b] at m; exact .inl (.inl ⟨i, hi, m⟩)
      · rcases List.mem_cons.mp hc with rfl | hc
        · exact .inl (.inl ⟨l, hl, m⟩)
        · exact .inl (.inr ⟨c, hc, m⟩)
  · show (E v u ∨ _) ↔ _
    rw [D.ed v u]
    constructor
    · rintro ((⟨i, hi, m⟩ | ⟨c, hc, m⟩) | h | h | h)
      · by_cases a : i = l
        · subst a; exact .inr ⟨P i, List.mem_cons_self, (cyl v u).mpr (.inl m)⟩
        · by_cases b : i = r
          · subst b; rw [pR, nx_rev] at m; exact .inr ⟨P l, List.mem_cons_self, (cyl v u).mpr (.inr (.inl m))⟩
          · exact .inl ⟨i, hi, by rw [po i a b]; exact m⟩
      · exact .inr ⟨c, List.mem_cons_of_mem _ hc, m⟩
      · exact .inr ⟨P l, List.mem_cons_self, (cyl v u).mpr (.inr (.inr h))⟩
      · exact .inl ⟨l, hl, by rw [pl]; exact .inl h⟩
      · exact .inl ⟨r, hr, by rw [pr]; exact .inl h⟩
    · rintro (⟨i, hi, m⟩ | ⟨c, hc, m⟩)
      · by_cases a : i = l
        · subst a; rw [pl, nx_two, nx_one] at m; exact .inr (.inr (.inl (m.resolve_right id)))
        · by_cases b : i = r
          · subst b; rw [pr, nx_two, nx_one] at m; exact .inr (.inr (.inr (m.resolve_right id)))
          · rw [po i a b] at m; exact .inl (.inl ⟨i, hi, m⟩)
      · rcases List.mem_cons.mp hc with rfl | hc
        · rcases (cyl v u).mp m with h | h | h
          · exact .inl (.inl ⟨l, hl, h⟩)
          · exact .inl (.inl ⟨r, hr, by rw [pR, nx_rev]; exact h⟩)
          · exact .inr (.inl h)
        · exact .inl (.inr ⟨c, hc, m⟩)

/-- l and r end in two threads: they become one -/
theorem Dec.join (D : Dec n fr e P C E S) {l r : Nat} (hl : l < n) (hr : r < n) (hne : l ≠ r) (hlr : e l ≠ r) {x y : V} (hxy : x ≠ y) (hx : ¬ S x) (hy : ¬ S y) :
    ∃ P', Dec n (fun k => if k = l then x else if k = r then y else fr k) (capE e l r) P' C (fun v u => E v u ∨ ((v = fr l ∧ u = fr r) ∨ (v = fr r ∧ u = fr l)) ∨ (v = x ∧ u = y) ∨ (v = y ∧ u = x)) (fun v => S v ∨ v = x ∨ v = y) := by
  have hf := D.lt l hl
  have hg := D.lt r hr
  have fl := D.ne l hl
  have gr := D.ne r hr
  have gl : e r ≠ l := fun q => hlr (by rw [← q]; exact D.inv r hr)
  have fg : e l ≠ e r := fun q => hne (D.inj hl hr q)
  have hPx : ∀ i, i < n → x ∉ P i := fun i hi m => hx ((D.cov x).mpr (.inl ⟨i, hi, m⟩))
  have hPy : ∀ i, i < n → y ∉ P i := fun i hi m => hy ((D.cov y).mpr (.inl ⟨i, hi, m⟩))
  have hCx : ∀ c, c ∈ C → x ∉ c := fun c hc m => hx ((D.cov x).mpr (.inr ⟨c, hc, m⟩))
  have hCy : ∀ c, c ∈ C → y ∉ c := fun c hc m => hy ((D.cov y).mpr (.inr ⟨c, hc, m⟩))
  have el : capE e l r l = r := capE_l
  have er : capE e l r r = l := capE_r hne
  have ef : capE e l r (e l) = e r := by unfold capE; rw [if_neg fl, if_neg hlr, if_pos rfl]
  have eg : capE e l r (e r) = e l := by unfold capE; rw [if_neg gl, if_neg gr, if_neg fg.symm, if_pos rfl]
  have eo : ∀ k, k ≠ l → k ≠ r → k ≠ e l → k ≠ e r → capE e l r k = e k := fun k a b c d => capE_o a b c d
  let P' : Nat → List V := fun k => if k = l then [x, y] else if k = r then [y, x] else if k = e l then P k ++ P r else if k = e r then P k ++ P l else P k
  have pl : P' l = [x, y] := if_pos rfl
  have pr : P' r = [y, x] := by show (if r = l then _ else if r = r then _ else _) = _; rw [if_neg hne.symm, if_pos rfl]
  have pf : P' (e l) = P (e l) ++ P r := by show (if e l = l then _ else if e l = r then _ else if e l = e l then _ else _) = _; rw [if_neg fl, if_neg hlr, if_pos rfl]
  have pg : P' (e r) = P (e r) ++ P l := by show (if e r = l then _ else if e r = r then _ else if e r = e l then _ else if e r = e r then _ else _) = _; rw [if_neg gl, if_neg gr, if_neg fg.symm, if_pos rfl]
  have po : ∀ k, k ≠ l → k ≠ r → k ≠ e l → k ≠ e r → P' k = P k := fun k a b c d => by
    show (if k = l then _ else if k = r then _ else if k = e l then _ else if k = e r then _ else _) = _
    rw [if_neg a, if_neg b, if_neg c, if_neg d]
  -- the five kinds of columns
  have kinds : ∀ k : Nat, k = l ∨ k = r ∨ k = e l ∨ k = e r ∨ (k ≠ l ∧ k ≠ r ∧ k ≠ e l ∧ k ≠ e r) := fun k => by
    by_cases a : k = l
    · exact .inl a
    · by_cases b : k = r
      · exact .inr (.inl b)
      · by_cases c : k = e l
        · exact .inr (.inr (.inl c))
        · by_cases d : k = e r
          · exact .inr (.inr (.inr (.inl d)))
          · exact .inr (.inr (.inr (.inr ⟨a, b, c, d⟩)))
  have mem : ∀ k, k < n → ∀ v, v ∈ P' k ↔ ((k = l ∨ k = r) ∧ (v = x ∨ v = y)) ∨ ((k ≠ l ∧ k ≠ r) ∧ (v ∈ P k ∨ (k = e l ∧ v ∈ P r) ∨ (k = e r ∧ v ∈ P l))) := fun k hk v => by
    rcases kinds k with rfl | rfl | rfl | rfl | ⟨a, b, c, d⟩
    · rw [pl]; simp
    · rw [pr]; simp [hne.symm]; exact or_comm
    · rw [pf]; simp [fl, hlr, fg]
    · rw [pg]; simp [gl, gr, fg.symm]
    · rw [po k a b c d]; simp [a, b, c, d]
  have nxf : ∀ v u, Nx (P (e l) ++ P r) v u ↔ Nx (P (e l)) v u ∨ (v = fr l ∧ u = fr r) ∨ Nx (P r) v u := fun v u => by
    obtain ⟨t, tn, ht⟩ := D.last hf
    obtain ⟨t', tn', ht'⟩ := D.hd r hr
    rw [D.inv l hl] at ht
    rw [ht, ht', List.append_assoc]
    exact nx_app t (fr l) (fr r) t'
  have nxg : ∀ v u, Nx (P (e r) ++ P l) v u ↔ Nx (P (e r)) v u ∨ (v = fr r ∧ u = fr l) ∨ Nx (P l) v u := fun v u => by
    obtain ⟨t, tn, ht⟩ := D.last hg
    obtain ⟨t', tn', ht'⟩ := D.hd l hl
    rw [D.inv r hr] at ht
    rw [ht, ht', List.append_assoc]
    exact nx_app t (fr r) (fr l) t'
  refine ⟨P', ⟨fun i hi => ?_, fun i hi => ?_, fun i hi => ?_, fun i hi => ?_, fun i hi => ?_, fun i hi => ?_, fun i hi k hk v a b => ?_, D.cnd, D.cdj, fun c hc i hi v hv hm => ?_, fun v => ?_, fun v u => ?_⟩⟩
  · rcases kinds i with rfl | rfl | rfl | rfl | ⟨a, b, c, d⟩
    · rw [el]; exact hr
    · rw [er]; exact hl
    · rw [ef]; exact hg
    · rw [eg]; exact hf
    · rw [eo i a b c d]; exact D.lt i hi
  · rcases kinds i with rfl | rfl | rfl | rfl | ⟨a, b, c, d⟩
    · rw [el, er]
    · rw [er, el]
    · rw [ef, eg]
    · rw [eg, ef]
    · rw [eo i a b c d, eo (e i) (fun q => c (by rw [← q, D.inv i hi])) (fun q => d (by rw [← q, D.inv i hi])) (fun q => a (D.inj hi hl q)) (fun q => b (D.inj hi hr q)), D.inv i hi]
  · rcases kinds i with rfl | rfl | rfl | rfl | ⟨a, b, c, d⟩
    · rw [el]; exact hne.symm
    · rw [er]; exact hne
    · rw [ef]; exact fg.symm
    · rw [eg]; exact fg
    · rw [eo i a b c d]; exact D.ne i hi
  · rcases kinds i with rfl | rfl | rfl | rfl | ⟨a, b, c, d⟩
    · exact ⟨[y], by simp, by rw [pl, if_pos rfl]⟩
    · exact ⟨[x], by simp, by rw [pr, if_neg hne.symm, if_pos rfl]⟩
    · obtain ⟨t, tn, ht⟩ := D.hd _ hf
      exact ⟨t ++ P r, by simp [tn], by rw [pf, ht, if_neg fl, if_neg hlr]; rfl⟩
    · obtain ⟨t, tn, ht⟩ := D.hd _ hg
      exact ⟨t ++ P l, by simp [tn], by rw [pg, ht, if_neg gl, if_neg gr]; rfl⟩
    · obtain ⟨t, tn, ht⟩ := D.hd i hi
      exact ⟨t, tn, by rw [po i a b c d, ht, if_neg a, if_neg b]⟩
  · have hrf := D.rev _ hf
    have hrg := D.rev _ hg
    rw [D.inv l hl] at hrf
    rw [D.inv r hr] at hrg
    rcases kinds i with rfl | rfl | rfl | rfl | ⟨a, b, c, d⟩
    · rw [el, pl, pr]; rfl
    · rw [er, pl, pr]; rfl
    · rw [ef, pf, pg, List.reverse_append, ← hrf, D.rev r hr]
    · rw [eg, pf, pg, List.reverse_append, ← hrg, D.rev l hl]
    · rw [eo i a b c d, po i a b c d, po (e i) (fun q => c (by rw [← q, D.inv i hi])) (fun q => d (by rw [← q, D.inv i hi])) (fun q => a (D.inj hi hl q)) (fun q => b (D.inj hi hr q)), D.rev i hi]
  · rcases kinds i with rfl | rfl | rfl | rfl | ⟨a, b, c, d⟩
    · rw [pl]; simp [hxy]
    · rw [pr]; simp [hxy.symm]
    · rw [pf]
      refine List.nodup_append.mpr ⟨D.nd _ hf, D.nd _ hr, fun u hu w hw q => ?_⟩
      subst q
      rcases D.dj _ hf _ hr u hu hw with q | q
      · exact hlr q.symm
      · rw [D.inv l hl] at q; exact hne q.symm
    · rw [pg]
      refine List.nodup_append.mpr ⟨D.nd _ hg, D.nd _ hl, fun u hu w hw q => ?_⟩
      subst q
      rcases D.dj _ hg _ hl u hu hw with q | q
      · exact gl q.symm
      · rw [D.inv r hr] at q; exact hne q
    · rw [po i a b c d]; exact D.nd i hi
  · rcases (mem i hi v).mp a with ⟨a1, a2⟩ | ⟨⟨al, ar⟩, a2⟩
    · rcases (mem k hk v).mp b with ⟨b1, b2⟩ | ⟨b1, b2⟩
      · rcases a1 with rfl | rfl
        · rcases b1 with rfl | rfl
          · exact .inl rfl
          · exact .inr el.symm
        · rcases b1 with rfl | rfl
          · exact .inr er.symm
          · exact .inl rfl
      · exfalso
        rcases a2 with rfl | rfl
        · rcases b2 with b2 | b2 | b2
          · exact hPx k hk b2
          · exact hPx r hr b2.2
          · exact hPx l hl b2.2
        · rcases b2 with b2 | b2 | b2
          · exact hPy k hk b2
          · exact hPy r hr b2.2
          · exact hPy l hl b2.2
    · rcases (mem k hk v).mp b with ⟨b1, b2⟩ | ⟨⟨bl, br⟩, b2⟩
      · exfalso
        rcases b2 with rfl | rfl
        · rcases a2 with a2 | a2 | a2
          · exact hPx i hi a2
          · exact hPx r hr a2.2
          · exact hPx l hl a2.2
        · rcases a2 with a2 | a2 | a2
          · exact hPy i hi a2
          · exact hPy r hr a2.2
          · exact hPy l hl a2.2
      · rcases a2 with a2 | ⟨rfl, a2⟩ | ⟨rfl, a2⟩
        · rcases b2 with b2 | ⟨rfl, b2⟩ | ⟨rfl, b2⟩
          · rcases D.dj i hi k hk v a2 b2 with q | q
            · exact .inl q
            · refine .inr ?_
              rw [eo i al ar (fun z => bl (by rw [q, z, D.inv l hl])) (fun z => br (by rw [q, z, D.inv r hr]))]
              exact q
          · rcases D.dj r hr i hi v b2 a2 with q | q
            · exact (ar q).elim
            · exact .inr (by rw [q, eg])
          · rcases D.dj l hl i hi v b2 a2 with q | q
            · exact (al q).elim
            · exact .inr (by rw [q, ef])
        · rcases b2 with b2 | ⟨rfl, b2⟩ | ⟨rfl, b2⟩
          · rcases D.dj r hr k hk v a2 b2 with q | q
            · exact (br q).elim
            · exact .inr (by rw [q, ef])
          · exact .inl rfl
          · exact .inr (by rw [ef])
        · rcases b2 with b2 | ⟨rfl, b2⟩ | ⟨rfl, b2⟩
          · rcases D.dj l hl k hk v a2 b2 with q | q
            · exact (bl q).elim
            · exact .inr (by rw [q, eg])
          · exact .inr (by rw [eg])
          · exact .inl rfl
  · rcases (mem i hi v).mp hm with ⟨_, a2⟩ | ⟨_, a2⟩
    · rcases a2 with rfl | rfl
      · exact hCx c hc hv
      · exact hCy c hc hv
    · rcases a2 with a2 | a2 | a2
      · exact D.cp c hc i hi v hv a2
      · exact D.cp c hc r hr v hv a2.2
      · exact D.cp c hc l hl v hv a2.2
  · show (S v ∨ v = x ∨ v = y) ↔ _
    rw [D.cov v]
    constructor
    · rintro ((⟨i, hi, m⟩ | h) | h)
      · rcases kinds i with rfl | rfl | rfl | rfl | ⟨a, b, c, d⟩
        · exact .inl ⟨e r, hg, by rw [pg]; exact List.mem_append_right _ m⟩
        · exact .inl ⟨e l, hf, by rw [pf]; exact List.mem_append_right _ m⟩
        · exact .inl ⟨e l, hf, by rw [pf]; exact List.mem_append_left _ m⟩
        · exact .inl ⟨e r, hg, by rw [pg]; exact List.mem_append_left _ m⟩
        · exact .inl ⟨i, hi, by rw [po i a b c d]; exact m⟩
      · exact .inr h
      · exact .inl ⟨l, hl, by rw [pl]; simpa using h⟩
    · rintro (⟨i, hi, m⟩ | h)
      · rcases (mem i hi v).mp m with ⟨_, m⟩ | ⟨_, m | m | m⟩
        · exact .inr m
        · exact .inl (.inl ⟨i, hi, m⟩)
        · exact .inl (.inl ⟨r, hr, m.2⟩)
        · exact .inl (.inl ⟨l, hl, m.2⟩)
      · exact .inl (.inr h)
  · show (E v u ∨ _) ↔ _
    rw [D.ed v u]
    constructor
    · rintro ((⟨i, hi, m⟩ | h) | (h | h) | h | h)
      · rcases kinds i with rfl | rfl | rfl | rfl | ⟨a, b, c, d⟩
        · exact .inl ⟨e r, hg, by rw [pg, nxg]; exact .inr (.inr m)⟩
        · exact .inl ⟨e l, hf, by rw [pf, nxf]; exact .inr (.inr m)⟩
        · exact .inl ⟨e l, hf, by rw [pf, nxf]; exact .inl m⟩
        · exact .inl ⟨e r, hg, by rw [pg, nxg]; exact .inl m⟩
        · exact .inl ⟨i, hi, by rw [po i a b c d]; exact m⟩
      · exact .inr h
      · exact .inl ⟨e l, hf, by rw [pf, nxf]; exact .inr (.inl h)⟩
      · exact .inl ⟨e r, hg, by rw [pg, nxg]; exact .inr (.inl h)⟩
      · exact .inl ⟨l, hl, by rw [pl]; exact .inl h⟩
      · exact .inl ⟨r, hr, by rw [pr]; exact .inl h⟩
    · rintro (⟨i, hi, m⟩ | h)
      · rcases kinds i with rfl | rfl | rfl | rfl | ⟨a, b, c, d⟩
        · rw [pl, nx_two, nx_one] at m; exact .inr (.inr (.inl (m.resolve_right id)))
        · rw [pr, nx_two, nx_one] at m; exact .inr (.inr (.inr (m.resolve_right id)))
        · rw [pf, nxf] at m
          rcases m with m | m | m
          · exact .inl (.inl ⟨_, hf, m⟩)
          · exact .inr (.inl (.inl m))
          · exact .inl (.inl ⟨_, hr, m⟩)
        · rw [pg, nxg] at m
          rcases m with m | m | m
          · exact .inl (.inl ⟨_, hg, m⟩)
          · exact .inr (.inl (.inr m))
          · exact .inl (.inl ⟨_, hl, m⟩)
        · rw [po i a b c d] at m; exact .inl (.inl ⟨i, hi, m⟩)
      · exact .inl (.inr h)
end
end Sand
/-! ## SandWalk -/
set_option linter.all false
set_option Elab.async false
namespace Sand
section
variable {V : Type} [DecidableEq V]
/-- _law_along: goes on to squares that were not seen -/
def along (adj : V → List V) : Nat → V → List V → V × List V
  | 0, s, seen => (s, seen)
  | k + 1, s, seen =>
    match (adj s).filter (fun u => decide (u ∉ seen ++ [s])) with
    | [] => (s, seen ++ [s])
    | t :: _ => along adj k t (seen ++ [s])

theorem along_nil {adj : V → List V} {k : Nat} {s : V} {seen : List V} (h : ∀ u, u ∈ adj s → u ∈ seen ∨ u = s) : along adj (k + 1) s seen = (s, seen ++ [s]) := by
  have e : (adj s).filter (fun u => decide (u ∉ seen ++ [s])) = [] := by
    rw [List.filter_eq_nil_iff]
    intro u hu
    rcases h u hu with q | q <;> simp [q]
  show (match (adj s).filter (fun u => decide (u ∉ seen ++ [s])) with | [] => (s, seen ++ [s]) | t :: _ => along adj k t (seen ++ [s])) = _
  rw [e]
theorem along_cons {adj : V → List V} {k : Nat} {s : V} {seen : List V} (h : ∃ u, u ∈ adj s ∧ u ∉ seen ∧ u ≠ s) :
    ∃ u, u ∈ adj s ∧ u ∉ seen ∧ u ≠ s ∧ along adj (k + 1) s seen = along adj k u (seen ++ [s]) := by
  obtain ⟨u, h1, h2, h3⟩ := h
  have hm : u ∈ (adj s).filter (fun u => decide (u ∉ seen ++ [s])) := List.mem_filter.mpr ⟨h1, by simp [h2, h3]⟩
  cases e : (adj s).filter (fun u => decide (u ∉ seen ++ [s])) with
  | nil => rw [e] at hm; cases hm
  | cons w r =>
    have hw : w ∈ (adj s).filter (fun u => decide (u ∉ seen ++ [s])) := by rw [e]; exact List.mem_cons_self
    obtain ⟨q1, q2⟩ := List.mem_filter.mp hw
    simp at q2
    refine ⟨w, q1, q2.1, q2.2, ?_⟩
    show (match (adj s).filter (fun u => decide (u ∉ seen ++ [s])) with | [] => (s, seen ++ [s]) | t :: _ => along adj k t (seen ++ [s])) = _
    rw [e]

/-- along a row of squares each of which leads to the next one alone -/
theorem along_row {adj : V → List V} : ∀ (t : List V) (v : V) (fuel : Nat) (seen : List V), t.length < fuel → (v :: t).Nodup → (∀ u, u ∈ v :: t → u ∉ seen) →
    (∀ s w t', v :: t = s ++ w :: t' → ∀ u, u ∈ adj w → u ∉ seen → u ∉ s → u ≠ w → t'.head? = some u) →
    (∀ s w t' u, v :: t = s ++ w :: t' → t'.head? = some u → u ∈ adj w) →
    ∃ z, (v :: t).getLast? = some z ∧ along adj fuel v seen = (z, seen ++ v :: t)
  | [], v, 0, seen, hf, _, _, _, _ => absurd hf (by simp)
  | w :: t, v, 0, seen, hf, _, _, _, _ => absurd hf (by simp)
  | [], v, k + 1, seen, hf, nd, ns, h1, h2 => by
    refine ⟨v, rfl, along_nil fun u hu => ?_⟩
    by_cases a : u ∈ seen
    · exact .inl a
    · by_cases b : u = v
      · exact .inr b
      · have := h1 [] v [] rfl u hu a (by simp) b
        simp at this
  | w :: t, v, k + 1, seen, hf, nd, ns, h1, h2 => by
    have hw : w ∈ adj v := h2 [] v (w :: t) w rfl rfl
    have hwv : w ≠ v := fun q => (List.nodup_cons.mp nd).1 (by rw [← q]; exact List.mem_cons_self)
    obtain ⟨u, a1, a2, a3, a4⟩ := along_cons (k := k) ⟨w, hw, ns w (by simp), hwv⟩
    have e : some w = some u := h1 [] v (w :: t) rfl u a1 a2 (by simp) a3
    have e : w = u := Option.some.inj e
    subst e
    obtain ⟨z, z1, z2⟩ := along_row (adj := adj) t w k (seen ++ [v]) (by simpa using hf) (List.nodup_cons.mp nd).2 (fun x hx m => by
      rcases List.mem_append.mp m with m | m
      · exact ns x (List.mem_cons_of_mem _ hx) m
      · simp at m; subst m; exact (List.nodup_cons.mp nd).1 hx)
      (fun s x t' es x' b1 b2 b3 b4 => h1 (v :: s) x t' (by rw [es]; rfl) x' b1 (fun m => b2 (List.mem_append_left _ m)) (fun m => by
        rcases List.mem_cons.mp m with m | m
        · exact b2 (by simp [m])
        · exact b3 m) b4)
      (fun s x t' x' es hx => h2 (v :: s) x t' x' (by rw [es]; rfl) hx)
    refine ⟨z, ?_, ?_⟩
    · rw [← z1]; rfl
    · rw [a4, z2, List.append_assoc]; rfl

variable {n : Nat} {fr : Nat → V} {e : Nat → Nat} {P : Nat → List V} {C : List (List V)} {E : V → V → Prop} {S : V → Prop} {adj : V → List V}

theorem Dec.edP (D : Dec n fr e P C E S) {i : Nat} (hi : i < n) {w u : V} (hw : w ∈ P i) : E w u ↔ Nx (P i) w u ∨ Nx (P i) u w := by
  rw [D.ed]
  constructor
  · rintro (⟨k, hk, m⟩ | ⟨c, hc, m⟩)
    · rcases D.dj i hi k hk w hw (nx_mem m).1 with q | q
      · exact .inl (q ▸ m)
      · rw [q, D.rev i hi, nx_rev] at m; exact .inr m
    · exact (D.cp c hc i hi w (cy_mem m).1 hw).elim
  · rintro (m | m)
    · exact .inl ⟨i, hi, m⟩
    · exact .inl ⟨e i, D.lt i hi, by rw [D.rev i hi, nx_rev]; exact m⟩
theorem pw_same {C : List (List V)} (h : C.Pairwise fun c d => ∀ v, v ∈ c → v ∉ d) {c d : List V} (hc : c ∈ C) (hd : d ∈ C) {v : V} (h1 : v ∈ c) (h2 : v ∈ d) : c = d := by
  induction h with
  | nil => cases hc
  | cons ha _ ih =>
    rcases List.mem_cons.mp hc with e1 | hc
    · rcases List.mem_cons.mp hd with e2 | hd
      · rw [e1, e2]
      · rw [e1] at h1; exact (ha d hd v h1 h2).elim
    · rcases List.mem_cons.mp hd with e2 | hd
      · rw [e2] at h2; exact (ha c hc v h2 h1).elim
      · exact ih hc hd
theorem Dec.edC (D : Dec n fr e P C E S) {c : List V} (hc : c ∈ C) {w u : V} (hw : w ∈ c) : E w u ↔ Cy c w u := by
  rw [D.ed]
  constructor
  · rintro (⟨k, hk, m⟩ | ⟨d, hd, m⟩)
    · exact (D.cp c hc k hk w hw (nx_mem m).1).elim
    · rw [pw_same D.cdj hc hd hw (cy_mem m).1]; exact m
  · exact fun m => .inr ⟨c, hc, m⟩

/-- along a thread from one of its ends -/
theorem Dec.along_path (D : Dec n fr e P C E S) (hadj : ∀ v u, u ∈ adj v ↔ E v u) {i : Nat} (hi : i < n) {fuel : Nat} {seen : List V} (hf : (P i).length ≤ fuel) (ns : ∀ u, u ∈ P i → u ∉ seen) :
    along adj fuel (fr i) seen = (fr (e i), seen ++ P i) := by
  obtain ⟨t, tn, ht⟩ := D.hd i hi
  obtain ⟨t2, _, ht2⟩ := D.last hi
  have nd := D.nd i hi
  have key : ∀ s w t', P i = s ++ w :: t' → ∀ u, u ∈ adj w ↔ Nx (P i) w u ∨ Nx (P i) u w := fun s w t' es u => (hadj w u).trans (D.edP hi (by rw [es]; simp))
  obtain ⟨z, z1, z2⟩ := along_row (adj := adj) t (fr i) fuel seen (by rw [ht, List.length_cons] at hf; omega) (by rw [← ht]; exact nd) (by rw [← ht]; exact ns)
    (fun s w t' es u hu h1 h2 h3 => by
      rw [← ht] at es
      rcases (key s w t' es u).mp hu with m | m
      · rw [es] at m nd; exact nx_next nd m
      · rw [es] at m nd; exact (h2 (nx_prev nd m)).elim)
    (fun s w t' u es hu => by
      rw [← ht] at es
      exact (key s w t' es u).mpr (.inl (by rw [es]; exact nx_of_next hu)))
  rw [← ht] at z1 z2
  rw [ht2, List.getLast?_concat] at z1
  rw [z2, Option.some.inj z1]

theorem cy_rev {c : List V} {v u : V} : Cy c.reverse v u ↔ Cy c v u := by
  unfold Cy
  rw [nx_rev, nx_rev, List.head?_reverse, List.getLast?_reverse]
  constructor
  · rintro (h | h | h | h)
    · exact .inr (.inl h)
    · exact .inl h
    · exact .inr (.inr (.inr ⟨h.2, h.1⟩))
    · exact .inr (.inr (.inl ⟨h.2, h.1⟩))
  · rintro (h | h | h | h)
    · exact .inr (.inl h)
    · exact .inl h
    · exact .inr (.inr (.inr ⟨h.2, h.1⟩))
    · exact .inr (.inr (.inl ⟨h.2, h.1⟩))
/-- round a closed row, the first step told -/
theorem along_round {v u : V} {r : List V} (nd : (v :: u :: r).Nodup) (hE : ∀ w, w ∈ v :: u :: r → ∀ z, z ∈ adj w ↔ Cy (v :: u :: r) w z) {fuel : Nat} {seen : List V} (hf : (v :: u :: r).length ≤ fuel + 1) (ns : ∀ x, x ∈ v :: u :: r → x ∉ seen) :
    ∃ z, along adj fuel u (seen ++ [v]) = (z, seen ++ v :: u :: r) := by
  obtain ⟨z, z1, z2⟩ := along_row (adj := adj) r u fuel (seen ++ [v]) (by simp at hf; omega) (List.nodup_cons.mp nd).2 (fun x hx m => by
      rcases List.mem_append.mp m with m | m
      · exact ns x (List.mem_cons_of_mem _ hx) m
      · simp at m; subst m; exact (List.nodup_cons.mp nd).1 hx)
    (fun s w t' es x hx h1 h2 h3 => by
      have hw : w ∈ v :: u :: r := by rw [es]; simp
      have hvw : v ≠ w := fun q => (List.nodup_cons.mp nd).1 (by rw [es, q]; simp)
      have hxv : x ≠ v := fun q => h1 (by simp [q])
      have e2 : v :: u :: r = (v :: s) ++ w :: t' := by rw [es]; rfl
      rcases (hE w hw x).mp hx with m | m | m | m
      · rw [e2] at m nd; exact nx_next nd m
      · rw [e2] at m nd
        rcases List.mem_cons.mp (nx_prev nd m) with q | q
        · exact (hxv q).elim
        · exact (h2 q).elim
      · have := m.1; simp at this; exact (hvw this).elim
      · have := m.1; simp at this; exact (hxv this.symm).elim)
    (fun s w t' x es hx => (hE w (by rw [es]; simp) x).mpr (.inl (by
      have e2 : v :: u :: r = (v :: s) ++ w :: t' := by rw [es]; rfl
      rw [e2]; exact nx_of_next hx)))
  exact ⟨z, by rw [z2, List.append_assoc]; rfl⟩
/-- round a closed thread from any of its squares -/
theorem Dec.along_cycle (D : Dec n fr e P C E S) (hadj : ∀ v u, u ∈ adj v ↔ E v u) {c : List V} (hc : c ∈ C) {v : V} (hv : v ∈ c) {fuel : Nat} {seen : List V} (hf : c.length ≤ fuel) (ns : ∀ u, u ∈ c → u ∉ seen) :
    ∃ z c', c'.Perm c ∧ along adj fuel v seen = (z, seen ++ c') := by
  obtain ⟨s, t, es⟩ := List.append_of_mem hv
  have pm : (v :: (t ++ s)).Perm c := by rw [es]; exact (List.perm_append_comm (l₁ := v :: t) (l₂ := s))
  have nd : (v :: (t ++ s)).Nodup := pm.nodup_iff.mpr (D.cnd c hc).1
  have hE : ∀ w, w ∈ c → ∀ z, z ∈ adj w ↔ Cy (v :: (t ++ s)) w z := fun w hw z => by
    rw [hadj, D.edC hc hw, es]
    exact cy_rot
  have hl : (v :: (t ++ s)).length = c.length := pm.length_eq
  generalize t ++ s = r at *
  cases fuel with
  | zero => rw [← hl] at hf; simp at hf
  | succ k =>
    cases r with
    | nil =>
      refine ⟨v, [v], pm, along_nil fun u hu => ?_⟩
      have := (hE v (pm.mem_iff.mp (by simp)) u).mp hu
      exact .inr (by simpa using (cy_mem this).2)
    | cons w r =>
      have hwv : w ≠ v := fun q => (List.nodup_cons.mp nd).1 (by rw [← q]; exact List.mem_cons_self)
      have m1 : w ∈ adj v := (hE v (pm.mem_iff.mp (by simp)) w).mpr (.inl (.inl ⟨rfl, rfl⟩))
      obtain ⟨u, a1, a2, a3, a4⟩ := along_cons (k := k) ⟨w, m1, ns w (pm.mem_iff.mp (by simp)), hwv⟩
      have ns' : ∀ x, x ∈ v :: w :: r → x ∉ seen := fun x hx => ns x (pm.mem_iff.mp hx)
      have hE' : ∀ x, x ∈ v :: w :: r → ∀ z, z ∈ adj x ↔ Cy (v :: w :: r) x z := fun x hx => hE x (pm.mem_iff.mp hx)
      have hlen : (v :: w :: r).length ≤ k + 1 := by rw [hl]; exact hf
      have hu : u = w ∨ (w :: r).getLast? = some u := by
        rcases (hE' v (by simp) u).mp a1 with m | m | m | m
        · have := nx_next (s := []) nd m; simp at this; exact .inl this.symm
        · have := nx_prev (s := []) nd m; simp at this
        · exact .inr m.2
        · have := m.1; simp at this; exact (a3 this.symm).elim
      rcases hu with hu | hu
      · subst hu
        obtain ⟨z, hz⟩ := along_round nd hE' hlen ns'
        exact ⟨z, _, pm, by rw [a4, hz]⟩
      · -- the other way round
        obtain ⟨r', hr'⟩ : ∃ r', (w :: r).reverse = u :: r' := by
          have h1 : (w :: r).reverse.head? = some u := by rw [List.head?_reverse]; exact hu
          cases q : (w :: r).reverse with
          | nil => rw [q] at h1; simp at h1
          | cons a b => rw [q] at h1; simp at h1; exact ⟨b, by rw [h1]⟩
        have pm2 : (v :: u :: r').Perm (v :: w :: r) := by rw [← hr']; exact (List.reverse_perm _).cons v
        have cy2 : ∀ x z, Cy (v :: w :: r) x z ↔ Cy (v :: u :: r') x z := fun x z => by
          rw [← cy_rev, List.reverse_cons, hr']
          exact cy_rot (s := u :: r') (t := []) (x := v)
        obtain ⟨z, hz⟩ := along_round (adj := adj) (fuel := k) (seen := seen) (pm2.nodup_iff.mpr nd) (fun x hx y => (hE' x (pm2.mem_iff.mp hx) y).trans (cy2 x y)) (by rw [pm2.length_eq]; exact hlen) (fun x hx => ns' x (pm2.mem_iff.mp hx))
        exact ⟨z, _, pm2.trans pm, by rw [a4, hz]⟩
end
end Sand
/-! ## SandBoard -/
set_option linter.all false
set_option Elab.async false
namespace Sand

/-! ### the ends: past_point, past_level, past_rows -/
def pPoint (e : List Nat) (l c : Nat) : List Nat × Nat :=
  if c = 124 ∨ (e.getD l 0 = l + 1 ∧ c = 46) then (e, 0)
  else if e.getD l 0 = l + 1 then (e, 1)
  else if c = 46 then ((((e.set l (e.getD (l + 1) 0)).set (e.getD (l + 1) 0) l).set (l + 1) (e.getD l 0)).set (e.getD l 0) (l + 1), 0)
  else ((((e.set (e.getD l 0) (e.getD (l + 1) 0)).set (e.getD (l + 1) 0) (e.getD l 0)).set l (l + 1)).set (l + 1) l, 0)
def pLevel (e : List Nat) (l : Nat) : List Nat → List Nat × Nat
  | [] => (e, 0)
  | c :: cs => ((pLevel (pPoint e l c).1 (l + 2) cs).1, (pPoint e l c).2 + (pLevel (pPoint e l c).1 (l + 2) cs).2)
abbrev Row := List Nat × List Nat
def pRow (e : List Nat) (r : Row) : List Nat × Nat := ((pLevel (pLevel e 1 r.1).1 0 r.2).1, (pLevel e 1 r.1).2 + (pLevel (pLevel e 1 r.1).1 0 r.2).2)
def pRows (e : List Nat) : List Row → List Nat × Nat
  | [] => (e, 0)
  | r :: rs => ((pRows (pRow e r).1 rs).1, (pRow e r).2 + (pRows (pRow e r).1 rs).2)

theorem pLevel_snoc (e : List Nat) : ∀ (l : Nat) (cs : List Nat) (c : Nat), pLevel e l (cs ++ [c]) = ((pPoint (pLevel e l cs).1 (l + 2 * cs.length) c).1, (pLevel e l cs).2 + (pPoint (pLevel e l cs).1 (l + 2 * cs.length) c).2)
  | l, [], c => by simp [pLevel]
  | l, d :: cs, c => by
    have ih := pLevel_snoc (pPoint e l d).1 (l + 2) cs c
    have e1 : l + 2 * (d :: cs).length = l + 2 + 2 * cs.length := by simp; omega
    show ((pLevel (pPoint e l d).1 (l + 2) (cs ++ [c])).1, (pPoint e l d).2 + (pLevel (pPoint e l d).1 (l + 2) (cs ++ [c])).2) = _
    rw [ih, e1]
    show (_, (pPoint e l d).2 + ((pLevel (pPoint e l d).1 (l + 2) cs).2 + (pPoint (pLevel (pPoint e l d).1 (l + 2) cs).1 (l + 2 + 2 * cs.length) c).2)) = (_, ((pPoint e l d).2 + (pLevel (pPoint e l d).1 (l + 2) cs).2) + (pPoint (pLevel (pPoint e l d).1 (l + 2) cs).1 (l + 2 + 2 * cs.length) c).2)
    rw [Nat.add_assoc (pPoint e l d).2]
    rfl
theorem pRows_append (e : List Nat) : ∀ rs ss : List Row, pRows e (rs ++ ss) = ((pRows (pRows e rs).1 ss).1, (pRows e rs).2 + (pRows (pRows e rs).1 ss).2)
  | [], ss => by simp [pRows]
  | r :: rs, ss => by
    have ih := pRows_append (pRow e r).1 rs ss
    show ((pRows (pRow e r).1 (rs ++ ss)).1, (pRow e r).2 + (pRows (pRow e r).1 (rs ++ ss)).2) = _
    rw [ih]
    show (_, (pRow e r).2 + ((pRows (pRow e r).1 rs).2 + (pRows (pRows (pRow e r).1 rs).1 ss).2)) = (_, ((pRow e r).2 + (pRows (pRow e r).1 rs).2) + (pRows (pRows (pRow e r).1 rs).1 ss).2)
    rw [Nat.add_assoc (pRow e r).2]
    rfl

theorem getD_set (e : List Nat) (i v k : Nat) (h : i < e.length) : (e.set i v).getD k 0 = if k = i then v else e.getD k 0 := by
  rw [List.getD_eq_getElem?_getD, List.getD_eq_getElem?_getD, List.getElem?_set]
  by_cases a : i = k
  · subst a; simp [h]
  · have : k ≠ i := fun q => a q.symm
    simp [a, this]

/-- the ends of n squares are paired -/
structure Pairs (n : Nat) (e : List Nat) : Prop where
  len : e.length = n
  lt : ∀ i, i < n → e.getD i 0 < n
  inv : ∀ i, i < n → e.getD (e.getD i 0) 0 = i
  ne : ∀ i, i < n → e.getD i 0 ≠ i

/-- a mirror's sign or a point -/
def Sign (c : Nat) : Prop := c = 46 ∨ c = 45 ∨ c = 124

theorem pPoint_len (e : List Nat) (l c : Nat) : (pPoint e l c).1.length = e.length := by
  unfold pPoint
  split
  · rfl
  · split
    · rfl
    · split <;> simp
theorem pPoint_le (e : List Nat) (l c : Nat) : (pPoint e l c).2 ≤ 1 := by
  unfold pPoint
  split
  · simp
  · split
    · simp
    · split <;> simp

/-- what past_point makes of each column -/
theorem pPoint_bar {e : List Nat} {l : Nat} : pPoint e l 124 = (e, 0) := by unfold pPoint; rw [if_pos (.inl rfl)]
theorem pPoint_close {e : List Nat} {l : Nat} (h : e.getD l 0 = l + 1) : pPoint e l 45 = (e, 1) := by
  unfold pPoint
  rw [if_neg (by rintro (q | q) <;> omega), if_pos h]
theorem sw_l (l r : Nat) : sw l r l = r := if_pos rfl
theorem sw_r {l r : Nat} (h : l ≠ r) : sw l r r = l := by unfold sw; rw [if_neg h.symm, if_pos rfl]
theorem sw_o {l r k : Nat} (h1 : k ≠ l) (h2 : k ≠ r) : sw l r k = k := by unfold sw; rw [if_neg h1, if_neg h2]
theorem pPoint_dot {n : Nat} {e : List Nat} (H : Pairs n e) {l : Nat} (hl : l + 1 < n) : (pPoint e l 46).2 = 0 ∧ ∀ k, k < n → (pPoint e l 46).1.getD k 0 = sw l (l + 1) (e.getD (sw l (l + 1) k) 0) := by
  have hl0 : l < n := by omega
  have a1 := H.lt l hl0
  have a2 := H.inv l hl0
  have a3 := H.ne l hl0
  have b1 := H.lt (l + 1) hl
  have b2 := H.inv (l + 1) hl
  have b3 := H.ne (l + 1) hl
  have hlen := H.len
  have hne : l ≠ l + 1 := by omega
  unfold pPoint
  by_cases hj : e.getD l 0 = l + 1
  · rw [if_pos (.inr ⟨hj, rfl⟩)]
    refine ⟨rfl, fun k hk => ?_⟩
    show e.getD k 0 = _
    have hb : e.getD (l + 1) 0 = l := by rw [← hj]; exact a2
    by_cases k1 : k = l
    · rw [k1, sw_l, hb, sw_l, hj]
    · by_cases k2 : k = l + 1
      · rw [k2, sw_r hne, hj, sw_r hne, hb]
      · have q1 : e.getD k 0 ≠ l := fun q => k2 (by rw [← H.inv k hk, q, hj])
        have q2 : e.getD k 0 ≠ l + 1 := fun q => k1 (by rw [← H.inv k hk, q, hb])
        rw [sw_o k1 k2, sw_o q1 q2]
  · rw [if_neg (fun q => q.elim (by omega) (fun q => hj q.1)), if_neg hj, if_pos rfl]
    refine ⟨rfl, fun k hk => ?_⟩
    have hbl : e.getD (l + 1) 0 ≠ l := fun q => hj (by rw [q] at b2; exact b2)
    generalize ha : e.getD l 0 = a at *
    generalize hb : e.getD (l + 1) 0 = b at *
    have hab : a ≠ b := fun q => by rw [q, b2] at a2; omega
    rw [getD_set _ _ _ _ (by simp; omega), getD_set _ _ _ _ (by simp; omega), getD_set _ _ _ _ (by simp; omega), getD_set _ _ _ _ (by omega)]
    by_cases k1 : k = l
    · rw [k1, if_neg (by omega), if_neg (by omega), if_neg (by omega), if_pos rfl, sw_l, hb, sw_o hbl b3]
    · by_cases k2 : k = l + 1
      · rw [k2, if_neg (by omega), if_pos rfl, sw_r hne, ha, sw_o a3 hj]
      · rw [sw_o k1 k2]
        by_cases k3 : k = a
        · rw [k3, if_pos rfl, a2, sw_l]
        · by_cases k4 : k = b
          · rw [k4, if_neg (by omega), if_neg (by omega), if_pos rfl, b2, sw_r hne]
          · rw [if_neg k3, if_neg k2, if_neg k4, if_neg k1]
            have q1 : e.getD k 0 ≠ l := fun q => k3 (by rw [← H.inv k hk, q, ha])
            have q2 : e.getD k 0 ≠ l + 1 := fun q => k4 (by rw [← H.inv k hk, q, hb])
            rw [sw_o q1 q2]
theorem pPoint_dash {n : Nat} {e : List Nat} (H : Pairs n e) {l : Nat} (hl : l + 1 < n) (hj : e.getD l 0 ≠ l + 1) : (pPoint e l 45).2 = 0 ∧ ∀ k, k < n → (pPoint e l 45).1.getD k 0 = capE (fun i => e.getD i 0) l (l + 1) k := by
  have hl0 : l < n := by omega
  have a1 := H.lt l hl0
  have a2 := H.inv l hl0
  have a3 := H.ne l hl0
  have b1 := H.lt (l + 1) hl
  have b2 := H.inv (l + 1) hl
  have b3 := H.ne (l + 1) hl
  have hlen := H.len
  unfold pPoint
  rw [if_neg (fun q => q.elim (by omega) (fun q => hj q.1)), if_neg hj, if_neg (by omega)]
  refine ⟨rfl, fun k hk => ?_⟩
  have hbl : e.getD (l + 1) 0 ≠ l := fun q => hj (by rw [q] at b2; exact b2)
  show _ = if k = l then l + 1 else if k = l + 1 then l else if k = e.getD l 0 then e.getD (l + 1) 0 else if k = e.getD (l + 1) 0 then e.getD l 0 else e.getD k 0
  generalize ha : e.getD l 0 = a at *
  generalize hb : e.getD (l + 1) 0 = b at *
  have hab : a ≠ b := fun q => by rw [q, b2] at a2; omega
  rw [getD_set _ _ _ _ (by simp; omega), getD_set _ _ _ _ (by simp; omega), getD_set _ _ _ _ (by simp; omega), getD_set _ _ _ _ (by omega)]
  by_cases k1 : k = l
  · rw [k1, if_neg (by omega), if_pos rfl, if_pos rfl]
  · by_cases k2 : k = l + 1
    · rw [k2, if_pos rfl, if_neg (by omega), if_pos rfl]
    · rw [if_neg k2, if_neg k1, if_neg k1, if_neg k2]
      by_cases k4 : k = b
      · rw [k4, if_pos rfl, if_neg (Ne.symm hab), if_pos rfl]
      · rw [if_neg k4]
        by_cases k3 : k = a
        · rw [if_pos k3, if_pos k3]
        · rw [if_neg k3, if_neg k3, if_neg k4]

/-! ### the links of squares, as _law_links lays them -/
abbrev Sq := Nat × Nat
def put (adj : Sq → List Sq) (u v : Sq) : Sq → List Sq := fun w => if w = u then adj w ++ [v] else adj w
def link (adj : Sq → List Sq) (u v : Sq) : Sq → List Sq := put (put adj u v) v u
theorem mem_put {adj : Sq → List Sq} {u v w z : Sq} : z ∈ put adj u v w ↔ z ∈ adj w ∨ (w = u ∧ z = v) := by
  unfold put
  by_cases h : w = u
  · rw [if_pos h]; simp [h]
  · rw [if_neg h]; simp [h]
theorem mem_link {adj : Sq → List Sq} {u v w z : Sq} : z ∈ link adj u v w ↔ z ∈ adj w ∨ (w = u ∧ z = v) ∨ (w = v ∧ z = u) := by
  unfold link
  rw [mem_put, mem_put, or_assoc]
/-- _law_point: the squares about the point (x, y) -/
def lPoint (adj : Sq → List Sq) (x y c : Nat) : Sq → List Sq :=
  if c = 124 then link (link adj (x - 1, y - 1) (x - 1, y)) (x, y - 1) (x, y)
  else if c = 45 then link (link adj (x - 1, y - 1) (x, y - 1)) (x - 1, y) (x, y)
  else link (link adj (x - 1, y - 1) (x, y)) (x, y - 1) (x - 1, y)
/-- a level of points, the first one at x -/
def lLevel (adj : Sq → List Sq) (x y : Nat) : List Nat → Sq → List Sq
  | [] => adj
  | c :: cs => lLevel (lPoint adj x y c) (x + 2) y cs
/-- the rim of a row: the columns 0 and n - 1 -/
def lRim (adj : Sq → List Sq) (n y : Nat) : Sq → List Sq := link (link adj (0, y - 1) (0, y)) (n - 1, y - 1) (n - 1, y)
def lRow (adj : Sq → List Sq) (n r : Nat) (row : Row) : Sq → List Sq :=
  lLevel (lLevel (lRim adj n (2 * r + 1)) 2 (2 * r + 1) row.1) 1 (2 * r + 2) row.2
def lRows (n : Nat) : Nat → (Sq → List Sq) → List Row → Sq → List Sq
  | _, adj, [] => adj
  | r, adj, row :: rs => lRows n (r + 1) (lRow adj n r row) rs
/-- the squares of the first row, joined above -/
def lTop (top : List Nat) : Nat → Sq → List Sq
  | 0 => fun _ => []
  | i + 1 => put (lTop top i) (i, 0) (top.getD i 0, 0)
theorem mem_lTop {top : List Nat} {w z : Sq} : ∀ k, z ∈ lTop top k w ↔ w.1 < k ∧ w.2 = 0 ∧ z = (top.getD w.1 0, 0)
  | 0 => by simp [lTop]
  | k + 1 => by
    show z ∈ put (lTop top k) (k, 0) (top.getD k 0, 0) w ↔ _
    rw [mem_put, mem_lTop k]
    obtain ⟨i, j⟩ := w
    constructor
    · rintro (⟨h1, h2, h3⟩ | ⟨h1, h2⟩)
      · exact ⟨by omega, h2, h3⟩
      · cases h1; exact ⟨by omega, rfl, h2⟩
    · rintro ⟨h1, h2, h3⟩
      have h1' : i < k + 1 := h1
      have h2' : j = 0 := h2
      by_cases q : i < k
      · exact .inl ⟨q, h2, h3⟩
      · have : i = k := by omega
        subst this; subst h2'; exact .inr ⟨rfl, h3⟩

/-! ### the board down to the heights h -/
structure Board (n : Nat) (h : Nat → Nat) (es : List Nat) (m : Nat) (adj : Sq → List Sq) : Prop where
  len : es.length = n
  dec : ∃ P C, C.length = m ∧ Dec n (fun i => ((i, h i) : Sq)) (fun i => es.getD i 0) P C (fun v u => u ∈ adj v) (fun v => v.1 < n ∧ v.2 ≤ h v.1)
theorem Board.pairs {n : Nat} {h : Nat → Nat} {es : List Nat} {m : Nat} {adj : Sq → List Sq} (B : Board n h es m adj) : Pairs n es := by
  obtain ⟨P, C, _, D⟩ := B.dec
  exact ⟨B.len, D.lt, D.inv, D.ne⟩
def hup (h : Nat → Nat) (i y : Nat) : Nat → Nat := fun k => if k = i then y else h k
theorem hup_s (h : Nat → Nat) (i y : Nat) : hup h i y i = y := if_pos rfl
theorem hup_o {h : Nat → Nat} {i y k : Nat} (q : k ≠ i) : hup h i y k = h k := if_neg q

section
variable {n : Nat} {h : Nat → Nat} {es : List Nat} {m : Nat} {adj : Sq → List Sq}
/-- a new square below a column -/
theorem ext_adj {P : Nat → List Sq} {C : List (List Sq)} {e : Nat → Nat} (D : Dec n (fun i => ((i, h i) : Sq)) e P C (fun v u => u ∈ adj v) (fun v => v.1 < n ∧ v.2 ≤ h v.1)) {i y : Nat} (hi : i < n) (hy : y = h i + 1) :
    ∃ P', Dec n (fun k => ((k, hup h i y k) : Sq)) e P' C (fun v u => u ∈ link adj (i, h i) (i, y) v) (fun v => v.1 < n ∧ v.2 ≤ hup h i y v.1) := by
  obtain ⟨P', D'⟩ := D.ext hi (x := ((i, y) : Sq)) (by rintro ⟨_, q⟩; have q : y ≤ h i := q; omega)
  refine ⟨P', D'.congr (fun k hk => ?_) (fun _ _ => rfl) (fun v u => ?_) (fun v => ?_)⟩
  · show ((k, hup h i y k) : Sq) = if k = i then (i, y) else (k, h k)
    by_cases q : k = i
    · subst q; rw [if_pos rfl, hup_s]
    · rw [if_neg q, hup_o q]
  · show u ∈ link adj (i, h i) (i, y) v ↔ _
    rw [mem_link]
  · obtain ⟨a, b⟩ := v
    show (a < n ∧ b ≤ hup h i y a) ↔ (a < n ∧ b ≤ h a) ∨ (a, b) = (i, y)
    by_cases q : a = i
    · subst q
      rw [hup_s]
      constructor
      · rintro ⟨h1, h2⟩
        by_cases z : b = y
        · exact .inr (by rw [z])
        · exact .inl ⟨h1, by omega⟩
      · rintro (⟨h1, h2⟩ | z)
        · exact ⟨h1, by omega⟩
        · cases z; exact ⟨hi, Nat.le_refl _⟩
    · rw [hup_o q]
      constructor
      · exact fun z => .inl z
      · rintro (z | z)
        · exact z
        · cases z; exact (q rfl).elim
theorem Board.ext (B : Board n h es m adj) {i y : Nat} (hi : i < n) (hy : y = h i + 1) : Board n (hup h i y) es m (link adj (i, h i) (i, y)) := by
  obtain ⟨P, C, hm, D⟩ := B.dec
  obtain ⟨P', D'⟩ := ext_adj D hi hy
  exact ⟨B.len, P', C, hm, D'⟩

/-- a point: past_point tells what becomes of the ends -/
theorem Board.point (B : Board n h es m adj) {l y c : Nat} (hl : l + 1 < n) (h1 : y = h l + 1) (h2 : y = h (l + 1) + 1) (hc : Sign c) :
    Board n (hup (hup h l y) (l + 1) y) (pPoint es l c).1 (m + (pPoint es l c).2) (lPoint adj (l + 1) y c) := by
  have H := B.pairs
  have hl0 : l < n := by omega
  have e1 : l + 1 - 1 = l := by omega
  have y1 : y - 1 = h l := by omega
  have y2 : h (l + 1) = h l := by omega
  have ye : y = h l + 1 := h1
  have hlen := B.len
  obtain ⟨P, C, hm, D⟩ := B.dec
  refine ⟨(pPoint_len es l c).trans hlen, ?_⟩
  unfold lPoint
  rw [e1, y1]
  rcases hc with rfl | rfl | rfl
  · -- straight on
    rw [if_neg (by omega), if_neg (by omega)]
    obtain ⟨q1, q2⟩ := pPoint_dot H hl
    have D2 := D.swap hl0 hl
    obtain ⟨P3, D3⟩ := D2.ext hl (x := ((l + 1, y) : Sq)) (by rintro ⟨_, q⟩; have q : y ≤ h (l + 1) := q; omega)
    obtain ⟨P4, D4⟩ := D3.ext hl0 (x := ((l, y) : Sq)) (by
      rintro (⟨_, q⟩ | q)
      · have q : y ≤ h l := q; omega
      · have q := congrArg Prod.fst q; have q : l = l + 1 := q; omega)
    refine ⟨P4, C, by rw [q1]; exact hm, D4.congr (fun k hk => ?_) (fun k hk => q2 k hk) (fun v u => ?_) (fun v => ?_)⟩
    · show ((k, hup (hup h l y) (l + 1) y k) : Sq) = if k = l then (l, y) else if k = l + 1 then (l + 1, y) else (sw l (l + 1) k, h (sw l (l + 1) k))
      by_cases a : k = l
      · subst a; rw [if_pos rfl, hup_o (by omega), hup_s]
      · by_cases b : k = l + 1
        · subst b; rw [if_neg a, if_pos rfl, hup_s]
        · rw [if_neg a, if_neg b, sw_o a b, hup_o b, hup_o a]
    · show u ∈ link (link adj (l, h l) (l + 1, y)) (l + 1, h l) (l, y) v ↔ _
      rw [mem_link, mem_link]
      have f1 : ((sw l (l + 1) (l + 1), h (sw l (l + 1) (l + 1))) : Sq) = (l, h l) := by rw [sw_r (by omega)]
      have f2 : (if l = l + 1 then ((l + 1, y) : Sq) else (sw l (l + 1) l, h (sw l (l + 1) l))) = (l + 1, h l) := by rw [if_neg (by omega), sw_l, y2]
      show _ ↔ (u ∈ adj v ∨ (v = (sw l (l + 1) (l + 1), h (sw l (l + 1) (l + 1))) ∧ u = (l + 1, y)) ∨ (v = (l + 1, y) ∧ u = (sw l (l + 1) (l + 1), h (sw l (l + 1) (l + 1))))) ∨ (v = (if l = l + 1 then ((l + 1, y) : Sq) else (sw l (l + 1) l, h (sw l (l + 1) l))) ∧ u = (l, y)) ∨ (v = (l, y) ∧ u = (if l = l + 1 then ((l + 1, y) : Sq) else (sw l (l + 1) l, h (sw l (l + 1) l))))
      rw [f1, f2]
    · obtain ⟨a, b⟩ := v
      show (a < n ∧ b ≤ hup (hup h l y) (l + 1) y a) ↔ ((a < n ∧ b ≤ h a) ∨ (a, b) = (l + 1, y)) ∨ (a, b) = (l, y)
      by_cases q : a = l + 1
      · subst q
        rw [hup_s]
        constructor
        · rintro ⟨z1, z2⟩
          by_cases z : b = y
          · exact .inl (.inr (by rw [z]))
          · exact .inl (.inl ⟨z1, by omega⟩)
        · rintro ((⟨z1, z2⟩ | z) | z)
          · exact ⟨z1, by omega⟩
          · cases z; exact ⟨hl, Nat.le_refl _⟩
          · have := congrArg Prod.fst z; have : l + 1 = l := this; omega
      · rw [hup_o q]
        by_cases p : a = l
        · subst p
          rw [hup_s]
          constructor
          · rintro ⟨z1, z2⟩
            by_cases z : b = y
            · exact .inr (by rw [z])
            · exact .inl (.inl ⟨z1, by omega⟩)
          · rintro ((⟨z1, z2⟩ | z) | z)
            · exact ⟨z1, by omega⟩
            · have := congrArg Prod.fst z; have : a = a + 1 := this; omega
            · cases z; exact ⟨hl0, Nat.le_refl _⟩
        · rw [hup_o p]
          constructor
          · exact fun z => .inl (.inl z)
          · rintro ((z | z) | z)
            · exact z
            · cases z; exact (q rfl).elim
            · cases z; exact (p rfl).elim
  · -- a lying mirror
    rw [if_neg (by omega), if_pos rfl]
    have hxy : ((l, y) : Sq) ≠ (l + 1, y) := fun q => by have := congrArg Prod.fst q; have : l = l + 1 := this; omega
    have nx : ¬ (((l, y) : Sq).1 < n ∧ ((l, y) : Sq).2 ≤ h ((l, y) : Sq).1) := by rintro ⟨_, q⟩; have q : y ≤ h l := q; omega
    have ny : ¬ (((l + 1, y) : Sq).1 < n ∧ ((l + 1, y) : Sq).2 ≤ h ((l + 1, y) : Sq).1) := by rintro ⟨_, q⟩; have q : y ≤ h (l + 1) := q; omega
    have hfr : ∀ k, ((k, hup (hup h l y) (l + 1) y k) : Sq) = if k = l then (l, y) else if k = l + 1 then (l + 1, y) else (k, h k) := fun k => by
      by_cases a : k = l
      · subst a; rw [if_pos rfl, hup_o (by omega), hup_s]
      · by_cases b : k = l + 1
        · subst b; rw [if_neg a, if_pos rfl, hup_s]
        · rw [if_neg a, if_neg b, hup_o b, hup_o a]
    have hE : ∀ v u : Sq, u ∈ link (link adj (l, h l) (l + 1, h l)) (l, y) (l + 1, y) v ↔ u ∈ adj v ∨ ((v = (l, h l) ∧ u = (l + 1, h (l + 1))) ∨ (v = (l + 1, h (l + 1)) ∧ u = (l, h l))) ∨ (v = (l, y) ∧ u = (l + 1, y)) ∨ (v = (l + 1, y) ∧ u = (l, y)) := fun v u => by
      rw [mem_link, mem_link, y2, or_assoc]
    have hS : ∀ v : Sq, (v.1 < n ∧ v.2 ≤ hup (hup h l y) (l + 1) y v.1) ↔ (v.1 < n ∧ v.2 ≤ h v.1) ∨ v = (l, y) ∨ v = (l + 1, y) := by
      rintro ⟨a, b⟩
      show (a < n ∧ b ≤ hup (hup h l y) (l + 1) y a) ↔ (a < n ∧ b ≤ h a) ∨ (a, b) = (l, y) ∨ (a, b) = (l + 1, y)
      by_cases q : a = l + 1
      · subst q
        rw [hup_s]
        constructor
        · rintro ⟨z1, z2⟩
          by_cases z : b = y
          · exact .inr (.inr (by rw [z]))
          · exact .inl ⟨z1, by omega⟩
        · rintro (⟨z1, z2⟩ | z | z)
          · exact ⟨z1, by omega⟩
          · have := congrArg Prod.fst z; have : l + 1 = l := this; omega
          · cases z; exact ⟨hl, Nat.le_refl _⟩
      · rw [hup_o q]
        by_cases p : a = l
        · subst p
          rw [hup_s]
          constructor
          · rintro ⟨z1, z2⟩
            by_cases z : b = y
            · exact .inr (.inl (by rw [z]))
            · exact .inl ⟨z1, by omega⟩
          · rintro (⟨z1, z2⟩ | z | z)
            · exact ⟨z1, by omega⟩
            · cases z; exact ⟨hl0, Nat.le_refl _⟩
            · have := congrArg Prod.fst z; have : a = a + 1 := this; omega
        · rw [hup_o p]
          constructor
          · exact fun z => .inl z
          · rintro (z | z | z)
            · exact z
            · cases z; exact (p rfl).elim
            · cases z; exact (q rfl).elim
    by_cases hj : es.getD l 0 = l + 1
    · rw [pPoint_close hj]
      obtain ⟨P', D'⟩ := D.close hl0 hl hj hxy nx ny
      exact ⟨P', P l :: C, by rw [List.length_cons, hm], D'.congr (fun k _ => hfr k) (fun _ _ => rfl) hE hS⟩
    · obtain ⟨q1, q2⟩ := pPoint_dash H hl hj
      obtain ⟨P', D'⟩ := D.join hl0 hl (by omega) hj hxy nx ny
      exact ⟨P', C, by rw [q1]; exact hm, D'.congr (fun k _ => hfr k) q2 hE hS⟩
  · -- a standing mirror
    rw [if_pos rfl, pPoint_bar]
    obtain ⟨P1, D1⟩ := ext_adj D hl0 h1
    have h3 : y = hup h l y (l + 1) + 1 := by rw [hup_o (by omega)]; exact h2
    obtain ⟨P2, D2⟩ := ext_adj D1 hl h3
    refine ⟨P2, C, hm, D2.congr (fun _ _ => rfl) (fun _ _ => rfl) (fun v u => ?_) (fun _ => Iff.rfl)⟩
    show u ∈ link (link adj (l, h l) (l, y)) (l + 1, h l) (l + 1, y) v ↔ u ∈ link (link adj (l, h l) (l, y)) (l + 1, hup h l y (l + 1)) (l + 1, y) v
    rw [hup_o (by omega), y2]
end
end Sand
/-! ## SandBehind -/
set_option linter.all false
set_option Elab.async false
namespace Sand
section
variable {n : Nat} {h : Nat → Nat} {es : List Nat} {m : Nat} {adj : Sq → List Sq}
theorem Board.congr (B : Board n h es m adj) {h' : Nat → Nat} (hh : ∀ k, k < n → h' k = h k) : Board n h' es m adj := by
  obtain ⟨P, C, hm, D⟩ := B.dec
  refine ⟨B.len, P, C, hm, D.congr (fun k hk => by rw [hh k hk]) (fun _ _ => rfl) (fun _ _ => Iff.rfl) (fun v => ?_)⟩
  constructor
  · rintro ⟨h1, h2⟩; exact ⟨h1, by rw [← hh _ h1]; exact h2⟩
  · rintro ⟨h1, h2⟩; exact ⟨h1, by rw [hh _ h1]; exact h2⟩
theorem Board.level {y : Nat} : ∀ (cs : List Nat) (l : Nat) (h : Nat → Nat) (es : List Nat) (m : Nat) (adj : Sq → List Sq), Board n h es m adj → (∀ c, c ∈ cs → Sign c) → l + 2 * cs.length ≤ n → (∀ k, l ≤ k → k < l + 2 * cs.length → y = h k + 1) →
    Board n (fun k => if l ≤ k ∧ k < l + 2 * cs.length then y else h k) (pLevel es l cs).1 (m + (pLevel es l cs).2) (lLevel adj (l + 1) y cs)
  | [], l, h, es, m, adj, B, _, _, _ => by
    refine (show Board n h es (m + 0) adj from B).congr fun k hk => ?_
    rw [if_neg]; rintro ⟨h1, h2⟩; simp at h2; omega
  | c :: cs, l, h, es, m, adj, B, hc, hn, hy => by
    have hlen : (c :: cs).length = cs.length + 1 := rfl
    rw [hlen] at hn hy
    have B1 := B.point (l := l) (y := y) (c := c) (by omega) (hy l (by omega) (by omega)) (hy (l + 1) (by omega) (by omega)) (hc c List.mem_cons_self)
    have B2 := Board.level cs (l + 2) _ _ _ _ B1 (fun d hd => hc d (List.mem_cons_of_mem _ hd)) (by omega) (fun k h1 h2 => by
      rw [hup_o (by omega), hup_o (by omega)]; exact hy k (by omega) (by omega))
    have e1 : m + (pPoint es l c).2 + (pLevel (pPoint es l c).1 (l + 2) cs).2 = m + (pLevel es l (c :: cs)).2 := Nat.add_assoc _ _ _
    rw [e1] at B2
    refine B2.congr fun k hk => ?_
    rw [hlen]
    by_cases a : k = l
    · subst a; rw [if_pos (by omega), if_neg (by omega), hup_o (by omega), hup_s]
    · by_cases b : k = l + 1
      · subst b; rw [if_pos (by omega), if_neg (by omega), hup_s]
      · by_cases q : l + 2 ≤ k ∧ k < l + 2 + 2 * cs.length
        · rw [if_pos (by omega), if_pos q]
        · rw [if_neg (by omega), if_neg q, hup_o b, hup_o a]

/-- a row of mirrors of the width w -/
structure RowOk (w : Nat) (r : Row) : Prop where
  l1 : r.1.length + 1 = w
  l2 : r.2.length = w
  s1 : ∀ c, c ∈ r.1 → Sign c
  s2 : ∀ c, c ∈ r.2 → Sign c
theorem Board.row {w r : Nat} {row : Row} (B : Board (2 * w) (fun _ => 2 * r) es m adj) (R : RowOk w row) :
    Board (2 * w) (fun _ => 2 * (r + 1)) (pRow es row).1 (m + (pRow es row).2) (lRow adj (2 * w) r row) := by
  have w0 : 0 < w := by have := R.l1; omega
  have B1 := B.ext (i := 0) (y := 2 * r + 1) (by omega) rfl
  have B2 := B1.ext (i := 2 * w - 1) (y := 2 * r + 1) (by omega) (by rw [hup_o (by omega)])
  rw [hup_o (by omega)] at B2
  have B3 := Board.level (y := 2 * r + 1) row.1 1 _ _ _ _ B2 R.s1 (by have := R.l1; omega) (fun k h1 h2 => by have := R.l1; rw [hup_o (by omega), hup_o (by omega)])
  have B4 := Board.level (y := 2 * r + 2) row.2 0 _ _ _ _ B3 R.s2 (by have := R.l2; omega) (fun k h1 h2 => by
    have e1 := R.l1
    have e2 := R.l2
    by_cases a : k = 0
    · subst a; rw [if_neg (by omega), hup_o (by omega), hup_s]
    · by_cases b : k = 2 * w - 1
      · subst b; rw [if_neg (by omega), hup_s]
      · rw [if_pos (by omega)])
  have e1 : m + (pLevel es 1 row.1).2 + (pLevel (pLevel es 1 row.1).1 0 row.2).2 = m + (pRow es row).2 := Nat.add_assoc _ _ _
  rw [e1] at B4
  exact B4.congr fun k hk => by
    have e2 := R.l2
    rw [if_pos (by omega)]; omega
theorem Board.rows {w : Nat} : ∀ (rows : List Row) (r : Nat) (es : List Nat) (m : Nat) (adj : Sq → List Sq), Board (2 * w) (fun _ => 2 * r) es m adj → (∀ x, x ∈ rows → RowOk w x) →
    Board (2 * w) (fun _ => 2 * (r + rows.length)) (pRows es rows).1 (m + (pRows es rows).2) (lRows (2 * w) r adj rows)
  | [], r, es, m, adj, B, _ => B
  | x :: xs, r, es, m, adj, B, hx => by
    have B1 := Board.rows xs (r + 1) _ _ _ (B.row (hx x List.mem_cons_self)) (fun z hz => hx z (List.mem_cons_of_mem _ hz))
    have e1 : m + (pRow es x).2 + (pRows (pRow es x).1 xs).2 = m + (pRows es (x :: xs)).2 := Nat.add_assoc _ _ _
    rw [e1] at B1
    have e2 : r + 1 + xs.length = r + (x :: xs).length := by simp; omega
    rw [e2] at B1
    exact B1
theorem Board.start {top : List Nat} (H : Pairs n top) : Board n (fun _ => 0) top 0 (lTop top n) := by
  have mm : ∀ (i : Nat) (v : Sq), v ∈ ([(i, 0), (top.getD i 0, 0)] : List Sq) ↔ v.2 = 0 ∧ (v.1 = i ∨ v.1 = top.getD i 0) := fun i v => by
    obtain ⟨a, b⟩ := v
    simp
    constructor
    · rintro (⟨h1, h2⟩ | ⟨h1, h2⟩)
      · exact ⟨h2, .inl h1⟩
      · exact ⟨h2, .inr h1⟩
    · rintro ⟨h1, h2 | h2⟩
      · exact .inl ⟨h2, h1⟩
      · exact .inr ⟨h2, h1⟩
  refine ⟨H.len, fun i => [(i, 0), (top.getD i 0, 0)], [], rfl, ⟨H.lt, H.inv, H.ne, fun i hi => ⟨_, by simp, rfl⟩, fun i hi => ?_, fun i hi => ?_, fun i hi k hk v a b => ?_, fun c hc => (nomatch hc), List.Pairwise.nil, fun c hc => (nomatch hc), fun v => ?_, fun v u => ?_⟩⟩
  · show [(top.getD i 0, 0), (top.getD (top.getD i 0) 0, 0)] = _
    rw [H.inv i hi]; rfl
  · have := H.ne i hi
    simp only [List.nodup_cons, List.mem_singleton, List.not_mem_nil, not_false_eq_true, List.nodup_nil, and_true]
    intro q
    exact this (congrArg Prod.fst q).symm
  · have a := (mm i v).mp a
    have b := (mm k v).mp b
    rcases a.2 with a | a
    · rcases b.2 with b | b
      · exact .inl (b.symm.trans a)
      · refine .inr ?_
        show k = top.getD i 0
        rw [← a, b, H.inv k hk]
    · rcases b.2 with b | b
      · exact .inr (b.symm.trans a)
      · refine .inl ?_
        have := H.inv k hk
        rw [← b, a, H.inv i hi] at this
        exact this.symm
  · obtain ⟨a, b⟩ := v
    constructor
    · rintro ⟨h1, h2⟩
      have h2 : b ≤ 0 := h2
      exact .inl ⟨a, h1, (mm a _).mpr ⟨by show b = 0; omega, .inl rfl⟩⟩
    · rintro (⟨i, hi, q⟩ | ⟨c, hc, _⟩)
      · have q := (mm i _).mp q
        have q1 : b = 0 := q.1
        refine ⟨?_, by show b ≤ 0; omega⟩
        rcases q.2 with q | q
        · have q : a = i := q
          show a < n; omega
        · have q : a = top.getD i 0 := q
          have := H.lt i hi
          show a < n; omega
      · cases hc
  · rw [mem_lTop]
    constructor
    · rintro ⟨h1, h2, h3⟩
      refine .inl ⟨v.1, h1, .inl ⟨?_, h3⟩⟩
      obtain ⟨a, b⟩ := v
      have h2 : b = 0 := h2
      rw [h2]
    · rintro (⟨i, hi, q⟩ | ⟨c, hc, _⟩)
      · rcases (show (v = (i, 0) ∧ u = (top.getD i 0, 0)) ∨ False from q) with ⟨q1, q2⟩ | q
        · rw [q1]; exact ⟨hi, rfl, q2⟩
        · exact q.elim
      · cases hc
end

/-! ### _law_behind -/
def oStep (adj : Sq → List Sq) (fuel last : Nat) (st : List Nat × List Sq) (k : Nat) : List Nat × List Sq :=
  if (k, last) ∈ st.2 then st
  else ((st.1.set k (along adj fuel (k, last) st.2).1.1).set (along adj fuel (k, last) st.2).1.1 k, (along adj fuel (k, last) st.2).2)
def bOne (adj : Sq → List Sq) (fuel n last : Nat) : Nat → List Nat × List Sq
  | 0 => (List.replicate n 0, [])
  | k + 1 => oStep adj fuel last (bOne adj fuel n last k) k
theorem snocInd {α : Type} {p : List α → Prop} (h0 : p []) (h1 : ∀ l a, p l → p (l ++ [a])) (l : List α) : p l := by
  have q : ∀ l : List α, p l.reverse := by
    intro l
    induction l with
    | nil => exact h0
    | cons a l ih => rw [List.reverse_cons]; exact h1 _ _ ih
  have := q l.reverse
  rwa [List.reverse_reverse] at this
def bStep (adj : Sq → List Sq) (fuel : Nat) (st : List Sq × Nat) (s : Sq) : List Sq × Nat :=
  if s ∈ st.1 then st else ((along adj fuel s st.1).2, st.2 + 1)

theorem nodup_le {α : Type} [DecidableEq α] : ∀ {l L : List α}, l.Nodup → (∀ x, x ∈ l → x ∈ L) → l.length ≤ L.length
  | [], L, _, _ => Nat.zero_le _
  | a :: l, L, nd, h => by
    have ha : a ∈ L := h a List.mem_cons_self
    have nd' := List.nodup_cons.mp nd
    have ih := nodup_le (l := l) (L := L.erase a) nd'.2 (fun x hx => (List.mem_erase_of_ne (fun q => nd'.1 (by rw [← q]; exact hx))).mpr (h x (List.mem_cons_of_mem _ hx)))
    rw [List.length_erase_of_mem ha] at ih
    have : 0 < L.length := List.length_pos_of_mem ha
    simp; omega
theorem countP_one {α : Type} {p q : α → Bool} {d : α} : ∀ {C : List α}, C.Nodup → d ∈ C → p d = false → q d = true → (∀ c, c ∈ C → c ≠ d → q c = p c) → C.countP q = C.countP p + 1
  | [], _, h, _, _, _ => nomatch h
  | a :: C, nd, hd, h1, h2, h3 => by
    have nd' := List.nodup_cons.mp nd
    have cp : ∀ (f : α → Bool), (a :: C).countP f = C.countP f + if f a then 1 else 0 := fun f => List.countP_cons ..
    rw [cp, cp]
    by_cases e : a = d
    · subst e
      have : C.countP q = C.countP p := by
        refine List.countP_congr fun c hc => ?_
        rw [h3 c (List.mem_cons_of_mem _ hc) (fun z => nd'.1 (by rw [← z]; exact hc))]
      rw [this, h1, h2]; rfl
    · have hd' : d ∈ C := by
        rcases List.mem_cons.mp hd with z | z
        · exact (e z.symm).elim
        · exact z
      rw [countP_one nd'.2 hd' h1 h2 (fun c hc hn => h3 c (List.mem_cons_of_mem _ hc) hn), h3 a List.mem_cons_self e]
      omega

section
variable {n : Nat} {fr : Nat → Sq} {es : List Nat} {P : Nat → List Sq} {C : List (List Sq)} {E : Sq → Sq → Prop} {S : Sq → Prop} {adj : Sq → List Sq} {last fuel : Nat}
theorem bOne_inv (hlen : es.length = n) (D : Dec n (fun i => ((i, last) : Sq)) (fun i => es.getD i 0) P C (fun v u => u ∈ adj v) S) (hf : ∀ i, i < n → (P i).length ≤ fuel) :
    ∀ k, k ≤ n → (bOne adj fuel n last k).1.length = n ∧ (∀ v, v ∈ (bOne adj fuel n last k).2 ↔ ∃ j, j < k ∧ v ∈ P j) ∧ ∀ j, j < n → (j < k ∨ es.getD j 0 < k) → (bOne adj fuel n last k).1.getD j 0 = es.getD j 0
  | 0, _ => ⟨by simp [bOne], fun v => by simp [bOne], fun j _ h => by omega⟩
  | k + 1, hk => by
    obtain ⟨i1, i2, i3⟩ := bOne_inv hlen D hf k (by omega)
    have hk' : k < n := by omega
    obtain ⟨t, tn, ht⟩ := D.hd k hk'
    have mk : (k, last) ∈ P k := by rw [ht]; exact List.mem_cons_self
    show (oStep adj fuel last (bOne adj fuel n last k) k).1.length = n ∧ (∀ v, v ∈ (oStep adj fuel last (bOne adj fuel n last k) k).2 ↔ ∃ j, j < k + 1 ∧ v ∈ P j) ∧ ∀ j, j < n → (j < k + 1 ∨ es.getD j 0 < k + 1) → (oStep adj fuel last (bOne adj fuel n last k) k).1.getD j 0 = es.getD j 0
    generalize bOne adj fuel n last k = st at *
    unfold oStep
    by_cases a : (k, last) ∈ st.2
    · rw [if_pos a]
      obtain ⟨j, hj, hm⟩ := (i2 _).mp a
      have q : k = es.getD j 0 := by
        rcases D.dj j (by omega) k hk' _ hm mk with z | z
        · omega
        · exact z
      have q2 : es.getD k 0 = j := by rw [q]; exact D.inv j (by omega)
      refine ⟨i1, fun v => ?_, fun j' h1 h2 => ?_⟩
      · rw [i2]
        constructor
        · rintro ⟨z, z1, z2⟩; exact ⟨z, by omega, z2⟩
        · rintro ⟨z, z1, z2⟩
          by_cases zk : z = k
          · subst zk
            refine ⟨j, hj, ?_⟩
            have r := D.rev j (by omega)
            have r : P (es.getD j 0) = (P j).reverse := r
            rw [← q] at r
            rw [r] at z2
            exact List.mem_reverse.mp z2
          · exact ⟨z, by omega, z2⟩
      · by_cases b : j' < k ∨ es.getD j' 0 < k
        · exact i3 j' h1 b
        · have : j' = k ∨ es.getD j' 0 = k := by omega
          rcases this with z | z
          · exact i3 j' h1 (.inr (by rw [z, q2]; exact hj))
          · have z2 : j' = j := by
              have := D.inv j' h1
              have this : es.getD (es.getD j' 0) 0 = j' := this
              rw [z, q2] at this; exact this.symm
            exact i3 j' h1 (.inl (by omega))
    · rw [if_neg a]
      have ns : ∀ u, u ∈ P k → u ∉ st.2 := fun u hu hm => by
        obtain ⟨j, hj, hm⟩ := (i2 u).mp hm
        rcases D.dj j (by omega) k hk' u hm hu with z | z
        · omega
        · refine a ((i2 _).mpr ⟨j, hj, ?_⟩)
          have r : P (es.getD j 0) = (P j).reverse := D.rev j (by omega)
          have z : k = es.getD j 0 := z
          rw [← z] at r
          rw [r] at mk
          exact List.mem_reverse.mp mk
      have al := D.along_path (adj := adj) (fun _ _ => Iff.rfl) hk' (hf k hk') ns
      have al : along adj fuel (k, last) st.2 = ((es.getD k 0, last), st.2 ++ P k) := al
      rw [al]
      have hlt : es.getD k 0 < n := D.lt k hk'
      have hne : es.getD k 0 ≠ k := D.ne k hk'
      refine ⟨by show (((st.1.set k _).set _ k).length = n); rw [List.length_set, List.length_set]; exact i1, fun v => ?_, fun j h1 h2 => ?_⟩
      · show v ∈ st.2 ++ P k ↔ _
        rw [List.mem_append, i2]
        constructor
        · rintro (⟨z, z1, z2⟩ | z)
          · exact ⟨z, by omega, z2⟩
          · exact ⟨k, by omega, z⟩
        · rintro ⟨z, z1, z2⟩
          by_cases zk : z = k
          · subst zk; exact .inr z2
          · exact .inl ⟨z, by omega, z2⟩
      · show ((st.1.set k (es.getD k 0)).set (es.getD k 0) k).getD j 0 = _
        rw [getD_set _ _ _ _ (by rw [List.length_set]; omega), getD_set _ _ _ _ (by omega)]
        by_cases b : j = es.getD k 0
        · rw [if_pos b, b]; exact (D.inv k hk').symm
        · rw [if_neg b]
          by_cases c : j = k
          · rw [if_pos c, c]
          · rw [if_neg c]
            refine i3 j h1 ?_
            rcases h2 with h2 | h2
            · exact .inl (by omega)
            · by_cases z : es.getD j 0 = k
              · exfalso
                have : es.getD (es.getD j 0) 0 = j := D.inv j h1
                rw [z] at this; exact b this.symm
              · exact .inr (by omega)

theorem bTwo_inv (D : Dec n fr (fun i => es.getD i 0) P C (fun v u => u ∈ adj v) S) (hf : ∀ c, c ∈ C → c.length ≤ fuel) (hS : List Sq) (hL : ∀ v, v ∈ hS → S v) {seen0 : List Sq} (h0 : ∀ v, v ∈ seen0 ↔ ∃ j, j < n ∧ v ∈ P j) :
    ∀ (l : List Sq), (∀ v, v ∈ l → S v) → (∀ v, v ∈ seen0 → v ∈ (l.foldl (bStep adj fuel) (seen0, 0)).1) ∧ (∀ v, v ∈ l → v ∈ (l.foldl (bStep adj fuel) (seen0, 0)).1) ∧
      (∀ c, c ∈ C → (∀ v, v ∈ c → v ∈ (l.foldl (bStep adj fuel) (seen0, 0)).1) ∨ ∀ v, v ∈ c → v ∉ (l.foldl (bStep adj fuel) (seen0, 0)).1) ∧
      (l.foldl (bStep adj fuel) (seen0, 0)).2 = C.countP fun c => c.any fun v => decide (v ∈ (l.foldl (bStep adj fuel) (seen0, 0)).1) := by
  intro l
  refine snocInd (p := fun l => (∀ v, v ∈ l → S v) → (∀ v, v ∈ seen0 → v ∈ (l.foldl (bStep adj fuel) (seen0, 0)).1) ∧ (∀ v, v ∈ l → v ∈ (l.foldl (bStep adj fuel) (seen0, 0)).1) ∧
      (∀ c, c ∈ C → (∀ v, v ∈ c → v ∈ (l.foldl (bStep adj fuel) (seen0, 0)).1) ∨ ∀ v, v ∈ c → v ∉ (l.foldl (bStep adj fuel) (seen0, 0)).1) ∧
      (l.foldl (bStep adj fuel) (seen0, 0)).2 = C.countP fun c => c.any fun v => decide (v ∈ (l.foldl (bStep adj fuel) (seen0, 0)).1)) ?_ ?_ l
  · intro _
    have hc : ∀ c, c ∈ C → ∀ v, v ∈ c → v ∉ seen0 := fun c hc v hv hm => by
      obtain ⟨j, hj, hm⟩ := (h0 v).mp hm
      exact D.cp c hc j hj v hv hm
    refine ⟨fun v h => h, fun v h => (nomatch h), fun c hc' => .inr (hc c hc'), ?_⟩
    show 0 = _
    symm
    rw [List.countP_eq_zero]
    intro c hc' q
    obtain ⟨v, h1, h2⟩ := List.any_eq_true.mp q
    exact hc c hc' v h1 (of_decide_eq_true h2)
  · intro l s ih hl
    obtain ⟨i1, i2, i3, i4⟩ := ih fun v hv => hl v (List.mem_append_left _ hv)
    rw [List.foldl_append]
    show (∀ v, v ∈ seen0 → v ∈ (bStep adj fuel _ s).1) ∧ _
    generalize l.foldl (bStep adj fuel) (seen0, 0) = st at *
    show (∀ v, v ∈ seen0 → v ∈ (bStep adj fuel st s).1) ∧ (∀ v, v ∈ l ++ [s] → v ∈ (bStep adj fuel st s).1) ∧ (∀ c, c ∈ C → (∀ v, v ∈ c → v ∈ (bStep adj fuel st s).1) ∨ ∀ v, v ∈ c → v ∉ (bStep adj fuel st s).1) ∧
      (bStep adj fuel st s).2 = C.countP fun c => c.any fun v => decide (v ∈ (bStep adj fuel st s).1)
    unfold bStep
    by_cases a : s ∈ st.1
    · rw [if_pos a]
      refine ⟨i1, fun v hv => ?_, i3, i4⟩
      rcases List.mem_append.mp hv with z | z
      · exact i2 v z
      · simp at z; rw [z]; exact a
    · rw [if_neg a]
      -- s lies on a closed thread that was not seen
      have hs := hl s (by simp)
      obtain ⟨d, hd, hsd⟩ : ∃ d, d ∈ C ∧ s ∈ d := by
        rcases (D.cov s).mp hs with ⟨j, hj, hm⟩ | z
        · exact (a (i1 s ((h0 s).mpr ⟨j, hj, hm⟩))).elim
        · exact z
      have nsd : ∀ v, v ∈ d → v ∉ st.1 := by
        rcases i3 d hd with z | z
        · exact (a (z s hsd)).elim
        · exact z
      obtain ⟨z, d', pm, al⟩ := D.along_cycle (adj := adj) (fun _ _ => Iff.rfl) hd hsd (hf d hd) nsd
      rw [al]
      have mem : ∀ v, v ∈ st.1 ++ d' ↔ v ∈ st.1 ∨ v ∈ d := fun v => by rw [List.mem_append, pm.mem_iff]
      refine ⟨fun v hv => (mem v).mpr (.inl (i1 v hv)), fun v hv => ?_, fun c hc => ?_, ?_⟩
      · rcases List.mem_append.mp hv with q | q
        · exact (mem v).mpr (.inl (i2 v q))
        · simp at q; rw [q]; exact (mem s).mpr (.inr hsd)
      · by_cases e : c = d
        · subst e; exact .inl fun v hv => (mem v).mpr (.inr hv)
        · rcases i3 c hc with q | q
          · exact .inl fun v hv => (mem v).mpr (.inl (q v hv))
          · refine .inr fun v hv hm => ?_
            rcases (mem v).mp hm with r | r
            · exact q v hv r
            · exact e (pw_same D.cdj hc hd hv r)
      · have ndC : C.Nodup := by
          refine D.cdj.imp_of_mem ?_
          intro c1 c2 hc1 hc2 h12 e
          subst e
          obtain ⟨_, ne⟩ := D.cnd c1 hc1
          cases c1 with
          | nil => exact ne rfl
          | cons x r => exact h12 x List.mem_cons_self List.mem_cons_self
        show st.2 + 1 = _
        rw [i4]
        symm
        refine countP_one ndC hd ?_ ?_ fun c hc hne => ?_
        · rw [Bool.eq_false_iff]; intro q
          obtain ⟨v, h1, h2⟩ := List.any_eq_true.mp q
          exact nsd v h1 (of_decide_eq_true h2)
        · exact List.any_eq_true.mpr ⟨s, hsd, decide_eq_true ((mem s).mpr (.inr hsd))⟩
        · rw [Bool.eq_iff_iff, List.any_eq_true, List.any_eq_true]
          constructor
          · rintro ⟨v, h1, h2⟩
            refine ⟨v, h1, ?_⟩
            rcases (mem v).mp (of_decide_eq_true h2) with r | r
            · exact decide_eq_true r
            · exact (hne (pw_same D.cdj hc hd h1 r)).elim
          · rintro ⟨v, h1, h2⟩
            exact ⟨v, h1, decide_eq_true ((mem v).mpr (.inl (of_decide_eq_true h2)))⟩
end
/-- the walk from square to square tells the ends and the number of closed threads -/
theorem Board.behind {n last m : Nat} {es : List Nat} {adj : Sq → List Sq} (B : Board n (fun _ => last) es m adj) {L : List Sq} (hL : ∀ v, v ∈ L ↔ v.1 < n ∧ v.2 ≤ last) {fuel : Nat} (hf : L.length ≤ fuel) :
    (bOne adj fuel n last n).1 = es ∧ (L.foldl (bStep adj fuel) ((bOne adj fuel n last n).2, 0)).2 = m := by
  obtain ⟨P, C, hm, D⟩ := B.dec
  have fP : ∀ i, i < n → (P i).length ≤ fuel := fun i hi => Nat.le_trans (nodup_le (D.nd i hi) fun x hx => (hL x).mpr ((D.cov x).mpr (.inl ⟨i, hi, hx⟩))) hf
  have fC : ∀ c, c ∈ C → c.length ≤ fuel := fun c hc => Nat.le_trans (nodup_le (D.cnd c hc).1 fun x hx => (hL x).mpr ((D.cov x).mpr (.inr ⟨c, hc, hx⟩))) hf
  obtain ⟨a1, a2, a3⟩ := bOne_inv B.len D fP n (Nat.le_refl _)
  constructor
  · refine List.ext_getElem? fun i => ?_
    by_cases hi : i < n
    · have := a3 i hi (.inl hi)
      rw [List.getD_eq_getElem?_getD, List.getD_eq_getElem?_getD] at this
      rw [List.getElem?_eq_getElem (by omega), List.getElem?_eq_getElem (by have := B.len; omega)] at this ⊢
      simpa using this
    · rw [List.getElem?_eq_none (by omega), List.getElem?_eq_none (by have := B.len; omega)]
  · obtain ⟨b1, b2, b3, b4⟩ := bTwo_inv D fC L (fun v hv => (hL v).mp hv) a2 L (fun v hv => (hL v).mp hv)
    rw [b4, ← hm]
    rw [List.countP_eq_length]
    intro c hc
    obtain ⟨_, ne⟩ := D.cnd c hc
    cases c with
    | nil => exact (ne rfl).elim
    | cons x r => exact List.any_eq_true.mpr ⟨x, List.mem_cons_self, decide_eq_true (b2 x ((hL x).mpr ((D.cov x).mpr (.inr ⟨_, hc, List.mem_cons_self⟩))))⟩
/-- all squares of n columns down to the row of squares last -/
def sqs (n last : Nat) : List Sq := (List.range (last + 1)).flatMap fun j => (List.range n).map fun i => (i, j)
theorem mem_sqs {n last : Nat} {v : Sq} : v ∈ sqs n last ↔ v.1 < n ∧ v.2 ≤ last := by
  unfold sqs
  rw [List.mem_flatMap]
  constructor
  · rintro ⟨j, hj, q⟩
    obtain ⟨i, hi, e⟩ := List.mem_map.mp q
    subst e
    exact ⟨List.mem_range.mp hi, by have := List.mem_range.mp hj; show j ≤ last; omega⟩
  · rintro ⟨h1, h2⟩
    exact ⟨v.2, List.mem_range.mpr (by omega), List.mem_map.mpr ⟨v.1, List.mem_range.mpr h1, rfl⟩⟩
/-- THE LAW OF THE BOARD: what the walk over the links of the rows tells is what past_rows tells -/
theorem behind_law {w : Nat} {top : List Nat} (H : Pairs (2 * w) top) {rows : List Row} (hr : ∀ x, x ∈ rows → RowOk w x) :
    let adj := lRows (2 * w) 0 (lTop top (2 * w)) rows
    let L := sqs (2 * w) (2 * rows.length)
    (bOne adj L.length (2 * w) (2 * rows.length) (2 * w)).1 = (pRows top rows).1 ∧
    (L.foldl (bStep adj L.length) ((bOne adj L.length (2 * w) (2 * rows.length) (2 * w)).2, 0)).2 = (pRows top rows).2 := by
  intro adj L
  have B0 := Board.start H
  have B := Board.rows rows 0 _ _ _ B0 hr
  rw [Nat.zero_add, Nat.zero_add] at B
  exact B.behind (L := L) (fun v => mem_sqs) (Nat.le_refl _)
theorem pRows_pairs {w : Nat} {top : List Nat} (H : Pairs (2 * w) top) {rows : List Row} (hr : ∀ x, x ∈ rows → RowOk w x) : Pairs (2 * w) (pRows top rows).1 :=
  (Board.rows rows 0 _ _ _ (Board.start H) hr).pairs
end Sand
/-! ## SandStrip -/
set_option linter.all false
set_option Elab.async false
namespace Sand

/-! ### what comes again -/
section
variable {α : Type} {E : Nat → α} {C : Nat → Int} {c : Nat}
theorem per_one (hE : ∀ k k', E k = E k' → k % c = k' % c → E (k + 1) = E (k' + 1) ∧ C (k + 1) - C k = C (k' + 1) - C k') {b p : Nat} (h : E (b + p) = E b) (hp : (b + p) % c = b % c) :
    ∀ j, E (b + p + j) = E (b + j) ∧ C (b + p + j) - C (b + j) = C (b + p) - C b
  | 0 => ⟨h, rfl⟩
  | j + 1 => by
    obtain ⟨i1, i2⟩ := per_one hE h hp j
    have hm : (b + p + j) % c = (b + j) % c := by rw [Nat.add_mod, hp, ← Nat.add_mod]
    obtain ⟨a1, a2⟩ := hE _ _ i1 hm
    refine ⟨a1, ?_⟩
    have e1 : b + p + (j + 1) = b + p + j + 1 := by omega
    have e2 : b + (j + 1) = b + j + 1 := by omega
    rw [e1, e2]
    omega
theorem per_many (hE : ∀ k k', E k = E k' → k % c = k' % c → E (k + 1) = E (k' + 1) ∧ C (k + 1) - C k = C (k' + 1) - C k') {b p : Nat} (h : E (b + p) = E b) (hp : (b + p) % c = b % c) (j : Nat) :
    ∀ q : Nat, E (b + (q * p + j)) = E (b + j) ∧ C (b + (q * p + j)) = C (b + j) + (q : Int) * (C (b + p) - C b)
  | 0 => ⟨by rw [Nat.zero_mul, Nat.zero_add], by rw [Nat.zero_mul, Nat.zero_add]; simp⟩
  | q + 1 => by
    obtain ⟨i1, i2⟩ := per_many hE h hp j q
    obtain ⟨a1, a2⟩ := per_one hE h hp (q * p + j)
    have e1 : b + ((q + 1) * p + j) = b + p + (q * p + j) := by rw [Nat.add_mul, Nat.one_mul]; omega
    rw [e1]
    refine ⟨a1.trans i1, ?_⟩
    have e2 : ((q + 1 : Nat) : Int) * (C (b + p) - C b) = (q : Int) * (C (b + p) - C b) + (C (b + p) - C b) := by
      rw [Int.natCast_add, Int.add_mul]; simp
    rw [e2]
    omega
end

/-! ### a strip -/
def lastRow (rows : List Row) : Row := rows.getD (rows.length - 1) ([], [])
/-- finished: the threads closed by one or more rows and the lower rim -/
def fin (e : List Nat) (rows : List Row) : Nat :=
  (pRows e rows.dropLast).2 + (pLevel (pRows e rows.dropLast).1 1 (lastRow rows).1).2 + (pLevel (pLevel (pRows e rows.dropLast).1 1 (lastRow rows).1).1 0 (List.replicate (e.length / 2) 45)).2
/-- the ends at the cut through the last row of squares, and the threads closed above -/
def cut (e : List Nat) (rows : List Row) : List Nat × Nat :=
  ((pLevel (pRows e rows.dropLast).1 1 (lastRow rows).1).1, (pRows e rows.dropLast).2 + (pLevel (pRows e rows.dropLast).1 1 (lastRow rows).1).2)
theorem pPoint_len' (e : List Nat) (l c : Nat) : (pPoint e l c).1.length = e.length := pPoint_len e l c
theorem pLevel_len : ∀ (cs : List Nat) (e : List Nat) (l : Nat), (pLevel e l cs).1.length = e.length
  | [], e, l => rfl
  | c :: cs, e, l => (pLevel_len cs _ _).trans (pPoint_len e l c)
theorem pRow_len (e : List Nat) (r : Row) : (pRow e r).1.length = e.length := (pLevel_len _ _ _).trans (pLevel_len _ _ _)
theorem pRows_len : ∀ (rs : List Row) (e : List Nat), (pRows e rs).1.length = e.length
  | [], e => rfl
  | r :: rs, e => (pRows_len rs _).trans (pRow_len e r)
theorem fin_append (e : List Nat) (rs : List Row) {t : List Row} (ht : t ≠ []) : fin e (rs ++ t) = (pRows e rs).2 + fin (pRows e rs).1 t := by
  have e1 : (rs ++ t).dropLast = rs ++ t.dropLast := List.dropLast_append_of_ne_nil ht
  have e2 : lastRow (rs ++ t) = lastRow t := by
    have h0 : 0 < t.length := List.length_pos_iff.mpr ht
    unfold lastRow
    rw [List.getD_eq_getElem?_getD, List.getD_eq_getElem?_getD, List.length_append, List.getElem?_append_right (by omega)]
    congr 2
    omega
  unfold fin
  rw [e1, e2, pRows_append, pRows_len]
  dsimp only
  omega
theorem cut_append (e : List Nat) (rs : List Row) {t : List Row} (ht : t ≠ []) : cut e (rs ++ t) = ((cut (pRows e rs).1 t).1, (pRows e rs).2 + (cut (pRows e rs).1 t).2) := by
  have e1 : (rs ++ t).dropLast = rs ++ t.dropLast := List.dropLast_append_of_ne_nil ht
  have e2 : lastRow (rs ++ t) = lastRow t := by
    have h0 : 0 < t.length := List.length_pos_iff.mpr ht
    unfold lastRow
    rw [List.getD_eq_getElem?_getD, List.getD_eq_getElem?_getD, List.length_append, List.getElem?_append_right (by omega)]
    congr 2
    omega
  unfold cut
  rw [e1, e2, pRows_append]
  show (_, (pRows e rs).2 + (pRows (pRows e rs).1 t.dropLast).2 + _) = (_, _ + (_ + _))
  rw [Nat.add_assoc]

/-- the rows of a strip: ahead, cycle, end -/
structure Band where
  w : Nat
  ah : List Row
  cy : List Row
  en : List Row
namespace Band
variable (B : Band)
/-- the row r of those ahead and of those that repeat -/
def row (r : Nat) : Row := if r < B.ah.length then B.ah.getD r ([], []) else B.cy.getD ((r - B.ah.length) % B.cy.length) ([], [])
def upto (k : Nat) : List Row := (List.range k).map B.row
def least : Nat := max 1 (B.ah.length + B.en.length)
/-- the rows for a length -/
def rows (n : Nat) : List Row := B.upto (n - B.en.length) ++ B.en
def headLen (n : Nat) : Nat := if B.en.length > 0 then n - B.en.length else n - 1
def lastRows (n : Nat) : List Row := if B.en.length > 0 then B.en else [B.row (n - 1)]
def rim (w : Nat) : List Nat := (List.range (2 * w)).map fun i => if i % 2 = 0 then i + 1 else i - 1
def S (k : Nat) : List Nat × Nat := pRows (rim B.w) (B.upto k)
def number (n : Nat) : Nat := fin (rim B.w) (B.rows n)
def cutv (n : Nat) : List Nat × Nat := cut (rim B.w) (B.rows n)

structure Ok : Prop where
  w0 : 0 < B.w
  w4 : B.w ≤ 4
  a8 : B.ah.length ≤ 8
  c0 : 0 < B.cy.length
  c4 : B.cy.length ≤ 4
  e4 : B.en.length ≤ 4
  ra : ∀ r, r ∈ B.ah → RowOk B.w r
  rc : ∀ r, r ∈ B.cy → RowOk B.w r
  re : ∀ r, r ∈ B.en → RowOk B.w r
end Band
theorem mem_getD {α : Type} {l : List α} {k : Nat} {d : α} (h : k < l.length) : l.getD k d ∈ l := by
  rw [List.getD_eq_getElem?_getD, List.getElem?_eq_getElem h]
  exact List.getElem_mem h
section
variable {B : Band}
theorem Band.Ok.row (O : B.Ok) (r : Nat) : RowOk B.w (B.row r) := by
  unfold Band.row
  split
  · rename_i h; exact O.ra _ (mem_getD h)
  · exact O.rc _ (mem_getD (Nat.mod_lt _ O.c0))
theorem Band.Ok.upto (O : B.Ok) (k : Nat) : ∀ r, r ∈ B.upto k → RowOk B.w r := fun r hr => by
  obtain ⟨i, _, e⟩ := List.mem_map.mp hr
  rw [← e]; exact O.row i
theorem rim_len (w : Nat) : (Band.rim w).length = 2 * w := by unfold Band.rim; simp
theorem rim_get {w i : Nat} (h : i < 2 * w) : (Band.rim w).getD i 0 = if i % 2 = 0 then i + 1 else i - 1 := by
  unfold Band.rim
  rw [List.getD_eq_getElem?_getD, List.getElem?_map, List.getElem?_range h]
  rfl
theorem rim_pairs (w : Nat) : Pairs (2 * w) (Band.rim w) := by
  refine ⟨rim_len w, fun i hi => ?_, fun i hi => ?_, fun i hi => ?_⟩
  · rw [rim_get hi]; split <;> omega
  · have h1 : (if i % 2 = 0 then i + 1 else i - 1) < 2 * w := by split <;> omega
    rw [rim_get hi, rim_get h1]
    by_cases q : i % 2 = 0
    · rw [if_pos q, if_neg (by omega)]; omega
    · rw [if_neg q, if_pos (by omega)]; omega
  · rw [rim_get hi]; split <;> omega
theorem Band.Ok.pairs (O : B.Ok) (k : Nat) : Pairs (2 * B.w) (B.S k).1 := pRows_pairs (rim_pairs B.w) (O.upto k)

theorem upto_add (B : Band) (h k : Nat) : B.upto (h + k) = B.upto h ++ (List.range k).map fun i => B.row (h + i) := by
  unfold Band.upto
  rw [List.range_add, List.map_append, List.map_map]
  rfl
theorem upto_succ (B : Band) (k : Nat) : B.upto (k + 1) = B.upto k ++ [B.row k] := by
  rw [upto_add]; rfl
theorem S_succ (B : Band) (k : Nat) : B.S (k + 1) = ((pRow (B.S k).1 (B.row k)).1, (B.S k).2 + (pRow (B.S k).1 (B.row k)).2) := by
  show pRows (Band.rim B.w) (B.upto (k + 1)) = _
  rw [upto_succ, pRows_append]
  rfl
theorem S_add (B : Band) (h k : Nat) : B.S (h + k) = ((pRows (B.S h).1 ((List.range k).map fun i => B.row (h + i))).1, (B.S h).2 + (pRows (B.S h).1 ((List.range k).map fun i => B.row (h + i))).2) := by
  show pRows (Band.rim B.w) (B.upto (h + k)) = _
  rw [upto_add, pRows_append]
  rfl
theorem row_ahead {r : Nat} (h : r < B.ah.length) : B.row r = B.ah.getD r ([], []) := if_pos h
theorem row_cycle (B : Band) (k : Nat) : B.row (B.ah.length + k) = B.cy.getD (k % B.cy.length) ([], []) := by
  unfold Band.row
  rw [if_neg (by omega)]
  congr 2
  omega
theorem upto_ahead {k : Nat} (h : k ≤ B.ah.length) : B.upto k = B.ah.take k := by
  refine List.ext_getElem? fun i => ?_
  unfold Band.upto
  by_cases hi : i < k
  · rw [List.getElem?_map, List.getElem?_range hi, List.getElem?_take_of_lt hi]
    show some (B.row i) = _
    rw [row_ahead (by omega), List.getD_eq_getElem?_getD, List.getElem?_eq_getElem (by omega)]
    rfl
  · rw [List.getElem?_eq_none (by simp; omega), List.getElem?_eq_none (by simp; omega)]
/-- the step of the state depends on the ends and on the phase alone -/
theorem S_step (B : Band) (k k' : Nat) (h : (B.S (B.ah.length + k)).1 = (B.S (B.ah.length + k')).1) (hp : k % B.cy.length = k' % B.cy.length) :
    (B.S (B.ah.length + (k + 1))).1 = (B.S (B.ah.length + (k' + 1))).1 ∧ ((B.S (B.ah.length + (k + 1))).2 : Int) - (B.S (B.ah.length + k)).2 = ((B.S (B.ah.length + (k' + 1))).2 : Int) - (B.S (B.ah.length + k')).2 := by
  have e1 : B.ah.length + (k + 1) = B.ah.length + k + 1 := rfl
  have e2 : B.ah.length + (k' + 1) = B.ah.length + k' + 1 := rfl
  rw [e1, e2, S_succ, S_succ, row_cycle, row_cycle, h, hp]
  refine ⟨rfl, ?_⟩
  show (((B.S (B.ah.length + k)).2 + _ : Nat) : Int) - _ = (((B.S (B.ah.length + k')).2 + _ : Nat) : Int) - _
  rw [Int.natCast_add, Int.natCast_add]
  omega
theorem S_again (B : Band) {b p : Nat} (h : (B.S (B.ah.length + (b + p))).1 = (B.S (B.ah.length + b)).1) (hp : (b + p) % B.cy.length = b % B.cy.length) (q j : Nat) :
    (B.S (B.ah.length + (b + (q * p + j)))).1 = (B.S (B.ah.length + (b + j))).1 ∧
    ((B.S (B.ah.length + (b + (q * p + j)))).2 : Int) = (B.S (B.ah.length + (b + j))).2 + (q : Int) * ((B.S (B.ah.length + (b + p))).2 - (B.S (B.ah.length + b)).2) :=
  per_many (E := fun k => (B.S (B.ah.length + k)).1) (C := fun k => ((B.S (B.ah.length + k)).2 : Int)) (c := B.cy.length) (fun k k' h1 h2 => S_step B k k' h1 h2) h hp j q

/-! the number and the cut, by any split of the rows -/
theorem number_split {n h : Nat} {t : List Row} (e : B.rows n = B.upto h ++ t) (ht : t ≠ []) : B.number n = (B.S h).2 + fin (B.S h).1 t := by
  unfold Band.number; rw [e, fin_append _ _ ht]; rfl
theorem cutv_split {n h : Nat} {t : List Row} (e : B.rows n = B.upto h ++ t) (ht : t ≠ []) : B.cutv n = ((cut (B.S h).1 t).1, (B.S h).2 + (cut (B.S h).1 t).2) := by
  unfold Band.cutv; rw [e, cut_append _ _ ht]; rfl
theorem last_ne (B : Band) (n : Nat) : B.lastRows n ≠ [] := by
  unfold Band.lastRows
  split
  · rename_i h; intro q; rw [q] at h; exact absurd h (by simp)
  · simp
theorem rows_head {n : Nat} (hn : B.least ≤ n) : B.rows n = B.upto (B.headLen n) ++ B.lastRows n := by
  unfold Band.least at hn
  unfold Band.rows Band.headLen Band.lastRows
  by_cases h : B.en.length > 0
  · rw [if_pos h, if_pos h]
  · have e : B.en = [] := by
      cases q : B.en with
      | nil => rfl
      | cons a r => rw [q] at h; exact absurd (by simp) h
    rw [if_neg h, if_neg h, e]
    have e1 : n - ([] : List Row).length = n - 1 + 1 := by simp; omega
    rw [e1, upto_succ]
    simp
theorem number_head {n : Nat} (hn : B.least ≤ n) : B.number n = (B.S (B.headLen n)).2 + fin (B.S (B.headLen n)).1 (B.lastRows n) := number_split (rows_head hn) (last_ne B n)
theorem cutv_head {n : Nat} (hn : B.least ≤ n) : B.cutv n = ((cut (B.S (B.headLen n)).1 (B.lastRows n)).1, (B.S (B.headLen n)).2 + (cut (B.S (B.headLen n)).1 (B.lastRows n)).2) := cutv_split (rows_head hn) (last_ne B n)
end
end Sand
/-! ## SandWays -/
set_option linter.all false
set_option Elab.async false
namespace Sand
/-! ### all ways to pair the ends, widths 1 to 4 -/
def ways1 : List (List Nat) := [
  [1, 0]]
def ways2 : List (List Nat) := [
  [1, 0, 3, 2], [2, 3, 0, 1], [3, 2, 1, 0]]
def ways3 : List (List Nat) := [
  [1, 0, 3, 2, 5, 4], [1, 0, 4, 5, 2, 3], [1, 0, 5, 4, 3, 2], [2, 3, 0, 1, 5, 4], [2, 4, 0, 5, 1, 3], [2, 5, 0, 4, 3, 1],
  [3, 2, 1, 0, 5, 4], [3, 4, 5, 0, 1, 2], [3, 5, 4, 0, 2, 1], [4, 2, 1, 5, 0, 3], [4, 3, 5, 1, 0, 2], [4, 5, 3, 2, 0, 1],
  [5, 2, 1, 4, 3, 0], [5, 3, 4, 1, 2, 0], [5, 4, 3, 2, 1, 0]]
def ways4 : List (List Nat) := [
  [1, 0, 3, 2, 5, 4, 7, 6], [1, 0, 3, 2, 6, 7, 4, 5], [1, 0, 3, 2, 7, 6, 5, 4], [1, 0, 4, 5, 2, 3, 7, 6], [1, 0, 4, 6, 2, 7, 3, 5], [1, 0, 4, 7, 2, 6, 5, 3],
  [1, 0, 5, 4, 3, 2, 7, 6], [1, 0, 5, 6, 7, 2, 3, 4], [1, 0, 5, 7, 6, 2, 4, 3], [1, 0, 6, 4, 3, 7, 2, 5], [1, 0, 6, 5, 7, 3, 2, 4], [1, 0, 6, 7, 5, 4, 2, 3],
  [1, 0, 7, 4, 3, 6, 5, 2], [1, 0, 7, 5, 6, 3, 4, 2], [1, 0, 7, 6, 5, 4, 3, 2], [2, 3, 0, 1, 5, 4, 7, 6], [2, 3, 0, 1, 6, 7, 4, 5], [2, 3, 0, 1, 7, 6, 5, 4],
  [2, 4, 0, 5, 1, 3, 7, 6], [2, 4, 0, 6, 1, 7, 3, 5], [2, 4, 0, 7, 1, 6, 5, 3], [2, 5, 0, 4, 3, 1, 7, 6], [2, 5, 0, 6, 7, 1, 3, 4], [2, 5, 0, 7, 6, 1, 4, 3],
  [2, 6, 0, 4, 3, 7, 1, 5], [2, 6, 0, 5, 7, 3, 1, 4], [2, 6, 0, 7, 5, 4, 1, 3], [2, 7, 0, 4, 3, 6, 5, 1], [2, 7, 0, 5, 6, 3, 4, 1], [2, 7, 0, 6, 5, 4, 3, 1],
  [3, 2, 1, 0, 5, 4, 7, 6], [3, 2, 1, 0, 6, 7, 4, 5], [3, 2, 1, 0, 7, 6, 5, 4], [3, 4, 5, 0, 1, 2, 7, 6], [3, 4, 6, 0, 1, 7, 2, 5], [3, 4, 7, 0, 1, 6, 5, 2],
  [3, 5, 4, 0, 2, 1, 7, 6], [3, 5, 6, 0, 7, 1, 2, 4], [3, 5, 7, 0, 6, 1, 4, 2], [3, 6, 4, 0, 2, 7, 1, 5], [3, 6, 5, 0, 7, 2, 1, 4], [3, 6, 7, 0, 5, 4, 1, 2],
  [3, 7, 4, 0, 2, 6, 5, 1], [3, 7, 5, 0, 6, 2, 4, 1], [3, 7, 6, 0, 5, 4, 2, 1], [4, 2, 1, 5, 0, 3, 7, 6], [4, 2, 1, 6, 0, 7, 3, 5], [4, 2, 1, 7, 0, 6, 5, 3],
  [4, 3, 5, 1, 0, 2, 7, 6], [4, 3, 6, 1, 0, 7, 2, 5], [4, 3, 7, 1, 0, 6, 5, 2], [4, 5, 3, 2, 0, 1, 7, 6], [4, 5, 6, 7, 0, 1, 2, 3], [4, 5, 7, 6, 0, 1, 3, 2],
  [4, 6, 3, 2, 0, 7, 1, 5], [4, 6, 5, 7, 0, 2, 1, 3], [4, 6, 7, 5, 0, 3, 1, 2], [4, 7, 3, 2, 0, 6, 5, 1], [4, 7, 5, 6, 0, 2, 3, 1], [4, 7, 6, 5, 0, 3, 2, 1],
  [5, 2, 1, 4, 3, 0, 7, 6], [5, 2, 1, 6, 7, 0, 3, 4], [5, 2, 1, 7, 6, 0, 4, 3], [5, 3, 4, 1, 2, 0, 7, 6], [5, 3, 6, 1, 7, 0, 2, 4], [5, 3, 7, 1, 6, 0, 4, 2],
  [5, 4, 3, 2, 1, 0, 7, 6], [5, 4, 6, 7, 1, 0, 2, 3], [5, 4, 7, 6, 1, 0, 3, 2], [5, 6, 3, 2, 7, 0, 1, 4], [5, 6, 4, 7, 2, 0, 1, 3], [5, 6, 7, 4, 3, 0, 1, 2],
  [5, 7, 3, 2, 6, 0, 4, 1], [5, 7, 4, 6, 2, 0, 3, 1], [5, 7, 6, 4, 3, 0, 2, 1], [6, 2, 1, 4, 3, 7, 0, 5], [6, 2, 1, 5, 7, 3, 0, 4], [6, 2, 1, 7, 5, 4, 0, 3],
  [6, 3, 4, 1, 2, 7, 0, 5], [6, 3, 5, 1, 7, 2, 0, 4], [6, 3, 7, 1, 5, 4, 0, 2], [6, 4, 3, 2, 1, 7, 0, 5], [6, 4, 5, 7, 1, 2, 0, 3], [6, 4, 7, 5, 1, 3, 0, 2],
  [6, 5, 3, 2, 7, 1, 0, 4], [6, 5, 4, 7, 2, 1, 0, 3], [6, 5, 7, 4, 3, 1, 0, 2], [6, 7, 3, 2, 5, 4, 0, 1], [6, 7, 4, 5, 2, 3, 0, 1], [6, 7, 5, 4, 3, 2, 0, 1],
  [7, 2, 1, 4, 3, 6, 5, 0], [7, 2, 1, 5, 6, 3, 4, 0], [7, 2, 1, 6, 5, 4, 3, 0], [7, 3, 4, 1, 2, 6, 5, 0], [7, 3, 5, 1, 6, 2, 4, 0], [7, 3, 6, 1, 5, 4, 2, 0],
  [7, 4, 3, 2, 1, 6, 5, 0], [7, 4, 5, 6, 1, 2, 3, 0], [7, 4, 6, 5, 1, 3, 2, 0], [7, 5, 3, 2, 6, 1, 4, 0], [7, 5, 4, 6, 2, 1, 3, 0], [7, 5, 6, 4, 3, 1, 2, 0],
  [7, 6, 3, 2, 5, 4, 1, 0], [7, 6, 4, 5, 2, 3, 1, 0], [7, 6, 5, 4, 3, 2, 1, 0]]
def ways (w : Nat) : List (List Nat) := if w = 1 then ways1 else if w = 2 then ways2 else if w = 3 then ways3 else ways4
theorem ways_len (w : Nat) : (ways w).length ≤ 105 := by
  unfold ways
  split
  · decide
  · split
    · decide
    · split
      · decide
      · decide +kernel
def closedB (A : List (List Nat)) (n : Nat) : Bool := A.all fun e => (List.range (n - 1)).all fun l => ([46, 45, 124] : List Nat).all fun c => A.contains (pPoint e l c).1
theorem closed1 : closedB ways1 2 = true := by decide +kernel
theorem closed2 : closedB ways2 4 = true := by decide +kernel
theorem closed3 : closedB ways3 6 = true := by decide +kernel
theorem closed4 : closedB ways4 8 = true := by decide +kernel
theorem closed_of {A : List (List Nat)} {n : Nat} (h : closedB A n = true) {e : List Nat} (he : e ∈ A) {l c : Nat} (hl : l + 1 < n) (hc : Sign c) : (pPoint e l c).1 ∈ A := by
  have h1 := List.all_eq_true.mp h e he
  have h2 := List.all_eq_true.mp h1 l (List.mem_range.mpr (by omega))
  have h3 := List.all_eq_true.mp h2 c (by rcases hc with rfl | rfl | rfl <;> simp)
  simpa using h3
theorem ways_point {w : Nat} (h0 : 0 < w) (h4 : w ≤ 4) {e : List Nat} (he : e ∈ ways w) {l c : Nat} (hl : l + 1 < 2 * w) (hc : Sign c) : (pPoint e l c).1 ∈ ways w := by
  have : w = 1 ∨ w = 2 ∨ w = 3 ∨ w = 4 := by omega
  rcases this with rfl | rfl | rfl | rfl
  · exact closed_of closed1 he hl hc
  · exact closed_of closed2 he hl hc
  · exact closed_of closed3 he hl hc
  · exact closed_of closed4 he hl hc
theorem ways_rim {w : Nat} (h0 : 0 < w) (h4 : w ≤ 4) : Band.rim w ∈ ways w := by
  have : w = 1 ∨ w = 2 ∨ w = 3 ∨ w = 4 := by omega
  rcases this with rfl | rfl | rfl | rfl <;> decide +kernel
theorem ways_level {w : Nat} (h0 : 0 < w) (h4 : w ≤ 4) : ∀ (cs : List Nat) (e : List Nat) (l : Nat), e ∈ ways w → l + 2 * cs.length ≤ 2 * w → (∀ c, c ∈ cs → Sign c) → (pLevel e l cs).1 ∈ ways w
  | [], e, l, he, _, _ => he
  | c :: cs, e, l, he, hl, hc => by
    have hl : l + 2 * (cs.length + 1) ≤ 2 * w := hl
    exact ways_level h0 h4 cs _ _ (ways_point h0 h4 he (by omega) (hc c List.mem_cons_self)) (by omega) fun d hd => hc d (List.mem_cons_of_mem _ hd)
theorem ways_row {w : Nat} (h0 : 0 < w) (h4 : w ≤ 4) {e : List Nat} {r : Row} (he : e ∈ ways w) (R : RowOk w r) : (pRow e r).1 ∈ ways w := by
  have a := R.l1
  have b := R.l2
  exact ways_level h0 h4 _ _ _ (ways_level h0 h4 _ _ _ he (by omega) R.s1) (by omega) R.s2
theorem ways_rows {w : Nat} (h0 : 0 < w) (h4 : w ≤ 4) : ∀ (rs : List Row) (e : List Nat), e ∈ ways w → (∀ r, r ∈ rs → RowOk w r) → (pRows e rs).1 ∈ ways w
  | [], e, he, _ => he
  | r :: rs, e, he, hr => ways_rows h0 h4 rs _ (ways_row h0 h4 he (hr r List.mem_cons_self)) fun s hs => hr s (List.mem_cons_of_mem _ hs)
theorem Band.Ok.ways {B : Band} (O : B.Ok) (k : Nat) : (B.S k).1 ∈ Sand.ways B.w := ways_rows O.w0 O.w4 _ _ (ways_rim O.w0 O.w4) (O.upto k)

/-- so many unlike keys there are at most -/
theorem pigeon {A : List (List Nat)} {c K : Nat} {E : Nat → List Nat} (hA : ∀ k, k < K → E k ∈ A) (hc : 0 < c) (h : ∀ i j, i < j → j < K → ¬ (E i = E j ∧ i % c = j % c)) : K ≤ A.length * c := by
  have nd : ((List.range K).map fun k => (E k, k % c)).Nodup := by
    rw [List.nodup_iff_pairwise_ne, List.pairwise_map]
    refine List.Pairwise.imp_of_mem ?_ List.pairwise_lt_range
    intro a b ha hb hab e
    injection e with e1 e2
    exact h a b hab (List.mem_range.mp hb) ⟨e1, e2⟩
  have sub := nodup_le (L := A.flatMap fun e => (List.range c).map fun k => (e, k)) nd (fun x hx => by
    obtain ⟨k, hk, e⟩ := List.mem_map.mp hx
    subst e
    exact List.mem_flatMap.mpr ⟨E k, hA k (List.mem_range.mp hk), List.mem_map.mpr ⟨k % c, List.mem_range.mpr (Nat.mod_lt _ hc), rfl⟩⟩)
  have len : ∀ A : List (List Nat), (A.flatMap fun e => (List.range c).map fun k => (e, k)).length = A.length * c := by
    intro A
    induction A with
    | nil => simp
    | cons a A ih => rw [List.flatMap_cons, List.length_append, ih]; simp [Nat.add_mul]; omega
  rw [len] at sub
  simpa using sub
theorem Band.Ok.pigeon {B : Band} (O : B.Ok) {K : Nat} (h : ∀ i j, i < j → j < K → ¬ ((B.S (B.ah.length + i)).1 = (B.S (B.ah.length + j)).1 ∧ i % B.cy.length = j % B.cy.length)) : K ≤ 420 := by
  have a := Sand.pigeon (A := Sand.ways B.w) (c := B.cy.length) (E := fun i => (B.S (B.ah.length + i)).1) (fun k _ => O.ways _) O.c0 h
  have b := ways_len B.w
  have c := O.c4
  have := Nat.mul_le_mul b c
  omega

/-! ### bounds -/
theorem pLevel_le : ∀ (cs : List Nat) (e : List Nat) (l : Nat), (pLevel e l cs).2 ≤ cs.length
  | [], e, l => Nat.le_refl _
  | c :: cs, e, l => by
    have a := pPoint_le e l c
    have b := pLevel_le cs (pPoint e l c).1 (l + 2)
    show (pPoint e l c).2 + (pLevel (pPoint e l c).1 (l + 2) cs).2 ≤ cs.length + 1
    omega
theorem pRow_le {w : Nat} (h4 : w ≤ 4) {r : Row} (R : RowOk w r) (e : List Nat) : (pRow e r).2 ≤ 7 := by
  have a := pLevel_le r.1 e 1
  have b := pLevel_le r.2 (pLevel e 1 r.1).1 0
  have c := R.l1
  have d := R.l2
  show (pLevel e 1 r.1).2 + (pLevel (pLevel e 1 r.1).1 0 r.2).2 ≤ 7
  omega
theorem pRows_le {w : Nat} (h4 : w ≤ 4) : ∀ (rs : List Row) (e : List Nat), (∀ r, r ∈ rs → RowOk w r) → (pRows e rs).2 ≤ 7 * rs.length
  | [], e, _ => Nat.le_refl _
  | r :: rs, e, hr => by
    have a := pRow_le h4 (hr r List.mem_cons_self) e
    have b := pRows_le h4 rs (pRow e r).1 fun s hs => hr s (List.mem_cons_of_mem _ hs)
    show (pRow e r).2 + (pRows (pRow e r).1 rs).2 ≤ 7 * (rs.length + 1)
    omega
theorem lastRow_mem {t : List Row} (ht : t ≠ []) : lastRow t ∈ t := by
  unfold lastRow
  have : 0 < t.length := List.length_pos_iff.mpr ht
  exact mem_getD (by omega)
theorem fin_le {w : Nat} (h4 : w ≤ 4) {rs : List Row} (hn : rs ≠ []) {e : List Nat} (he : e.length = 2 * w) (hr : ∀ r, r ∈ rs → RowOk w r) : fin e rs ≤ 7 * rs.length := by
  have a := pRows_le h4 rs.dropLast e fun r h => hr r ((List.dropLast_sublist rs).subset h)
  have b := pLevel_le (lastRow rs).1 (pRows e rs.dropLast).1 1
  have c := pLevel_le (List.replicate (e.length / 2) 45) (pLevel (pRows e rs.dropLast).1 1 (lastRow rs).1).1 0
  have d := (hr _ (lastRow_mem hn)).l1
  have h0 : 0 < rs.length := List.length_pos_iff.mpr hn
  rw [List.length_dropLast] at a
  rw [List.length_replicate] at c
  unfold fin
  omega
theorem Band.Ok.S_le {B : Band} (O : B.Ok) (k : Nat) : (B.S k).2 ≤ 7 * k := by
  have := pRows_le O.w4 (B.upto k) (Band.rim B.w) (O.upto k)
  have e : (B.upto k).length = k := by unfold Band.upto; simp
  rw [e] at this
  exact this
theorem Band.Ok.last {B : Band} (O : B.Ok) (n : Nat) : ∀ r, r ∈ B.lastRows n → RowOk B.w r := fun r hr => by
  unfold Band.lastRows at hr
  split at hr
  · exact O.re r hr
  · rw [List.mem_singleton] at hr; rw [hr]; exact O.row _
theorem Band.Ok.number_le {B : Band} (O : B.Ok) {n : Nat} (hn : B.least ≤ n) : B.number n ≤ 7 * n := by
  rw [number_head hn]
  have a := O.S_le (B.headLen n)
  have b := fin_le O.w4 (last_ne B n) (e := (B.S (B.headLen n)).1) (O.pairs _).len (O.last n)
  have c : B.headLen n + (B.lastRows n).length = n := by
    unfold Band.least at hn
    unfold Band.headLen Band.lastRows
    split
    · omega
    · simp; omega
  omega
end Sand
/-! ## SandCourse -/
set_option linter.all false
set_option Elab.async false
namespace Sand

/-! ### courses: numbers for all lengths, told by finitely many -/
def tailNum (tail : List Int) (more : Int) (k : Nat) : Int := tail.getD (k % tail.length) 0 + ((k / tail.length : Nat) : Int) * more
/-- what least_every hands back -/
def LeOk (tail : List Int) (more : Int) (ev : Nat) (rise : Int) : Prop :=
  1 ≤ ev ∧ ev ≤ tail.length ∧ ∀ k, k < tail.length → tailNum tail more (k + ev) = tail.getD k 0 + rise
/-- what fewest_numbers hands back: the first count numbers -/
def FewOk (nums : List Int) (ev : Nat) (rise : Int) (count : Nat) : Prop :=
  ev ≤ count ∧ count ≤ nums.length ∧ ∀ j, count ≤ j → j < nums.length → nums.getD j 0 = nums.getD (j - ev) 0 + rise
/-- a course tells the numbers f -/
structure Tells (told : List Int) (period : Nat) (rise : Int) (f : Nat → Int) : Prop where
  p0 : 1 ≤ period
  p1 : period ≤ told.length
  num : ∀ k, k < told.length → told.getD k 0 = f k
  go : ∀ k, told.length - period ≤ k → f (k + period) = f k + rise

theorem go_many {f : Nat → Int} {b p : Nat} {m : Int} (h : ∀ k, b ≤ k → f (k + p) = f k + m) (r : Nat) (hr : b ≤ r) : ∀ q : Nat, f (r + q * p) = f r + (q : Int) * m
  | 0 => by simp
  | q + 1 => by
    have e : r + (q + 1) * p = r + q * p + p := by rw [Nat.add_mul]; omega
    rw [e, h _ (by omega), go_many h r hr q, Int.natCast_add, Int.add_mul]
    simp; omega
theorem Tells.at {told : List Int} {period : Nat} {rise : Int} {f : Nat → Int} (T : Tells told period rise f) {k : Nat} (hk : told.length ≤ k) :
    tailNum (told.drop (told.length - period)) rise (k - told.length + period) = f k := by
  have p0 := T.p0
  have p1 := T.p1
  have el : (told.drop (told.length - period)).length = period := by rw [List.length_drop]; omega
  unfold tailNum
  rw [el]
  have hm := Nat.mod_lt (k - told.length + period) p0
  have hd := Nat.div_add_mod (k - told.length + period) period
  generalize (k - told.length + period) % period = r at *
  generalize (k - told.length + period) / period = q at *
  have e1 : (told.drop (told.length - period)).getD r 0 = told.getD (told.length - period + r) 0 := by
    rw [List.getD_eq_getElem?_getD, List.getD_eq_getElem?_getD, List.getElem?_drop]
  rw [e1, T.num _ (by omega), ← go_many T.go (told.length - period + r) (by omega) q]
  congr 1
  rw [Nat.mul_comm]; omega
/-- the numbers as they were found, told anew with the least every and the fewest numbers -/
theorem tells_mk {nums : List Int} {p : Nat} {more : Int} {f : Nat → Int} (hp0 : 1 ≤ p) (hp1 : p ≤ nums.length) (num : ∀ k, k < nums.length → nums.getD k 0 = f k) (go : ∀ k, nums.length - p ≤ k → f (k + p) = f k + more)
    {ev : Nat} {rise : Int} (L : LeOk (nums.drop (nums.length - p)) more ev rise) {count : Nat} (F : FewOk nums ev rise count) : Tells (nums.take count) ev rise f := by
  obtain ⟨l1, l2, l3⟩ := L
  obtain ⟨f1, f2, f3⟩ := F
  have el : (nums.drop (nums.length - p)).length = p := by rw [List.length_drop]; omega
  rw [el] at l2 l3
  have tl : (nums.take count).length = count := by rw [List.length_take]; omega
  -- the tail's numbers
  have tn : ∀ k, tailNum (nums.drop (nums.length - p)) more k = f (nums.length - p + k) := fun k => by
    unfold tailNum
    rw [el]
    have hm := Nat.mod_lt k hp0
    have hd := Nat.div_add_mod k p
    generalize k % p = r at *
    generalize k / p = q at *
    have e1 : (nums.drop (nums.length - p)).getD r 0 = nums.getD (nums.length - p + r) 0 := by
      rw [List.getD_eq_getElem?_getD, List.getD_eq_getElem?_getD, List.getElem?_drop]
    rw [e1, num _ (by omega), ← go_many go (nums.length - p + r) (by omega) q]
    congr 1
    rw [Nat.mul_comm] at hd; omega
  have g1 : ∀ k, k < p → f (nums.length - p + k + ev) = f (nums.length - p + k) + rise := fun k hk => by
    have := l3 k hk
    rw [tn] at this
    have e1 : (nums.drop (nums.length - p)).getD k 0 = nums.getD (nums.length - p + k) 0 := by
      rw [List.getD_eq_getElem?_getD, List.getD_eq_getElem?_getD, List.getElem?_drop]
    rw [e1, num _ (by omega)] at this
    rw [← this, Nat.add_assoc]
  have g2 : ∀ k, nums.length - p ≤ k → f (k + ev) = f k + rise := fun k hk => by
    have hm := Nat.mod_lt (k - (nums.length - p)) hp0
    have hd := Nat.div_add_mod (k - (nums.length - p)) p
    generalize (k - (nums.length - p)) % p = r at *
    generalize (k - (nums.length - p)) / p = q at *
    rw [Nat.mul_comm] at hd
    have e1 : k = nums.length - p + r + q * p := by omega
    have e2 : k + ev = nums.length - p + r + ev + q * p := by omega
    rw [e2, go_many go _ (by omega) q, g1 r hm]
    rw [e1, go_many go _ (by omega) q]
    omega
  refine ⟨l1, by rw [tl]; exact f1, fun k hk => ?_, fun k hk => ?_⟩
  · rw [tl] at hk
    have : (nums.take count).getD k 0 = nums.getD k 0 := by
      rw [List.getD_eq_getElem?_getD, List.getD_eq_getElem?_getD, List.getElem?_take_of_lt hk]
    rw [this, num k (by omega)]
  · rw [tl] at hk
    by_cases a : nums.length - p ≤ k
    · exact g2 k a
    · -- the numbers that were left out
      have hke : k + ev < nums.length := by omega
      have := f3 (k + ev) (by omega) hke
      rw [num _ hke] at this
      have e1 : k + ev - ev = k := by omega
      rw [e1, num k (by omega)] at this
      exact this

/-! ### the strip's own course -/
section
variable {B : Band}
theorem headLen_le (B : Band) {n : Nat} (hn : B.least ≤ n) : B.headLen n + (B.lastRows n).length = n := by
  unfold Band.least at hn
  unfold Band.headLen Band.lastRows
  split
  · omega
  · simp; omega
theorem headLen_succ {n : Nat} (hn : B.least ≤ n) : B.headLen (n + 1) = B.headLen n + 1 := by
  unfold Band.least at hn
  unfold Band.headLen
  split <;> omega
/-- so long as the ends and the phase are alike, the last rows are -/
theorem lastRows_again {n n' : Nat} (hn : B.least ≤ n) (hn' : B.least ≤ n') (h1 : B.ah.length ≤ B.headLen n) (h2 : B.ah.length ≤ B.headLen n') (hp : (B.headLen n - B.ah.length) % B.cy.length = (B.headLen n' - B.ah.length) % B.cy.length) :
    B.lastRows n = B.lastRows n' := by
  unfold Band.least at hn hn'
  unfold Band.lastRows
  unfold Band.headLen at h1 h2 hp
  by_cases h : B.en.length > 0
  · rw [if_pos h, if_pos h]
  · rw [if_neg h] at h1 h2
    rw [if_neg h, if_neg h] at hp
    rw [if_neg h, if_neg h]
    have a1 : n - 1 = B.ah.length + (n - 1 - B.ah.length) := by omega
    have a2 : n' - 1 = B.ah.length + (n' - 1 - B.ah.length) := by omega
    rw [a1, a2, row_cycle, row_cycle, hp]
/-- when a key comes for the second time, the numbers go on as they did -/
theorem course_go (B : Band) {b p : Nat} (hb : B.least ≤ b) (ha : B.ah.length ≤ B.headLen b) (hE : (B.S (B.headLen (b + p))).1 = (B.S (B.headLen b)).1) (hp : (B.headLen (b + p) - B.ah.length) % B.cy.length = (B.headLen b - B.ah.length) % B.cy.length) (k : Nat) (hk : b ≤ k) :
    (B.number (k + p) : Int) = B.number k + ((B.S (B.headLen (b + p))).2 - (B.S (B.headLen b)).2) := by
  have hl : ∀ j, B.headLen (b + j) = B.headLen b + j := fun j => by
    induction j with
    | zero => rfl
    | succ j ih =>
      have : b + (j + 1) = b + j + 1 := rfl
      rw [this, headLen_succ (by omega), ih]
      omega
  obtain ⟨b', hb'⟩ : ∃ b', B.headLen b = B.ah.length + b' := ⟨B.headLen b - B.ah.length, by omega⟩
  obtain ⟨j, rfl⟩ : ∃ j, k = b + j := ⟨k - b, by omega⟩
  have e1 : B.headLen (b + p) = B.ah.length + (b' + p) := by rw [hl, hb']; omega
  have e2 : B.headLen (b + j) = B.ah.length + (b' + j) := by rw [hl, hb']; omega
  have e3 : b + j + p = b + (p + j) := by omega
  have e4 : B.headLen (b + (p + j)) = B.ah.length + (b' + (1 * p + j)) := by rw [hl, hb']; omega
  rw [hb', e1] at hE hp
  have hp' : (b' + p) % B.cy.length = b' % B.cy.length := by
    have x1 : B.ah.length + (b' + p) - B.ah.length = b' + p := by omega
    have x2 : B.ah.length + b' - B.ah.length = b' := by omega
    rw [x1, x2] at hp; exact hp
  obtain ⟨a1, a2⟩ := S_again B hE hp' 1 j
  have hp2 : (B.headLen (b + (p + j)) - B.ah.length) % B.cy.length = (B.headLen (b + j) - B.ah.length) % B.cy.length := by
    rw [e4, e2]
    have x1 : B.ah.length + (b' + (1 * p + j)) - B.ah.length = b' + p + j := by omega
    have x2 : B.ah.length + (b' + j) - B.ah.length = b' + j := by omega
    rw [x1, x2, Nat.add_mod, hp', ← Nat.add_mod]
  rw [e3, number_head (by omega), number_head (by omega), lastRows_again (n := b + (p + j)) (n' := b + j) (by omega) (by omega) (by rw [e4]; omega) (by rw [e2]; omega) hp2, e4, a1, e2, hb', e1]
  rw [Int.natCast_add, Int.natCast_add, a2]
  omega

/-! ### the law's own way to the number: the entries of the paper -/
/-- the ends behind the rows ahead and k rounds of the cycle -/
def Band.H (B : Band) (k : Nat) : List Nat × Nat := B.S (B.ah.length + k * B.cy.length)
theorem upto_round (B : Band) (k : Nat) {j : Nat} (hj : j ≤ B.cy.length) : B.upto (B.ah.length + k * B.cy.length + j) = B.upto (B.ah.length + k * B.cy.length) ++ B.cy.take j := by
  rw [upto_add]
  congr 1
  refine List.ext_getElem? fun i => ?_
  by_cases hi : i < j
  · rw [List.getElem?_map, List.getElem?_range hi, List.getElem?_take_of_lt hi]
    show some (B.row (B.ah.length + k * B.cy.length + i)) = _
    rw [Nat.add_assoc, row_cycle]
    have : (k * B.cy.length + i) % B.cy.length = i := by
      rw [Nat.add_comm, Nat.add_mul_mod_self_right]; exact Nat.mod_eq_of_lt (by omega)
    rw [this, List.getD_eq_getElem?_getD, List.getElem?_eq_getElem (by omega)]
    rfl
  · rw [List.getElem?_eq_none (by simp; omega), List.getElem?_eq_none (by simp; omega)]
theorem H_zero (B : Band) : B.H 0 = pRows (Band.rim B.w) B.ah := by
  unfold Band.H
  rw [Nat.zero_mul]
  show pRows (Band.rim B.w) (B.upto (B.ah.length + 0)) = _
  rw [Nat.add_zero, upto_ahead (Nat.le_refl _), List.take_length]
theorem H_succ (B : Band) (k : Nat) : B.H (k + 1) = ((pRows (B.H k).1 B.cy).1, (B.H k).2 + (pRows (B.H k).1 B.cy).2) := by
  have e : B.ah.length + (k + 1) * B.cy.length = B.ah.length + k * B.cy.length + B.cy.length := by rw [Nat.add_mul]; omega
  unfold Band.H
  rw [e]
  show pRows (Band.rim B.w) (B.upto _) = _
  rw [upto_round B k (Nat.le_refl _), List.take_length, pRows_append]
  rfl
theorem H_again (B : Band) {b p : Nat} (h : (B.H (b + p)).1 = (B.H b).1) (q j : Nat) :
    (B.H (b + (q * p + j))).1 = (B.H (b + j)).1 ∧ ((B.H (b + (q * p + j))).2 : Int) = (B.H (b + j)).2 + (q : Int) * ((B.H (b + p)).2 - (B.H b).2) :=
  per_many (E := fun k => (B.H k).1) (C := fun k => ((B.H k).2 : Int)) (c := 1) (fun k k' h1 _ => by
    show (B.H (k + 1)).1 = (B.H (k' + 1)).1 ∧ ((B.H (k + 1)).2 : Int) - (B.H k).2 = ((B.H (k' + 1)).2 : Int) - (B.H k').2
    have h1 : (B.H k).1 = (B.H k').1 := h1
    rw [H_succ, H_succ, h1]
    refine ⟨rfl, ?_⟩
    show (((B.H k).2 + _ : Nat) : Int) - _ = (((B.H k').2 + _ : Nat) : Int) - _
    rw [Int.natCast_add, Int.natCast_add]
    omega) h (by rw [Nat.mod_one, Nat.mod_one]) j q
def Band.body (B : Band) (n : Nat) : Nat := n - B.ah.length - B.en.length
theorem rows_round {n : Nat} (hn : B.least ≤ n) (hc : 0 < B.cy.length) : B.rows n = B.upto (B.ah.length + B.body n / B.cy.length * B.cy.length) ++ (B.cy.take (B.body n - B.body n / B.cy.length * B.cy.length) ++ B.en) := by
  unfold Band.least at hn
  have hm := Nat.mod_lt (B.body n) hc
  have hd := Nat.div_add_mod (B.body n) B.cy.length
  rw [Nat.mul_comm] at hd
  have e1 : B.body n - B.body n / B.cy.length * B.cy.length = B.body n % B.cy.length := by omega
  rw [e1, ← List.append_assoc, ← upto_round B _ (Nat.le_of_lt hm)]
  unfold Band.rows
  congr 2
  unfold Band.body at hd ⊢
  omega
/-- the law's split of the rows: whole rounds, and what comes behind them -/
theorem due_tail {n : Nat} (hn : B.least ≤ n) (hc : 0 < B.cy.length) (h : B.cy.take (B.body n - B.body n / B.cy.length * B.cy.length) ++ B.en ≠ []) :
    B.number n = (B.H (B.body n / B.cy.length)).2 + fin (B.H (B.body n / B.cy.length)).1 (B.cy.take (B.body n - B.body n / B.cy.length * B.cy.length) ++ B.en) ∧
    B.cutv n = ((cut (B.H (B.body n / B.cy.length)).1 (B.cy.take (B.body n - B.body n / B.cy.length * B.cy.length) ++ B.en)).1, (B.H (B.body n / B.cy.length)).2 + (cut (B.H (B.body n / B.cy.length)).1 (B.cy.take (B.body n - B.body n / B.cy.length * B.cy.length) ++ B.en)).2) :=
  ⟨number_split (rows_round hn hc) h, cutv_split (rows_round hn hc) h⟩
theorem due_round {n : Nat} (hn : B.least ≤ n) (hc : 0 < B.cy.length) (h : B.cy.take (B.body n - B.body n / B.cy.length * B.cy.length) ++ B.en = []) (hr : 0 < B.body n / B.cy.length) :
    B.number n = (B.H (B.body n / B.cy.length - 1)).2 + fin (B.H (B.body n / B.cy.length - 1)).1 B.cy ∧
    B.cutv n = ((cut (B.H (B.body n / B.cy.length - 1)).1 B.cy).1, (B.H (B.body n / B.cy.length - 1)).2 + (cut (B.H (B.body n / B.cy.length - 1)).1 B.cy).2) := by
  have e := rows_round hn hc
  rw [h, List.append_nil] at e
  generalize B.body n / B.cy.length = q at *
  have e1 : B.ah.length + q * B.cy.length = B.ah.length + (q - 1) * B.cy.length + B.cy.length := by
    obtain ⟨z, rfl⟩ : ∃ z, q = z + 1 := ⟨q - 1, by omega⟩
    rw [Nat.add_mul]; simp; omega
  rw [e1, upto_round B _ (Nat.le_refl _), List.take_length] at e
  have hne : B.cy ≠ [] := fun z => by rw [z] at hc; exact absurd hc (by simp)
  exact ⟨number_split e hne, cutv_split e hne⟩
theorem due_ahead {n : Nat} (hn : B.least ≤ n) (hc : 0 < B.cy.length) (h : B.cy.take (B.body n - B.body n / B.cy.length * B.cy.length) ++ B.en = []) (hr : B.body n / B.cy.length = 0) :
    B.ah ≠ [] ∧ B.number n = fin (Band.rim B.w) B.ah ∧ B.cutv n = cut (Band.rim B.w) B.ah := by
  have e := rows_round hn hc
  have hb : B.body n < B.cy.length := by
    by_cases q : B.body n < B.cy.length
    · exact q
    · have := Nat.div_pos (Nat.le_of_not_lt q) hc; omega
  rw [h, List.append_nil, hr, Nat.zero_mul, Nat.add_zero, upto_ahead (Nat.le_refl _), List.take_length] at e
  rw [hr, Nat.zero_mul] at h
  have h2 := List.append_eq_nil_iff.mp h
  have h3 : (B.cy.take (B.body n - 0)).length = 0 := by rw [h2.1]; rfl
  rw [List.length_take] at h3
  have hen : B.en.length = 0 := by rw [h2.2]; rfl
  unfold Band.least at hn
  unfold Band.body at h3 hb
  have ha : B.ah ≠ [] := fun z => by
    have hal : B.ah.length = 0 := by rw [z]; rfl
    omega
  exact ⟨ha, by unfold Band.number; rw [e], by unfold Band.cutv; rw [e]⟩
end
end Sand
/-! ## SandRules -/
set_option Elab.async false
set_option linter.all false
set_option maxRecDepth 100000
set_option maxHeartbeats 4000000
namespace L2
open PySem PySem.Spec PyProof.Rows

/-! ### enumerate of a text -/
/-- a text at each turn: the number and the sign in a new pair -/
def Ites (x : Str) : It := ⟨fun i _ => i < x.cps.size, fun i H v H' => ∃ T c, v = .ref T ∧ H T = none ∧ H' = upd H T (.tup [.int (i : Nat), .str ⟨#[c]⟩]) ∧ x.cps[i]? = some c, fun i _ => i = x.cps.size⟩
theorem turn_enumS {P : Program} {w : World} {K : PySem.W.Frag} {elts : List Expr} {kk : Nat} {tpos : Pos} (x : Str) (t : Tok) (e it : Addr) :
    Turn P w K (.Tuple elts kk tpos) (Ites x) [e, it] e (fun i h => (∃ old, IsEnum h e it (0 + (i : Int)) old) ∧ h.IsStrIter it (strIterType x) x t i ∧ e ≠ it) where
  mem := by simp
  obj := fun i h st b hb => by
    obtain ⟨⟨old, he⟩, ⟨o, ho, hc, hd⟩, _⟩ := st
    have e' : b = e ∨ b = it := by simpa using hb
    rcases e' with z | z
    · rw [z]; exact ⟨_, he, fun v q => nomatch q⟩
    · rw [z]; exact ⟨o, ho, fun v q => by rw [hd] at q; cases q⟩
  keep := fun i h h' st k => by
    obtain ⟨⟨old, he⟩, ⟨o, ho, r⟩, hne⟩ := st
    exact ⟨⟨old, k e (by simp) _ he⟩, ⟨o, k it (by simp) _ ho, r⟩, hne⟩
  item := by
    intro X hP hw hK hc i pins s σ H E I hf st hg
    subst hP hw hK
    obtain ⟨he, hit, hne⟩ := st
    have hh : X.A.in1.handled = none := I.ok.hd hc
    have W := WalksT.enumFrom (prog := X.prog) (w := X.w) (A := X.A) 0 (Draws.text hh it x t) e hne (by simpa using hne) (by simp)
    refine W.item i s _ _ hg ⟨he, hit⟩ fun T vals h' tk hP hle hT mid hk => ?_
    refine ⟨.ref T, rfl, W.go elts kk tpos i T _ _ _ mid fun h'' st' hk' => ?_⟩
    obtain ⟨t', v, ⟨c, u, hc1, rfl⟩, rfl⟩ := hP
    have hap := W.apart i T h' mid
    obtain ⟨o, ho, ho1, nn, ho2⟩ := hT
    have new : ObjOk X.prog X.w (upd H T (.tup [.int (i : Nat), .str ⟨#[c]⟩])) h'' T (.tup [.int (i : Nat), .str ⟨#[c]⟩]) :=
      ⟨by show 2 ≤ sizeLine; decide, [.int (0 + (i : Int)) t', .str ⟨#[c]⟩ u], .cons ⟨t', by rw [Int.zero_add]⟩ (.cons ⟨u, rfl⟩ .nil), ⟨o, hk' T o hap ho, ho1, nn, ho2⟩⟩
    have I1 : Inv X pins σ (upd H T (.tup [.int (i : Nat), .str ⟨#[c]⟩])) { s with heap := h'', toks := tk } :=
      I.turnedNew (ch := [e, it]) (fun b ob hb q => hk' b ob hb (hk b ob hb q)) hf hle new
    refine ⟨.ref T, _, I1, rfl, ⟨T, c, rfl, I.hok.fresh hle, rfl, hc1⟩, ⟨st'.1, st'.2, hne⟩, fun b hb => ?_⟩
    have hb' : b ≠ T := fun z => hap (z ▸ hb)
    rw [upd_ne hb']
    exact (hf b hb).1
  done := by
    intro X hP hw hK hc i pins s σ H E I hf st hg
    subst hP hw hK
    obtain ⟨he, hit, hne⟩ := st
    have hh : X.A.in1.handled = none := I.ok.hd hc
    have W := WalksT.enumFrom (prog := X.prog) (w := X.w) (A := X.A) 0 (Draws.text hh it x t) e hne (by simpa using hne) (by simp)
    have hg : i = x.cps.size := hg
    subst hg
    refine W.done s _ _ ⟨he, hit⟩ fun h' tk hk => ⟨rfl, ?_⟩
    have nit : ∀ b u, H b = some u → b ∉ [e, it] := fun b u q z => by
      have := (hf b z).1
      rw [this] at q; cases q
    refine I.step (g' := s.gens) (d' := s.drawn) (ch := [e, it]) (fun b hb => ⟨(hf b hb).2.2.2.1, (hf b hb).2.1, (hf b hb).2.2.2.2.1, (hf b hb).2.2.2.2.2⟩) (fun b o _ _ hc e _ => hk b o hc e) (fun b o _ _ hc e _ => ⟨o.slots, hk b o hc e⟩)
      (fun _ _ _ _ n => n) (fun b o hc e => ⟨o, hk b o hc e⟩) (fun _ _ q => q) (fun _ _ _ q => q) (fun b ps q => ⟨#[], by rw [q]; simp⟩) (fun m hm => ?_) (fun b u q => ?_) I.bare
    · obtain ⟨o, es, ep, ho, r⟩ := hm
      exact ⟨o, es, ep, hk _ o (fun z => (hf _ z).2.1 rfl) ho, r⟩
    · refine (I.hok b u q).stay (fun c v hc r => ?_) (fun _ q => q) (fun _ _ q => q)
      rcases hc with rfl | hc
      · exact hk c v (nit c _ q) r
      · exact hk c v (nit c _ hc) r
  self := fun A i s Q E st h => by
    obtain ⟨⟨old, he⟩, _⟩ := st
    exact wpAny_pyIter_enum he h
def iEnumS (ta : TA) : TI := fun σ H R => ta σ H fun vs H1 => ∃ x, vs = [.str x] ∧ R (Ites x) H1
theorem pi_enumS {X : Cx} {e : Expr} {ta : TA} {p pos tpos : Pos} {elts : List Expr} {kk : Nat} (hg : Gl X "enumerate") (hm : X.mg "enumerate" = none) (ha : PA X [e] ta) (hs : starEach [e] X.env = [(false, eval e X.env)] := by rfl) :
    PI X (.Tuple elts kk tpos) (.Call (.Name "enumerate" p) [e] [] pos) (iEnumS ta) := by
  refine ⟨fun pins s σ H R I h => ?_⟩
  refine Call_ (ld_blt I hg hm boot_enumerate (PyProof.Rows.callWith_type1 (thn (ha.run pos pins s σ H _ I h) fun us s1 ⟨vs, H1, I1, r1, q1⟩ => ?_) hs rfl))
  obtain ⟨x, ex, q⟩ := q1
  subst ex
  cases r1 with
  | cons r rr =>
    cases rr
    obtain ⟨t, rfl⟩ := r
    refine call_enumerate_str fun h' he hit hsz hk => wpAny_pyIter_enum he ?_
    have I2 : Inv X pins σ H1 { s1 with heap := h' } := I1.kept (t' := s1.toks) hk
    refine ⟨s1.heap.objs.size + 1, [s1.heap.objs.size + 1, s1.heap.objs.size], _, _, H1, rfl, I2, turn_enumS x t (s1.heap.objs.size + 1) s1.heap.objs.size, ⟨⟨.none, he⟩, hit, Nat.succ_ne_self _⟩, fun b hb => ?_, q⟩
    have e' : b = s1.heap.objs.size + 1 ∨ b = s1.heap.objs.size := by simpa using hb
    have hle : s1.heap.objs.size ≤ b := by
      rcases e' with z | z
      · rw [z]; exact Nat.le_add_right _ _
      · rw [z]; exact Nat.le_refl _
    exact I1.fpOk hle (I1.hok.fresh hle)
theorem walk_enumS {x : Str} : Walk (Ites x) x.cps.size (fun _ => True) (fun i H v H' => ∃ T c, v = .ref T ∧ H T = none ∧ H' = upd H T (.tup [.int (i : Nat), .str ⟨#[c]⟩]) ∧ x.cps[i]? = some c) :=
  ⟨fun _ _ hi _ => hi, fun _ _ => rfl, fun _ _ _ _ _ _ y => y⟩

/-! ### text * int -/
/-- the text z, i times -/
def repS (z : Str) (i : Int) : Str := ⟨(List.replicate i.toNat z.cps.toList).flatten.toArray⟩
theorem rep_cps (a : Array Nat) : ∀ (n : Nat) (acc : Array Nat), ((List.replicate n a).foldl (· ++ ·) acc).toList = acc.toList ++ (List.replicate n a.toList).flatten
  | 0, acc => by simp
  | n + 1, acc => by
    rw [List.replicate_succ, List.foldl_cons, rep_cps a n, List.replicate_succ, List.flatten_cons, Array.toList_append, List.append_assoc]
theorem rep_is (z : Str) (i : Int) (h0 : 0 ≤ i) : PySem.Txt.mul z i = repS z i := by
  have key : repS z i = ⟨(List.replicate i.toNat z.cps).foldl (· ++ ·) #[]⟩ := by
    unfold repS
    congr 1
    apply Array.toList_inj.mp
    rw [rep_cps]
    simp
  unfold PySem.Txt.mul
  by_cases h2 : i < 1
  · rw [if_pos h2]
    have e0 : i.toNat = 0 := by omega
    unfold repS
    rw [e0]; rfl
  · rw [if_neg h2]
    by_cases h3 : (i == 1 || z.length == 0) = true
    · rw [if_pos h3]
      rw [Bool.or_eq_true] at h3
      unfold repS
      rcases h3 with h3 | h3
      · have : i = 1 := by simpa using h3
        subst this
        simp
      · have h3 : z.cps.size = 0 := (beq_iff_eq.mp h3 : z.length = 0)
        have : z.cps = #[] := Array.eq_empty_of_size_eq_zero h3
        cases z with
        | mk c =>
          have this : c = #[] := this
          subst this
          simp
    · rw [if_neg h3, key]
theorem mulOk_of {z : Str} {i : Int} (h0 : 0 ≤ i) (h1 : i ≤ 1000) (hz : z.length ≤ 1000) : PySem.MulOk z i := by
  have hn : z.length * i.toNat ≤ 1000 * 1000 := Nat.mul_le_mul hz (by omega)
  refine ⟨?_, fun h2 _ => ?_, fun h2 _ => ?_⟩
  · rw [decide_eq_false (by omega), decide_eq_false (by omega)]; rfl
  · have h3 : (9223372036854775 : Int) ≤ (9223372036854775807 : Int) / i := by
      rw [Int.le_ediv_iff_mul_le (by omega)]; omega
    have h4 : (2 : Int) ^ 63 - 1 = 9223372036854775807 := by decide
    rw [h4]
    omega
  · show decide (z.length * i.toNat > sizeLine) = false
    refine decide_eq_false ?_
    rw [sizeLine_eq]; omega
def rRepS : R2 := fun x y H Q => ∃ z i, x = .str z ∧ y = .int i ∧ 0 ≤ i ∧ i ≤ 1000 ∧ z.length ≤ 1000 ∧ Q (.str (repS z i)) H
section
variable {X : Cx}
theorem op_repS : OpR X (binaryOp .Mult) rRepS := by
  intro pins s σ H x y u v Q I rx ry h
  obtain ⟨z, i, rfl, rfl, h0, h1, hz, q⟩ := h
  obtain ⟨t, rfl⟩ := rx
  obtain ⟨t', rfl⟩ := ry
  exact PySem.SB.mul (mulOk_of h0 h1 hz) fun t2 k => ⟨.str (repS z i), H, I.tok _, ⟨t2, by rw [rep_is z i h0]⟩, q⟩
/-! ### range(n) as a value, not in it -/
theorem cr_range1 : CallR X (.type "range") (fun vs H Q => ∃ j, vs = [V.int j] ∧ ∀ p, H p = none → Q (.ref p) (upd H p (.rng 0 j))) := by
  intro pins s σ H vs us Q I r h
  obtain ⟨j, rfl, q⟩ := h
  obtain ⟨u1, rfl, rj⟩ := vals1 r
  obtain ⟨u, rfl⟩ := rj
  refine call_range_1 ⟨.ref s.heap.objs.size, upd H s.heap.objs.size (.rng 0 j), I.laid (t' := s.toks + 1 + 1) (fun b o e => Heap.get?_push_of_some _ e) (Nat.le_refl _) ?_, rfl, q _ (I.hok.fresh (Nat.le_refl _))⟩
  exact ⟨_, _, _, Heap.get?_push_size _ rfl⟩
theorem op_notin_rng : OpR X (compareOp .NotIn) (fun x y H Q => ∃ i a lo hi, x = V.int i ∧ y = V.ref a ∧ H a = some (.rng lo hi) ∧ Q (.bl (!decide (lo ≤ i ∧ i < hi))) H) := by
  intro pins s σ H x y v u Q I rx ry h
  obtain ⟨i, a, lo, hi, rfl, rfl, ha, q⟩ := h
  obtain ⟨k, rfl⟩ := rx
  obtain rfl : u = Value.ref a := ry
  obtain ⟨t1, t2, t3, ho⟩ := I.hok a _ ha
  show wpAny _ _ (do return Value.bool (!(← contains (Value.ref a) (Value.int i k)))) _ _ s
  refine wpAny_bind (wpAny_contains_slot (T := "range") ⟨_, ho, rfl⟩ F.slot_range_contains (call_meets F.slot_range_contains ⟨_, ho, rfl⟩ F.entry_range_contains (F.args_range_contains_2 _ _) (q_contains a lo hi i t1 t2 t3 k)
    ⟨ho, wpAny_truthy_bool (wpAny_pure ⟨.bl _, H, I, rfl, ?_⟩)⟩))
  rw [place1]
  exact q
/-! ### for k in range(n), n of any size -/
theorem turn_rangeL {P : Program} {w : World} {K : PySem.W.Frag} {tg : Expr} (it : Addr) (lo : Int) (n : Nat) :
    Turn P w K tg (Itr lo n) [it] it (fun i h => IsLongIter h it (lo + (i : Nat) * 1) ((n : Int) - (i : Nat)) 1) where
  mem := by simp
  obj := fun i h st b hb => by
    have e : b = it := by simpa using hb
    subst e
    exact ⟨_, st, fun v z => nomatch z⟩
  keep := fun i h h' st k => k it (by simp) _ st
  item := by
    intro X hP hw hK hc i pins s σ H E I hf st hg
    subst hP hw hK
    obtain ⟨f0, f1, f2, f3, f4, f5⟩ := hf it (by simp)
    have W := Walks.longrange (prog := X.prog) (w := X.w) (I.ok.hd hc) it lo 1 n
    refine W.item i s _ _ hg st fun v h' tk hv st' kk => ?_
    obtain ⟨t, rfl⟩ := hv
    have I1 : Inv X pins σ H { s with heap := h', toks := tk } := I.turned (fun b o hb e => kk b o (by simpa using hb) e) f0 f1 f3 f4 f5
    refine ⟨_, rfl, go_of (s := { s with heap := h', toks := tk }) (n := "longrange_iterator") st' rfl rfl (by decide) ⟨.int (lo + i), H, I1, ⟨t, ?_⟩, ⟨rfl, rfl⟩, st', fun b hb => (hf b hb).1⟩⟩
    rw [Int.mul_one]
  done := by
    intro X hP hw hK hc i pins s σ H E I hf st hg
    subst hP hw hK
    obtain ⟨f0, f1, f2, f3, f4, f5⟩ := hf it (by simp)
    exact wpAny_pyNext_long_end (I.ok.hd hc) st (by have : n ≤ i := hg; omega) fun h' eb => ⟨rfl, I.turned (t' := s.toks) (fun b o hb e => eb b o hb e) f0 f1 f3 f4 f5⟩
  self := fun _ _ _ _ _ st h => wpAny_pyIter_longiter st h
theorem range_itL {tg : Expr} {pins : List (Addr × Obj)} {σ : St} {H : Hp} {s : Shared} {R : It → Hp → Prop} {E : Value → Shared → Prop} {hi : Int} {t u v : Tok} {tk : Nat} (I : Inv X pins σ H s)
    (q : R (Itr 0 hi.toNat) H) : wpAny (model X.prog X.w) X.A (pyIter (.ref s.heap.objs.size)) (PIE X pins σ tg R) E { s with heap := s.heap.push { cls := .type "range", data := .fields #[.int 0 t, .int hi u, .int 1 v] }, toks := tk } := by
  have e0 : (hi - 0).toNat = hi.toNat := by rw [Int.sub_zero]
  have I1 : Inv X pins σ H { s with heap := s.heap.push { cls := .type "range", data := .fields #[.int 0 t, .int hi u, .int 1 v] }, toks := tk } := I.kept fun b o e => Heap.get?_push_of_some _ e
  have e1 : (0 : Int) + ((0 : Nat) : Int) * 1 = 0 := by simp
  have e2 : (((hi - 0).toNat : Nat) : Int) - ((0 : Nat) : Int) = Builtin.Range.rangeSize 0 hi 1 := by rw [rangeSize_one]; split <;> omega
  cases hs : Builtin.Range.small 0 hi 1 with
  | true =>
    refine wpAny_pyIter_range (IsRange.new ..) hs ?_
    refine ⟨(s.heap.push { cls := .type "range", data := .fields #[.int 0 t, .int hi u, .int 1 v] }).objs.size, [(s.heap.push { cls := .type "range", data := .fields #[.int 0 t, .int hi u, .int 1 v] }).objs.size], _, _, H, rfl,
      I1.kept (t' := tk) fun b o e => Heap.get?_push_of_some _ e, turn_range _ 0 (hi - 0).toNat, ?_, fun b hb => ?_, by rw [e0]; exact q⟩
    · show IsRangeIter _ _ (0 + ((0 : Nat) : Int) * 1) ((((hi - 0).toNat : Nat) : Int) - ((0 : Nat) : Int)) 1
      rw [e1, e2]
      exact Heap.get?_push_size _ rfl
    · have e : b = (s.heap.push { cls := .type "range", data := .fields #[.int 0 t, .int hi u, .int 1 v] }).objs.size := by simpa using hb
      subst e
      exact I1.fpOk (Nat.le_refl _) (I1.hok.fresh (Nat.le_refl _))
  | false =>
    refine wpAny_pyIter_longrange (IsRange.new ..) hs ?_
    refine ⟨(s.heap.push { cls := .type "range", data := .fields #[.int 0 t, .int hi u, .int 1 v] }).objs.size, [(s.heap.push { cls := .type "range", data := .fields #[.int 0 t, .int hi u, .int 1 v] }).objs.size], _, _, H, rfl,
      I1.kept (t' := tk) fun b o e => Heap.get?_push_of_some _ e, turn_rangeL _ 0 (hi - 0).toNat, ?_, fun b hb => ?_, by rw [e0]; exact q⟩
    · show IsLongIter _ _ (0 + ((0 : Nat) : Int) * 1) ((((hi - 0).toNat : Nat) : Int) - ((0 : Nat) : Int)) 1
      rw [e1, e2]
      exact Heap.get?_push_size _ rfl
    · have e : b = (s.heap.push { cls := .type "range", data := .fields #[.int 0 t, .int hi u, .int 1 v] }).objs.size := by simpa using hb
      subst e
      exact I1.fpOk (Nat.le_refl _) (I1.hok.fresh (Nat.le_refl _))
def iRngL (ta : TA) : TI := fun σ H R => ta σ H fun vs H1 => ∃ j : Int, vs = [.int j] ∧ R (Itr 0 j.toNat) H1
theorem pi_rangeL {tg a : Expr} {ta : TA} {p pos : Pos} (hg : Gl X "range") (hm : X.mg "range" = none) (ha : PA X [a] ta) (hs : starEach [a] X.env = [(false, eval a X.env)] := by rfl) : PI X tg (.Call (.Name "range" p) [a] [] pos) (iRngL ta) := by
  refine ⟨fun pins s σ H R I h => ?_⟩
  refine Call_ (ld_blt I hg hm boot_range (PyProof.Rows.callWith_type1 (thn (ha.run pos pins s σ H _ I h) fun us s1 ⟨vs, H1, I1, r1, q1⟩ => ?_) hs rfl))
  obtain ⟨j, e, q⟩ := q1
  subst e
  cases r1 with
  | cons r rr =>
    cases rr
    obtain ⟨t, rfl⟩ := r
    exact call_range_1 (range_itL I1 q)
end

/-! ### dicts whose keys are (a tuple of ints, an int) -/
abbrev NKey := List Int × Int
def nkey (k : NKey) : NestedKey := .tup [.tup (k.1.map .num), .num k.2]
theorem nums_inj : ∀ {a b : List Int}, a.map NestedKey.num = b.map NestedKey.num → a = b
  | [], [], _ => rfl
  | [], _ :: _, e => by simp at e
  | _ :: _, [], e => by simp at e
  | x :: xs, y :: ys, e => by
    rw [List.map_cons, List.map_cons] at e
    injection e with e1 e2
    injection e1 with e1
    rw [e1, nums_inj e2]
theorem nkey_inj {a b : NKey} (e : nkey a = nkey b) : a = b := by
  unfold nkey at e
  injection e with e
  injection e with e1 e
  injection e with e2 e
  injection e1 with e1
  injection e2 with e2
  exact Prod.ext (nums_inj e1) e2
theorem nums_depth : ∀ es : List Int, NestedKey.depthAll (es.map .num) = 0
  | [] => rfl
  | x :: xs => by
    rw [List.map_cons]
    show max 0 (NestedKey.depthAll (xs.map .num)) = 0
    rw [nums_depth xs]; rfl
theorem nkey_depth (k : NKey) : (nkey k).depth ≤ 8 := by
  show max (NestedKey.depthAll (k.1.map .num) + 1) (max 0 0) + 1 ≤ 8
  rw [nums_depth]; decide
/-- the key k stands at a -/
def KeyAt (H : Hp) (a : Addr) (k : NKey) : Prop := ∃ b, H a = some (.tup [.ref b, .int k.2]) ∧ H b = some (.tup (k.1.map V.int))
theorem nums_all {h : Heap} : ∀ {es : List Int} {us : List Value}, Vals (es.map V.int) us → NestedAll h (es.map .num) us
  | [], us, r => by rw [List.map_nil] at r; cases r; exact .nil
  | x :: xs, us, r => by
    rw [List.map_cons] at r
    cases r with
    | cons h t =>
      obtain ⟨tk, rfl⟩ := h
      exact .cons (.int x tk) (nums_all t)
theorem keyAt_is {P : Program} {w : World} {H : Hp} {h : Heap} {a : Addr} {k : NKey} (ok : HOk P w H h) (e : KeyAt H a k) : (nestedKind P w).is h (nkey k) a := by
  obtain ⟨b, ha, hb⟩ := e
  obtain ⟨_, its, r, o, h1, h2, n, h3⟩ := (show ObjOk P w H h a (.tup [.ref b, .int k.2]) from ok a _ ha)
  obtain ⟨_, its2, r2, o2, g1, g2, n2, g3⟩ := (show ObjOk P w H h b (.tup (k.1.map V.int)) from ok b _ hb)
  obtain ⟨u, v, rfl, ru, rv⟩ := vals2 r
  obtain rfl : u = Value.ref b := ru
  obtain ⟨t, rfl⟩ := rv
  exact ⟨.tup h1 h2 h3 (.cons (.tup g1 g2 g3 (nums_all r2)) (.cons (.int _ t) .nil)), nkey_depth k⟩
/-- the dict at d: its entries xs (key, where the key stands, the value) -/
def NDo (P : Program) (w : World) (d : Addr) (xs : List (NestedKey × Addr × Value)) : HO :=
  .ext fun h => (d == sysModules) = false ∧ ∃ o es ep, h.get? d = some o ∧ o.ExactDict ∧ o.data = .dict es ep ∧ es.toList = xs.map (entryOfKey (nestedKind P w)) ∧ (xs.map (·.1)).Nodup
abbrev NT (H : Hp) : List (NKey × V) → List (NestedKey × Addr × Value) → Prop := Paired fun p q => q.1 = nkey p.1 ∧ KeyAt H q.2.1 p.1 ∧ RelV p.2 q.2.2
/-- at d stands a dict with these pairs -/
def NAt (P : Program) (w : World) (H : Hp) (d : Addr) (kvs : List (NKey × V)) : Prop := ∃ xs, H d = some (NDo P w d xs) ∧ kvs.length ≤ sizeLine ∧ NT H kvs xs
theorem KeyAt.keep {H H' : Hp} {a : Addr} {k : NKey} (e : KeyAt H a k) (s : ∀ b xs, H b = some (.tup xs) → H' b = some (.tup xs)) : KeyAt H' a k := let ⟨b, h1, h2⟩ := e; ⟨b, s _ _ h1, s _ _ h2⟩
theorem NAt.keep {P : Program} {w : World} {H H' : Hp} {d : Addr} {kvs : List (NKey × V)} (n : NAt P w H d kvs) (hd : H' d = H d) (s : ∀ b xs, H b = some (.tup xs) → H' b = some (.tup xs)) : NAt P w H' d kvs :=
  let ⟨xs, h1, h2, h3⟩ := n
  ⟨xs, hd.trans h1, h2, Paired.mapP h3 fun _ _ z => ⟨z.1, z.2.1.keep s, z.2.2⟩⟩
theorem NAt.same {P : Program} {w : World} {H H' : Hp} {d : Addr} {kvs : List (NKey × V)} (n : NAt P w H d kvs) (s : ∀ b o, H b = some o → H' b = some o) : NAt P w H' d kvs :=
  let ⟨_, h1, _, _⟩ := n
  n.keep ((s _ _ h1).trans h1.symm) fun b _ h => s b _ h
section
variable {P : Program} {w : World} {H : Hp} {h : Heap} {a : Addr}
theorem nd_of {kvs : List (NKey × V)} {xs : List (NestedKey × Addr × Value)} (ok : HOk P w H h) (e : H a = some (NDo P w a xs)) (r : NT H kvs xs) : (a == sysModules) = false ∧ h.DictOfH (nestedKind P w) a xs := by
  obtain ⟨⟨y, o, es, ep, h1, h2, h3, h4, h5⟩, _, _⟩ := ok a _ e
  refine ⟨y, o, es, ep, h1, h2, h3, h4, fun x hx => ?_, h5⟩
  have all : ∀ {l : List (NKey × V)} {m : List (NestedKey × Addr × Value)}, NT H l m → ∀ x ∈ m, (nestedKind P w).is h x.1 x.2.1 := by
    intro l m q
    induction q with
    | nil => intro x hx; exact nomatch hx
    | @cons p q ps qs hq t ih =>
      intro x hx
      rcases List.mem_cons.mp hx with e | hx
      · subst e
        rw [hq.1]
        exact keyAt_is ok hq.2.1
      · exact ih x hx
  exact all r x hx
theorem NT.val {kvs : List (NKey × V)} {xs : List (NestedKey × Addr × Value)} (r : NT H kvs xs) (k : NKey) : RelO (valV kvs k) ((atKey xs (nkey k)).map (·.2)) := by
  induction r with
  | nil => exact True.intro
  | @cons p q ps qs h t ih =>
    obtain ⟨h1, _, h2⟩ := h
    by_cases e : p.1 = k
    · have e' : q.1 = nkey k := by rw [h1, e]
      have b : atKey (q :: qs) (nkey k) = some q.2 := by simp [atKey, List.find?_cons, e']
      rw [valV_pos e, b]; exact h2
    · have e' : ¬ q.1 = nkey k := fun z => e (nkey_inj (h1.symm.trans z))
      have b : atKey (q :: qs) (nkey k) = atKey qs (nkey k) := by simp [atKey, List.find?_cons, e']
      rw [valV_neg e, b]; exact ih
theorem nd_obj {H' : Hp} {h' : Heap} {xs : List (NestedKey × Addr × Value)} (y : (a == sysModules) = false) {o : Obj} {es : Array DictEntry} {ep : Nat} (h1 : h'.get? a = some o) (h2 : o.ExactDict) (h3 : o.data = .dict es ep) (h4 : es.toList = xs.map (entryOfKey (nestedKind P w))) (h5 : (xs.map (·.1)).Nodup) :
    ObjOk P w H' h' a (NDo P w a xs) :=
  ⟨⟨y, o, es, ep, h1, h2, h3, h4, h5⟩, ⟨o, h1⟩, fun g1 g2 ⟨z, o', es', ep', k1, k2, k3, k4, k5⟩ kk => ⟨z, o', es', ep', kk _ k1, k2, k3, k4, k5⟩⟩
end
theorem nroom {P : Program} {w : World} {k : Nat} {A : Around} (r : Room k A) : (nestedKind P w).room A.in1 := by
  have := r.un
  show A.units + 1 + 8 < cLine
  omega
section
variable {X : Cx} {pos : Pos}
def tDNewN (P : Program) (w : World) : TE := fun _ H Q => ∀ p, H p = none → Q (.ref p) (upd H p (NDo P w p []))
theorem pe_dnewN : PE X (.Dict [] [] pos) (tDNewN X.prog X.w) := ⟨fun pins s σ H Q I h =>
  wpAny_Dict_empty ⟨.ref s.heap.objs.size, _, I.laid (a := s.heap.objs.size) (o := NDo X.prog X.w s.heap.objs.size []) (t' := s.toks) (fun _ _ q => Heap.get?_push_of_some _ q) (Nat.le_refl _)
    (nd_obj (beq_eq_false_iff_ne.mpr (Ne.symm (Nat.ne_of_lt I.big))) (Heap.get?_push_size _ rfl) ⟨rfl, rfl, rfl⟩ rfl rfl List.nodup_nil), rfl, h _ (I.hok.fresh (Nat.le_refl _))⟩⟩
theorem NAt.nil {P : Program} {w : World} {H : Hp} {p : Addr} : NAt P w (upd H p (NDo P w p [])) p [] := ⟨[], upd_same, Nat.zero_le _, .nil⟩
variable {o i value : Expr} {td ty tv : TE} {k : Nat}
def tNIn (P : Program) (w : World) (ty td : TE) : TE := fun σ H Q => ty σ H fun y H1 => td σ H1 fun x H2 => ∃ a b kvs k, x = .ref a ∧ y = .ref b ∧ NAt P w H2 a kvs ∧ KeyAt H2 b k ∧ Q (.bl (valV kvs k).isSome) H2
def tNGet (P : Program) (w : World) (td ty : TE) : TE := fun σ H Q => td σ H fun x H1 => ty σ H1 fun y H2 => ∃ a b kvs k v, x = .ref a ∧ y = .ref b ∧ NAt P w H2 a kvs ∧ KeyAt H2 b k ∧ valV kvs k = some v ∧ Q v H2
def sNPut (P : Program) (w : World) (td ty tv : TE) : TS := fun D σ H => tv σ H fun v H1 => td σ H1 fun x H2 => ty σ H2 fun y H3 => ∃ a b kvs k, x = .ref a ∧ y = .ref b ∧ NAt P w H3 a kvs ∧ KeyAt H3 b k ∧ valV kvs k = none ∧ kvs.length < sizeLine ∧
  ∀ H4, (∀ c, c ≠ a → H4 c = H3 c) → NAt P w H4 a (kvs ++ [(k, v)]) → D.nx σ H4
theorem pc_nin (hr : Room k X.A) (hi : PE X i ty) (ho : PE X o td) : PC X .In i o (tNIn X.prog X.w ty td) := by
  refine ⟨fun pins s σ H Q I h => ?_⟩
  refine thn (hi.run pins s σ H _ I h) fun iv s1 ⟨y, H1, I1, ry, q1⟩ => thn (ho.run pins s1 σ H1 _ I1 q1) fun u s2 ⟨x, H2, I2, rx, a, b, kvs, kk, ex, ey, ⟨xs, hd, hz, rel⟩, hk, q2⟩ => ?_
  subst ex ey
  obtain rfl : u = Value.ref a := rx
  obtain rfl : iv = Value.ref b := ry
  obtain ⟨z, dd⟩ := nd_of I2.hok hd rel
  refine wpAny_in_heap (nroom hr) (keyAt_is I2.hok hk) z dd ?_
  have q := (rel.val kk).isSome_eq
  rw [Option.isSome_map] at q
  rw [← q]
  exact ⟨.bl _, H2, I2.tok _, rfl, q2⟩
theorem pe_nget (hr : Room k X.A) (ho : PE X o td) (hi : PE X i ty) (hs : NoSl i) : PE X (.Subscript o i pos) (tNGet X.prog X.w td ty) := by
  refine ⟨fun pins s σ H Q I h => ?_⟩
  refine subD_of PySem.F.slot_dict_getitem.lookup hs (thn (ho.run pins s σ H _ I h) fun u s1 ⟨x, H1, I1, rx, q1⟩ => thn (hi.run pins s1 σ H1 _ I1 q1) fun iv s2 ⟨y, H2, I2, ry, a, b, kvs, kk, v, ex, ey, ⟨xs, hd, hz, rel⟩, hk, hv, q2⟩ => ?_)
  subst ex ey
  obtain rfl : u = Value.ref a := rx
  obtain rfl : iv = Value.ref b := ry
  obtain ⟨z, dd⟩ := nd_of I2.hok hd rel
  obtain ⟨w', hw, rw'⟩ := RelO.some_of (v := v) (o := (atKey xs (nkey kk)).map (·.2)) (by rw [← hv]; exact rel.val kk)
  obtain ⟨p, hp, hp2⟩ := Option.map_eq_some_iff.mp hw
  refine ⟨dd.typeIs, wpAny_getItem_heap (nroom hr) (keyAt_is I2.hok hk) dd hp ?_⟩
  rw [hp2]
  exact ⟨v, H2, I2.tok _, rw', q2⟩
theorem ps_nput {pos' : Pos} (hr : Room k X.A) (ho : PE X o td) (hi : PE X i ty) (hv : PE X value tv) (hs : swapsWith value (some (.Subscript o i pos')) pos.line X.env = pure false := by rfl) :
    PS X (.Assign [.Subscript o i pos'] value pos) (sNPut X.prog X.w td ty tv) := by
  refine ⟨fun pins s σ H D I h => ?_⟩
  refine wpAny_Assign_Subscript (thn (hv.run pins s σ H _ I h) fun r s1 ⟨v, H1, I1, rv, q1⟩ => thn (ho.run pins s1 σ H1 _ I1 q1) fun u s2 ⟨x, H2, I2, rx, q2⟩ => thn (hi.run pins s2 σ H2 _ I2 q2) fun iv s3 ⟨y, H3, I3, ry, a, b, kvs, kk, ex, ey, ⟨xs, hd, hz, rel⟩, hk, hn, hl, q3⟩ => ?_) hs
  subst ex ey
  obtain rfl : u = Value.ref a := rx
  obtain rfl : iv = Value.ref b := ry
  obtain ⟨z, dd⟩ := nd_of I3.hok hd rel
  have hxl : xs.length = kvs.length := (Paired.length rel).symm
  have hat : atKey xs (nkey kk) = none := by
    have := RelO.none_of (o := (atKey xs (nkey kk)).map (·.2)) (by rw [← hn]; exact rel.val kk)
    simpa using this
  refine wpAny_setItem_heap (hsz := by omega) (nroom hr) (keyAt_is I3.hok hk) dd fun h' dd' hs' => ?_
  rw [storedH_new hat] at dd'
  obtain ⟨q, es, ep, hq, h2, h3, h4, _, h5⟩ := dd'
  have tk : ∀ c ys, H3 c = some (.tup ys) → (upd H3 a (NDo X.prog X.w a (xs ++ [(nkey kk, b, r)]))) c = some (.tup ys) := fun c ys ec => by
    rw [upd_ne (ne_of ec hd (fun z => nomatch z))]; exact ec
  have I4 := d_write (t' := s3.toks + (nestedKind X.prog X.w).draws (nkey kk)) I3 (by rw [hd]; exact True.intro) hs' ⟨q, hq⟩ (nd_obj (H' := upd H3 a (NDo X.prog X.w a (xs ++ [(nkey kk, b, r)]))) z hq h2 h3 h4 h5)
  refine ⟨σ, _, I4, q3 _ (fun c hc => upd_ne hc) ⟨_, upd_same, by rw [List.length_append]; exact hl, ?_⟩⟩
  exact Paired.snoc (Paired.mapP rel fun _ _ z => ⟨z.1, z.2.1.keep tk, z.2.2⟩) ⟨rfl, hk.keep tk, rv⟩
end
end L2
/-! ## SandBase -/
set_option Elab.async false
set_option linter.all false
set_option maxRecDepth 100000
set_option maxHeartbeats 4000000
namespace L2
open PySem
theorem Same.new {H H' : Hp} {p : Addr} {o : HO} (s : Same H H') (h : H' p = none) : Same H (upd H' p o) := fun b u e => by
  rw [upd_ne (ne_of_none (s b u e) h)]; exact s b u e
theorem Same.seqT {K : PySem.W.Frag} {H H' : Hp} {a : Addr} {xs : List V} (e : Same H H') (h : SqT K H a xs) : SqT K H' a xs := by
  rcases h with (h | ⟨o, h⟩) | h
  · exact .inl (.inl (e _ _ h))
  · exact .inl (.inr ⟨o, e _ _ h⟩)
  · exact .inr h
/-- an object that H does not know may change -/
theorem Same.mut {H H' : Hp} {p : Addr} {o : HO} (s : Same H H') (h : H p = none) : Same H (upd H' p o) := fun b u e => by
  rw [upd_ne (ne_of_none e h)]; exact s b u e
end L2
namespace Sand
open PySem L2
/-- the statements of the top, by place -/
def top (i : Nat) : Stmt := PySem.Challenge.pw_sandthreads_k93_whole_every_length.main.body.getD i (.Pass ⟨0, 0, 0, 0⟩)
/-- the built-in names that the text leaves alone -/
structure Glob (mg : Str → Option Value) : Prop where
  len : mg "len" = none
  range : mg "range" = none
  enumerate : mg "enumerate" = none
  list : mg "list" = none
  tuple : mg "tuple" = none
  max : mg "max" = none
  divmod : mg "divmod" = none
  isinstance : mg "isinstance" = none
  int : mg "int" = none
  all : mg "all" = none
  bool : mg "bool" = none
  str : mg "str" = none
  chars : ∃ t, mg "CHARACTERS" = some (.str ".-|" t)
/-- a def of the text, to be called -/
structure Cal (K : PySem.W.Frag) (mg : Str → Option Value) (x : Str) (f : Addr) (fd : FuncData) (ps : List Str) : Prop where
  mg : mg x = some (.ref f)
  kp : PySem.W.keepIn K (.ref f) = true
  b : Binds K fd ps []

/-! ### lists of numbers, texts -/
def nl (e : List Nat) : List V := e.map fun n : Nat => V.int (n : Int)
def st (l : List Nat) : Str := ⟨l.toArray⟩
theorem nl_len (e : List Nat) : (nl e).length = e.length := by unfold nl; exact List.length_map _
theorem nl_get {e : List Nat} {i : Nat} (h : i < e.length) : (nl e)[i]? = some (.int (e.getD i 0 : Nat)) := by
  unfold nl
  rw [List.getElem?_map, List.getD_eq_getElem?_getD, List.getElem?_eq_getElem h]
  rfl
theorem nl_at {e : List Nat} {i : Nat} (h : i < e.length) : atI (nl e) (i : Int) = some (.int (e.getD i 0 : Nat)) := atI_nat (nl_get h)
theorem nl_set (e : List Nat) (i v : Nat) : (nl e).set i (.int (v : Int)) = nl (e.set i v) := by
  unfold nl; rw [List.map_set]
theorem ixN_nat {n i : Nat} (h : i < n) : ixN n (i : Int) = some i := by
  unfold ixN
  rw [if_pos (by omega), if_pos (by omega)]; simp
theorem nl_ix {e : List Nat} {i : Nat} (h : i < e.length) : ixN (nl e).length (i : Int) = some i := by
  rw [nl_len]; exact ixN_nat h
/-! ### tests -/
theorem ifD {p A B : Prop} [Decidable p] (h1 : p → A) (h2 : ¬ p → B) : if decide p = true then A else B := by
  by_cases h : p
  · rw [if_pos (decide_eq_true h)]; exact h1 h
  · rw [if_neg (by rw [decide_eq_false h]; exact Bool.false_ne_true)]; exact h2 h
theorem ifB {b : Bool} {A B : Prop} (h1 : b = true → A) (h2 : b = false → B) : if b = true then A else B := by
  cases b with
  | true => exact h1 rfl
  | false => exact h2 rfl
theorem bar_is : (("|" : Str)) = ⟨#[124]⟩ := by decide +kernel
theorem dot_is : (("." : Str)) = ⟨#[46]⟩ := by decide +kernel
theorem dash_is : (("-" : Str)) = ⟨#[45]⟩ := by decide +kernel
theorem sgn_inj {c d : Nat} : (V.str ⟨#[c]⟩ = V.str ⟨#[d]⟩) ↔ c = d := by
  constructor
  · intro h
    injection h with h
    injection h with h
    have := congrArg Array.toList h
    simpa using this
  · rintro rfl; rfl
theorem is_bar {c : Nat} : (V.str ⟨#[c]⟩ = V.str ("|" : Str)) ↔ c = 124 := by rw [bar_is]; exact sgn_inj
theorem is_dot {c : Nat} : (V.str ⟨#[c]⟩ = V.str ("." : Str)) ↔ c = 46 := by rw [dot_is]; exact sgn_inj
theorem is_dash {c : Nat} : (V.str ⟨#[c]⟩ = V.str ("-" : Str)) ↔ c = 45 := by rw [dash_is]; exact sgn_inj
theorem int_eq {a b : Int} : (V.int a = V.int b) ↔ a = b := ⟨fun h => by injection h, fun h => by rw [h]⟩
/-! ### the ends stay ends -/
def Lt (e : List Nat) : Prop := ∀ i, i < e.length → e.getD i 0 < e.length
theorem Lt.set {e : List Nat} (h : Lt e) {i v : Nat} (hv : v < e.length) : Lt (e.set i v) := fun k hk => by
  rw [List.length_set] at hk ⊢
  by_cases hi : i < e.length
  · rw [getD_set _ _ _ _ hi]
    split
    · exact hv
    · exact h k hk
  · rw [List.set_eq_of_length_le (by omega)]; exact h k hk
theorem pPoint_lt {e : List Nat} (h : Lt e) {l c : Nat} (hl : l + 1 < e.length) : Lt (pPoint e l c).1 := by
  have h0 := h l (by omega)
  have h1 := h (l + 1) hl
  have s1 : ∀ (x : List Nat) i v, (x.set i v).length = x.length := fun x i v => List.length_set ..
  unfold pPoint
  split
  · exact h
  · split
    · exact h
    · split
      · exact (((h.set h1).set (by rw [s1]; omega)).set (by rw [s1, s1]; omega)).set (by rw [s1, s1, s1]; omega)
      · exact (((h.set h1).set (by rw [s1]; omega)).set (by rw [s1, s1]; omega)).set (by rw [s1, s1, s1]; omega)
theorem pLevel_lt : ∀ (cs : List Nat) (e : List Nat) (l : Nat), Lt e → l + 2 * cs.length ≤ e.length → Lt (pLevel e l cs).1
  | [], e, l, h, _ => h
  | c :: cs, e, l, h, hl => by
    have hl : l + 2 * (cs.length + 1) ≤ e.length := hl
    exact pLevel_lt cs _ _ (pPoint_lt h (by omega)) (by rw [pPoint_len]; omega)
theorem pRow_lt {w : Nat} {e : List Nat} {r : Row} (h : Lt e) (he : e.length = 2 * w) (R : RowOk w r) : Lt (pRow e r).1 := by
  have a := R.l1
  have b := R.l2
  exact pLevel_lt _ _ _ (pLevel_lt _ _ _ h (by omega)) (by rw [pLevel_len]; omega)
theorem pRows_lt {w : Nat} : ∀ (rs : List Row) (e : List Nat), Lt e → e.length = 2 * w → (∀ r, r ∈ rs → RowOk w r) → Lt (pRows e rs).1
  | [], e, h, _, _ => h
  | r :: rs, e, h, he, hr => pRows_lt rs _ (pRow_lt h he (hr r List.mem_cons_self)) (by rw [pRow_len]; exact he) fun s hs => hr s (List.mem_cons_of_mem _ hs)
theorem Pairs.Lt {n : Nat} {e : List Nat} (H : Pairs n e) : Sand.Lt e := fun i hi => by have := H.lt i (by rw [← H.len]; exact hi); rw [H.len]; exact this
theorem take_succ {α : Type} {l : List α} {i : Nat} {x : α} (h : l[i]? = some x) : l.take (i + 1) = l.take i ++ [x] := by
  rw [List.take_add_one, h]; rfl
theorem st_get {l : List Nat} {i c : Nat} (h : (st l).cps[i]? = some c) : l[i]? = some c := by
  unfold st at h; simpa using h
/-! ### slices -/
theorem cut_to (xs : List V) (k : Nat) : cutV xs none (some (k : Int)) = xs.take k := by
  unfold cutV
  rw [HT.sIx_none, HT.sIx_nat, List.drop_zero, Nat.sub_zero]
  by_cases h : k ≤ xs.length
  · rw [Nat.min_eq_left h]
  · rw [Nat.min_eq_right (by omega), List.take_length, List.take_of_length_le (by omega)]
theorem cut_last (xs : List V) : cutV xs none (some (-1)) = xs.dropLast := by
  unfold cutV
  have e : HT.sIx xs.length xs.length (some (-1)) = xs.length - 1 := by
    simp only [HT.sIx]
    split <;> omega
  rw [HT.sIx_none, e, List.drop_zero, Nat.sub_zero, List.dropLast_eq_take]
theorem cut_from (xs : List V) (k : Nat) : cutV xs (some (k : Int)) none = xs.drop k := by
  unfold cutV
  rw [HT.sIx_none, HT.sIx_nat]
  by_cases h : k ≤ xs.length
  · rw [Nat.min_eq_left h]; exact List.take_of_length_le (by rw [List.length_drop]; omega)
  · rw [Nat.min_eq_right (by omega), List.drop_eq_nil_of_le (Nat.le_refl _), List.drop_eq_nil_of_le (by omega), List.take_nil]
theorem cut_neg (xs : List V) (k : Nat) (h1 : 1 ≤ k) (h2 : k ≤ xs.length) : cutV xs (some (-(k : Int))) none = xs.drop (xs.length - k) := by
  unfold cutV
  have e : HT.sIx xs.length 0 (some (-(k : Int))) = xs.length - k := by
    simp only [HT.sIx]
    split <;> omega
  rw [HT.sIx_none, e]
  exact List.take_of_length_le (by rw [List.length_drop]; omega)
theorem at_last {xs : List V} {v : V} (h : xs[xs.length - 1]? = some v) : atI xs (-1) = some v := by
  have h0 : xs.length - 1 < xs.length := (List.getElem?_eq_some_iff.mp h).1
  unfold atI ixN
  rw [if_neg (by decide), if_pos (by omega)]
  have : (-1 + (xs.length : Int)).toNat = xs.length - 1 := by omega
  rw [this]; exact h

/-! ### lists of rows -/
theorem pd_len {α β : Type} {F : α → β → Prop} {xs : List α} {ys : List β} (r : Paired F xs ys) : xs.length = ys.length := Paired.length r
theorem pd_get {α β : Type} {F : α → β → Prop} : ∀ {xs : List α} {ys : List β} {i : Nat} {x : α}, Paired F xs ys → xs[i]? = some x → ∃ y, ys[i]? = some y ∧ F x y
  | _, _, _, _, .nil, e => by simp at e
  | _, _, 0, _, .cons r _, e => by simp at e; subst e; exact ⟨_, rfl, r⟩
  | _, _, i + 1, x, .cons _ t, e => by
    obtain ⟨u, h1, h2⟩ := pd_get (i := i) (x := x) t (by simpa using e)
    exact ⟨u, by simpa using h1, h2⟩
theorem pd_take {α β : Type} {F : α → β → Prop} : ∀ {xs : List α} {ys : List β} (n : Nat), Paired F xs ys → Paired F (xs.take n) (ys.take n)
  | _, _, 0, _ => by rw [List.take_zero, List.take_zero]; exact .nil
  | _, _, _ + 1, .nil => .nil
  | _, _, n + 1, .cons r t => .cons r (pd_take n t)
theorem pd_app {α β : Type} {F : α → β → Prop} : ∀ {xs xs' : List α} {ys ys' : List β}, Paired F xs ys → Paired F xs' ys' → Paired F (xs ++ xs') (ys ++ ys')
  | _, _, _, _, .nil, s => s
  | _, _, _, _, .cons r t, s => .cons r (pd_app t s)
theorem pd_dropLast {α β : Type} {F : α → β → Prop} {xs : List α} {ys : List β} (r : Paired F xs ys) : Paired F xs.dropLast ys.dropLast := by
  rw [List.dropLast_eq_take, List.dropLast_eq_take, pd_len r]; exact pd_take _ r
/-- a row of mirrors, a list of such -/
def RowV (K : PySem.W.Frag) (H : Hp) (v : V) (r : Row) : Prop := ∃ t, v = .ref t ∧ SqT K H t [.str (st r.1), .str (st r.2)]
def RowsAt (K : PySem.W.Frag) (H : Hp) (p : Addr) (rs : List Row) : Prop := ∃ vs, SqL K H p vs ∧ Paired (RowV K H) vs rs
theorem RowV.same {K : PySem.W.Frag} {H H' : Hp} {v : V} {r : Row} (s : Same H H') (h : RowV K H v r) : RowV K H' v r := let ⟨t, e, q⟩ := h; ⟨t, e, s.seqT q⟩
theorem pd_same {K : PySem.W.Frag} {H H' : Hp} {vs : List V} {rs : List Row} (s : Same H H') (h : Paired (RowV K H) vs rs) : Paired (RowV K H') vs rs := Paired.mapP h fun _ _ z => z.same s
theorem RowsAt.same {K : PySem.W.Frag} {H H' : Hp} {p : Addr} {rs : List Row} (s : Same H H') (h : RowsAt K H p rs) : RowsAt K H' p rs := let ⟨vs, q, r⟩ := h; ⟨vs, s.seq q, pd_same s r⟩
theorem sz1000 {n : Nat} (h : n ≤ 1000) : n ≤ sizeLine := Nat.le_of_lt (small1000 h)
/-- the list told is the one handed in, or a new one -/
def From (H H' : Hp) (a q : Addr) : Prop := q = a ∨ H q = none ∧ H' q ≠ none
theorem L2kept {H H' : Hp} (s : Same H H') {b : Addr} (h : H b ≠ none) : H' b ≠ none := by
  cases e : H b with
  | none => exact (h e).elim
  | some o => rw [s b o e]; exact fun z => nomatch z
theorem From.step {H H1 H2 : Hp} {a b c : Addr} (h : From H H1 a b) (s1 : Same H H1) (s : Same H1 H2) (h2 : From H1 H2 b c) : From H H2 a c := by
  rcases h2 with rfl | h2
  · rcases h with h | h
    · exact .inl h
    · exact .inr ⟨h.1, L2kept s h.2⟩
  · exact .inr ⟨s1.free h2.1, h2.2⟩
theorem From.same {H H1 H2 : Hp} {a b : Addr} (h : From H H1 a b) (s : Same H1 H2) : From H H2 a b := by
  rcases h with h | h
  · exact .inl h
  · exact .inr ⟨h.1, L2kept s h.2⟩
theorem st_len (l : List Nat) : (st l).length = l.length := by unfold st; rfl
end Sand
/-! ## PPoint -/
set_option Elab.async false
set_option linter.all false
set_option maxRecDepth 100000
set_option maxHeartbeats 4000000
namespace Sand
open PySem L2
abbrev s_past_point : Stmt := top 13
theorem sc_past_point : FnScope ["ends", "left", "char", "joined", "below", "first", "second"] ["ends", "left", "char"] (defScope s_past_point) := ⟨rfl, rfl, rfl, by decide +kernel, rfl, by decide +kernel, by decide +kernel⟩
def spPoint (K : PySem.W.Frag) : Sp := fun vs H Q _ => ∃ (a : Addr) (e : List Nat) (l c : Nat), vs = [.ref a, .int (l : Int), .str ⟨#[c]⟩] ∧ SqL K H a (nl e) ∧ l + 1 < e.length ∧ (∀ i, i < e.length → e.getD i 0 < e.length) ∧ e.length ≤ 1000 ∧
  ∀ p q H', H p = none → Same H H' → H' p = some (.tup [.ref q, .int ((pPoint e l c).2 : Nat)]) → SqL K H' q (nl (pPoint e l c).1) → From H H' a q → Q (.ref p) H'
section
variable {P : Program} {w : World} {K : PySem.W.Frag} {mg : Str → Option Value} {base : Heap}
theorem ok_past_point {f : Addr} {fd : FuncData} (F : Fun K "past_point" "past_point" s_past_point f fd) (T : Glob mg) : FnOk P w K mg base CX0 1 f fd ["ends", "left", "char"] (spPoint K) := by
  refine F.ok sc_past_point (fun vs H Q E h => ?_) (fun cdv A outer s H vs Q E hr h => ?_)
  · obtain ⟨a, e, l, c, rfl, _⟩ := h
    rfl
  · obtain ⟨a, e, l, c, rfl, hS, hl, hlt, hle, k⟩ := h
    have hu := hu_of hr
    refine ⟨_, (pss_cons (ps_par (i := 5) (j := 6) (by rfl) sc_past_point.nd rfl rfl (by decide) rfl rfl (pa_cons (pe_ix ix_list (pv 0) (pv 1) (fun _ _ => rfl)) (pa_cons (pe_ix ix_list (pv 0) (pe_op op_add (pv 1) pe_int) (fun _ _ => rfl)) pa_nil)) (by rfl))
      (pss_cons (ps_set (i := 3) sc_past_point.nd rfl (Or.inl rfl) (pe_cmpR op_eq (pv 5) (pe_op op_add (pv 1) pe_int) (nomark _)))
      (pss_cons (ps_if (PW.pt (pw_or (pt_cmpR op_eq (pv 2) pe_str (nomark _)) (pw_or1 (PW.pt (pw_and (pt_val (pv 3)) (pw_and1 (pt_cmpR op_eq (pv 2) pe_str (nomark _)))))))) (pss_one (ps_ret (pe_tup (pa_cons (pv 0) (pa_cons pe_int pa_nil))))) pss_nil)
      (pss_cons (ps_if (pt_val (pv 3)) (pss_one (ps_ret (pe_tup (pa_cons (pv 0) (pa_cons pe_int pa_nil))))) pss_nil)
      (pss_cons (ps_set (i := 4) sc_past_point.nd rfl (Or.inl rfl) (pe_callTy call_list_of (by rfl) T.list (by decide +kernel) (pa_cons (pv 0) pa_nil)))
      (pss_cons (ps_if (pt_cmpR op_eq (pv 2) pe_str (nomark _)) (pss_cons (ps_asg (pe_tup (pa_cons (pv 6) (pa_cons (pv 1) pa_nil))) (pg_tup rfl (pgs_cons (pg_sub (pv 4) (pv 1) set_list) (pgs_cons (pg_sub (pv 4) (pv 6) set_list) pgs_nil))))
      (pss_one (ps_asg (pe_tup (pa_cons (pv 5) (pa_cons (pe_op op_add (pv 1) pe_int) pa_nil))) (pg_tup rfl (pgs_cons (pg_sub (pv 4) (pe_op op_add (pv 1) pe_int) set_list) (pgs_cons (pg_sub (pv 4) (pv 5) set_list) pgs_nil)))))) (pss_cons (ps_asg (pe_tup (pa_cons (pv 6) (pa_cons (pv 5) pa_nil))) (pg_tup rfl (pgs_cons (pg_sub (pv 4) (pv 5) set_list) (pgs_cons (pg_sub (pv 4) (pv 6) set_list) pgs_nil))))
      (pss_one (ps_asg (pe_tup (pa_cons (pe_op op_add (pv 1) pe_int) (pa_cons (pv 1) pa_nil))) (pg_tup rfl (pgs_cons (pg_sub (pv 4) (pv 1) set_list) (pgs_cons (pg_sub (pv 4) (pe_op op_add (pv 1) pe_int) set_list) pgs_nil)))))))
      (pss_one (ps_ret (pe_tup (pa_cons (pv 4) (pa_cons pe_int pa_nil))))))))))), ?_⟩
    have hl0 : l < e.length := by omega
    have e1 : ((l : Int) + 1) = ((l + 1 : Nat) : Int) := by omega
    -- first, second
    refine ⟨_, rfl, _, rfl, a, _, _, _, rfl, rfl, hS, nl_at hl0, _, rfl, _, rfl, _, _, rfl, rfl, a, _, _, _, rfl, rfl, hS, (by rw [e1]; exact nl_at hl), _, _, rfl, ?_⟩
    -- joined
    refine ⟨_, rfl, _, rfl, _, _, rfl, rfl, rfl, ?_⟩
    have hj : ∀ (A B : Prop), (e.getD l 0 = l + 1 → A) → (¬ e.getD l 0 = l + 1 → B) → if decide (V.int ((e.getD l 0 : Nat) : Int) = V.int ((l : Int) + 1)) = true then A else B := fun A B h1 h2 =>
      ifD (fun q => h1 (by have := int_eq.mp q; omega)) (fun q => h2 fun z => q (int_eq.mpr (by omega)))
    have hfin0 : ∀ σ0 : L2.St, σ0[0]? = some (some (V.ref a)) → pPoint e l c = (e, 0) → tRet (tTup (tCons (tVar 0) (tCons (tC (V.int 0)) tNil))) { nx := fun _ H' => Q V.non H', rt := Q } σ0 H := fun σ0 h0 hp => by
      refine ⟨_, h0, by show 2 ≤ sizeLine; decide, fun p hp1 => k p a _ hp1 (Same.new (Same.refl H) hp1) ?_ ?_ (.inl rfl)⟩
      · rw [upd_same, hp]; rfl
      · rw [hp]; exact (Same.new (Same.refl H) hp1).seq hS
    -- char == '|' or joined and char == '.'
    refine ⟨_, rfl, rfl, _, rfl, ifD (fun q => ?_) (fun q => ?_)⟩
    · have hc := is_bar.mp q
      exact hfin0 _ rfl (by unfold pPoint; rw [if_pos (.inl hc)])
    have hc : ¬ c = 124 := fun z => q (is_bar.mpr z)
    refine ⟨_, rfl, _, rfl, hj _ _ (fun hjo => ?_) (fun hjo => ?_)⟩
    · refine ⟨_, rfl, rfl, _, rfl, ifD (fun q2 => ?_) (fun q2 => ?_)⟩
      · have hd := is_dot.mp q2
        exact hfin0 _ rfl (by unfold pPoint; rw [if_pos (.inr ⟨hjo, hd⟩)])
      · have hd : ¬ c = 46 := fun z => q2 (is_dot.mpr z)
        have hp : pPoint e l c = (e, 1) := by unfold pPoint; rw [if_neg (fun z => z.elim hc fun z => hd z.2), if_pos hjo]
        refine ⟨_, rfl, _, rfl, hj _ _ (fun _ => ?_) (fun z => (z hjo).elim)⟩
        refine ⟨_, rfl, by show 2 ≤ sizeLine; decide, fun p hp1 => k p a _ hp1 (Same.new (Same.refl H) hp1) ?_ ?_ (.inl rfl)⟩
        · rw [upd_same, hp]; rfl
        · rw [hp]; exact (Same.new (Same.refl H) hp1).seq hS
    · refine ⟨_, rfl, _, rfl, hj _ _ (fun z => (hjo z).elim) (fun _ => ?_)⟩
      -- below = list(ends)
      refine ⟨_, rfl, a, _, rfl, .inl hS, fun b hb => ?_⟩
      have ha0 := hlt l hl0
      have hb0 := hlt (l + 1) hl
      have hln : (nl e).length = e.length := nl_len e
      have hfin1 : ∀ (σ0 : L2.St) (H' : Hp) (xs : List V) (e' : List Nat), σ0[4]? = some (some (V.ref b)) → Same H H' → H' b = some (.lst xs) → xs = nl e' → pPoint e l c = (e', 0) →
          tRet (tTup (tCons (tVar 4) (tCons (tC (V.int 0)) tNil))) { nx := fun _ H' => Q V.non H', rt := Q } σ0 H' := fun σ0 H' xs e' h0 s0 hx ex hp => by
        subst ex
        refine ⟨_, h0, by show 2 ≤ sizeLine; decide, fun p hp1 => k p b _ (s0.free hp1) (Same.new s0 hp1) ?_ ?_ (.inr ⟨hb, by rw [upd_ne (ne_of_none hx hp1), hx]; exact fun z => nomatch z⟩)⟩
        · rw [upd_same, hp]; rfl
        · rw [hp]; exact SqL.of (by rw [upd_ne (ne_of_none hx hp1)]; exact hx)
      refine ⟨_, rfl, rfl, _, rfl, ifD (fun q2 => ?_) (fun q2 => ?_)⟩
      · have hd := is_dot.mp q2
        have hp : pPoint e l c = ((((e.set l (e.getD (l + 1) 0)).set (e.getD (l + 1) 0) l).set (l + 1) (e.getD l 0)).set (e.getD l 0) (l + 1), 0) := by
          unfold pPoint; rw [if_neg (fun z => z.elim hc fun z => hjo z.1), if_neg hjo, if_pos hd]
        refine ⟨_, rfl, _, rfl, by show 2 ≤ sizeLine; decide, fun t ht => ⟨t, _, rfl, SqT.of upd_same, rfl, ?_⟩⟩
        refine ⟨_, _, rfl, _, rfl, _, rfl, b, _, _, l, rfl, rfl, (by rw [upd_ne (ne_of_none upd_same ht)]; exact upd_same), ixN_nat (by rw [hln]; exact hl0), ?_⟩
        refine ⟨_, _, rfl, _, rfl, _, rfl, b, _, _, _, rfl, rfl, upd_same, ixN_nat (by rw [List.length_set, hln]; exact hb0), rfl, ?_⟩
        refine ⟨_, rfl, _, rfl, _, _, rfl, rfl, by show 2 ≤ sizeLine; decide, fun t2 ht2 => ⟨t2, _, rfl, SqT.of upd_same, rfl, ?_⟩⟩
        refine ⟨_, _, rfl, _, rfl, _, rfl, _, _, rfl, rfl, b, _, _, l + 1, rfl, rfl, (by rw [upd_ne (ne_of_none upd_same ht2)]; exact upd_same), (by rw [e1]; exact ixN_nat (by rw [List.length_set, List.length_set, hln]; exact hl)), ?_⟩
        refine ⟨_, _, rfl, _, rfl, _, rfl, b, _, _, _, rfl, rfl, upd_same, ixN_nat (by rw [List.length_set, List.length_set, List.length_set, hln]; exact ha0), rfl, ?_⟩
        refine hfin1 _ _ _ _ rfl (Same.mut (Same.mut (Same.new (Same.mut (Same.mut (Same.new (Same.new (Same.refl H) hb) ht) hb) hb) ht2) hb) hb) upd_same ?_ hp
        dsimp only
        rw [e1, nl_set, nl_set, nl_set, nl_set]
      · have hd : ¬ c = 46 := fun z => q2 (is_dot.mpr z)
        have hp : pPoint e l c = ((((e.set (e.getD l 0) (e.getD (l + 1) 0)).set (e.getD (l + 1) 0) (e.getD l 0)).set l (l + 1)).set (l + 1) l, 0) := by
          unfold pPoint; rw [if_neg (fun z => z.elim hc fun z => hjo z.1), if_neg hjo, if_neg hd]
        refine ⟨_, rfl, _, rfl, by show 2 ≤ sizeLine; decide, fun t ht => ⟨t, _, rfl, SqT.of upd_same, rfl, ?_⟩⟩
        refine ⟨_, _, rfl, _, rfl, _, rfl, b, _, _, _, rfl, rfl, (by rw [upd_ne (ne_of_none upd_same ht)]; exact upd_same), ixN_nat (by rw [hln]; exact ha0), ?_⟩
        refine ⟨_, _, rfl, _, rfl, _, rfl, b, _, _, _, rfl, rfl, upd_same, ixN_nat (by rw [List.length_set, hln]; exact hb0), rfl, ?_⟩
        refine ⟨_, rfl, _, _, rfl, rfl, _, rfl, by show 2 ≤ sizeLine; decide, fun t2 ht2 => ⟨t2, _, rfl, SqT.of upd_same, rfl, ?_⟩⟩
        refine ⟨_, _, rfl, _, rfl, _, rfl, b, _, _, l, rfl, rfl, (by rw [upd_ne (ne_of_none upd_same ht2)]; exact upd_same), (ixN_nat (by rw [List.length_set, List.length_set, hln]; exact hl0)), ?_⟩
        refine ⟨_, _, rfl, _, rfl, _, rfl, _, _, rfl, rfl, b, _, _, l + 1, rfl, rfl, upd_same, (by rw [e1]; exact ixN_nat (by rw [List.length_set, List.length_set, List.length_set, hln]; exact hl)), rfl, ?_⟩
        refine hfin1 _ _ _ _ rfl (Same.mut (Same.mut (Same.new (Same.mut (Same.mut (Same.new (Same.new (Same.refl H) hb) ht) hb) hb) ht2) hb) hb) upd_same ?_ hp
        dsimp only
        rw [e1, nl_set, nl_set, nl_set, nl_set]
end
end Sand
/-! ## PLevel -/
set_option Elab.async false
set_option linter.all false
set_option maxRecDepth 100000
set_option maxHeartbeats 4000000
namespace Sand
open PySem L2
abbrev s_past_level : Stmt := top 14
theorem sc_past_level : FnScope ["ends", "left", "text", "closed", "k", "char", "more"] ["ends", "left", "text"] (defScope s_past_level) := ⟨rfl, rfl, rfl, by decide +kernel, rfl, by decide +kernel, by decide +kernel⟩
def spLevel (K : PySem.W.Frag) : Sp := fun vs H Q _ => ∃ (a : Addr) (e : List Nat) (l : Nat) (cs : List Nat), vs = [.ref a, .int (l : Int), .str (st cs)] ∧ SqL K H a (nl e) ∧ l + 2 * cs.length ≤ e.length ∧ Lt e ∧ e.length ≤ 1000 ∧
  ∀ p q H', H p = none → Same H H' → H' p = some (.tup [.ref q, .int ((pLevel e l cs).2 : Nat)]) → SqL K H' q (nl (pLevel e l cs).1) → From H H' a q → Q (.ref p) H'
section
variable {P : Program} {w : World} {K : PySem.W.Frag} {mg : Str → Option Value} {base : Heap}
theorem ok_past_level {f f1 : Addr} {fd fd1 : FuncData} (F : Fun K "past_level" "past_level" s_past_level f fd) (T : Glob mg)
    (c_past_point : Cal K mg "past_point" f1 fd1 ["ends", "left", "char"]) (G_past_point : FnOk P w K mg base CX0 1 f1 fd1 ["ends", "left", "char"] (spPoint K)) : FnOk P w K mg base CX0 2 f fd ["ends", "left", "text"] (spLevel K) := by
  refine F.ok sc_past_level (fun vs H Q E h => ?_) (fun cdv A outer s H vs Q E hr h => ?_)
  · obtain ⟨a, e, l, cs, rfl, _⟩ := h
    rfl
  · obtain ⟨a, e, l, cs, rfl, hS, hl, hlt, hle, k⟩ := h
    have hu := hu_of hr
    have hr_past_point : Room 1 _ := hr
    refine ⟨_, (pss_cons (ps_set (i := 3) sc_past_level.nd rfl (Or.inl rfl) pe_int)
      (pss_cons (ps_for PassesOwn.never rfl (pi_enumS (by rfl) T.enumerate (pa_cons (pv 2) pa_nil)) (pg_tup rfl (pgs_cons (pg_name (i := 4) sc_past_level.nd rfl (Or.inl rfl)) (pgs_cons (pg_name (i := 5) sc_past_level.nd rfl (Or.inl rfl)) pgs_nil))) (pss_cons (ps_asg (pe_call G_past_point hr_past_point rfl c_past_point.mg c_past_point.kp c_past_point.b .nil pass0 (pa_cons (pv 0) (pa_cons (pe_op op_add (pv 1) (pe_op op_mul pe_int (pv 4))) (pa_cons (pv 5) pa_nil)))) (pg_tup rfl (pgs_cons (pg_name (i := 0) sc_past_level.nd rfl (Or.inl rfl)) (pgs_cons (pg_name (i := 6) sc_past_level.nd rfl (Or.inl rfl)) pgs_nil))))
      (pss_one (ps_aug (i := 3) sc_past_level.nd rfl (Or.inl rfl) (pv 6) ip_add))))
      (pss_one (ps_ret (pe_tup (pa_cons (pv 0) (pa_cons (pv 3) pa_nil))))))), ?_⟩
    have hcs : (st cs).cps.size = cs.length := rfl
    refine ⟨_, rfl, _, rfl, for_it walk_enumS (fun i σ H' => ∃ q v4 v5 v6, σ = [some (.ref q), some (.int (l : Int)), some (.str (st cs)), some (.int ((pLevel e l (cs.take i)).2 : Nat)), v4, v5, v6] ∧ Same H H' ∧ SqL K H' q (nl (pLevel e l (cs.take i)).1) ∧ From H H' a q)
      ⟨a, none, none, none, rfl, Same.refl H, hS, .inl rfl⟩ (fun _ _ _ _ _ => trivial) ?_ ?_⟩
    · rintro i x σ H1 H2 hi ⟨q, v4, v5, v6, rfl, s1, hq, hf⟩ ⟨t, c, rfl, ht, rfl, hc⟩
      have hc := st_get hc
      have hi : i < cs.length := hi
      refine ⟨t, _, rfl, SqT.of upd_same, rfl, _, _, rfl, _, _, rfl, rfl, ?_⟩
      have s2 := Same.new (o := .tup [.int (i : Nat), .str ⟨#[c]⟩]) s1 ht
      have hlen : (pLevel e l (cs.take i)).1.length = e.length := pLevel_len _ _ _
      have htl : (cs.take i).length = i := by rw [List.length_take]; omega
      have e1 : (l : Int) + 2 * (i : Int) = ((l + 2 * i : Nat) : Int) := by omega
      refine ⟨_, rfl, _, rfl, _, rfl, _, _, rfl, rfl, .inl ⟨by decide, by decide⟩, _, _, rfl, rfl, _, rfl, q, _, l + 2 * i, c, by dsimp only; rw [e1]; rfl, (Same.new (Same.refl H1) ht).seq hq, by rw [hlen]; omega,
        pLevel_lt _ _ _ hlt (by rw [htl]; omega), by rw [hlen]; exact hle, fun p q' H3 hp s3 hp2 hq2 hf2 => ?_⟩
      refine ⟨p, _, rfl, SqT.of hp2, rfl, _, _, rfl, _, _, rfl, rfl, ?_⟩
      refine ⟨_, rfl, _, rfl, _, _, rfl, rfl, ?_⟩
      have es := pLevel_snoc e l (cs.take i) c
      rw [← take_succ hc, htl] at es
      exact ⟨q', some (.int (i : Nat)), some (.str ⟨#[c]⟩), some (.int ((pPoint (pLevel e l (cs.take i)).1 (l + 2 * i) c).2 : Nat)), by rw [es]; rfl, s2.trans s3, by rw [es]; exact hq2, (hf.same (Same.new (Same.refl H1) ht)).step s2 s3 hf2⟩
    · rintro σ H1 ⟨q, v4, v5, v6, rfl, s1, hq, hf⟩
      have ht : cs.take (st cs).cps.size = cs := by rw [hcs, List.take_length]
      rw [ht] at hq ⊢
      refine ⟨_, rfl, _, rfl, by show 2 ≤ sizeLine; decide, fun p hp => k p q _ (s1.free hp) (Same.new s1 hp) upd_same ((Same.new (Same.refl H1) hp).seq hq) (hf.same (Same.new (Same.refl H1) hp))⟩
end
end Sand
/-! ## PRows -/
set_option Elab.async false
set_option linter.all false
set_option maxRecDepth 100000
set_option maxHeartbeats 4000000
namespace Sand
open PySem L2
abbrev s_past_rows : Stmt := top 15
theorem sc_past_rows : FnScope ["ends", "closed", "rows", "inside", "below", "more"] ["ends", "closed", "rows"] (defScope s_past_rows) := ⟨rfl, rfl, rfl, by decide +kernel, rfl, by decide +kernel, by decide +kernel⟩
def spRows (K : PySem.W.Frag) : Sp := fun vs H Q _ => ∃ (a p : Addr) (e : List Nat) (c : Int) (w : Nat) (rs : List Row), vs = [.ref a, .int c, .ref p] ∧ SqL K H a (nl e) ∧ RowsAt K H p rs ∧ Lt e ∧ e.length = 2 * w ∧ w ≤ 100 ∧ (∀ r, r ∈ rs → RowOk w r) ∧
  ∀ t q H', H t = none → Same H H' → H' t = some (.tup [.ref q, .int (c + ((pRows e rs).2 : Nat))]) → SqL K H' q (nl (pRows e rs).1) → From H H' a q → Q (.ref t) H'
section
variable {P : Program} {w : World} {K : PySem.W.Frag} {mg : Str → Option Value} {base : Heap}
theorem ok_past_rows {f f1 : Addr} {fd fd1 : FuncData} (F : Fun K "past_rows" "past_rows" s_past_rows f fd) (T : Glob mg)
    (c_past_level : Cal K mg "past_level" f1 fd1 ["ends", "left", "text"]) (G_past_level : FnOk P w K mg base CX0 2 f1 fd1 ["ends", "left", "text"] (spLevel K)) : FnOk P w K mg base CX0 3 f fd ["ends", "closed", "rows"] (spRows K) := by
  refine F.ok sc_past_rows (fun vs H Q E h => ?_) (fun cdv A outer s H vs Q E hr h => ?_)
  · obtain ⟨a, p, e, c, w, rs, rfl, _⟩ := h
    rfl
  · obtain ⟨a, p, e, c, w, rs, rfl, hS, ⟨vs, hp, hrs⟩, hlt, hle, hw, hok, k⟩ := h
    have hu := hu_of hr
    have hr_past_level : Room 2 _ := hr
    refine ⟨_, (pss_cons (ps_for PassesOwn.never rfl (pi_list (pv 2)) (pg_tup rfl (pgs_cons (pg_name (i := 3) sc_past_rows.nd rfl (Or.inl rfl)) (pgs_cons (pg_name (i := 4) sc_past_rows.nd rfl (Or.inl rfl)) pgs_nil))) (pss_cons (ps_asg (pe_call G_past_level hr_past_level rfl c_past_level.mg c_past_level.kp c_past_level.b .nil pass0 (pa_cons (pv 0) (pa_cons pe_int (pa_cons (pv 3) pa_nil)))) (pg_tup rfl (pgs_cons (pg_name (i := 0) sc_past_rows.nd rfl (Or.inl rfl)) (pgs_cons (pg_name (i := 5) sc_past_rows.nd rfl (Or.inl rfl)) pgs_nil))))
      (pss_cons (ps_aug (i := 1) sc_past_rows.nd rfl (Or.inl rfl) (pv 5) ip_add)
      (pss_cons (ps_asg (pe_call G_past_level hr_past_level rfl c_past_level.mg c_past_level.kp c_past_level.b .nil pass0 (pa_cons (pv 0) (pa_cons pe_int (pa_cons (pv 4) pa_nil)))) (pg_tup rfl (pgs_cons (pg_name (i := 0) sc_past_rows.nd rfl (Or.inl rfl)) (pgs_cons (pg_name (i := 5) sc_past_rows.nd rfl (Or.inl rfl)) pgs_nil))))
      (pss_one (ps_aug (i := 1) sc_past_rows.nd rfl (Or.inl rfl) (pv 5) ip_add))))))
      (pss_one (ps_ret (pe_tup (pa_cons (pv 0) (pa_cons (pv 1) pa_nil)))))), ?_⟩
    have e0 : c + (((pRows e (rs.take 0)).2 : Nat) : Int) = c := by rw [List.take_zero]; exact Int.add_zero c
    refine ⟨_, rfl, p, rfl, ⟨_, hp⟩, for_list (K := K) (a := p) (xs := vs) (fun i σ H' => ∃ q v3 v4 v5, σ = [some (.ref q), some (.int (c + ((pRows e (rs.take i)).2 : Nat))), some (.ref p), v3, v4, v5] ∧ Same H H' ∧ SqL K H' q (nl (pRows e (rs.take i)).1) ∧ From H H' a q)
      ⟨a, none, none, none, by rw [e0]; rfl, Same.refl H, hS, .inl rfl⟩ (fun i σ H' _ ⟨q, v3, v4, v5, _, s1, _, _⟩ => s1.seq hp) ?_ ?_⟩
    · rintro i x σ H1 hi ⟨q, v3, v4, v5, rfl, s1, hq, hf⟩
      obtain ⟨r, hri, t, rfl, ht⟩ := pd_get hrs hi
      have hR := hok r (List.mem_of_getElem? hri)
      have hlen : (pRows e (rs.take i)).1.length = e.length := pRows_len _ _
      have hlt1 : Lt (pRows e (rs.take i)).1 := pRows_lt _ _ hlt hle fun r hr => hok r (List.mem_of_mem_take hr)
      have l1 := hR.l1
      have l2 := hR.l2
      refine ⟨t, _, rfl, s1.seqT ht, rfl, _, _, rfl, _, _, rfl, rfl, ?_⟩
      -- the points within the row
      refine ⟨_, rfl, _, rfl, q, _, 1, r.1, rfl, hq, by rw [hlen]; omega, hlt1, by rw [hlen]; omega, fun p1 q1 H2 hp1 s2 hp2 hq1 hf1 => ?_⟩
      refine ⟨p1, _, rfl, SqT.of hp2, rfl, _, _, rfl, _, _, rfl, rfl, ?_⟩
      refine ⟨_, rfl, _, rfl, _, _, rfl, rfl, ?_⟩
      -- those below it
      refine ⟨_, rfl, _, rfl, q1, _, 0, r.2, rfl, hq1, by rw [pLevel_len, hlen]; omega, pLevel_lt _ _ _ hlt1 (by rw [hlen]; omega), by rw [pLevel_len, hlen]; omega, fun p3 q3 H3 hp3 s3 hp4 hq3 hf3 => ?_⟩
      refine ⟨p3, _, rfl, SqT.of hp4, rfl, _, _, rfl, _, _, rfl, rfl, ?_⟩
      refine ⟨_, rfl, _, rfl, _, _, rfl, rfl, ?_⟩
      have es : pRows e (rs.take (i + 1)) = ((pRow (pRows e (rs.take i)).1 r).1, (pRows e (rs.take i)).2 + (pRow (pRows e (rs.take i)).1 r).2) := by
        rw [take_succ hri, pRows_append]; rfl
      refine ⟨q3, some (.str (st r.1)), some (.str (st r.2)), some (.int ((pLevel (pLevel (pRows e (rs.take i)).1 1 r.1).1 0 r.2).2 : Nat)), ?_, (s1.trans s2).trans s3, by rw [es]; exact hq3, (hf.step s1 s2 hf1).step (s1.trans s2) s3 hf3⟩
      have ec : (c + ((pRows e (rs.take i)).2 : Nat)) + ((pLevel (pRows e (rs.take i)).1 1 r.1).2 : Nat) + ((pLevel (pLevel (pRows e (rs.take i)).1 1 r.1).1 0 r.2).2 : Nat) = c + ((pRows e (rs.take (i + 1))).2 : Nat) := by
        rw [es]
        show _ = c + (((pRows e (rs.take i)).2 + ((pLevel (pRows e (rs.take i)).1 1 r.1).2 + (pLevel (pLevel (pRows e (rs.take i)).1 1 r.1).1 0 r.2).2) : Nat) : Int)
        omega
      rw [← ec]
      rfl
    · rintro σ H1 ⟨q, v3, v4, v5, rfl, s1, hq, hf⟩
      have ht : rs.take vs.length = rs := by rw [pd_len hrs, List.take_length]
      rw [ht] at hq ⊢
      exact ⟨_, rfl, _, rfl, by show 2 ≤ sizeLine; decide, fun p hp => k p q _ (s1.free hp) (Same.new s1 hp) upd_same ((Same.new (Same.refl H1) hp).seq hq) (hf.same (Same.new (Same.refl H1) hp))⟩
end
end Sand
/-! ## PRim -/
set_option Elab.async false
set_option linter.all false
set_option maxRecDepth 100000
set_option maxHeartbeats 4000000
namespace Sand
open PySem L2
theorem rim_succ (w : Nat) : Band.rim (w + 1) = Band.rim w ++ [2 * w + 1, 2 * w] := by
  unfold Band.rim
  have e : 2 * (w + 1) = 2 * w + 1 + 1 := by omega
  rw [e, List.range_succ, List.range_succ, List.map_append, List.map_append, List.append_assoc]
  have h1 : (2 * w) % 2 = 0 := by omega
  have h2 : ¬ (2 * w + 1) % 2 = 0 := by omega
  simp [h1, h2]
abbrev s_rim_ends : Stmt := top 12
theorem sc_rim_ends : FnScope ["width", "ends", "k"] ["width"] (defScope s_rim_ends) := ⟨rfl, rfl, rfl, by decide +kernel, rfl, by decide +kernel, by decide +kernel⟩
def spRim (K : PySem.W.Frag) : Sp := fun vs H Q _ => ∃ w : Nat, vs = [.int (w : Int)] ∧ w ≤ 100 ∧
  ∀ p H', H p = none → Same H H' → H' p = some (.lst (nl (Band.rim w))) → Q (.ref p) H'
section
variable {P : Program} {w : World} {K : PySem.W.Frag} {mg : Str → Option Value} {base : Heap}
theorem ok_rim_ends {f : Addr} {fd : FuncData} (F : Fun K "rim_ends" "rim_ends" s_rim_ends f fd) (T : Glob mg) : FnOk P w K mg base CX0 1 f fd ["width"] (spRim K) := by
  refine F.ok sc_rim_ends (fun vs H Q E h => ?_) (fun cdv A outer s H vs Q E hr h => ?_)
  · obtain ⟨w, rfl, _⟩ := h
    rfl
  · obtain ⟨w, rfl, hw, k⟩ := h
    have hu := hu_of hr
    refine ⟨_, (pss_cons (ps_set (i := 1) sc_rim_ends.nd rfl (Or.inl rfl) (pe_lst pa_nil))
      (pss_cons (ps_for PassesOwn.never rfl (pi_range1 (by rfl) T.range (pa_cons (pv 0) pa_nil)) (pg_name (i := 2) sc_rim_ends.nd rfl (Or.inl rfl)) (pss_one (ps_expr (pe_bm PySem.F.plainAttrs_list PySem.F.slot_list_extend PySem.F.type_list_extend mt_extend (pv 1) (pa_cons (pe_lst (pa_cons (pe_op op_add (pe_op op_mul pe_int (pv 2)) pe_int) (pa_cons (pe_op op_mul pe_int (pv 2)) pa_nil))) pa_nil)))))
      (pss_one (ps_ret (pv 1))))), ?_⟩
    refine ⟨Nat.zero_le _, fun b hb => ?_⟩
    refine ⟨_, rfl, _, rfl, by omega, by omega, for_range (fun i σ H' => ∃ v2, σ = [some (.int (w : Int)), some (.ref b), v2] ∧ Same H H' ∧ H' b = some (.lst (nl (Band.rim i))))
      ⟨none, rfl, Same.new (Same.refl H) hb, upd_same⟩ ?_ ?_⟩
    · rintro i σ H1 hi ⟨v2, rfl, s1, hb1⟩
      have hi : i < w := by omega
      refine ⟨_, rfl, .inl ⟨rfl, _, SqL.of hb1⟩, _, rfl, _, _, rfl, rfl, .inl ⟨by decide, by decide⟩, _, _, rfl, rfl, _, rfl, _, _, rfl, rfl, .inl ⟨by decide, by decide⟩, by show 2 ≤ sizeLine; decide, fun t ht => ?_⟩
      have hbt := ne_of_none hb1 ht
      refine ⟨b, t, _, _, rfl, rfl, by rw [upd_ne hbt]; exact hb1, upd_same, sz1000 (by rw [nl_len, rim_len]; show 2 * i + 2 ≤ 1000; omega), ?_⟩
      refine ⟨some (.int (0 + (i : Int))), rfl, Same.mut (Same.new s1 ht) hb, ?_⟩
      rw [upd_same, rim_succ]
      unfold nl
      rw [List.map_append]
      simp only [List.map_cons, List.map_nil, Int.zero_add]
      have e1 : (2 : Int) * (i : Int) + 1 = ((2 * i + 1 : Nat) : Int) := by omega
      have e2 : (2 : Int) * (i : Int) = ((2 * i : Nat) : Int) := by omega
      rw [e1, e2]
    · rintro σ H1 ⟨v2, rfl, s1, hb1⟩
      have e : ((w : Int)).toNat = w := by omega
      rw [e] at hb1
      exact ⟨_, rfl, k b H1 hb s1 hb1⟩
end
abbrev s_finished : Stmt := top 16
theorem sc_finished : FnScope ["ends", "closed", "rows", "more"] ["ends", "closed", "rows"] (defScope s_finished) := ⟨rfl, rfl, rfl, by decide +kernel, rfl, by decide +kernel, by decide +kernel⟩
def spFin (K : PySem.W.Frag) : Sp := fun vs H Q _ => ∃ (a p : Addr) (e : List Nat) (c : Int) (w : Nat) (rs : List Row), vs = [.ref a, .int c, .ref p] ∧ SqL K H a (nl e) ∧ RowsAt K H p rs ∧ Lt e ∧ e.length = 2 * w ∧ w ≤ 100 ∧ (∀ r, r ∈ rs → RowOk w r) ∧ rs ≠ [] ∧
  ∀ H', Same H H' → Q (.int (c + (fin e rs : Nat))) H'
theorem repS_dash (n : Nat) : repS ("-" : Str) (n : Int) = st (List.replicate n 45) := by
  rw [dash_is]
  unfold repS st
  congr 2
  rw [Int.toNat_natCast]
  induction n with
  | zero => rfl
  | succ n ih => rw [List.replicate_succ, List.replicate_succ, List.flatten_cons, ih]; rfl
theorem repS_bar (n : Nat) : repS ("|" : Str) (n : Int) = st (List.replicate n 124) := by
  rw [bar_is]
  unfold repS st
  congr 2
  rw [Int.toNat_natCast]
  induction n with
  | zero => rfl
  | succ n ih => rw [List.replicate_succ, List.replicate_succ, List.flatten_cons, ih]; rfl
theorem last_get {rs : List Row} (h : rs ≠ []) : rs[rs.length - 1]? = some (lastRow rs) := by
  have : 0 < rs.length := List.length_pos_iff.mpr h
  unfold lastRow
  rw [List.getD_eq_getElem?_getD, List.getElem?_eq_getElem (by omega)]
  rfl
theorem last_row {K : PySem.W.Frag} {H : Hp} {vs : List V} {rs : List Row} (hp : Paired (RowV K H) vs rs) (h : rs ≠ []) : ∃ t, atI vs (-1) = some (.ref t) ∧ SqT K H t [.str (st (lastRow rs).1), .str (st (lastRow rs).2)] := by
  have hl := pd_len hp
  have h0 : 0 < rs.length := List.length_pos_iff.mpr h
  have hv : vs[vs.length - 1]? = some vs[vs.length - 1] := List.getElem?_eq_getElem (by omega)
  obtain ⟨r, hr, t, e, q⟩ := pd_get hp hv
  rw [hl, last_get h] at hr
  cases hr
  exact ⟨t, at_last (by rw [hv, e]), q⟩
section
variable {P : Program} {w : World} {K : PySem.W.Frag} {mg : Str → Option Value} {base : Heap}
theorem ok_finished {f f1 f2 : Addr} {fd fd1 fd2 : FuncData} (F : Fun K "finished" "finished" s_finished f fd) (T : Glob mg)
    (c_past_level : Cal K mg "past_level" f1 fd1 ["ends", "left", "text"]) (G_past_level : FnOk P w K mg base CX0 2 f1 fd1 ["ends", "left", "text"] (spLevel K))
    (c_past_rows : Cal K mg "past_rows" f2 fd2 ["ends", "closed", "rows"]) (G_past_rows : FnOk P w K mg base CX0 3 f2 fd2 ["ends", "closed", "rows"] (spRows K)) : FnOk P w K mg base CX0 4 f fd ["ends", "closed", "rows"] (spFin K) := by
  refine F.ok sc_finished (fun vs H Q E h => ?_) (fun cdv A outer s H vs Q E hr h => ?_)
  · obtain ⟨a, p, e, c, w, rs, rfl, _⟩ := h
    rfl
  · obtain ⟨a, p, e, c, w, rs, rfl, hS, ⟨vs, hp, hrs⟩, hlt, hle, hw, hok, hne, k⟩ := h
    have hu := hu_of hr
    have hr_past_rows : Room 3 _ := hr
    have hr_past_level : Room 2 _ := hr.mono (by decide)
    refine ⟨_, (pss_cons (ps_asg (pe_call G_past_rows hr_past_rows rfl c_past_rows.mg c_past_rows.kp c_past_rows.b .nil pass0 (pa_cons (pv 0) (pa_cons (pv 1) (pa_cons (pe_slice sl_list (pv 2) po_none (po_some (pe_un un_neg pe_int))) pa_nil)))) (pg_tup rfl (pgs_cons (pg_name (i := 0) sc_finished.nd rfl (Or.inl rfl)) (pgs_cons (pg_name (i := 1) sc_finished.nd rfl (Or.inl rfl)) pgs_nil))))
      (pss_cons (ps_asg (pe_call G_past_level hr_past_level rfl c_past_level.mg c_past_level.kp c_past_level.b .nil pass0 (pa_cons (pv 0) (pa_cons pe_int (pa_cons (pe_ix ix_tup (pe_ix ix_list (pv 2) (pe_un un_neg pe_int) (fun _ _ => rfl)) pe_int (fun _ _ => rfl)) pa_nil)))) (pg_tup rfl (pgs_cons (pg_name (i := 0) sc_finished.nd rfl (Or.inl rfl)) (pgs_cons (pg_name (i := 3) sc_finished.nd rfl (Or.inl rfl)) pgs_nil))))
      (pss_one (ps_ret (pe_op op_add (pe_op op_add (pv 1) (pv 3)) (pe_ix ix_tup (pe_call G_past_level hr_past_level rfl c_past_level.mg c_past_level.kp c_past_level.b .nil pass0 (pa_cons (pv 0) (pa_cons pe_int (pa_cons (pe_op op_repS pe_str (pe_op op_fdiv (pe_callB call_len_seq (by rfl) T.len PySem.boot_len (pa_cons (pv 0) pa_nil)) pe_int)) pa_nil)))) pe_int (fun _ _ => rfl))))))), ?_⟩
    have hokd : ∀ r, r ∈ rs.dropLast → RowOk w r := fun r h => hok r ((List.dropLast_sublist rs).subset h)
    have hlast := hok _ (lastRow_mem hne)
    have l1 := hlast.l1
    -- the rows but the last one
    refine ⟨_, rfl, _, rfl, _, rfl, _, rfl, _, rfl, p, _, rfl, hp, fun b hb => ?_⟩
    have sb : Same H (upd H b (.lst (cutV vs none (some (-1))))) := Same.new (Same.refl H) hb
    have hrows : RowsAt K (upd H b (.lst (cutV vs none (some (-1))))) b rs.dropLast := ⟨_, SqL.of upd_same, by have z := pd_dropLast (pd_same sb hrs); rw [← cut_last] at z; exact z⟩
    refine ⟨a, b, e, c, w, rs.dropLast, rfl, sb.seq hS, hrows, hlt, hle, hw, hokd, fun t q H1 ht s1 ht1 hq _ => ?_⟩
    refine ⟨t, _, rfl, SqT.of ht1, rfl, _, _, rfl, _, _, rfl, rfl, ?_⟩
    have s01 := sb.trans s1
    have hlt1 : Lt (pRows e rs.dropLast).1 := pRows_lt _ _ hlt hle hokd
    have hl1 : (pRows e rs.dropLast).1.length = 2 * w := by rw [pRows_len]; exact hle
    -- the points within the last row
    obtain ⟨tr, hat, htr⟩ := last_row (pd_same s01 hrs) hne
    refine ⟨_, rfl, _, rfl, _, rfl, p, _, _, _, rfl, rfl, s01.seq hp, hat, tr, _, _, _, rfl, rfl, htr, at_of (j := 0) rfl rfl, ?_⟩
    refine ⟨q, _, 1, _, rfl, hq, by rw [hl1]; omega, hlt1, by rw [hl1]; omega, fun t2 q2 H2 ht2 s2 ht3 hq2 _ => ?_⟩
    refine ⟨t2, _, rfl, SqT.of ht3, rfl, _, _, rfl, _, _, rfl, rfl, ?_⟩
    have hl2 : (pLevel (pRows e rs.dropLast).1 1 (lastRow rs).1).1.length = 2 * w := by rw [pLevel_len]; exact hl1
    -- the lower rim
    have ediv : ((nl (pLevel (pRows e rs.dropLast).1 1 (lastRow rs).1).1).length : Int) / 2 = ((e.length / 2 : Nat) : Int) := by rw [nl_len, hl2, hle]; omega
    refine ⟨_, rfl, _, rfl, _, _, rfl, rfl, _, rfl, _, rfl, q2, _, rfl, .inl hq2, _, _, rfl, rfl, ⟨by decide, by decide⟩, _, _, rfl, rfl, ?_⟩
    dsimp only
    rw [ediv]
    refine ⟨by omega, by omega, by decide +kernel, q2, _, 0, List.replicate (e.length / 2) 45, by rw [repS_dash]; rfl, hq2, by rw [hl2, List.length_replicate]; omega, pLevel_lt _ _ _ hlt1 (by rw [hl1]; omega), by rw [hl2]; omega, fun t4 q4 H3 ht4 s3 ht5 hq4 _ => ?_⟩
    refine ⟨t4, _, _, _, rfl, rfl, SqT.of ht5, at_of (j := 1) rfl rfl, _, _, rfl, rfl, ?_⟩
    have ef : c + ((pRows e rs.dropLast).2 : Nat) + ((pLevel (pRows e rs.dropLast).1 1 (lastRow rs).1).2 : Nat) + ((pLevel (pLevel (pRows e rs.dropLast).1 1 (lastRow rs).1).1 0 (List.replicate (e.length / 2) 45)).2 : Nat) = c + (fin e rs : Nat) := by
      unfold fin
      omega
    dsimp only
    rw [ef]
    exact k H3 ((s01.trans s2).trans s3)
end
end Sand
/-! ## PStrip -/
set_option Elab.async false
set_option linter.all false
set_option maxRecDepth 100000
set_option maxHeartbeats 4000000
namespace Sand
open PySem L2
abbrev s_check_rows : Stmt := top 9
theorem sc_check_rows : FnScope ["width", "rows", "inside", "below", "wrong", "char"] ["width", "rows"] (defScope s_check_rows) := ⟨rfl, rfl, rfl, by decide +kernel, rfl, by decide +kernel, by decide +kernel⟩
def spCheck (K : PySem.W.Frag) : Sp := fun vs H Q _ => ∃ (w : Nat) (p : Addr) (rs : List Row), vs = [.int (w : Int), .ref p] ∧ RowsAt K H p rs ∧ w ≤ 100 ∧ (∀ r, r ∈ rs → RowOk w r) ∧ ∀ H', Same H H' → Q .non H'
theorem chars_is : ((".-|" : Str)) = ⟨#[46, 45, 124]⟩ := by decide +kernel
theorem st_app (a b : List Nat) : st a ++ st b = st (a ++ b) := by
  show (⟨a.toArray ++ b.toArray⟩ : Str) = ⟨(a ++ b).toArray⟩
  simp
section
variable {P : Program} {w : World} {K : PySem.W.Frag} {mg : Str → Option Value} {base : Heap}
theorem ok_check_rows {f : Addr} {fd : FuncData} (F : Fun K "check_rows" "check_rows" s_check_rows f fd) (T : Glob mg) : FnOk P w K mg base CX0 1 f fd ["width", "rows"] (spCheck K) := by
  obtain ⟨tch, h_CHARACTERS⟩ := T.chars
  refine F.ok sc_check_rows (fun vs H Q E h => ?_) (fun cdv A outer s H vs Q E hr h => ?_)
  · obtain ⟨w, p, rs, rfl, _⟩ := h
    rfl
  · obtain ⟨w, p, rs, rfl, ⟨vs, hp, hrs⟩, hw, hok, k⟩ := h
    have hu := hu_of hr
    refine ⟨_, (pss_one (ps_for PassesOwn.never rfl (pi_list (pv 1)) (pg_tup rfl (pgs_cons (pg_name (i := 2) sc_check_rows.nd rfl (Or.inl rfl)) (pgs_cons (pg_name (i := 3) sc_check_rows.nd rfl (Or.inl rfl)) pgs_nil))) (pss_cons (ps_set (i := 4) sc_check_rows.nd rfl (Or.inl rfl) (pe_or (pe_cmpR op_ne (pe_callB call_len_str (by rfl) T.len PySem.boot_len (pa_cons (pv 2) pa_nil)) (pe_op op_sub (pv 0) pe_int) (nomark _)) (pe_one (pe_cmpR op_ne (pe_callB call_len_str (by rfl) T.len PySem.boot_len (pa_cons (pv 3) pa_nil)) (pv 0) (nomark _)))))
      (pss_cons (ps_for PassesOwn.never rfl (pi_str (pe_op op_add_str (pv 2) (pv 3))) (pg_name (i := 5) sc_check_rows.nd rfl (Or.inl rfl)) (pss_one (ps_if (pt_cmpR op_notIn_sign (pv 5) (pe_glob (v := V.str ".-|") rfl h_CHARACTERS ⟨_, rfl⟩) rfl) (pss_one (ps_set (i := 4) sc_check_rows.nd rfl (Or.inl rfl) pe_bl)) pss_nil)))
      (pss_one (ps_if (pt_val (pv 4)) (pss_one ps_never) pss_nil)))))), ?_⟩
    refine ⟨_, rfl, p, rfl, ⟨_, hp⟩, for_list (K := K) (a := p) (xs := vs) (fun i σ H' => ∃ v2 v3 v4 v5, σ = [some (.int (w : Int)), some (.ref p), v2, v3, v4, v5] ∧ Same H H')
      ⟨none, none, none, none, rfl, Same.refl H⟩ (fun i σ H' _ ⟨v2, v3, v4, v5, _, s1⟩ => s1.seq hp) ?_ ?_⟩
    · rintro i x σ H1 hi ⟨v2, v3, v4, v5, rfl, s1⟩
      obtain ⟨r, hri, t, rfl, ht⟩ := pd_get hrs hi
      have hR := hok r (List.mem_of_getElem? hri)
      have l1 := hR.l1
      have l2 := hR.l2
      have e1 : ((st r.1).length : Int) = (w : Int) - 1 := by show ((r.1.length : Nat) : Int) = _; omega
      have e2 : ((st r.2).length : Int) = (w : Int) := by show ((r.2.length : Nat) : Int) = _; omega
      refine ⟨t, _, rfl, s1.seqT ht, rfl, _, _, rfl, _, _, rfl, rfl, ?_⟩
      refine ⟨_, rfl, _, rfl, sz1000 (by show r.1.length ≤ 1000; omega), _, rfl, _, _, rfl, rfl, rfl, ?_⟩
      dsimp only
      rw [e1, decide_eq_true (rfl : V.int ((w : Int) - 1) = V.int ((w : Int) - 1))]
      refine ⟨_, rfl, iteF ?_⟩
      refine ⟨_, rfl, _, rfl, sz1000 (by show r.2.length ≤ 1000; omega), _, rfl, rfl, ?_⟩
      rw [e2, decide_eq_true (rfl : V.int (w : Int) = V.int (w : Int))]
      -- every sign
      refine ⟨_, rfl, _, rfl, _, _, rfl, rfl, sz1000 (by show r.1.length + r.2.length ≤ 1000; omega), _, rfl, ?_⟩
      rw [st_app]
      refine for_it walk_str (fun j σ H' => ∃ v5, σ = [some (.int (w : Int)), some (.ref p), some (.str (st r.1)), some (.str (st r.2)), some (.bl false), v5] ∧ Same H H') ⟨v5, rfl, s1⟩ (fun _ _ _ _ _ => trivial) ?_ ?_
      · rintro j x σ H2 H3 hj ⟨v5, rfl, s2⟩ ⟨rfl, c, hc, rfl⟩
        have hc := st_get hc
        have hs : Sign c := by
          rcases List.mem_append.mp (List.mem_of_getElem? hc) with q | q
          · exact hR.s1 c q
          · exact hR.s2 c q
        have hm : c ∈ (".-|" : Str).cps.toList := by
          rw [chars_is]
          rcases hs with rfl | rfl | rfl <;> simp
        refine ⟨_, rfl, c, _, rfl, rfl, _, rfl, ?_⟩
        rw [decide_eq_true hm]
        exact iteF ⟨_, rfl, s2⟩
      · rintro σ H2 ⟨v5, rfl, s2⟩
        exact ⟨_, rfl, _, rfl, iteF ⟨_, _, _, _, rfl, s2⟩⟩
    · rintro σ H1 ⟨v2, v3, v4, v5, rfl, s1⟩
      exact k H1 s1
end

/-! ### the class Strip -/
/-- the attributes in the order in which __init__ stores them -/
def sF (w : Int) (a b c : Addr) : List (Str × V) := putF "last_rows" (.ref c) (putF "round_rows" (.ref b) (putF "first_rows" (.ref a) (putF "wide" (.int w) [])))
theorem n_lw : ¬ ("wide" : Str) = "last_rows" := by decide +kernel
theorem n_lf : ¬ ("first_rows" : Str) = "last_rows" := by decide +kernel
theorem n_lr : ¬ ("round_rows" : Str) = "last_rows" := by decide +kernel
theorem n_rw : ¬ ("wide" : Str) = "round_rows" := by decide +kernel
theorem n_rf : ¬ ("first_rows" : Str) = "round_rows" := by decide +kernel
theorem n_fw : ¬ ("wide" : Str) = "first_rows" := by decide +kernel
theorem sF_wide (w : Int) (a b c : Addr) : (sF w a b c).lookup ("wide" : Str) = some (.int w) := by
  unfold sF; rw [lookup_putF, if_neg n_lw, lookup_putF, if_neg n_rw, lookup_putF, if_neg n_fw, lookup_putF, if_pos rfl]
theorem sF_first (w : Int) (a b c : Addr) : (sF w a b c).lookup ("first_rows" : Str) = some (.ref a) := by
  unfold sF; rw [lookup_putF, if_neg n_lf, lookup_putF, if_neg n_rf, lookup_putF, if_pos rfl]
theorem sF_round (w : Int) (a b c : Addr) : (sF w a b c).lookup ("round_rows" : Str) = some (.ref b) := by
  unfold sF; rw [lookup_putF, if_neg n_lr, lookup_putF, if_pos rfl]
theorem sF_last (w : Int) (a b c : Addr) : (sF w a b c).lookup ("last_rows" : Str) = some (.ref c) := by
  unfold sF; rw [lookup_putF, if_pos rfl]
/-- what the walk asks of the class -/
structure StripT (K : PySem.W.Frag) (C : Addr) : Prop where
  cl : Cls K C
  nW : NoAttr K C "wide"
  nF : NoAttr K C "first_rows"
  nR : NoAttr K C "round_rows"
  nL : NoAttr K C "last_rows"
/-- a property -/
structure PCal (K : PySem.W.Frag) (C : Addr) (f : Str) (p g : Addr) (fd : FuncData) : Prop where
  pr : PropOf K C f p g
  b : Binds K fd ["self"] []
/-- a class to be called -/
structure MCal (K : PySem.W.Frag) (mg : Str → Option Value) (x : Str) (C f : Addr) (fd : FuncData) (ps : List Str) : Prop where
  mk_ : Mk K C f
  mg : mg x = some (.ref C)
  b : Binds K fd ps []
/-- the strip B stands at p -/
def StripAt (K : PySem.W.Frag) (C : Addr) (H : Hp) (p : Addr) (B : Band) : Prop := ∃ dx a b c, H p = some (.ins C dx (sF (B.w : Int) a b c)) ∧ RowsAt K H a B.ah ∧ RowsAt K H b B.cy ∧ RowsAt K H c B.en
theorem StripAt.same {K : PySem.W.Frag} {C : Addr} {H H' : Hp} {p : Addr} {B : Band} (s : Same H H') (h : StripAt K C H p B) : StripAt K C H' p B :=
  let ⟨dx, a, b, c, h1, h2, h3, h4⟩ := h
  ⟨dx, a, b, c, s _ _ h1, h2.same s, h3.same s, h4.same s⟩
/-- all but x is as it was -/
def But (x : Addr) (H H' : Hp) : Prop := ∀ b o, H b = some o → b ≠ x → H' b = some o
theorem But.seq {K : PySem.W.Frag} {H H' : Hp} {x a C dx : Addr} {fs : List (Str × V)} {xs : List V} (k : But x H H') (hx : H x = some (.ins C dx fs)) (h : SqL K H a xs) : SqL K H' a xs := by
  rcases h with (h | ⟨o, h⟩) | h
  · exact .inl (.inl (k _ _ h (ne_of h hx (fun z => nomatch z))))
  · exact .inl (.inr ⟨o, k _ _ h (ne_of h hx (fun z => nomatch z))⟩)
  · exact .inr h
theorem But.seqT {K : PySem.W.Frag} {H H' : Hp} {x a C dx : Addr} {fs : List (Str × V)} {xs : List V} (k : But x H H') (hx : H x = some (.ins C dx fs)) (h : SqT K H a xs) : SqT K H' a xs := by
  rcases h with (h | ⟨o, h⟩) | h
  · exact .inl (.inl (k _ _ h (ne_of h hx (fun z => nomatch z))))
  · exact .inl (.inr ⟨o, k _ _ h (ne_of h hx (fun z => nomatch z))⟩)
  · exact .inr h
theorem But.pd {K : PySem.W.Frag} {H H' : Hp} {x C dx : Addr} {fs : List (Str × V)} {vs : List V} {rs : List Row} (k : But x H H') (hx : H x = some (.ins C dx fs)) (h : Paired (RowV K H) vs rs) : Paired (RowV K H') vs rs :=
  Paired.mapP h fun _ _ ⟨t, e, q⟩ => ⟨t, e, k.seqT hx q⟩
theorem But.rows {K : PySem.W.Frag} {H H' : Hp} {x p C dx : Addr} {fs : List (Str × V)} {rs : List Row} (k : But x H H') (hx : H x = some (.ins C dx fs)) (h : RowsAt K H p rs) : RowsAt K H' p rs :=
  let ⟨vs, q, r⟩ := h
  ⟨vs, k.seq hx q, k.pd hx r⟩
theorem But.refl (x : Addr) (H : Hp) : But x H H := fun _ _ h _ => h
theorem But.upd {x : Addr} {H H' : Hp} {o : HO} (k : But x H H') : But x H (upd H' x o) := fun b u e hb => by rw [upd_ne hb]; exact k b u e hb
theorem But.new {x p : Addr} {H H' : Hp} {o : HO} (k : But x H H') (h : H' p = none) : But x H (L2.upd H' p o) := fun b u e hb => by rw [upd_ne (ne_of_none (k b u e hb) h)]; exact k b u e hb
theorem But.same {x : Addr} {H H1 H2 : Hp} (s : Same H H1) (k : But x H1 H2) : But x H H2 := fun b o e hb => k b o (s b o e) hb
abbrev s_Strip___init__ : Stmt := inClass (top 10) 0
theorem sc_Strip___init__ : FnScope ["self", "width", "ahead", "cycle", "end"] ["self", "width", "ahead", "cycle", "end"] (defScope s_Strip___init__) := ⟨rfl, rfl, rfl, by decide +kernel, rfl, by decide +kernel, by decide +kernel⟩
def spInit (K : PySem.W.Frag) (C : Addr) : Sp := fun vs H Q _ => ∃ (x dx pa pc pe : Addr) (B : Band), vs = [.ref x, .int (B.w : Int), .ref pa, .ref pc, .ref pe] ∧ H x = some (.ins C dx []) ∧ RowsAt K H pa B.ah ∧ RowsAt K H pc B.cy ∧ RowsAt K H pe B.en ∧ B.Ok ∧
  ∀ H', But x H H' → StripAt K C H' x B → Q .non H'
section
variable {P : Program} {w : World} {K : PySem.W.Frag} {mg : Str → Option Value} {base : Heap}
theorem ok_strip_init {f f1 C : Addr} {fd fd1 : FuncData} (F : Fun K "__init__" "Strip.__init__" s_Strip___init__ f fd) (T : Glob mg) (S : StripT K C)
    (c_check_rows : Cal K mg "check_rows" f1 fd1 ["width", "rows"]) (G_check_rows : FnOk P w K mg base CX0 1 f1 fd1 ["width", "rows"] (spCheck K)) : FnOk P w K mg base CX0 2 f fd ["self", "width", "ahead", "cycle", "end"] (spInit K C) := by
  refine F.ok sc_Strip___init__ (fun vs H Q E h => ?_) (fun cdv A outer s H vs Q E hr h => ?_)
  · obtain ⟨x, dx, pa, pc, pe, B, rfl, _⟩ := h
    rfl
  · obtain ⟨x, dx, pa, pc, pe, B, rfl, hx, ha, hc, he, O, k⟩ := h
    have hu := hu_of hr
    have hr_check_rows : Room 1 _ := hr
    refine ⟨_, (pss_cons (ps_if (pt_cmpR op_lt (pv 1) pe_int (nomark _)) (pss_one ps_never) pss_nil)
      (pss_cons (ps_expr (pe_call G_check_rows hr_check_rows rfl c_check_rows.mg c_check_rows.kp c_check_rows.b .nil pass0 (pa_cons (pv 1) (pa_cons (pv 2) pa_nil))))
      (pss_cons (ps_expr (pe_call G_check_rows hr_check_rows rfl c_check_rows.mg c_check_rows.kp c_check_rows.b .nil pass0 (pa_cons (pv 1) (pa_cons (pv 3) pa_nil))))
      (pss_cons (ps_expr (pe_call G_check_rows hr_check_rows rfl c_check_rows.mg c_check_rows.kp c_check_rows.b .nil pass0 (pa_cons (pv 1) (pa_cons (pv 4) pa_nil))))
      (pss_cons (ps_if (pt_cmpR op_eq (pe_callB call_len_seq (by rfl) T.len PySem.boot_len (pa_cons (pv 3) pa_nil)) pe_int (nomark _)) (pss_one ps_never) pss_nil)
      (pss_cons (ps_fld (pv 0) (pv 1) rfl)
      (pss_cons (ps_fld (pv 0) (pe_callTy call_list_of (by rfl) T.list (by decide +kernel) (pa_cons (pv 2) pa_nil)) rfl)
      (pss_cons (ps_fld (pv 0) (pe_callTy call_list_of (by rfl) T.list (by decide +kernel) (pa_cons (pv 3) pa_nil)) rfl)
      (pss_one (ps_fld (pv 0) (pe_callTy call_list_of (by rfl) T.list (by decide +kernel) (pa_cons (pv 4) pa_nil)) rfl)))))))))), ?_⟩
    have w0 := O.w0
    have w4 := O.w4
    refine ⟨_, rfl, _, _, rfl, rfl, _, rfl, ifD (fun q => ?_) (fun _ => ?_)⟩
    · omega
    refine ⟨_, rfl, _, rfl, B.w, pa, B.ah, rfl, ha, by omega, O.ra, fun H1 s1 => ?_⟩
    refine ⟨_, rfl, _, rfl, B.w, pc, B.cy, rfl, hc.same s1, by omega, O.rc, fun H2 s2 => ?_⟩
    refine ⟨_, rfl, _, rfl, B.w, pe, B.en, rfl, (he.same s1).same s2, by omega, O.re, fun H3 s3 => ?_⟩
    have s03 := (s1.trans s2).trans s3
    have hx3 := s03 _ _ hx
    obtain ⟨va, la, ra⟩ := ha.same s03
    obtain ⟨vc, lc, rc⟩ := hc.same s03
    obtain ⟨ve, le, re⟩ := he.same s03
    have c0 := O.c0
    refine ⟨_, rfl, pc, _, rfl, .inl lc, rfl, _, rfl, ifD (fun q => ?_) (fun _ => ?_)⟩
    · have := int_eq.mp q
      rw [pd_len rc] at this; omega
    -- self.wide = width
    refine ⟨_, rfl, _, rfl, x, C, dx, _, rfl, hx3, S.cl, S.nW, by decide, ?_⟩
    have k1 : But x H3 (upd H3 x (.ins C dx (putF "wide" (.int (B.w : Int)) []))) := (But.refl x H3).upd
    -- the three lists
    refine ⟨_, rfl, pa, _, rfl, .inl (k1.seq hx3 la), fun l1 hl1 => ?_⟩
    have n1 : x ≠ l1 := ne_of_none upd_same hl1
    refine ⟨_, rfl, x, C, dx, _, rfl, (by rw [upd_ne n1]; exact upd_same), S.cl, S.nF, by have := length_putF "wide" (.int (B.w : Int)) []; simp at this; omega, ?_⟩
    have k2 := (k1.new (o := .lst va) hl1).upd (o := .ins C dx (putF "first_rows" (.ref l1) (putF "wide" (.int (B.w : Int)) [])))
    refine ⟨_, rfl, pc, _, rfl, .inl (k2.seq hx3 lc), fun l2 hl2 => ?_⟩
    have n2 : x ≠ l2 := ne_of_none upd_same hl2
    refine ⟨_, rfl, x, C, dx, _, rfl, (by rw [upd_ne n2]; exact upd_same), S.cl, S.nR, by have := length_putF "wide" (.int (B.w : Int)) []; have := length_putF "first_rows" (.ref l1) (putF "wide" (.int (B.w : Int)) []); simp at *; omega, ?_⟩
    have k3 := (k2.new (o := .lst vc) hl2).upd (o := .ins C dx (putF "round_rows" (.ref l2) (putF "first_rows" (.ref l1) (putF "wide" (.int (B.w : Int)) []))))
    refine ⟨_, rfl, pe, _, rfl, .inl (k3.seq hx3 le), fun l3 hl3 => ?_⟩
    have n3 : x ≠ l3 := ne_of_none upd_same hl3
    refine ⟨_, rfl, x, C, dx, _, rfl, (by rw [upd_ne n3]; exact upd_same), S.cl, S.nL, by have := length_putF "wide" (.int (B.w : Int)) []; have := length_putF "first_rows" (.ref l1) (putF "wide" (.int (B.w : Int)) []); have := length_putF "round_rows" (.ref l2) (putF "first_rows" (.ref l1) (putF "wide" (.int (B.w : Int)) [])); simp at *; omega, ?_⟩
    have k4 := (k3.new (o := .lst ve) hl3).upd (o := .ins C dx (sF (B.w : Int) l1 l2 l3))
    have n21 : l1 ≠ l2 := ne_of_none (by rw [upd_ne n1.symm]; exact upd_same) hl2
    have n31 : l1 ≠ l3 := ne_of_none (by rw [upd_ne n1.symm, upd_ne n21, upd_ne n1.symm]; exact upd_same) hl3
    have n32 : l2 ≠ l3 := ne_of_none (by rw [upd_ne n2.symm]; exact upd_same) hl3
    refine k _ (But.same s03 k4) ⟨dx, l1, l2, l3, upd_same, ⟨va, SqL.of ?_, k4.pd hx3 ra⟩, ⟨vc, SqL.of ?_, k4.pd hx3 rc⟩, ⟨ve, SqL.of ?_, k4.pd hx3 re⟩⟩
    · rw [upd_ne n1.symm, upd_ne n31, upd_ne n1.symm, upd_ne n21, upd_ne n1.symm]; exact upd_same
    · rw [upd_ne n2.symm, upd_ne n32, upd_ne n2.symm]; exact upd_same
    · rw [upd_ne n3.symm]; exact upd_same

/-! the properties -/
abbrev s_Strip_width : Stmt := inClass (top 10) 1
theorem sc_Strip_width : FnScope ["self"] ["self"] (defScope s_Strip_width) := ⟨rfl, rfl, rfl, by decide +kernel, rfl, by decide +kernel, by decide +kernel⟩
abbrev s_Strip_ahead : Stmt := inClass (top 10) 2
theorem sc_Strip_ahead : FnScope ["self"] ["self"] (defScope s_Strip_ahead) := ⟨rfl, rfl, rfl, by decide +kernel, rfl, by decide +kernel, by decide +kernel⟩
abbrev s_Strip_cycle : Stmt := inClass (top 10) 3
theorem sc_Strip_cycle : FnScope ["self"] ["self"] (defScope s_Strip_cycle) := ⟨rfl, rfl, rfl, by decide +kernel, rfl, by decide +kernel, by decide +kernel⟩
abbrev s_Strip_end : Stmt := inClass (top 10) 4
theorem sc_Strip_end : FnScope ["self"] ["self"] (defScope s_Strip_end) := ⟨rfl, rfl, rfl, by decide +kernel, rfl, by decide +kernel, by decide +kernel⟩
abbrev s_Strip_least : Stmt := inClass (top 10) 5
theorem sc_Strip_least : FnScope ["self"] ["self"] (defScope s_Strip_least) := ⟨rfl, rfl, rfl, by decide +kernel, rfl, by decide +kernel, by decide +kernel⟩
def spWidth (K : PySem.W.Frag) (C : Addr) : Sp := fun vs H Q _ => ∃ (p : Addr) (B : Band), vs = [.ref p] ∧ StripAt K C H p B ∧ Q (.int (B.w : Int)) H
def spLeast (K : PySem.W.Frag) (C : Addr) : Sp := fun vs H Q _ => ∃ (p : Addr) (B : Band), vs = [.ref p] ∧ StripAt K C H p B ∧ Q (.int (B.least : Int)) H
def spAhead (K : PySem.W.Frag) (C : Addr) : Sp := fun vs H Q _ => ∃ (p : Addr) (B : Band), vs = [.ref p] ∧ StripAt K C H p B ∧ ∀ q H', H q = none → Same H H' → RowsAt K H' q B.ah → Q (.ref q) H'
def spCycle (K : PySem.W.Frag) (C : Addr) : Sp := fun vs H Q _ => ∃ (p : Addr) (B : Band), vs = [.ref p] ∧ StripAt K C H p B ∧ ∀ q H', H q = none → Same H H' → RowsAt K H' q B.cy → Q (.ref q) H'
def spEnd (K : PySem.W.Frag) (C : Addr) : Sp := fun vs H Q _ => ∃ (p : Addr) (B : Band), vs = [.ref p] ∧ StripAt K C H p B ∧ ∀ q H', H q = none → Same H H' → RowsAt K H' q B.en → Q (.ref q) H'
theorem ok_width {f C : Addr} {fd : FuncData} (F : Fun K "width" "Strip.width" s_Strip_width f fd) (S : StripT K C) : FnOk P w K mg base CX0 1 f fd ["self"] (spWidth K C) := by
  refine F.ok sc_Strip_width (fun vs H Q E h => ?_) (fun cdv A outer s H vs Q E hr h => ?_)
  · obtain ⟨p, B, rfl, _⟩ := h
    rfl
  · obtain ⟨p, B, rfl, ⟨dx, a, b, c, hp, ha, hb, hc⟩, k⟩ := h
    refine ⟨_, (pss_one (ps_ret (pe_fld (pv 0) rfl))), ?_⟩
    exact ⟨_, rfl, p, C, dx, _, _, rfl, hp, S.cl, S.nW, sF_wide _ _ _ _, k⟩
theorem ok_least {f C : Addr} {fd : FuncData} (F : Fun K "least" "Strip.least" s_Strip_least f fd) (T : Glob mg) (S : StripT K C) : FnOk P w K mg base CX0 1 f fd ["self"] (spLeast K C) := by
  refine F.ok sc_Strip_least (fun vs H Q E h => ?_) (fun cdv A outer s H vs Q E hr h => ?_)
  · obtain ⟨p, B, rfl, _⟩ := h
    rfl
  · obtain ⟨p, B, rfl, ⟨dx, a, b, c, hp, ⟨va, la, ra⟩, hb, ⟨vc, lc, rc⟩⟩, k⟩ := h
    refine ⟨_, (pss_one (ps_ret (pe_callB (call_max2 rfl) (by rfl) T.max (by decide +kernel) (pa_cons pe_int (pa_cons (pe_op op_add (pe_callB call_len_seq (by rfl) T.len PySem.boot_len (pa_cons (pe_fld (pv 0) rfl) pa_nil)) (pe_callB call_len_seq (by rfl) T.len PySem.boot_len (pa_cons (pe_fld (pv 0) rfl) pa_nil))) pa_nil))))), ?_⟩
    refine ⟨_, rfl, p, C, dx, _, _, rfl, hp, S.cl, S.nF, sF_first _ _ _ _, a, _, rfl, .inl la, _, rfl, p, C, dx, _, _, rfl, hp, S.cl, S.nL, sF_last _ _ _ _, c, _, rfl, .inl lc, _, _, rfl, rfl, _, _, rfl, ?_⟩
    dsimp only
    rw [pd_len ra, pd_len rc]
    have e : (if ((B.ah.length : Int) + (B.en.length : Int)) > 1 then ((B.ah.length : Int) + (B.en.length : Int)) else 1) = (B.least : Int) := by
      unfold Band.least
      split <;> omega
    rw [e]
    exact k
theorem ok_ahead {f C : Addr} {fd : FuncData} (F : Fun K "ahead" "Strip.ahead" s_Strip_ahead f fd) (T : Glob mg) (S : StripT K C) : FnOk P w K mg base CX0 1 f fd ["self"] (spAhead K C) := by
  refine F.ok sc_Strip_ahead (fun vs H Q E h => ?_) (fun cdv A outer s H vs Q E hr h => ?_)
  · obtain ⟨p, B, rfl, _⟩ := h
    rfl
  · obtain ⟨p, B, rfl, ⟨dx, a, b, c, hp, ⟨va, la, ra⟩, hb, hc⟩, k⟩ := h
    refine ⟨_, (pss_one (ps_ret (pe_callTy call_list_of (by rfl) T.list (by decide +kernel) (pa_cons (pe_fld (pv 0) rfl) pa_nil)))), ?_⟩
    exact ⟨_, rfl, p, C, dx, _, _, rfl, hp, S.cl, S.nF, sF_first _ _ _ _, a, _, rfl, .inl la, fun q hq => k q _ hq (Same.new (Same.refl H) hq) ⟨va, SqL.of upd_same, pd_same (Same.new (Same.refl H) hq) ra⟩⟩
theorem ok_cycle {f C : Addr} {fd : FuncData} (F : Fun K "cycle" "Strip.cycle" s_Strip_cycle f fd) (T : Glob mg) (S : StripT K C) : FnOk P w K mg base CX0 1 f fd ["self"] (spCycle K C) := by
  refine F.ok sc_Strip_cycle (fun vs H Q E h => ?_) (fun cdv A outer s H vs Q E hr h => ?_)
  · obtain ⟨p, B, rfl, _⟩ := h
    rfl
  · obtain ⟨p, B, rfl, ⟨dx, a, b, c, hp, ha, ⟨vb, lb, rb⟩, hc⟩, k⟩ := h
    refine ⟨_, (pss_one (ps_ret (pe_callTy call_list_of (by rfl) T.list (by decide +kernel) (pa_cons (pe_fld (pv 0) rfl) pa_nil)))), ?_⟩
    exact ⟨_, rfl, p, C, dx, _, _, rfl, hp, S.cl, S.nR, sF_round _ _ _ _, b, _, rfl, .inl lb, fun q hq => k q _ hq (Same.new (Same.refl H) hq) ⟨vb, SqL.of upd_same, pd_same (Same.new (Same.refl H) hq) rb⟩⟩
theorem ok_end {f C : Addr} {fd : FuncData} (F : Fun K "end" "Strip.end" s_Strip_end f fd) (T : Glob mg) (S : StripT K C) : FnOk P w K mg base CX0 1 f fd ["self"] (spEnd K C) := by
  refine F.ok sc_Strip_end (fun vs H Q E h => ?_) (fun cdv A outer s H vs Q E hr h => ?_)
  · obtain ⟨p, B, rfl, _⟩ := h
    rfl
  · obtain ⟨p, B, rfl, ⟨dx, a, b, c, hp, ha, hb, ⟨vc, lc, rc⟩⟩, k⟩ := h
    refine ⟨_, (pss_one (ps_ret (pe_callTy call_list_of (by rfl) T.list (by decide +kernel) (pa_cons (pe_fld (pv 0) rfl) pa_nil)))), ?_⟩
    exact ⟨_, rfl, p, C, dx, _, _, rfl, hp, S.cl, S.nL, sF_last _ _ _ _, c, _, rfl, .inl lc, fun q hq => k q _ hq (Same.new (Same.refl H) hq) ⟨vc, SqL.of upd_same, pd_same (Same.new (Same.refl H) hq) rc⟩⟩
end
end Sand
/-! ## PHead -/
set_option Elab.async false
set_option linter.all false
set_option maxRecDepth 100000
set_option maxHeartbeats 4000000
namespace Sand
open PySem L2
theorem pd_at {K : PySem.W.Frag} {H : Hp} {vs : List V} {rs : List Row} (h : Paired (RowV K H) vs rs) {i : Nat} (hi : i < rs.length) : ∃ t, vs[i]? = some (.ref t) ∧ SqT K H t [.str (st (rs.getD i ([], [])).1), .str (st (rs.getD i ([], [])).2)] := by
  have hv : i < vs.length := by rw [pd_len h]; exact hi
  have e : vs[i]? = some vs[i] := List.getElem?_eq_getElem hv
  obtain ⟨x, hx, t, et, ht⟩ := pd_get h e
  have ex : rs.getD i ([], []) = x := by rw [List.getD_eq_getElem?_getD, hx]; rfl
  exact ⟨t, by rw [e, et], by rw [ex]; exact ht⟩
abbrev s_head_length : Stmt := top 23
theorem sc_head_length : FnScope ["strip", "n"] ["strip", "n"] (defScope s_head_length) := ⟨rfl, rfl, rfl, by decide +kernel, rfl, by decide +kernel, by decide +kernel⟩
abbrev s_head_row : Stmt := top 24
theorem sc_head_row : FnScope ["strip", "r", "ahead", "cycle"] ["strip", "r"] (defScope s_head_row) := ⟨rfl, rfl, rfl, by decide +kernel, rfl, by decide +kernel, by decide +kernel⟩
abbrev s_last_rows : Stmt := top 25
theorem sc_last_rows : FnScope ["strip", "n"] ["strip", "n"] (defScope s_last_rows) := ⟨rfl, rfl, rfl, by decide +kernel, rfl, by decide +kernel, by decide +kernel⟩
def spHeadLen (K : PySem.W.Frag) (C : Addr) : Sp := fun vs H Q _ => ∃ (p : Addr) (B : Band) (n : Nat), vs = [.ref p, .int (n : Int)] ∧ StripAt K C H p B ∧ B.least ≤ n ∧ ∀ H', Same H H' → Q (.int (B.headLen n : Nat)) H'
def spHeadRow (K : PySem.W.Frag) (C : Addr) : Sp := fun vs H Q _ => ∃ (p : Addr) (B : Band) (r : Nat), vs = [.ref p, .int (r : Int)] ∧ StripAt K C H p B ∧ 0 < B.cy.length ∧ ∀ t H', Same H H' → SqT K H' t [.str (st (B.row r).1), .str (st (B.row r).2)] → Q (.ref t) H'
def spLastRows (K : PySem.W.Frag) (C : Addr) : Sp := fun vs H Q _ => ∃ (p : Addr) (B : Band) (n : Nat), vs = [.ref p, .int (n : Int)] ∧ StripAt K C H p B ∧ 0 < B.cy.length ∧ 1 ≤ n ∧ ∀ q H', Same H H' → RowsAt K H' q (B.lastRows n) → Q (.ref q) H'
section
variable {P : Program} {w : World} {K : PySem.W.Frag} {mg : Str → Option Value} {base : Heap} {C : Addr} {pA gA pC gC pE gE : Addr} {dA dC dE : FuncData}
theorem ok_head_length {f : Addr} {fd : FuncData} (F : Fun K "head_length" "head_length" s_head_length f fd) (T : Glob mg) (S : StripT K C)
    (c_Strip_end : PCal K C "end" pE gE dE) (G_Strip_end : FnOk P w K mg base CX0 1 gE dE ["self"] (spEnd K C)) : FnOk P w K mg base CX0 3 f fd ["strip", "n"] (spHeadLen K C) := by
  refine F.ok sc_head_length (fun vs H Q E h => ?_) (fun cdv A outer s H vs Q E hr h => ?_)
  · obtain ⟨p, B, n, rfl, _⟩ := h
    rfl
  · obtain ⟨p, B, n, rfl, hB, hn, k⟩ := h
    have hr_Strip_end : Room 2 _ := hr
    refine ⟨_, (pss_cons (ps_if (pt_cmpR op_gt (pe_callB call_len_seq (by rfl) T.len PySem.boot_len (pa_cons (pe_prop (pv 0) S.cl c_Strip_end.pr G_Strip_end hr_Strip_end c_Strip_end.b .nil pass0 rfl) pa_nil)) pe_int (nomark _)) (pss_one (ps_ret (pe_op op_sub (pv 1) (pe_callB call_len_seq (by rfl) T.len PySem.boot_len (pa_cons (pe_prop (pv 0) S.cl c_Strip_end.pr G_Strip_end hr_Strip_end c_Strip_end.b .nil pass0 rfl) pa_nil))))) pss_nil)
      (pss_one (ps_ret (pe_op op_sub (pv 1) pe_int)))), ?_⟩
    obtain ⟨dx, a, b, c, hp, _⟩ := id hB
    have hl : B.headLen n = if B.en.length > 0 then n - B.en.length else n - 1 := rfl
    unfold Band.least at hn
    refine ⟨_, rfl, p, dx, _, rfl, hp, p, B, rfl, hB, fun q H1 hq s1 hE => ?_⟩
    obtain ⟨ve, le, re⟩ := hE
    refine ⟨q, _, rfl, .inl le, _, _, rfl, rfl, _, rfl, ?_⟩
    rw [pd_len re]
    refine ifD (fun g => ?_) (fun g => ?_)
    · refine ⟨_, rfl, _, rfl, p, dx, _, rfl, s1 _ _ hp, p, B, rfl, hB.same s1, fun q2 H2 hq2 s2 hE2 => ?_⟩
      obtain ⟨ve2, le2, re2⟩ := hE2
      refine ⟨q2, _, rfl, .inl le2, _, _, rfl, rfl, ?_⟩
      have z := k H2 (s1.trans s2)
      rw [hl, if_pos (by omega)] at z
      have e : (n : Int) - ((ve2.length : Nat) : Int) = ((n - B.en.length : Nat) : Int) := by rw [pd_len re2]; omega
      dsimp only
      rw [e]; exact z
    · refine ⟨_, rfl, _, _, rfl, rfl, ?_⟩
      have z := k H1 s1
      rw [hl, if_neg (by omega)] at z
      have e : (n : Int) - 1 = ((n - 1 : Nat) : Int) := by omega
      dsimp only
      rw [e]; exact z
theorem ok_head_row {f : Addr} {fd : FuncData} (F : Fun K "head_row" "head_row" s_head_row f fd) (T : Glob mg) (S : StripT K C)
    (c_Strip_ahead : PCal K C "ahead" pA gA dA) (G_Strip_ahead : FnOk P w K mg base CX0 1 gA dA ["self"] (spAhead K C)) (c_Strip_cycle : PCal K C "cycle" pC gC dC) (G_Strip_cycle : FnOk P w K mg base CX0 1 gC dC ["self"] (spCycle K C)) : FnOk P w K mg base CX0 3 f fd ["strip", "r"] (spHeadRow K C) := by
  refine F.ok sc_head_row (fun vs H Q E h => ?_) (fun cdv A outer s H vs Q E hr h => ?_)
  · obtain ⟨p, B, n, rfl, _⟩ := h
    rfl
  · obtain ⟨p, B, r, rfl, hB, hc, k⟩ := h
    have hr_Strip_ahead : Room 2 _ := hr
    have hr_Strip_cycle : Room 2 _ := hr
    refine ⟨_, (pss_cons (ps_par (i := 2) (j := 3) (by rfl) sc_head_row.nd rfl rfl (by decide) rfl rfl (pa_cons (pe_prop (pv 0) S.cl c_Strip_ahead.pr G_Strip_ahead hr_Strip_ahead c_Strip_ahead.b .nil pass0 rfl) (pa_cons (pe_prop (pv 0) S.cl c_Strip_cycle.pr G_Strip_cycle hr_Strip_cycle c_Strip_cycle.b .nil pass0 rfl) pa_nil)) (by rfl))
      (pss_cons (ps_if (pt_cmpR op_lt (pv 1) (pe_callB call_len_seq (by rfl) T.len PySem.boot_len (pa_cons (pv 2) pa_nil)) (nomark _)) (pss_one (ps_ret (pe_ix ix_list (pv 2) (pv 1) (fun _ _ => rfl)))) pss_nil)
      (pss_one (ps_ret (pe_ix ix_list (pv 3) (pe_op op_mod (pe_op op_sub (pv 1) (pe_callB call_len_seq (by rfl) T.len PySem.boot_len (pa_cons (pv 2) pa_nil))) (pe_callB call_len_seq (by rfl) T.len PySem.boot_len (pa_cons (pv 3) pa_nil))) (fun _ _ => rfl)))))), ?_⟩
    obtain ⟨dx, a, b, c, hp, _⟩ := id hB
    refine ⟨_, rfl, p, dx, _, rfl, hp, p, B, rfl, hB, fun qa H1 hqa s1 hA => ?_⟩
    refine ⟨_, rfl, p, dx, _, rfl, s1 _ _ hp, p, B, rfl, hB.same s1, fun qc H2 hqc s2 hCy => ?_⟩
    obtain ⟨va, la, ra⟩ := hA.same s2
    obtain ⟨vc, lc, rc⟩ := hCy
    refine ⟨_, _, rfl, ?_⟩
    refine ⟨_, rfl, _, rfl, qa, _, rfl, .inl la, _, _, rfl, rfl, _, rfl, ?_⟩
    rw [pd_len ra]
    have hrow : B.row r = if r < B.ah.length then B.ah.getD r ([], []) else B.cy.getD ((r - B.ah.length) % B.cy.length) ([], []) := rfl
    refine ifD (fun g => ?_) (fun g => ?_)
    · have hlt : r < B.ah.length := by omega
      obtain ⟨t, hv, ht⟩ := pd_at ra hlt
      refine ⟨_, rfl, _, rfl, qa, _, _, _, rfl, rfl, la, atI_nat hv, ?_⟩
      exact k t H2 (s1.trans s2) (by rw [hrow, if_pos hlt]; exact ht)
    · have hge : ¬ r < B.ah.length := by omega
      obtain ⟨t, hv, ht⟩ := pd_at rc (Nat.mod_lt (r - B.ah.length) hc)
      have e : ((r : Int) - (B.ah.length : Int)) % (B.cy.length : Int) = (((r - B.ah.length) % B.cy.length : Nat) : Int) := by
        rw [Int.natCast_emod]; congr 1; omega
      refine ⟨_, rfl, _, rfl, _, rfl, qa, _, rfl, .inl la, _, _, rfl, rfl, _, rfl, qc, _, rfl, .inl lc, _, _, rfl, rfl, by rw [pd_len rc]; omega, ?_⟩
      refine ⟨qc, _, _, .ref t, rfl, rfl, lc, ?_, ?_⟩
      · rw [pd_len ra, pd_len rc, e]; exact atI_nat hv
      · exact k t H2 (s1.trans s2) (by rw [hrow, if_neg hge]; exact ht)
theorem ok_last_rows {f f1 : Addr} {fd fd1 : FuncData} (F : Fun K "last_rows" "last_rows" s_last_rows f fd) (T : Glob mg) (S : StripT K C)
    (c_Strip_end : PCal K C "end" pE gE dE) (G_Strip_end : FnOk P w K mg base CX0 1 gE dE ["self"] (spEnd K C))
    (c_head_row : Cal K mg "head_row" f1 fd1 ["strip", "r"]) (G_head_row : FnOk P w K mg base CX0 3 f1 fd1 ["strip", "r"] (spHeadRow K C)) : FnOk P w K mg base CX0 4 f fd ["strip", "n"] (spLastRows K C) := by
  refine F.ok sc_last_rows (fun vs H Q E h => ?_) (fun cdv A outer s H vs Q E hr h => ?_)
  · obtain ⟨p, B, n, rfl, _⟩ := h
    rfl
  · obtain ⟨p, B, n, rfl, hB, hc, hn, k⟩ := h
    have hr_Strip_end : Room 2 _ := hr.mono (by decide)
    have hr_head_row : Room 3 _ := hr
    refine ⟨_, (pss_cons (ps_if (pt_cmpR op_gt (pe_callB call_len_seq (by rfl) T.len PySem.boot_len (pa_cons (pe_prop (pv 0) S.cl c_Strip_end.pr G_Strip_end hr_Strip_end c_Strip_end.b .nil pass0 rfl) pa_nil)) pe_int (nomark _)) (pss_one (ps_ret (pe_prop (pv 0) S.cl c_Strip_end.pr G_Strip_end hr_Strip_end c_Strip_end.b .nil pass0 rfl))) pss_nil)
      (pss_one (ps_ret (pe_lst (pa_cons (pe_call G_head_row hr_head_row rfl c_head_row.mg c_head_row.kp c_head_row.b .nil pass0 (pa_cons (pv 0) (pa_cons (pe_op op_sub (pv 1) pe_int) pa_nil))) pa_nil))))), ?_⟩
    obtain ⟨dx, a, b, c, hp, _⟩ := id hB
    have hl : B.lastRows n = if B.en.length > 0 then B.en else [B.row (n - 1)] := rfl
    refine ⟨_, rfl, p, dx, _, rfl, hp, p, B, rfl, hB, fun q H1 hq s1 hE => ?_⟩
    obtain ⟨ve, le, re⟩ := hE
    refine ⟨q, _, rfl, .inl le, _, _, rfl, rfl, _, rfl, ?_⟩
    rw [pd_len re]
    refine ifD (fun g => ?_) (fun g => ?_)
    · refine ⟨_, rfl, p, dx, _, rfl, s1 _ _ hp, p, B, rfl, hB.same s1, fun q2 H2 hq2 s2 hE2 => ?_⟩
      exact k q2 H2 (s1.trans s2) (by rw [hl, if_pos (by omega)]; exact hE2)
    · have e : (n : Int) - 1 = ((n - 1 : Nat) : Int) := by omega
      refine ⟨_, rfl, _, rfl, _, _, rfl, rfl, ?_⟩
      dsimp only
      rw [e]
      refine ⟨p, B, n - 1, rfl, hB.same s1, hc, fun t H2 s2 ht => ⟨by show 1 ≤ sizeLine; decide, fun q2 hq2 => ?_⟩⟩
      have s3 := Same.new (o := .lst [.ref t]) (Same.refl H2) hq2
      exact k q2 _ ((s1.trans s2).trans s3) ⟨_, SqL.of upd_same, by rw [hl, if_neg (by omega)]; exact .cons ⟨t, rfl, s3.seqT ht⟩ .nil⟩
end
end Sand
/-! ## SandData -/
set_option Elab.async false
set_option linter.all false
set_option maxRecDepth 100000
set_option maxHeartbeats 4000000
namespace L2
/-! rules within a comprehension's block, the written part told -/
theorem ix_listK {X : Cx} {K : PySem.W.Frag} (h : X.K = K := by rfl) : IxR X (rIxL K) := h ▸ ix_list
theorem ix_tupK {X : Cx} {K : PySem.W.Frag} (h : X.K = K := by rfl) : IxR X (rIxT K) := h ▸ ix_tup
theorem ix_ltK {X : Cx} {K : PySem.W.Frag} (h : X.K = K := by rfl) : IxR X (fun x y H Q => rIxL K x y H Q ∨ rIxT K x y H Q) := IxR.or (ix_listK h) (ix_tupK h)
end L2
namespace Sand
open PySem L2
/-! ### lists of whole numbers as data -/
def zl (xs : List Int) : List V := xs.map V.int
theorem zl_len (xs : List Int) : (zl xs).length = xs.length := by unfold zl; exact List.length_map _
theorem zl_get {xs : List Int} {i : Nat} (h : i < xs.length) : (zl xs)[i]? = some (.int (xs.getD i 0)) := by
  unfold zl
  rw [List.getElem?_map, List.getD_eq_getElem?_getD, List.getElem?_eq_getElem h]
  rfl
theorem zl_at {xs : List Int} {i : Nat} (h : i < xs.length) : atI (zl xs) (i : Int) = some (.int (xs.getD i 0)) := atI_nat (zl_get h)
theorem zl_take (xs : List Int) (n : Nat) : (zl xs).take n = zl (xs.take n) := by unfold zl; rw [List.map_take]
theorem zl_drop (xs : List Int) (n : Nat) : (zl xs).drop n = zl (xs.drop n) := by unfold zl; rw [List.map_drop]
theorem nl_zl (e : List Nat) : nl e = zl (e.map fun n : Nat => (n : Int)) := by unfold nl zl; rw [List.map_map]; rfl
section
variable {K : PySem.W.Frag} {H : Hp}
theorem dp_zl : ∀ xs : List Int, DpAll K H (zl xs) (xs.map PyData.int)
  | [] => .nil
  | x :: xs => .cons (.int x) (dp_zl xs)
end
theorem lay_zl : ∀ xs : List Int, PyData.canLayAll0 (xs.map PyData.int) = true
  | [] => rfl
  | x :: xs => by
    rw [List.map_cons]
    show (true && PyData.canLayAll0 (xs.map PyData.int)) = true
    rw [lay_zl xs]; rfl
theorem depth_zl : ∀ xs : List Int, PyData.depthAll (xs.map PyData.int) = 0
  | [] => rfl
  | x :: xs => by
    rw [List.map_cons]
    show max 0 (PyData.depthAll (xs.map PyData.int)) = 0
    rw [depth_zl xs]; rfl
theorem shaped_zl (xs : List Int) : SeqAt.shaped (.list (xs.map PyData.int)) = true := by
  show (PyData.canLayAll0 (xs.map PyData.int) && decide (PyData.depthAll (xs.map PyData.int) + 1 ≤ 64)) = true
  rw [lay_zl, depth_zl]; rfl
theorem eqv_zlAll : ∀ xs ys : List Int, PyData.eqvAll (xs.map PyData.int) (ys.map PyData.int) = decide (xs = ys)
  | [], [] => by simp [PyData.eqvAll]
  | x :: xs, [] => by simp [PyData.eqvAll]
  | [], y :: ys => by simp [PyData.eqvAll]
  | x :: xs, y :: ys => by
    rw [List.map_cons, List.map_cons, PyData.eqvAll, eqv_zlAll xs ys, Bool.eq_iff_iff]
    simp [PyData.eqv]
theorem eqv_zl (xs ys : List Int) : PyData.eqv (.list (xs.map PyData.int)) (.list (ys.map PyData.int)) = decide (xs = ys) := by
  rw [PyData.eqv]; exact eqv_zlAll xs ys
end Sand
/-! ## PCourse -/
set_option Elab.async false
set_option linter.all false
set_option maxRecDepth 100000
set_option maxHeartbeats 4000000
namespace Sand
open PySem L2
abbrev s_tail_number : Stmt := top 19
theorem sc_tail_number : FnScope ["tail", "more", "k"] ["tail", "more", "k"] (defScope s_tail_number) := ⟨rfl, rfl, rfl, by decide +kernel, rfl, by decide +kernel, by decide +kernel⟩
abbrev s_least_every : Stmt := top 20
theorem sc_least_every : FnScope ["tail", "more", "every", "rise", "steps", "k"] ["tail", "more"] (defScope s_least_every) := ⟨rfl, rfl, rfl, by decide +kernel, rfl, by decide +kernel, by decide +kernel⟩
abbrev s_fewest_numbers : Stmt := top 21
theorem sc_fewest_numbers : FnScope ["numbers", "every", "more", "count"] ["numbers", "every", "more"] (defScope s_fewest_numbers) := ⟨rfl, rfl, rfl, by decide +kernel, rfl, by decide +kernel, by decide +kernel⟩
def spTail (K : PySem.W.Frag) : Sp := fun vs H Q _ => ∃ (a : Addr) (tail : List Int) (more : Int) (k : Nat), vs = [.ref a, .int more, .int (k : Int)] ∧ SqL K H a (zl tail) ∧ 0 < tail.length ∧ tail.length ≤ 1000 ∧ more.natAbs < 2 ^ 100 ∧ k < 2 ^ 200 ∧ Q (.int (tailNum tail more k)) H
def spLeast_every (K : PySem.W.Frag) : Sp := fun vs H Q _ => ∃ (a : Addr) (tail : List Int) (more : Int), vs = [.ref a, .int more] ∧ SqL K H a (zl tail) ∧ 0 < tail.length ∧ tail.length ≤ 1000 ∧ more.natAbs < 2 ^ 100 ∧
  ∀ (ev : Nat) (rise : Int) p H', LeOk tail more ev rise → H p = none → Same H H' → H' p = some (.tup [.int (ev : Int), .int rise]) → Q (.ref p) H'
def spFewest (K : PySem.W.Frag) : Sp := fun vs H Q _ => ∃ (a : Addr) (nums : List Int) (ev : Nat) (rise : Int), vs = [.ref a, .int (ev : Int), .int rise] ∧ SqL K H a (zl nums) ∧ 1 ≤ ev ∧ ev ≤ nums.length ∧ nums.length ≤ 1000 ∧
  ∀ (count : Nat) p H', FewOk nums ev rise count → H p = none → Same H H' → H' p = some (.lst (zl (nums.take count))) → Q (.ref p) H'
theorem leOk_all {tail : List Int} {more : Int} (h : 0 < tail.length) : LeOk tail more tail.length more := by
  refine ⟨h, Nat.le_refl _, fun k hk => ?_⟩
  unfold tailNum
  rw [Nat.add_mod_right, Nat.mod_eq_of_lt hk, Nat.add_div_right _ h, Nat.div_eq_of_lt hk]
  simp
section
variable {P : Program} {w : World} {K : PySem.W.Frag} {mg : Str → Option Value} {base : Heap}
theorem ok_tail_number {f : Addr} {fd : FuncData} (F : Fun K "tail_number" "tail_number" s_tail_number f fd) (T : Glob mg) : FnOk P w K mg base CX0 1 f fd ["tail", "more", "k"] (spTail K) := by
  refine F.ok sc_tail_number (fun vs H Q E h => ?_) (fun cdv A outer s H vs Q E hr h => ?_)
  · obtain ⟨a, tail, more, k, rfl, _⟩ := h
    rfl
  · obtain ⟨a, tail, more, k, rfl, hS, h0, h1, hm, hk, q⟩ := h
    refine ⟨_, (pss_one (ps_ret (pe_op op_add (pe_ix ix_list (pv 0) (pe_op op_mod (pv 2) (pe_callB call_len_seq (by rfl) T.len PySem.boot_len (pa_cons (pv 0) pa_nil))) (fun _ _ => rfl)) (pe_op op_mulW (pe_op op_fdivW (pv 2) (pe_callB call_len_seq (by rfl) T.len PySem.boot_len (pa_cons (pv 0) pa_nil))) (pv 1))))), ?_⟩
    have e1 : (k : Int) % (tail.length : Int) = ((k % tail.length : Nat) : Int) := by rw [Int.natCast_emod]
    have e2 : (k : Int) / (tail.length : Int) = ((k / tail.length : Nat) : Int) := by rw [Int.natCast_ediv]
    have hmod := Nat.mod_lt k h0
    have hdiv : k / tail.length ≤ k := Nat.div_le_self _ _
    refine ⟨_, rfl, _, rfl, _, rfl, a, _, rfl, .inl hS, _, _, rfl, rfl, by rw [zl_len]; omega, a, _, _, .int (tail.getD (k % tail.length) 0), rfl, rfl, hS, by rw [zl_len, e1]; exact zl_at hmod, ?_⟩
    refine ⟨_, rfl, _, rfl, a, _, rfl, .inl hS, _, _, rfl, rfl, ?_, _, rfl, _, _, rfl, rfl, ?_, _, _, rfl, rfl, ?_⟩
    · rw [zl_len]
      exact wide_div (b := 10) (by omega) (by rw [Int.natAbs_natCast]; omega) (by decide) (by decide)
    · rw [zl_len, e2]
      exact wide_mul (a := 200) (b := 100) (by rw [Int.natAbs_natCast]; exact Nat.lt_of_le_of_lt hdiv hk) hm (by decide) (by decide) (by decide)
    · dsimp only
      rw [zl_len, e2]
      exact q
theorem ok_fewest_numbers {f : Addr} {fd : FuncData} (F : Fun K "fewest_numbers" "fewest_numbers" s_fewest_numbers f fd) (T : Glob mg) : FnOk P w K mg base CX0 1 f fd ["numbers", "every", "more"] (spFewest K) := by
  refine F.ok sc_fewest_numbers (fun vs H Q E h => ?_) (fun cdv A outer s H vs Q E hr h => ?_)
  · obtain ⟨a, nums, ev, rise, rfl, _⟩ := h
    rfl
  · obtain ⟨a, nums, ev, rise, rfl, hS, h1, h2, h3, k⟩ := h
    refine ⟨_, (pss_cons (ps_set (i := 3) sc_fewest_numbers.nd rfl (Or.inl rfl) (pe_callB call_len_seq (by rfl) T.len PySem.boot_len (pa_cons (pv 0) pa_nil)))
      (pss_cons (ps_while PassesOwn.never (PW.pt (pw_and (pt_cmpR op_gt (pv 3) (pv 1) (nomark _)) (pw_and1 (pt_cmpR op_eq (pe_ix ix_list (pv 0) (pe_op op_sub (pv 3) pe_int) (fun _ _ => rfl)) (pe_op op_add (pe_ix ix_list (pv 0) (pe_op op_sub (pe_op op_sub (pv 3) pe_int) (pv 1)) (fun _ _ => rfl)) (pv 2)) (nomark _))))) (pss_one (ps_aug (i := 3) sc_fewest_numbers.nd rfl (Or.inl rfl) pe_int ip_sub)))
      (pss_one (ps_ret (pe_slice sl_list (pv 0) po_none (po_some (pv 3))))))), ?_⟩
    refine ⟨_, rfl, a, _, rfl, .inl hS, fun m σ H' => σ = [some (.ref a), some (.int (ev : Int)), some (.int rise), some (.int (m : Int))] ∧ FewOk nums ev rise m ∧ H' = H, ⟨nums.length, by rw [zl_len]; rfl, ⟨h2, Nat.le_refl _, fun j a b => by omega⟩, rfl⟩, ?_⟩
    rintro m σ H' ⟨rfl, ⟨f1, f2, f3⟩, rfl⟩
    refine ⟨_, rfl, _, rfl, _, _, rfl, rfl, _, rfl, ifD (fun g => ?_) (fun g => ?_)⟩
    · have e1 : (m : Int) - 1 = ((m - 1 : Nat) : Int) := by omega
      have e2 : (m : Int) - 1 - (ev : Int) = ((m - 1 - ev : Nat) : Int) := by omega
      refine ⟨_, rfl, _, rfl, _, _, rfl, rfl, a, _, _, .int (nums.getD (m - 1) 0), rfl, rfl, hS, by rw [e1]; exact zl_at (by omega), ?_⟩
      refine ⟨_, rfl, _, rfl, _, _, rfl, rfl, _, rfl, _, _, rfl, rfl, a, _, _, .int (nums.getD (m - 1 - ev) 0), rfl, rfl, hS, by rw [e2]; exact zl_at (by omega), _, rfl, _, _, rfl, rfl, rfl, _, rfl, ifD (fun g2 => ?_) (fun g2 => ?_)⟩
      · have g2 := int_eq.mp g2
        refine ⟨fun σ' H2 => σ' = [some (.ref a), some (.int (ev : Int)), some (.int rise), some (.int ((m - 1 : Nat) : Int))] ∧ FewOk nums ev rise (m - 1) ∧ H2 = H', fun σ' H2 z => ⟨m - 1, by omega, z⟩, ?_⟩
        refine ⟨_, rfl, _, _, rfl, rfl, by rw [← e1]; rfl, ⟨by omega, by omega, fun j hj1 hj2 => ?_⟩, rfl⟩
        by_cases z : j = m - 1
        · rw [z]; exact g2
        · exact f3 j (by omega) hj2
      · refine ⟨_, rfl, _, rfl, _, rfl, a, _, rfl, hS, fun p hp => k m p _ ⟨f1, f2, f3⟩ hp (Same.new (Same.refl _) hp) ?_⟩
        rw [upd_same, cut_to, zl_take]
    · refine ⟨_, rfl, _, rfl, _, rfl, a, _, rfl, hS, fun p hp => k m p _ ⟨f1, f2, f3⟩ hp (Same.new (Same.refl _) hp) ?_⟩
      rw [upd_same, cut_to, zl_take]
theorem ok_least_every {f f1 : Addr} {fd fd1 : FuncData} (F : Fun K "least_every" "least_every" s_least_every f fd) (T : Glob mg)
    (c_tail_number : Cal K mg "tail_number" f1 fd1 ["tail", "more", "k"]) (G_tail_number : FnOk P w K mg base CX0 1 f1 fd1 ["tail", "more", "k"] (spTail K)) : FnOk P w K mg base CX0 2 f fd ["tail", "more"] (spLeast_every K) := by
  refine F.ok sc_least_every (fun vs H Q E h => ?_) (fun cdv A outer s H vs Q E hr h => ?_)
  · obtain ⟨a, tail, more, rfl, _⟩ := h
    rfl
  · obtain ⟨a, tail, more, rfl, hS, h0, h1, hm, k⟩ := h
    have hr_tail_number : Room 1 _ := hr
    refine ⟨_, (pss_cons (ps_for PassesOwn.never rfl (pi_range2 (by rfl) T.range (pa_cons pe_int (pa_cons (pe_callB call_len_seq (by rfl) T.len PySem.boot_len (pa_cons (pv 0) pa_nil)) pa_nil))) (pg_name (i := 2) sc_least_every.nd rfl (Or.inr rfl)) (pss_one (ps_if (pt_cmpR op_eq (pe_op op_mod (pe_callB call_len_seq (by rfl) T.len PySem.boot_len (pa_cons (pv 0) pa_nil)) (pv 2)) pe_int (nomark _)) (pss_cons (ps_set (i := 3) sc_least_every.nd rfl (Or.inl rfl) (pe_op op_sub (pe_ix ix_list (pv 0) (pv 2) (fun _ _ => rfl)) (pe_ix ix_list (pv 0) pe_int (fun _ _ => rfl))))
      (pss_cons (ps_setLc (i := 4) (own := [("k", 5)]) (g := gName 5) (tt := tYes) (by rfl) sc_least_every.nd rfl rfl (sw_true rfl rfl rfl (by decide +kernel)) (pi_range1 (by rfl) T.range (pa_cons (pe_callB call_len_seq (by rfl) T.len PySem.boot_len (pa_cons (pv 0) pa_nil)) pa_nil)) (blkOk_by (own := [("k", 5)]) (N := ["tail", "more", "every", "rise", "steps", "k"]) (sc := defScope s_least_every) (by decide +kernel)) (fun _ _ _ _ _ => pg_name (i := 5) sc_least_every.nd rfl (Or.inl rfl)) (fun _ _ _ _ _ => pts_nil) (fun _ _ _ _ _ => (pe_op op_sub (pe_call G_tail_number hr_tail_number rfl c_tail_number.mg c_tail_number.kp c_tail_number.b .nil pass0 (pa_cons (pv 0) (pa_cons (pv 1) (pa_cons (pe_op op_add (pv 5) (pv 2)) pa_nil)))) (pe_ix (ix_listK (K := K)) (pv 0) (pv 5) (fun _ _ => rfl)))))
      (pss_one (ps_if (pt_cmpR (op_eqD hr.units) (pv 4) (pe_op op_rep (pe_lst (pa_cons (pv 3) pa_nil)) (pe_callB call_len_seq (by rfl) T.len PySem.boot_len (pa_cons (pv 0) pa_nil))) (nomark _)) (pss_one (ps_ret (pe_tup (pa_cons (pv 2) (pa_cons (pv 3) pa_nil))))) pss_nil)))) pss_nil)))
      (pss_one (ps_ret (pe_tup (pa_cons (pe_callB call_len_seq (by rfl) T.len PySem.boot_len (pa_cons (pv 0) pa_nil)) (pa_cons (pv 1) pa_nil)))))), ?_⟩
    refine ⟨_, rfl, a, _, rfl, .inl hS, _, _, rfl, ⟨by decide, by decide, by rw [zl_len]; omega, by rw [zl_len]; omega⟩, for_range (fun i σ H' => ∃ v2 v3 v4 v5, σ = [some (.ref a), some (.int more), v2, v3, v4, v5] ∧ Same H H')
      ⟨none, none, none, none, rfl, Same.refl H⟩ ?_ ?_⟩
    · rintro i σ H1 hi ⟨v2, v3, v4, v5, rfl, s1⟩
      rw [zl_len] at hi
      have ei : (1 : Int) + (i : Int) = ((1 + i : Nat) : Int) := by omega
      rw [ei]
      have hlt : 1 + i < tail.length := by omega
      -- if len(tail) % every == 0
      refine ⟨_, rfl, a, _, rfl, .inl (s1.seq hS), _, rfl, _, _, rfl, rfl, by omega, rfl, _, rfl, ifD (fun _ => ?_) (fun _ => ⟨_, _, _, _, rfl, s1⟩)⟩
      -- rise
      refine ⟨_, rfl, _, rfl, a, _, _, _, rfl, rfl, s1.seq hS, zl_at hlt, _, rfl, a, _, _, _, rfl, rfl, s1.seq hS, at_of (j := 0) rfl (zl_get h0), _, _, rfl, rfl, ?_⟩
      -- steps
      refine ⟨_, rfl, a, _, rfl, .inl (s1.seq hS), _, rfl, by rw [zl_len]; omega, by rw [zl_len]; omega, fun D hD => ?_⟩
      have hD0 : H D = none := s1.free hD
      refine lc_range (lo := 0) (fun j H' => Same H H' ∧ H' D = some (.lst (zl ((List.range j).map fun k => tailNum tail more (k + (1 + i)) - tail.getD k 0)))) ⟨Same.new s1 hD, upd_same⟩ ?_ ?_
      · rintro j H2 hj ⟨s2, hD2⟩
        rw [zl_len] at hj
        have hj : j < tail.length := by omega
        have ej : (0 : Int) + (j : Int) = ((j : Nat) : Int) := by omega
        have ek : (j : Int) + ((1 + i : Nat) : Int) = ((j + (1 + i) : Nat) : Int) := by omega
        refine ⟨rfl, ?_⟩
        refine ⟨_, rfl, _, rfl, _, rfl, _, rfl, _, _, rfl, rfl, a, tail, more, j + (1 + i), by dsimp only; rw [ej, ek]; rfl, s2.seq hS, h0, h1, hm, Nat.lt_of_lt_of_le (show j + (1 + i) < 2000 by omega) (by decide), ?_⟩
        refine ⟨_, rfl, _, rfl, a, _, _, .int (tail.getD j 0), rfl, rfl, s2.seq hS, by rw [ej]; exact zl_at hj, _, _, rfl, rfl, _, hD2, ?_, Same.mut s2 hD0, ?_⟩
        · rw [zl_len, List.length_map, List.length_range]; exact small1000 (by omega)
        · rw [upd_same, List.range_succ, List.map_append]
          unfold zl
          rw [List.map_append]
          rfl
      · rintro H2 ⟨s2, hD2⟩
        rw [zl_len] at hD2
        have et : ((tail.length : Nat) : Int).toNat = tail.length := by omega
        rw [et] at hD2
        -- steps == [rise] * len(tail)
        refine ⟨_, rfl, _, rfl, by show 1 ≤ sizeLine; decide, fun b hb => ?_⟩
        have s3 := Same.new (o := .lst [.int (tail.getD (1 + i) 0 - tail.getD 0 0)]) s2 hb
        refine ⟨_, rfl, a, _, rfl, .inl (s3.seq hS), b, _, _, rfl, rfl, upd_same, by rw [zl_len]; omega, by rw [zl_len]; omega, by rw [zl_len]; exact sz1000 (by simp; omega), fun p hp => ?_⟩
        have hDb : D ≠ b := ne_of_none hD2 hb
        have hDp : D ≠ p := ne_of_none (by rw [upd_ne hDb]; exact hD2) hp
        have erep : (List.replicate ((zl tail).length : Int).toNat ([V.int (tail.getD (1 + i) 0 - tail.getD 0 0)])).flatten = zl (List.replicate tail.length (tail.getD (1 + i) 0 - tail.getD 0 0)) := by
          rw [zl_len, et]
          generalize tail.length = n
          induction n with
          | zero => rfl
          | succ n ih => rw [List.replicate_succ, List.replicate_succ, List.flatten_cons, ih]; rfl
        have s4 := Same.new (o := .lst (List.replicate ((zl tail).length : Int).toNat ([V.int (tail.getD (1 + i) 0 - tail.getD 0 0)])).flatten) s3 hp
        refine ⟨_, _, .lst (SqL.of (by rw [upd_ne hDp, upd_ne hDb]; exact hD2)) (dp_zl _), .lst (SqL.of (by rw [upd_same, erep])) (dp_zl _), shaped_zl _, shaped_zl _, _, rfl, ?_⟩
        rw [eqv_zl]
        refine ifD (fun g => ?_) (fun _ => ⟨_, _, _, _, rfl, s4⟩)
        refine ⟨_, rfl, _, rfl, by show 2 ≤ sizeLine; decide, fun t ht => k (1 + i) _ t _ ⟨by omega, by omega, fun j hj => ?_⟩ (s4.free ht) (Same.new s4 ht) upd_same⟩
        have g1 := congrArg (fun l : List Int => l[j]?) g
        rw [List.getElem?_map, List.getElem?_range hj, List.getElem?_replicate_of_lt hj] at g1
        have g2 : tailNum tail more (j + (1 + i)) - tail.getD j 0 = tail.getD (1 + i) 0 - tail.getD 0 0 := Option.some.inj g1
        omega
    · rintro σ H1 ⟨v2, v3, v4, v5, rfl, s1⟩
      refine ⟨_, rfl, a, _, rfl, .inl (s1.seq hS), _, rfl, by show 2 ≤ sizeLine; decide, fun t ht => k tail.length more t _ (leOk_all h0) (s1.free ht) (Same.new s1 ht) ?_⟩
      rw [upd_same, zl_len]
end
/-! the class Course -/
def cF (least : Int) (a : Addr) (period rise : Int) : List (Str × V) := putF "rise" (.int rise) (putF "period" (.int period) (putF "told" (.ref a) (putF "start" (.int least) [])))
theorem n_is : ¬ ("start" : Str) = "rise" := by decide +kernel
theorem n_it : ¬ ("told" : Str) = "rise" := by decide +kernel
theorem n_ip : ¬ ("period" : Str) = "rise" := by decide +kernel
theorem n_ps : ¬ ("start" : Str) = "period" := by decide +kernel
theorem n_pt : ¬ ("told" : Str) = "period" := by decide +kernel
theorem n_ts : ¬ ("start" : Str) = "told" := by decide +kernel
theorem cF_start (l : Int) (a : Addr) (p r : Int) : (cF l a p r).lookup ("start" : Str) = some (.int l) := by
  unfold cF; rw [lookup_putF, if_neg n_is, lookup_putF, if_neg n_ps, lookup_putF, if_neg n_ts, lookup_putF, if_pos rfl]
theorem cF_told (l : Int) (a : Addr) (p r : Int) : (cF l a p r).lookup ("told" : Str) = some (.ref a) := by
  unfold cF; rw [lookup_putF, if_neg n_it, lookup_putF, if_neg n_pt, lookup_putF, if_pos rfl]
theorem cF_period (l : Int) (a : Addr) (p r : Int) : (cF l a p r).lookup ("period" : Str) = some (.int p) := by
  unfold cF; rw [lookup_putF, if_neg n_ip, lookup_putF, if_pos rfl]
theorem cF_rise (l : Int) (a : Addr) (p r : Int) : (cF l a p r).lookup ("rise" : Str) = some (.int r) := by
  unfold cF; rw [lookup_putF, if_pos rfl]
structure CourseT (K : PySem.W.Frag) (C : Addr) : Prop where
  cl : Cls K C
  nS : NoAttr K C "start"
  nT : NoAttr K C "told"
  nP : NoAttr K C "period"
  nR : NoAttr K C "rise"
/-- a method -/
structure TCal (K : PySem.W.Frag) (C : Addr) (m : Str) (f : Addr) (fd : FuncData) (ps : List Str) : Prop where
  mt : Meth K C m f
  b : Binds K fd ps []
def CourseAt (K : PySem.W.Frag) (C : Addr) (H : Hp) (p : Addr) (least : Int) (told : List Int) (period : Nat) (rise : Int) : Prop := ∃ dx a, H p = some (.ins C dx (cF least a (period : Int) rise)) ∧ SqL K H a (zl told)
theorem CourseAt.same {K : PySem.W.Frag} {C : Addr} {H H' : Hp} {p : Addr} {least : Int} {told : List Int} {period : Nat} {rise : Int} (s : Same H H') (h : CourseAt K C H p least told period rise) : CourseAt K C H' p least told period rise :=
  let ⟨dx, a, h1, h2⟩ := h
  ⟨dx, a, s _ _ h1, s.seq h2⟩
abbrev s_Course___init__ : Stmt := inClass (top 22) 0
theorem sc_Course___init__ : FnScope ["self", "least", "numbers", "every", "more", "period", "rise"] ["self", "least", "numbers", "every", "more"] (defScope s_Course___init__) := ⟨rfl, rfl, rfl, by decide +kernel, rfl, by decide +kernel, by decide +kernel⟩
abbrev s_Course_at : Stmt := inClass (top 22) 5
theorem sc_Course_at : FnScope ["self", "n", "k"] ["self", "n"] (defScope s_Course_at) := ⟨rfl, rfl, rfl, by decide +kernel, rfl, by decide +kernel, by decide +kernel⟩
def spCInit (K : PySem.W.Frag) (C : Addr) : Sp := fun vs H Q _ => ∃ (x dx pn : Addr) (least : Int) (nums : List Int) (ev : Nat) (more : Int), vs = [.ref x, .int least, .ref pn, .int (ev : Int), .int more] ∧ H x = some (.ins C dx []) ∧ SqL K H pn (zl nums) ∧
  1 ≤ least ∧ 1 ≤ ev ∧ ev ≤ nums.length ∧ nums.length ≤ 1000 ∧ more.natAbs < 2 ^ 100 ∧
  ∀ (per count : Nat) (rise : Int) H', LeOk (nums.drop (nums.length - ev)) more per rise → FewOk nums per rise count → But x H H' → CourseAt K C H' x least (nums.take count) per rise → Q .non H'
def spAt (K : PySem.W.Frag) (C : Addr) : Sp := fun vs H Q _ => ∃ (p : Addr) (least k : Nat) (told : List Int) (period : Nat) (rise : Int) (f : Nat → Int), vs = [.ref p, .int ((least + k : Nat) : Int)] ∧ CourseAt K C H p (least : Int) told period rise ∧ Tells told period rise f ∧
  told.length ≤ 1000 ∧ rise.natAbs < 2 ^ 100 ∧ k < 2 ^ 190 ∧ ∀ H', Same H H' → Q (.int (f k)) H'
section
variable {P : Program} {w : World} {K : PySem.W.Frag} {mg : Str → Option Value} {base : Heap} {C : Addr}
theorem ok_course_init {f f1 f2 : Addr} {fd fd1 fd2 : FuncData} (F : Fun K "__init__" "Course.__init__" s_Course___init__ f fd) (T : Glob mg) (S : CourseT K C)
    (c_least_every : Cal K mg "least_every" f1 fd1 ["tail", "more"]) (G_least_every : FnOk P w K mg base CX0 2 f1 fd1 ["tail", "more"] (spLeast_every K))
    (c_fewest_numbers : Cal K mg "fewest_numbers" f2 fd2 ["numbers", "every", "more"]) (G_fewest_numbers : FnOk P w K mg base CX0 1 f2 fd2 ["numbers", "every", "more"] (spFewest K)) :
    FnOk P w K mg base CX0 3 f fd ["self", "least", "numbers", "every", "more"] (spCInit K C) := by
  refine F.ok sc_Course___init__ (fun vs H Q E h => ?_) (fun cdv A outer s H vs Q E hr h => ?_)
  · obtain ⟨x, dx, pn, least, nums, ev, more, rfl, _⟩ := h
    rfl
  · obtain ⟨x, dx, pn, least, nums, ev, more, rfl, hx, hN, h1, h2, h3, h4, h5, k⟩ := h
    have hr_least_every : Room 2 _ := hr
    have hr_fewest_numbers : Room 1 _ := hr.mono (by decide)
    refine ⟨_, (pss_cons (ps_if (pt_cmpR op_lt (pv 1) pe_int (nomark _)) (pss_one ps_never) pss_nil)
      (pss_cons (ps_if (PW.pt (pw_or (pt_cmpR op_lt (pv 3) pe_int (nomark _)) (pw_or1 (pt_cmpR op_gt (pv 3) (pe_callB call_len_seq (by rfl) T.len PySem.boot_len (pa_cons (pv 2) pa_nil)) (nomark _))))) (pss_one ps_never) pss_nil)
      (pss_cons (ps_asg (pe_call G_least_every hr_least_every rfl c_least_every.mg c_least_every.kp c_least_every.b .nil pass0 (pa_cons (pe_slice sl_list (pv 2) (po_some (pe_op op_sub (pe_callB call_len_seq (by rfl) T.len PySem.boot_len (pa_cons (pv 2) pa_nil)) (pv 3))) po_none) (pa_cons (pv 4) pa_nil))) (pg_tup rfl (pgs_cons (pg_name (i := 5) sc_Course___init__.nd rfl (Or.inl rfl)) (pgs_cons (pg_name (i := 6) sc_Course___init__.nd rfl (Or.inl rfl)) pgs_nil))))
      (pss_cons (ps_fld (pv 0) (pv 1) rfl)
      (pss_cons (ps_fld (pv 0) (pe_call G_fewest_numbers hr_fewest_numbers rfl c_fewest_numbers.mg c_fewest_numbers.kp c_fewest_numbers.b .nil pass0 (pa_cons (pv 2) (pa_cons (pv 5) (pa_cons (pv 6) pa_nil)))) rfl)
      (pss_cons (ps_fld (pv 0) (pv 5) rfl)
      (pss_one (ps_fld (pv 0) (pv 6) rfl)))))))), ?_⟩
    refine ⟨_, rfl, _, _, rfl, rfl, _, rfl, ifD (fun q => ?_) (fun _ => ?_)⟩
    · omega
    refine ⟨_, rfl, _, _, rfl, rfl, _, rfl, ifD (fun q => ?_) (fun _ => ?_)⟩
    · omega
    refine ⟨_, rfl, _, rfl, pn, _, rfl, .inl hN, _, _, rfl, rfl, _, rfl, ?_⟩
    rw [zl_len]
    refine ifD (fun q => ?_) (fun _ => ?_)
    · omega
    -- least_every
    have ed : (nums.length : Int) - (ev : Int) = ((nums.length - ev : Nat) : Int) := by omega
    refine ⟨_, rfl, _, rfl, pn, _, rfl, .inl hN, _, rfl, _, _, rfl, rfl, _, rfl, pn, _, rfl, hN, fun b hb => ?_⟩
    have sb : ∀ o, Same H (upd H b o) := fun o => Same.new (Same.refl H) hb
    dsimp only
    rw [zl_len, ed, cut_from, zl_drop]
    have hdl : (nums.drop (nums.length - ev)).length = ev := by rw [List.length_drop]; omega
    refine ⟨_, rfl, b, nums.drop (nums.length - ev), more, rfl, SqL.of upd_same, by rw [hdl]; exact h2, by rw [hdl]; omega, h5, fun per rise t H1 hL ht s1 ht1 => ?_⟩
    obtain ⟨l1, l2, l3⟩ := id hL
    rw [hdl] at l2
    have s01 := (sb _).trans s1
    refine ⟨t, _, rfl, SqT.of ht1, rfl, _, _, rfl, _, _, rfl, rfl, ?_⟩
    have hx1 := s01 _ _ hx
    -- self.start
    refine ⟨_, rfl, _, rfl, x, C, dx, _, rfl, hx1, S.cl, S.nS, by decide, ?_⟩
    have k1 : But x H1 (upd H1 x (.ins C dx (putF "start" (.int least) []))) := (But.refl x H1).upd
    -- self.told
    refine ⟨_, rfl, _, rfl, _, rfl, pn, nums, per, rise, rfl, k1.seq hx1 (s01.seq hN), l1, by omega, h4, fun count l H2 hF hl s2 hl1 => ?_⟩
    refine ⟨_, rfl, x, C, dx, _, rfl, s2 _ _ upd_same, S.cl, S.nT, by have := length_putF "start" (.int least) []; simp at this; omega, ?_⟩
    have hxl : x ≠ l := ne_of_none upd_same hl
    have k2 : But x H1 H2 := fun c o e hc => s2 _ _ (k1 c o e hc)
    refine ⟨_, rfl, _, rfl, x, C, dx, _, rfl, upd_same, S.cl, S.nP, by have := length_putF "start" (.int least) []; have := length_putF "told" (.ref l) (putF "start" (.int least) []); simp at *; omega, ?_⟩
    refine ⟨_, rfl, _, rfl, x, C, dx, _, rfl, upd_same, S.cl, S.nR, by have := length_putF "start" (.int least) []; have := length_putF "told" (.ref l) (putF "start" (.int least) []); have := length_putF "period" (.int (per : Int)) (putF "told" (.ref l) (putF "start" (.int least) [])); simp at *; omega, ?_⟩
    refine k per count rise _ hL hF (But.same s01 ((k2.upd.upd).upd)) ⟨dx, l, upd_same, SqL.of ?_⟩
    rw [upd_ne hxl.symm, upd_ne hxl.symm, upd_ne hxl.symm]
    exact hl1
theorem ok_at {f f1 : Addr} {fd fd1 : FuncData} (F : Fun K "at" "Course.at" s_Course_at f fd) (T : Glob mg) (S : CourseT K C)
    (c_tail_number : Cal K mg "tail_number" f1 fd1 ["tail", "more", "k"]) (G_tail_number : FnOk P w K mg base CX0 1 f1 fd1 ["tail", "more", "k"] (spTail K)) : FnOk P w K mg base CX0 2 f fd ["self", "n"] (spAt K C) := by
  refine F.ok sc_Course_at (fun vs H Q E h => ?_) (fun cdv A outer s H vs Q E hr h => ?_)
  · obtain ⟨p, least, k, told, period, rise, g, rfl, _⟩ := h
    rfl
  · obtain ⟨p, least, j, told, period, rise, g, rfl, ⟨dx, a, hp, hT⟩, hTells, hl, hri, hk, k⟩ := h
    have hr_tail_number : Room 1 _ := hr
    have p0 := hTells.p0
    have p1 := hTells.p1
    refine ⟨_, (pss_cons (ps_if (pt_cmpR op_lt (pv 1) (pe_fld (pv 0) rfl) (nomark _)) (pss_one ps_never) pss_nil)
      (pss_cons (ps_set (i := 2) sc_Course_at.nd rfl (Or.inl rfl) (pe_op op_sub (pv 1) (pe_fld (pv 0) rfl)))
      (pss_cons (ps_if (pt_cmpR op_lt (pv 2) (pe_callB call_len_seq (by rfl) T.len PySem.boot_len (pa_cons (pe_fld (pv 0) rfl) pa_nil)) (nomark _)) (pss_one (ps_ret (pe_ix ix_list (pe_fld (pv 0) rfl) (pv 2) (fun _ _ => rfl)))) pss_nil)
      (pss_one (ps_ret (pe_call G_tail_number hr_tail_number rfl c_tail_number.mg c_tail_number.kp c_tail_number.b .nil pass0 (pa_cons (pe_slice sl_list (pe_fld (pv 0) rfl) (po_some (pe_un un_neg (pe_fld (pv 0) rfl))) po_none) (pa_cons (pe_fld (pv 0) rfl) (pa_cons (pe_op op_add (pe_op op_sub (pv 2) (pe_callB call_len_seq (by rfl) T.len PySem.boot_len (pa_cons (pe_fld (pv 0) rfl) pa_nil))) (pe_fld (pv 0) rfl)) pa_nil))))))))), ?_⟩
    refine ⟨_, rfl, _, rfl, p, C, dx, _, _, rfl, hp, S.cl, S.nS, cF_start _ _ _ _, _, _, rfl, rfl, _, rfl, ifD (fun q => ?_) (fun _ => ?_)⟩
    · omega
    have ek : ((least + j : Nat) : Int) - (least : Int) = (j : Int) := by omega
    refine ⟨_, rfl, _, rfl, p, C, dx, _, _, rfl, hp, S.cl, S.nS, cF_start _ _ _ _, _, _, rfl, rfl, ?_⟩
    dsimp only
    rw [ek]
    refine ⟨_, rfl, _, rfl, p, C, dx, _, _, rfl, hp, S.cl, S.nT, cF_told _ _ _ _, a, _, rfl, .inl hT, _, _, rfl, rfl, _, rfl, ?_⟩
    rw [zl_len]
    refine ifD (fun q => ?_) (fun q => ?_)
    · have hj : j < told.length := by omega
      refine ⟨_, rfl, p, C, dx, _, _, rfl, hp, S.cl, S.nT, cF_told _ _ _ _, _, rfl, a, _, _, _, rfl, rfl, hT, zl_at hj, ?_⟩
      rw [hTells.num j hj]
      exact k H (Same.refl H)
    · have hj : told.length ≤ j := by omega
      refine ⟨_, rfl, p, C, dx, _, _, rfl, hp, S.cl, S.nT, cF_told _ _ _ _, _, rfl, p, C, dx, _, _, rfl, hp, S.cl, S.nP, cF_period _ _ _ _, _, rfl, _, rfl, a, _, rfl, hT, fun b hb => ?_⟩
      have sb : ∀ o, Same H (upd H b o) := fun o => Same.new (Same.refl H) hb
      dsimp only
      rw [cut_neg _ _ p0 (by rw [zl_len]; exact p1), zl_len, zl_drop]
      have hdl : (told.drop (told.length - period)).length = period := by rw [List.length_drop]; omega
      refine ⟨_, rfl, p, C, dx, _, _, rfl, sb _ _ _ hp, S.cl, S.nR, cF_rise _ _ _ _, _, rfl, _, rfl, p, C, dx, _, _, rfl, sb _ _ _ hp, S.cl, S.nT, cF_told _ _ _ _, a, _, rfl, .inl ((sb _).seq hT), _, _, rfl, rfl,
        _, rfl, p, C, dx, _, _, rfl, sb _ _ _ hp, S.cl, S.nP, cF_period _ _ _ _, _, _, rfl, rfl, ?_⟩
      have ea : (j : Int) - (told.length : Int) + (period : Int) = ((j - told.length + period : Nat) : Int) := by omega
      dsimp only
      rw [zl_len, ea]
      refine ⟨b, told.drop (told.length - period), rise, j - told.length + period, rfl, SqL.of upd_same, by rw [hdl]; exact p0, by rw [hdl]; omega, hri, ?_, ?_⟩
      · have h2 : (2 : Nat) ^ 190 + 1000 ≤ 2 ^ 200 := by decide
        omega
      · rw [hTells.at hj]
        exact k _ (sb _)
end
end Sand
/-! ## PSeen -/
set_option Elab.async false
set_option linter.all false
set_option maxRecDepth 100000
set_option maxHeartbeats 4000000
namespace Sand
open PySem L2
/-! ### what a change of a list leaves as it is -/
theorem seqT_lst {K : PySem.W.Frag} {H : Hp} {D a : Addr} {l xs : List V} {o : HO} (hD : H D = some (.lst l)) (h : SqT K H a xs) : SqT K (upd H D o) a xs := by
  rcases h with (h | ⟨u, h⟩) | h
  · exact .inl (.inl (by rw [upd_ne (ne_of h hD (fun z => nomatch z))]; exact h))
  · exact .inl (.inr ⟨u, by rw [upd_ne (ne_of h hD (fun z => nomatch z))]; exact h⟩)
  · exact .inr h
theorem pd_lst {K : PySem.W.Frag} {H : Hp} {D : Addr} {l vs : List V} {rs : List Row} {o : HO} (hD : H D = some (.lst l)) (h : Paired (RowV K H) vs rs) : Paired (RowV K (upd H D o)) vs rs :=
  Paired.mapP h fun _ _ ⟨t, e, q⟩ => ⟨t, e, seqT_lst hD q⟩
theorem nat_lst {P : Program} {w : World} {H : Hp} {D d : Addr} {l : List V} {o : HO} {kvs : List (NKey × V)} (hD : H D = some (.lst l)) (h : NAt P w H d kvs) : NAt P w (upd H D o) d kvs := by
  obtain ⟨xs, h1, _⟩ := id h
  exact h.keep (upd_ne (ne_of h1 hD (fun z => nomatch z))) fun b ys hb => by rw [upd_ne (ne_of hb hD (fun z => nomatch z))]; exact hb
/-! ### the keys (ends, phase) of the seen dicts -/
def zs (e : List Nat) : List Int := e.map fun n : Nat => (n : Int)
theorem zs_inj {a b : List Nat} (h : zs a = zs b) : a = b := by
  have h1 := congrArg (fun l : List Int => l.map Int.toNat) h
  unfold zs at h1
  rw [List.map_map, List.map_map] at h1
  have e : (Int.toNat ∘ fun n : Nat => (n : Int)) = id := by funext n; exact Int.toNat_natCast n
  rw [e, List.map_id, List.map_id] at h1
  exact h1
theorem nl_zs (e : List Nat) : nl e = zl (zs e) := nl_zl e
def keyOf (B : Band) (i : Nat) : NKey := (zs (B.S (B.ah.length + i)).1, ((i % B.cy.length : Nat) : Int))
theorem keyOf_eq {B : Band} {i j : Nat} (h : keyOf B i = keyOf B j) : (B.S (B.ah.length + i)).1 = (B.S (B.ah.length + j)).1 ∧ i % B.cy.length = j % B.cy.length := by
  unfold keyOf at h
  have h1 := congrArg Prod.fst h
  have h2 := congrArg Prod.snd h
  exact ⟨zs_inj h1, by have h2 : ((i % B.cy.length : Nat) : Int) = ((j % B.cy.length : Nat) : Int) := h2; omega⟩
def keys (B : Band) (vals : Nat → V) (m : Nat) : List (NKey × V) := (List.range m).map fun i => (keyOf B i, vals i)
theorem keys_len (B : Band) (vals : Nat → V) (m : Nat) : (keys B vals m).length = m := by unfold keys; simp
theorem keys_succ (B : Band) (vals : Nat → V) (m : Nat) : keys B vals (m + 1) = keys B vals m ++ [(keyOf B m, vals m)] := by
  unfold keys; rw [List.range_succ, List.map_append]; rfl
theorem keys_congr {B : Band} {vals vals' : Nat → V} {m : Nat} (h : ∀ i, i < m → vals' i = vals i) : keys B vals' m = keys B vals m := by
  unfold keys
  exact List.map_congr_left fun i hi => by rw [h i (List.mem_range.mp hi)]
theorem keys_some {B : Band} {vals : Nat → V} {m : Nat} {k : NKey} {v : V} (h : valV (keys B vals m) k = some v) : ∃ j, j < m ∧ keyOf B j = k ∧ v = vals j := by
  unfold valV at h
  obtain ⟨kv, h1, h2⟩ := Option.map_eq_some_iff.mp h
  have hm := List.mem_of_find?_eq_some h1
  have hp := List.find?_some h1
  obtain ⟨j, hj, e⟩ := List.mem_map.mp hm
  subst e
  exact ⟨j, List.mem_range.mp hj, of_decide_eq_true hp, h2.symm⟩
theorem keys_none {B : Band} {vals : Nat → V} {m : Nat} {k : NKey} (h : valV (keys B vals m) k = none) : ∀ j, j < m → keyOf B j ≠ k := by
  intro j hj e
  unfold valV at h
  have h1 : (keys B vals m).find? (fun kv => decide (kv.1 = k)) = none := by simpa using h
  have := List.find?_eq_none.mp h1 (keyOf B j, vals j) (List.mem_map.mpr ⟨j, List.mem_range.mpr hj, rfl⟩)
  exact this (decide_eq_true e)
/-- no key came twice -/
def Apart (B : Band) (m : Nat) : Prop := ∀ i j, i < j → j < m → keyOf B i ≠ keyOf B j
theorem Apart.succ {B : Band} {m : Nat} (h : Apart B m) (hn : ∀ j, j < m → keyOf B j ≠ keyOf B m) : Apart B (m + 1) := fun i j hij hj => by
  by_cases q : j = m
  · subst q; exact hn i hij
  · exact h i j hij (by omega)
theorem Apart.le {B : Band} (O : B.Ok) {m : Nat} (h : Apart B m) : m ≤ 420 := O.pigeon fun i j hij hj e => h i j hij hj (by unfold keyOf; rw [e.1, e.2])
/-- the key in the heap -/
theorem key_made {H : Hp} {B : Band} {i : Nat} {b t : Addr} {z : Int} (hb : H b = some (.tup (nl (B.S (B.ah.length + i)).1))) (ht : H t = some (.tup [.ref b, .int z])) (hz : z = ((i % B.cy.length : Nat) : Int)) : KeyAt H t (keyOf B i) := by
  refine ⟨b, ?_, ?_⟩
  · rw [ht, hz]; rfl
  · rw [hb, nl_zs]; rfl
/-- the heads: from which step on they have a phase -/
def tZero (B : Band) : Nat := if B.ah.length ≤ B.headLen B.least then 0 else 1
theorem head_at (B : Band) (i : Nat) : B.headLen (B.least + (tZero B + i)) = B.ah.length + i := by
  have hl : ∀ j, B.headLen (B.least + j) = B.headLen B.least + j := fun j => by
    induction j with
    | zero => rfl
    | succ j ih =>
      have : B.least + (j + 1) = B.least + j + 1 := rfl
      rw [this, headLen_succ (by omega), ih]
      omega
  rw [hl]
  unfold tZero
  have : B.headLen B.least = B.ah.length ∨ B.headLen B.least + 1 = B.ah.length := by
    unfold Band.headLen Band.least
    split <;> omega
  split <;> omega
theorem tZero_le (B : Band) : tZero B ≤ 1 := by unfold tZero; split <;> omega
theorem head_early {B : Band} (h : tZero B = 1) : B.headLen B.least + 1 = B.ah.length := by
  have := head_at B 0
  rw [h] at this
  have e : B.least + (1 + 0) = B.least + 1 := rfl
  rw [e, headLen_succ (Nat.le_refl _)] at this
  omega
theorem least_le {B : Band} (O : B.Ok) : B.least ≤ 12 := by
  have := O.a8
  have := O.e4
  unfold Band.least; omega
/-- the numbers of threads for the lengths from the least one on -/
def fOf (B : Band) (k : Nat) : Int := (B.number (B.least + k) : Nat)
def numsTo (B : Band) (t : Nat) : List Int := (List.range t).map (fOf B)
theorem numsTo_len (B : Band) (t : Nat) : (numsTo B t).length = t := by unfold numsTo; simp
theorem numsTo_succ (B : Band) (t : Nat) : numsTo B (t + 1) = numsTo B t ++ [fOf B t] := by unfold numsTo; rw [List.range_succ, List.map_append]; rfl
theorem numsTo_get {B : Band} {t k : Nat} (h : k < t) : (numsTo B t).getD k 0 = fOf B k := by
  unfold numsTo
  rw [List.getD_eq_getElem?_getD, List.getElem?_map, List.getElem?_range h]; rfl
/-- what is told is the course, with a small rise -/
theorem course_of {B : Band} (O : B.Ok) {i j : Nat} (hji : j < i) (hk : keyOf B j = keyOf B i) (hi : i ≤ 420) {per count : Nat} {rise : Int}
    (L : LeOk ((numsTo B (tZero B + i)).drop ((numsTo B (tZero B + i)).length - (i - j))) (((B.S (B.ah.length + i)).2 : Int) - (B.S (B.ah.length + j)).2) per rise) (F : FewOk (numsTo B (tZero B + i)) per rise count) :
    Tells ((numsTo B (tZero B + i)).take count) per rise (fOf B) ∧ rise.natAbs < 2 ^ 100 ∧ ((numsTo B (tZero B + i)).take count).length ≤ 1000 := by
  obtain ⟨hE, hp⟩ := keyOf_eq hk
  have hlen := numsTo_len B (tZero B + i)
  have t1 := tZero_le B
  have T : Tells ((numsTo B (tZero B + i)).take count) per rise (fOf B) := by
    refine tells_mk (p := i - j) (by omega) (by rw [hlen]; omega) (fun k hk => by rw [hlen] at hk; exact numsTo_get hk) (fun k hk => ?_) L F
    rw [hlen] at hk
    have eb : B.least + (tZero B + j) + (i - j) = B.least + (tZero B + i) := by omega
    have g := course_go B (b := B.least + (tZero B + j)) (p := i - j) (by omega) (by rw [head_at]; omega) (by rw [eb, head_at, head_at]; exact hE.symm) (by
      rw [eb, head_at, head_at]
      have x1 : B.ah.length + i - B.ah.length = i := by omega
      have x2 : B.ah.length + j - B.ah.length = j := by omega
      rw [x1, x2]; exact hp.symm) (B.least + k) (by omega)
    rw [eb, head_at, head_at] at g
    unfold fOf
    rw [← Nat.add_assoc, g]
  have hl : ((numsTo B (tZero B + i)).take count).length ≤ 421 := by rw [List.length_take, hlen]; omega
  refine ⟨T, ?_, by omega⟩
  have g := T.go (((numsTo B (tZero B + i)).take count).length - per) (Nat.le_refl _)
  have p1 := T.p1
  have p0 := T.p0
  have hle := least_le O
  have b1 : ∀ k, k ≤ 421 → 0 ≤ fOf B k ∧ fOf B k ≤ 7 * 433 := fun k hk => by
    have := O.number_le (n := B.least + k) (by omega)
    unfold fOf
    omega
  have c1 := b1 (((numsTo B (tZero B + i)).take count).length - per + per) (by omega)
  have c2 := b1 (((numsTo B (tZero B + i)).take count).length - per) (by omega)
  have : rise.natAbs ≤ 4000 := by omega
  exact Nat.lt_of_le_of_lt this (by decide)
end Sand
/-! ## PStripCourse -/
set_option Elab.async false
set_option linter.all false
set_option maxRecDepth 100000
set_option maxHeartbeats 8000000
namespace Sand
open PySem L2
abbrev s_strip_course : Stmt := top 26
theorem sc_strip_course : FnScope ["strip", "skipped", "rows", "numbers", "seen", "n", "ends", "closed", "r", "key", "back", "before"] ["strip"] (defScope s_strip_course) := ⟨rfl, rfl, rfl, by decide +kernel, rfl, by decide +kernel, by decide +kernel⟩
def spCourse (K : PySem.W.Frag) (C CC : Addr) : Sp := fun vs H Q _ => ∃ (p : Addr) (B : Band), vs = [.ref p] ∧ StripAt K C H p B ∧ B.Ok ∧
  ∀ q H' told per rise, Same H H' → CourseAt K CC H' q (B.least : Int) told per rise → Tells told per rise (fOf B) → told.length ≤ 1000 → rise.natAbs < 2 ^ 100 → Q (.ref q) H'
theorem Band.Ok.lasts {B : Band} (O : B.Ok) (n : Nat) : ∀ r, r ∈ B.lastRows n → RowOk B.w r := by
  unfold Band.lastRows
  intro r hr
  by_cases q : B.en.length > 0
  · rw [if_pos q] at hr; exact O.re r hr
  · rw [if_neg q] at hr
    rw [List.mem_singleton.mp hr]; exact O.row _
theorem S_len (B : Band) (k : Nat) : (B.S k).1.length = 2 * B.w := by unfold Band.S; rw [pRows_len, rim_len]
theorem zl_app (a b : List Int) : zl (a ++ b) = zl a ++ zl b := List.map_append
theorem seqL_lst {K : PySem.W.Frag} {H : Hp} {D a : Addr} {l xs : List V} {o : HO} (hD : H D = some (.lst l)) (h : SqL K H a xs) (n : a ≠ D) : SqL K (upd H D o) a xs := by
  rcases h with (h | ⟨u, h⟩) | h
  · exact .inl (.inl (by rw [upd_ne n]; exact h))
  · exact .inl (.inr ⟨u, by rw [upd_ne n]; exact h⟩)
  · exact .inr h
/-- the state of strip_course behind t numbers, k keys seen -/
structure CLoop (P : Program) (w : World) (K : PySem.W.Frag) (B : Band) (nums seen : Addr) (H : Hp) (t k : Nat) (qe : Addr) (vals : Nat → V) (H' : Hp) : Prop where
  same : Same H H'
  nl_ : H' nums = some (.lst (zl (numsTo B t)))
  nat : NAt P w H' seen (keys B vals k)
  ts : ∀ i, i < k → ∃ ts, vals i = .ref ts ∧ H' ts = some (.tup [.int ((B.least + (tZero B + i) : Nat) : Int), .int ((B.S (B.ah.length + i)).2 : Nat)])
  ap : Apart B k
  ne : qe ≠ nums
  q : SqL K H' qe (nl (B.S (B.headLen (B.least + t))).1)
theorem CLoop.step {P : Program} {w : World} {K : PySem.W.Frag} {B : Band} {nums seen : Addr} {H : Hp} {t k : Nat} {qe : Addr} {vals : Nat → V} {H1 H2 : Hp} (L : CLoop P w K B nums seen H t k qe vals H1) (s : Same H1 H2) : CLoop P w K B nums seen H t k qe vals H2 :=
  ⟨L.same.trans s, s _ _ L.nl_, L.nat.same s, fun i hi => let ⟨ts, h1, h2⟩ := L.ts i hi; ⟨ts, h1, s _ _ h2⟩, L.ap, L.ne, s.seq L.q⟩
section
variable {P : Program} {w : World} {K : PySem.W.Frag} {mg : Str → Option Value} {base : Heap} {C CC : Addr} {pA gA pC gC pW gW pL gL fHL fHR fPR fRE fFI fLR fCo : Addr} {dA dC dW dL dHL dHR dPR dRE dFI dLR dCo : FuncData}
theorem ok_strip_course {f : Addr} {fd : FuncData} (F : Fun K "strip_course" "strip_course" s_strip_course f fd) (T : Glob mg) (S : StripT K C)
    (c_Strip_ahead : PCal K C "ahead" pA gA dA) (G_Strip_ahead : FnOk P w K mg base CX0 1 gA dA ["self"] (spAhead K C)) (c_Strip_cycle : PCal K C "cycle" pC gC dC) (G_Strip_cycle : FnOk P w K mg base CX0 1 gC dC ["self"] (spCycle K C))
    (c_Strip_width : PCal K C "width" pW gW dW) (G_Strip_width : FnOk P w K mg base CX0 1 gW dW ["self"] (spWidth K C)) (c_Strip_least : PCal K C "least" pL gL dL) (G_Strip_least : FnOk P w K mg base CX0 1 gL dL ["self"] (spLeast K C))
    (c_head_length : Cal K mg "head_length" fHL dHL ["strip", "n"]) (G_head_length : FnOk P w K mg base CX0 3 fHL dHL ["strip", "n"] (spHeadLen K C))
    (c_head_row : Cal K mg "head_row" fHR dHR ["strip", "r"]) (G_head_row : FnOk P w K mg base CX0 3 fHR dHR ["strip", "r"] (spHeadRow K C))
    (c_past_rows : Cal K mg "past_rows" fPR dPR ["ends", "closed", "rows"]) (G_past_rows : FnOk P w K mg base CX0 3 fPR dPR ["ends", "closed", "rows"] (spRows K))
    (c_rim_ends : Cal K mg "rim_ends" fRE dRE ["width"]) (G_rim_ends : FnOk P w K mg base CX0 1 fRE dRE ["width"] (spRim K))
    (c_finished : Cal K mg "finished" fFI dFI ["ends", "closed", "rows"]) (G_finished : FnOk P w K mg base CX0 4 fFI dFI ["ends", "closed", "rows"] (spFin K))
    (c_last_rows : Cal K mg "last_rows" fLR dLR ["strip", "n"]) (G_last_rows : FnOk P w K mg base CX0 4 fLR dLR ["strip", "n"] (spLastRows K C))
    (c_Course : MCal K mg "Course" CC fCo dCo ["self", "least", "numbers", "every", "more"]) (G_Course : FnOk P w K mg base CX0 3 fCo dCo ["self", "least", "numbers", "every", "more"] (spCInit K CC)) :
    FnOk P w K mg base CX0 6 f fd ["strip"] (spCourse K C CC) := by
  refine F.ok sc_strip_course (fun vs H Q E h => ?_) (fun cdv A outer s H vs Q E hr h => ?_)
  · obtain ⟨p, B, rfl, _⟩ := h
    rfl
  · obtain ⟨p, B, rfl, hB, O, k⟩ := h
    have hr_Strip_ahead : Room 2 _ := hr.mono (by decide)
    have hr_Strip_cycle : Room 2 _ := hr.mono (by decide)
    have hr_Strip_width : Room 2 _ := hr.mono (by decide)
    have hr_Strip_least : Room 2 _ := hr.mono (by decide)
    have hr_head_length : Room 3 _ := hr.mono (by decide)
    have hr_head_row : Room 3 _ := hr.mono (by decide)
    have hr_past_rows : Room 3 _ := hr.mono (by decide)
    have hr_rim_ends : Room 1 _ := hr.mono (by decide)
    have hr_finished : Room 4 _ := hr.mono (by decide)
    have hr_last_rows : Room 4 _ := hr.mono (by decide)
    have hr_Course : Room 4 _ := hr.mono (by decide)
    have hu := hu_of hr
    refine ⟨_, (pss_cons (ps_set (i := 1) sc_strip_course.nd rfl (Or.inl rfl) (pe_callB call_len_seq (by rfl) T.len PySem.boot_len (pa_cons (pe_prop (pv 0) S.cl c_Strip_ahead.pr G_Strip_ahead hr_Strip_ahead c_Strip_ahead.b .nil pass0 rfl) pa_nil)))
      (pss_cons (ps_setLc (i := 2) (own := [("r", 8)]) (g := gName 8) (tt := tYes) (by rfl) sc_strip_course.nd rfl rfl (sw_true rfl rfl rfl (by decide +kernel)) (pi_range1 (by rfl) T.range (pa_cons (pe_call G_head_length hr_head_length rfl c_head_length.mg c_head_length.kp c_head_length.b .nil pass0 (pa_cons (pv 0) (pa_cons (pe_prop (pv 0) S.cl c_Strip_least.pr G_Strip_least hr_Strip_least c_Strip_least.b .nil pass0 rfl) pa_nil))) pa_nil)) (blkOk_by (own := [("r", 8)]) (N := ["strip", "skipped", "rows", "numbers", "seen", "n", "ends", "closed", "r", "key", "back", "before"]) (sc := defScope s_strip_course) (by decide +kernel)) (fun _ _ _ _ _ => pg_name (i := 8) sc_strip_course.nd rfl (Or.inl rfl)) (fun _ _ _ _ _ => pts_nil) (fun _ _ _ _ _ => (pe_call G_head_row hr_head_row rfl c_head_row.mg c_head_row.kp c_head_row.b .nil pass0 (pa_cons (pv 0) (pa_cons (pv 8) pa_nil)))))
      (pss_cons (ps_asg (pe_call G_past_rows hr_past_rows rfl c_past_rows.mg c_past_rows.kp c_past_rows.b .nil pass0 (pa_cons (pe_call G_rim_ends hr_rim_ends rfl c_rim_ends.mg c_rim_ends.kp c_rim_ends.b .nil pass0 (pa_cons (pe_prop (pv 0) S.cl c_Strip_width.pr G_Strip_width hr_Strip_width c_Strip_width.b .nil pass0 rfl) pa_nil)) (pa_cons pe_int (pa_cons (pv 2) pa_nil)))) (pg_tup rfl (pgs_cons (pg_name (i := 6) sc_strip_course.nd rfl (Or.inl rfl)) (pgs_cons (pg_name (i := 7) sc_strip_course.nd rfl (Or.inl rfl)) pgs_nil))))
      (pss_cons (ps_set (i := 3) sc_strip_course.nd rfl (Or.inl rfl) (pe_lst pa_nil))
      (pss_cons (ps_set (i := 4) sc_strip_course.nd rfl (Or.inl rfl) pe_dnewN)
      (pss_cons (ps_set (i := 5) sc_strip_course.nd rfl (Or.inl rfl) (pe_prop (pv 0) S.cl c_Strip_least.pr G_Strip_least hr_Strip_least c_Strip_least.b .nil pass0 rfl))
      (pss_one (ps_while PassesOwn.never (pt_val pe_bl) (pss_cons (ps_set (i := 8) sc_strip_course.nd rfl (Or.inl rfl) (pe_call G_head_length hr_head_length rfl c_head_length.mg c_head_length.kp c_head_length.b .nil pass0 (pa_cons (pv 0) (pa_cons (pv 5) pa_nil))))
      (Evl.pss_cut (ps_if (pt_cmpR op_ge (pv 8) (pv 1) (nomark _)) (pss_cons (ps_set (i := 9) sc_strip_course.nd rfl (Or.inl rfl) (pe_tup (pa_cons (pe_callTy call_tuple_of (by rfl) T.tuple (by decide +kernel) (pa_cons (pv 6) pa_nil)) (pa_cons (pe_op op_mod (pe_op op_sub (pv 8) (pv 1)) (pe_callB call_len_seq (by rfl) T.len PySem.boot_len (pa_cons (pe_prop (pv 0) S.cl c_Strip_cycle.pr G_Strip_cycle hr_Strip_cycle c_Strip_cycle.b .nil pass0 rfl) pa_nil))) pa_nil))))
      (pss_cons (ps_if (pt_cmp (pc_nin hr (pv 9) (pv 4))) (pss_cons (ps_asg (pe_nget hr (pv 4) (pv 9) (fun _ _ => rfl)) (pg_tup rfl (pgs_cons (pg_name (i := 10) sc_strip_course.nd rfl (Or.inl rfl)) (pgs_cons (pg_name (i := 11) sc_strip_course.nd rfl (Or.inl rfl)) pgs_nil))))
      (pss_one (ps_ret (pe_make c_Course.mk_ G_Course hr_Course rfl c_Course.mg c_Course.b .nil pass0 (pa_cons (pe_prop (pv 0) S.cl c_Strip_least.pr G_Strip_least hr_Strip_least c_Strip_least.b .nil pass0 rfl) (pa_cons (pv 3) (pa_cons (pe_op op_sub (pv 5) (pv 10)) (pa_cons (pe_op op_sub (pv 7) (pv 11)) pa_nil)))))))) pss_nil)
      (pss_one (ps_nput hr (pv 4) (pv 9) (pe_tup (pa_cons (pv 5) (pa_cons (pv 7) pa_nil))))))) pss_nil)
      (pss_cons (ps_expr (pe_bm PySem.F.plainAttrs_list PySem.F.slot_list_append PySem.F.type_list_append mt_append (pv 3) (pa_cons (pe_call G_finished hr_finished rfl c_finished.mg c_finished.kp c_finished.b .nil pass0 (pa_cons (pv 6) (pa_cons (pv 7) (pa_cons (pe_call G_last_rows hr_last_rows rfl c_last_rows.mg c_last_rows.kp c_last_rows.b .nil pass0 (pa_cons (pv 0) (pa_cons (pv 5) pa_nil))) pa_nil)))) pa_nil)))
      (pss_cons (ps_asg (pe_call G_past_rows hr_past_rows rfl c_past_rows.mg c_past_rows.kp c_past_rows.b .nil pass0 (pa_cons (pv 6) (pa_cons (pv 7) (pa_cons (pe_lst (pa_cons (pe_call G_head_row hr_head_row rfl c_head_row.mg c_head_row.kp c_head_row.b .nil pass0 (pa_cons (pv 0) (pa_cons (pv 8) pa_nil))) pa_nil)) pa_nil)))) (pg_tup rfl (pgs_cons (pg_name (i := 6) sc_strip_course.nd rfl (Or.inl rfl)) (pgs_cons (pg_name (i := 7) sc_strip_course.nd rfl (Or.inl rfl)) pgs_nil))))
      (pss_one (ps_aug (i := 5) sc_strip_course.nd rfl (Or.inl rfl) pe_int ip_add)))))))))))))), ?_⟩
    obtain ⟨dx, a, b, c, hp, _⟩ := id hB
    -- skipped
    refine ⟨_, rfl, p, dx, _, rfl, hp, p, B, rfl, hB, fun qa H1 hqa s1 hA => ?_⟩
    obtain ⟨va, la, ra⟩ := hA
    refine ⟨qa, _, rfl, .inl la, ?_⟩
    rw [pd_len ra]
    -- rows
    refine ⟨_, rfl, _, rfl, p, dx, _, rfl, s1 _ _ hp, p, B, rfl, hB.same s1, p, B, B.least, rfl, hB.same s1, Nat.le_refl _, fun H2 s2 => ?_⟩
    have hle := least_le O
    have hhl : B.headLen B.least ≤ 12 := by have := headLen_le B (Nat.le_refl B.least); omega
    refine ⟨_, rfl, by omega, by omega, fun D hD => ?_⟩
    have s12 := s1.trans s2
    have hD0 : H D = none := s12.free hD
    refine lc_range (lo := 0) (fun i H' => Same H H' ∧ ∃ vs, H' D = some (.lst vs) ∧ Paired (RowV K H') vs (B.upto i)) ⟨Same.new s12 hD, [], upd_same, .nil⟩ ?_ ?_
    · rintro i H3 hi ⟨s3, vs, hvs, hpd⟩
      refine ⟨rfl, ?_⟩
      have ei : (0 : Int) + (i : Int) = ((i : Nat) : Int) := by omega
      refine ⟨_, rfl, _, rfl, p, B, i, by rw [ei]; rfl, hB.same s3, O.c0, fun t H4 s4 ht => ⟨vs, s4 _ _ hvs, small1000 (by rw [pd_len hpd]; unfold Band.upto; simp; omega), Same.mut (s3.trans s4) hD0, vs ++ [.ref t], upd_same, ?_⟩⟩
      rw [upto_succ]
      exact pd_app (pd_lst (s4 _ _ hvs) (pd_same s4 hpd)) (.cons ⟨t, rfl, seqT_lst (s4 _ _ hvs) ht⟩ .nil)
    · rintro H3 ⟨s3, vs, hvs, hpd⟩
      have eh : ((B.headLen B.least : Nat) : Int).toNat = B.headLen B.least := by omega
      rw [eh] at hpd
      have w4 := O.w4
      -- ends, closed
      refine ⟨_, rfl, p, dx, _, rfl, s3 _ _ hp, p, B, rfl, hB.same s3, B.w, rfl, by omega, fun r0 H4 hr0 s4 hr0' => ?_⟩
      have s04 := s3.trans s4
      refine ⟨_, rfl, r0, D, Band.rim B.w, 0, B.w, B.upto (B.headLen B.least), rfl, SqL.of hr0', ⟨vs, SqL.of (s4 _ _ hvs), pd_same s4 hpd⟩, (rim_pairs B.w).Lt, rim_len _, by omega, O.upto _, fun t qe H5 ht s5 ht5 hqe hf5 => ?_⟩
      have s05 := s04.trans s5
      rw [Int.zero_add] at ht5
      refine ⟨t, _, rfl, SqT.of ht5, rfl, _, _, rfl, _, _, rfl, rfl, ?_⟩
      -- numbers, seen, n
      refine ⟨Nat.zero_le _, fun nums hnums => ?_⟩
      have hn0 : H nums = none := s05.free hnums
      have s06 := Same.new (o := .lst []) s05 hnums
      intro seen hseen
      have hs0 : H seen = none := s06.free hseen
      have hns : nums ≠ seen := ne_of_none upd_same hseen
      have s07 := Same.new (o := NDo P w seen []) s06 hseen
      have hne5 : qe ≠ nums := fun z => by
        rcases hf5 with h | h
        · have := s5 _ _ hr0'
          rw [← h, z, hnums] at this
          cases this
        · rw [z] at h; exact h.2 hnums
      refine ⟨_, rfl, p, dx, _, rfl, s07 _ _ hp, p, B, rfl, hB.same s07, ?_⟩
      -- the loop
      refine ⟨fun m σ H' => ∃ (t : Nat) (qe : Addr) (vals : Nat → V) (v2 v8 v9 v10 v11 : Option V), m + t = 430 ∧
          σ = [some (.ref p), some (.int (B.ah.length : Int)), v2, some (.ref nums), some (.ref seen), some (.int ((B.least + t : Nat) : Int)), some (.ref qe), some (.int ((B.S (B.headLen (B.least + t))).2 : Nat)), v8, v9, v10, v11] ∧
          CLoop P w K B nums seen H t (t - tZero B) qe vals H',
        ⟨430, 0, qe, fun _ => .non, some (.ref D), none, none, none, none, rfl, rfl, ⟨s07, ?_, ?_, fun i hi => by omega, fun i j h1 h2 => by omega, hne5, ?_⟩⟩, ?_⟩
      · rw [upd_ne hns, upd_same]; rfl
      · rw [Nat.zero_sub]; exact NAt.nil
      · rw [Nat.add_zero]
        exact (Same.new (Same.new (Same.refl H5) hnums) hseen).seq hqe
      · rintro m σ H' ⟨t, qe, vals, v2, v8, v9, v10, v11, hm, rfl, L⟩
        have hK := L.ap.le O
        have t1 := tZero_le B
        refine ⟨_, rfl, ⟨_, fun σ' H2 z => z, ?_⟩⟩
        -- r
        refine ⟨_, rfl, _, rfl, p, B, B.least + t, rfl, hB.same L.same, by omega, fun H8 s8 => ?_⟩
        have L8 := L.step s8
        -- if r >= skipped
        refine ⟨fun σ' H2 => ∃ (vals : Nat → V) (v9 v10 v11 : Option V), σ' = [some (.ref p), some (.int (B.ah.length : Int)), v2, some (.ref nums), some (.ref seen), some (.int ((B.least + t : Nat) : Int)), some (.ref qe), some (.int ((B.S (B.headLen (B.least + t))).2 : Nat)),
            some (.int (B.headLen (B.least + t) : Nat)), v9, v10, v11] ∧ CLoop P w K B nums seen H t (t + 1 - tZero B) qe vals H2, ?_, ?_⟩
        · refine ⟨_, rfl, _, rfl, _, _, rfl, rfl, _, rfl, ifD (fun g => ?_) (fun g => ?_)⟩
          · obtain ⟨i, rfl⟩ : ∃ i, t = tZero B + i := by
              refine ⟨t - tZero B, ?_⟩
              by_cases z : tZero B ≤ t
              · omega
              · exfalso
                have tz : t = 0 := by omega
                have := head_early (B := B) (by omega)
                rw [tz, Nat.add_zero] at g
                omega
            have hh := head_at B i
            have ek : tZero B + i - tZero B = i := by omega
            rw [ek] at hK
            rw [hh]
            rw [ek] at L8
            have hq8 := L8.q
            rw [hh] at hq8
            -- key
            refine ⟨_, rfl, qe, _, rfl, .inl ⟨hq8, fun tb htb => ?_⟩⟩
            have s9 := Same.new (o := .tup (nl (B.S (B.ah.length + i)).1)) (Same.refl H8) htb
            have L9 := L8.step s9
            refine ⟨_, rfl, _, rfl, _, _, rfl, rfl, _, rfl, p, dx, _, rfl, L9.same _ _ hp, p, B, rfl, hB.same L9.same, fun qc H10 hqc s10 hCy => ?_⟩
            obtain ⟨vc, lc, rc⟩ := hCy
            have c0 := O.c0
            refine ⟨qc, _, rfl, .inl lc, _, _, rfl, rfl, by rw [pd_len rc]; omega, by show 2 ≤ sizeLine; decide, fun tk htk => ?_⟩
            have em : (((B.ah.length + i : Nat) : Int) - (B.ah.length : Int)) % ((vc.length : Nat) : Int) = ((i % B.cy.length : Nat) : Int) := by
              rw [pd_len rc, Int.natCast_emod]; congr 1; omega
            have sk := Same.new (o := .tup [.ref tb, .int ((((B.ah.length + i : Nat) : Int) - (B.ah.length : Int)) % ((vc.length : Nat) : Int))]) s10 htk
            have LK := L9.step sk
            have hkey := key_made (B := B) (i := i) (sk _ _ upd_same) upd_same em
            -- key in seen
            refine ⟨_, rfl, _, rfl, seen, tk, _, _, rfl, rfl, LK.nat, hkey, ?_⟩
            cases e : valV (keys B vals i) (keyOf B i) with
            | some v =>
              refine ⟨_, rfl, iteT ?_⟩
              obtain ⟨j, hj, hkj, rfl⟩ := keys_some e
              obtain ⟨ts, hv, hts⟩ := LK.ts j hj
              refine ⟨_, rfl, _, rfl, seen, tk, _, _, vals j, rfl, rfl, LK.nat, hkey, e, ts, _, hv, SqT.of hts, rfl, _, _, rfl, _, _, rfl, rfl, ?_⟩
              refine ⟨_, rfl, p, dx, _, rfl, LK.same _ _ hp, p, B, rfl, hB.same LK.same, _, rfl, _, rfl, _, rfl, _, _, rfl, rfl, _, rfl, _, rfl, _, _, rfl, rfl, fun x dxc hx hdx hne => ?_⟩
              have sm : Same (upd H10 tk (.tup [.ref tb, .int ((((B.ah.length + i : Nat) : Int) - (B.ah.length : Int)) % ((vc.length : Nat) : Int))])) (upd (upd (upd H10 tk (.tup [.ref tb, .int ((((B.ah.length + i : Nat) : Int) - (B.ah.length : Int)) % ((vc.length : Nat) : Int))])) dxc (.own x)) x (.ins CC dxc [])) := fun b o eb => by
                rw [upd_ne (ne_of_none eb hx), upd_ne (ne_of_none eb hdx)]; exact eb
              have eev : ((B.least + (tZero B + i) : Nat) : Int) - ((B.least + (tZero B + j) : Nat) : Int) = ((i - j : Nat) : Int) := by omega
              have hS1 := O.S_le (B.ah.length + i)
              have hS2 := O.S_le (B.ah.length + j)
              have ha8 := O.a8
              refine ⟨x, dxc, nums, (B.least : Int), numsTo B (tZero B + i), i - j, ((B.S (B.ah.length + i)).2 : Int) - (B.S (B.ah.length + j)).2, by dsimp only; rw [eev]; rfl, upd_same, SqL.of (sm _ _ LK.nl_), by unfold Band.least; omega, by omega,
                by rw [numsTo_len]; omega, by rw [numsTo_len]; omega, ?_, fun per count rise H' hL hF hbut hC => ⟨rfl, ?_⟩⟩
              · exact Nat.lt_of_le_of_lt (show _ ≤ 10000 by omega) (by decide)
              · obtain ⟨hT, hri, hlen⟩ := course_of O hj hkj (by omega) hL hF
                exact k x H' _ per rise (LK.same.trans (Same.made hx hdx hbut)) hC hT hlen hri
            | none =>
              refine ⟨_, rfl, iteF ?_⟩
              -- seen[key] = (n, closed)
              refine ⟨_, rfl, _, rfl, by show 2 ≤ sizeLine; decide, fun tv htv => ?_⟩
              have sv := Same.new (o := .tup [.int ((B.least + (tZero B + i) : Nat) : Int), .int ((B.S (B.ah.length + i)).2 : Nat)]) (Same.refl _) htv
              have LV := LK.step sv
              refine ⟨_, rfl, _, rfl, seen, tk, _, _, rfl, rfl, LV.nat, hkey.keep (fun b ys hb => sv _ _ hb), e, small1000 (by rw [keys_len]; omega), fun H4 hoth hN4 => ?_⟩
              have keep : ∀ b o, b ≠ seen → (upd (upd H10 tk (.tup [.ref tb, .int ((((B.ah.length + i : Nat) : Int) - (B.ah.length : Int)) % ((vc.length : Nat) : Int))])) tv (.tup [.int ((B.least + (tZero B + i) : Nat) : Int), .int ((B.S (B.ah.length + i)).2 : Nat)])) b = some o → H4 b = some o := fun b o hb hbo => (hoth b hb).trans hbo
              obtain ⟨xs4, hseen4, _⟩ := id LV.nat
              have ek2 : tZero B + i + 1 - tZero B = i + 1 := by omega
              refine ⟨fun j => if j = i then .ref tv else vals j, some (.ref tk), v10, v11, rfl, ?_⟩
              rw [ek2]
              refine ⟨fun b o hb => keep b o (ne_of_none hb hs0) (LV.same _ _ hb), keep _ _ hns LV.nl_, ?_, fun j hj => ?_, ?_, LV.ne, ?_⟩
              · rw [keys_succ, keys_congr (vals' := fun j => if j = i then V.ref tv else vals j) (vals := vals) (fun j hj => by rw [if_neg (by omega)])]
                rw [if_pos rfl]
                exact hN4
              · by_cases z : j = i
                · subst z
                  exact ⟨tv, by rw [if_pos rfl], keep _ _ (fun q => by rw [q] at hseen4; rw [upd_same] at hseen4; cases hseen4) upd_same⟩
                · obtain ⟨ts, h1, h2⟩ := LV.ts j (by omega)
                  exact ⟨ts, by rw [if_neg z]; exact h1, keep _ _ (ne_of h2 hseen4 (fun q => nomatch q)) h2⟩
              · exact LV.ap.succ (keys_none e)
              · have hq := LV.q
                rcases hq with (hq | ⟨o, hq⟩) | hq
                · exact .inl (.inl (keep _ _ (ne_of hq hseen4 (fun q => nomatch q)) hq))
                · exact .inl (.inr ⟨o, keep _ _ (ne_of hq hseen4 (fun q => nomatch q)) hq⟩)
                · exact .inr hq
          · have hlt : t < tZero B := by
              by_cases z : t < tZero B
              · exact z
              · obtain ⟨i, rfl⟩ : ∃ i, t = tZero B + i := ⟨t - tZero B, by omega⟩
                rw [head_at] at g; omega
            have e0 : t + 1 - tZero B = t - tZero B := by omega
            exact ⟨vals, v9, v10, v11, rfl, by rw [e0]; exact L8⟩
        · rintro σ' H9 ⟨vals9, v9, v10, v11, rfl, L9⟩
          have hn : B.least ≤ B.least + t := Nat.le_add_right _ _
          have o1 := O.w4
          refine ⟨_, rfl, .inl ⟨rfl, _, SqL.of L9.nl_⟩, ?_⟩
          refine ⟨_, rfl, _, rfl, _, rfl, _, rfl, p, B, B.least + t, rfl, hB.same L9.same, O.c0, by unfold Band.least; omega, fun ql Ha sa hql => ?_⟩
          have La := L9.step sa
          refine ⟨qe, ql, (B.S (B.headLen (B.least + t))).1, ((B.S (B.headLen (B.least + t))).2 : Nat), B.w, B.lastRows (B.least + t), rfl, La.q, hql, (O.pairs _).Lt, S_len B _, by omega, O.lasts _, last_ne B _, fun Hb sb => ?_⟩
          have Lb := La.step sb
          have en : ((B.S (B.headLen (B.least + t))).2 : Int) + ((fin (B.S (B.headLen (B.least + t))).1 (B.lastRows (B.least + t)) : Nat) : Int) = fOf B t := by
            unfold fOf
            rw [number_head hn]
            omega
          rw [en]
          refine ⟨nums, _, _, rfl, rfl, Lb.nl_, small1000 (by unfold zl; rw [List.length_map, numsTo_len]; omega), ?_⟩
          have gne : ∀ b o, b ≠ nums → Hb b = some o → upd Hb nums (.lst (zl (numsTo B t) ++ [.int (fOf B t)])) b = some o := fun b o hb e => by rw [upd_ne hb]; exact e
          have sH : Same H (upd Hb nums (.lst (zl (numsTo B t) ++ [.int (fOf B t)]))) := fun b o e => gne b o (ne_of_none e hn0) (Lb.same b o e)
          have eh : B.headLen (B.least + t + 1) = B.headLen (B.least + t) + 1 := headLen_succ hn
          have hrow := O.row (B.headLen (B.least + t))
          refine ⟨_, rfl, _, rfl, _, rfl, _, rfl, p, B, B.headLen (B.least + t), rfl, hB.same sH, O.c0, fun tr Hc sc htr => ?_⟩
          refine ⟨by show 1 ≤ sizeLine; decide, fun pl hpl => ?_⟩
          have sc1 := Same.new (o := .lst [.ref tr]) sc hpl
          refine ⟨qe, pl, (B.S (B.headLen (B.least + t))).1, ((B.S (B.headLen (B.least + t))).2 : Nat), B.w, [B.row (B.headLen (B.least + t))], rfl, sc1.seq (seqL_lst Lb.nl_ Lb.q Lb.ne), ⟨[.ref tr], SqL.of upd_same, .cons ⟨tr, rfl, (Same.new (Same.refl Hc) hpl).seqT htr⟩ .nil⟩,
            (O.pairs _).Lt, S_len B _, by omega, fun r hr => by rw [List.mem_singleton.mp hr]; exact hrow, fun t4 q4 Hd ht4 sd ht5 hq4 hf4 => ?_⟩
          refine ⟨t4, _, rfl, SqT.of ht5, rfl, _, _, rfl, _, _, rfl, rfl, ?_⟩
          have sd1 := sc1.trans sd
          have eS : B.S (B.headLen (B.least + t + 1)) = ((pRows (B.S (B.headLen (B.least + t))).1 [B.row (B.headLen (B.least + t))]).1, (B.S (B.headLen (B.least + t))).2 + (pRows (B.S (B.headLen (B.least + t))).1 [B.row (B.headLen (B.least + t))]).2) := by
            rw [eh, S_succ]; rfl
          refine ⟨_, rfl, _, _, rfl, rfl, m - 1, by omega, t + 1, q4, vals9, v2, some (.int (B.headLen (B.least + t) : Nat)), v9, v10, v11, by omega, ?_, ?_⟩
          · have e1 : B.least + (t + 1) = B.least + t + 1 := rfl
            rw [e1, eS]
            rfl
          · refine ⟨sH.trans sd1, ?_, (nat_lst Lb.nl_ Lb.nat).same sd1, fun i hi => ?_, Lb.ap, fun z => ?_, ?_⟩
            · rw [numsTo_succ, zl_app]; exact sd1 _ _ upd_same
            · obtain ⟨ts, h1, h2⟩ := Lb.ts i hi
              exact ⟨ts, h1, sd1 _ _ (gne _ _ (ne_of h2 Lb.nl_ (fun q => nomatch q)) h2)⟩
            · rcases hf4 with h | h
              · exact Lb.ne (h.symm.trans z)
              · have := sc1 nums _ upd_same
                rw [z] at h
                rw [h.1] at this
                cases this
            · have e1 : B.least + (t + 1) = B.least + t + 1 := rfl
              rw [e1, eS]
              exact hq4
end
end Sand
/-! ## PEnds -/
set_option Elab.async false
set_option linter.all false
set_option maxRecDepth 100000
set_option maxHeartbeats 8000000
namespace Sand
open PySem L2
abbrev s_count_at : Stmt := top 27
theorem sc_count_at : FnScope ["strip", "n"] ["strip", "n"] (defScope s_count_at) := ⟨rfl, rfl, rfl, by decide +kernel, rfl, by decide +kernel, by decide +kernel⟩
abbrev s_ends_after : Stmt := top 28
theorem sc_ends_after : FnScope ["strip", "length", "skipped", "known", "seen", "k", "ends", "closed", "key", "back", "rounds", "rest", "ends_again", "before"] ["strip", "length"] (defScope s_ends_after) := ⟨rfl, rfl, rfl, by decide +kernel, rfl, by decide +kernel, by decide +kernel⟩
abbrev s_cut_ends : Stmt := top 29
theorem sc_cut_ends : FnScope ["strip", "n", "rows", "ends", "closed", "more"] ["strip", "n"] (defScope s_cut_ends) := ⟨rfl, rfl, rfl, by decide +kernel, rfl, by decide +kernel, by decide +kernel⟩
def spCount (K : PySem.W.Frag) (C : Addr) : Sp := fun vs H Q _ => ∃ (p : Addr) (B : Band) (n : Nat), vs = [.ref p, .int (n : Int)] ∧ StripAt K C H p B ∧ B.Ok ∧ B.least ≤ n ∧ n < 2 ^ 180 ∧ ∀ H', Same H H' → Q (.int (B.number n : Nat)) H'
section
variable {P : Program} {w : World} {K : PySem.W.Frag} {mg : Str → Option Value} {base : Heap} {C CC : Addr} {pL gL fSC fAt : Addr} {dL dSC dAt : FuncData}
theorem ok_count_at {f : Addr} {fd : FuncData} (F : Fun K "count_at" "count_at" s_count_at f fd) (T : Glob mg) (S : StripT K C) 
    (c_Strip_least : PCal K C "least" pL gL dL) (G_Strip_least : FnOk P w K mg base CX0 1 gL dL ["self"] (spLeast K C))
    (c_strip_course : Cal K mg "strip_course" fSC dSC ["strip"]) (G_strip_course : FnOk P w K mg base CX0 6 fSC dSC ["strip"] (spCourse K C CC))
    (c_at : TCal K CC "at" fAt dAt ["self", "n"]) (G_at : FnOk P w K mg base CX0 2 fAt dAt ["self", "n"] (spAt K CC)) (SC : CourseT K CC) :
    FnOk P w K mg base CX0 7 f fd ["strip", "n"] (spCount K C) := by
  refine F.ok sc_count_at (fun vs H Q E h => ?_) (fun cdv A outer s H vs Q E hr h => ?_)
  · obtain ⟨p, B, n, rfl, _⟩ := h
    rfl
  · obtain ⟨p, B, n, rfl, hB, O, hn, hb, k⟩ := h
    have hr_Strip_least : Room 2 _ := hr.mono (by decide)
    have hr_strip_course : Room 6 _ := hr
    have hr_at : Room 2 _ := hr.mono (by decide)
    have hu := hu_of hr
    refine ⟨_, (pss_cons (ps_if (pt_cmpR op_lt (pv 1) (pe_prop (pv 0) S.cl c_Strip_least.pr G_Strip_least hr_Strip_least c_Strip_least.b .nil pass0 rfl) (nomark _)) (pss_one ps_never) pss_nil)
      (pss_one (ps_ret (pe_meth (pe_call G_strip_course hr_strip_course rfl c_strip_course.mg c_strip_course.kp c_strip_course.b .nil pass0 (pa_cons (pv 0) pa_nil)) SC.cl c_at.mt G_at hr_at c_at.b .nil pass0 (pa_cons (pv 1) pa_nil))))), ?_⟩
    obtain ⟨dx, a, b, c, hp, _⟩ := id hB
    refine ⟨_, rfl, _, rfl, p, dx, _, rfl, hp, p, B, rfl, hB, _, _, rfl, rfl, _, rfl, ifD (fun g => False.elim (by omega)) (fun _ => ?_)⟩
    refine ⟨_, rfl, p, B, rfl, hB, O, fun q H1 told per rise s1 hC hT hl hri => ?_⟩
    obtain ⟨dc, ac, hq, _⟩ := id hC
    have en : B.least + (n - B.least) = n := by omega
    have ef : fOf B (n - B.least) = (B.number n : Nat) := by unfold fOf; rw [en]
    refine ⟨q, dc, _, rfl, hq, rfl, _, rfl, q, B.least, n - B.least, told, per, rise, fOf B, by rw [en]; rfl, hC, hT, hl, hri, Nat.lt_of_le_of_lt (Nat.sub_le _ _) (Nat.lt_of_lt_of_le hb (Nat.pow_le_pow_right (by decide) (by decide))), fun H2 s2 => ?_⟩
    rw [ef]
    exact k H2 (s1.trans s2)
end
def spEndsAfter (K : PySem.W.Frag) (C : Addr) : Sp := fun vs H Q _ => ∃ (p : Addr) (B : Band) (n : Nat), vs = [.ref p, .int (n : Int)] ∧ StripAt K C H p B ∧ B.Ok ∧ n < 2 ^ 180 ∧ ∀ t q H', Same H H' → H' t = some (.tup [.ref q, .int ((B.S n).2 : Nat)]) → SqL K H' q (nl (B.S n).1) → Q (.ref t) H'
/-- the state of ends_after behind k rows of the round: k1 keys seen, k2 known, the ends behind k3 -/
structure KLoop (P : Program) (w : World) (K : PySem.W.Frag) (B : Band) (b : Nat) (known seen : Addr) (H : Hp) (k1 k2 k3 : Nat) (ts : Nat → Addr) (qe : Addr) (H' : Hp) : Prop where
  same : Same H H'
  nl_ : H' known = some (.lst ((List.range k2).map fun i => V.ref (ts i)))
  nat : NAt P w H' seen (keys B (fun i : Nat => V.int (i : Int)) k1)
  tp : ∀ i, i < k2 → ∃ q, H' (ts i) = some (.tup [.ref q, .int ((B.S (b + i)).2 : Nat)]) ∧ SqL K H' q (nl (B.S (b + i)).1) ∧ q ≠ known
  ap : Apart B k1
  ne : qe ≠ known
  q : SqL K H' qe (nl (B.S (b + k3)).1)
section
variable {P : Program} {w : World} {K : PySem.W.Frag} {B : Band} {b : Nat} {known seen : Addr} {H : Hp} {k1 k2 k3 : Nat} {ts : Nat → Addr} {qe : Addr} {H1 H2 : Hp}
theorem KLoop.step (L : KLoop P w K B b known seen H k1 k2 k3 ts qe H1) (s : Same H1 H2) : KLoop P w K B b known seen H k1 k2 k3 ts qe H2 :=
  ⟨L.same.trans s, s _ _ L.nl_, L.nat.same s, fun i hi => let ⟨q, h1, h2, h3⟩ := L.tp i hi; ⟨q, s _ _ h1, s.seq h2, h3⟩, L.ap, L.ne, s.seq L.q⟩
theorem KLoop.put (L : KLoop P w K B b known seen H k1 k2 k3 ts qe H1) (hs : H seen = none) (ho : ∀ b, b ≠ seen → H2 b = H1 b) (hn : NAt P w H2 seen (keys B (fun i : Nat => V.int (i : Int)) k1 ++ [(keyOf B k1, .int (k1 : Int))])) (e : valV (keys B (fun i : Nat => V.int (i : Int)) k1) (keyOf B k1) = none) :
    KLoop P w K B b known seen H (k1 + 1) k2 k3 ts qe H2 := by
  obtain ⟨xs4, hseen4, _⟩ := id L.nat
  have keep : ∀ b o, b ≠ seen → H1 b = some o → H2 b = some o := fun b o hb hbo => (ho b hb).trans hbo
  have kq : ∀ {a : Addr} {xs : List V}, SqL K H1 a xs → SqL K H2 a xs := fun hq => by
    rcases hq with (hq | ⟨o, hq⟩) | hq
    · exact .inl (.inl (keep _ _ (ne_of hq hseen4 (fun q => nomatch q)) hq))
    · exact .inl (.inr ⟨o, keep _ _ (ne_of hq hseen4 (fun q => nomatch q)) hq⟩)
    · exact .inr hq
  refine ⟨fun b o hb => keep b o (ne_of_none hb hs) (L.same _ _ hb), keep _ _ (ne_of L.nl_ hseen4 (fun q => nomatch q)) L.nl_, ?_, fun i hi => ?_, L.ap.succ (keys_none e), L.ne, kq L.q⟩
  · rw [keys_succ]; exact hn
  · obtain ⟨q, h1, h2, h3⟩ := L.tp i hi
    exact ⟨q, keep _ _ (ne_of h1 hseen4 (fun q => nomatch q)) h1, kq h2, h3⟩
theorem KLoop.app (L : KLoop P w K B b known seen H k1 k2 k2 ts qe H1) (hk : H known = none) {t : Addr} (ht : H1 t = some (.tup [.ref qe, .int ((B.S (b + k2)).2 : Nat)])) :
    KLoop P w K B b known seen H k1 (k2 + 1) k2 (fun i => if i = k2 then t else ts i) qe (upd H1 known (.lst (((List.range k2).map fun i => V.ref (ts i)) ++ [.ref t]))) := by
  have gne : ∀ b o, b ≠ known → H1 b = some o → upd H1 known (.lst (((List.range k2).map fun i => V.ref (ts i)) ++ [.ref t])) b = some o := fun b o hb e => by rw [upd_ne hb]; exact e
  refine ⟨fun b o e => gne b o (ne_of_none e hk) (L.same b o e), ?_, nat_lst L.nl_ L.nat, fun i hi => ?_, L.ap, L.ne, seqL_lst L.nl_ L.q L.ne⟩
  · rw [upd_same, List.range_succ, List.map_append]
    congr 3
    · exact List.map_congr_left fun i hi => by rw [if_neg (by have := List.mem_range.mp hi; omega)]
    · show [V.ref t] = [V.ref (if k2 = k2 then t else ts k2)]
      rw [if_pos rfl]
  · by_cases z : i = k2
    · subst z
      exact ⟨qe, by rw [if_pos rfl]; exact gne _ _ (ne_of ht L.nl_ (fun q => nomatch q)) ht, seqL_lst L.nl_ L.q L.ne, L.ne⟩
    · obtain ⟨q, h1, h2, h3⟩ := L.tp i (by omega)
      exact ⟨q, by rw [if_neg z]; exact gne _ _ (ne_of h1 L.nl_ (fun q => nomatch q)) h1, seqL_lst L.nl_ h2 h3, h3⟩
theorem KLoop.nxt (L : KLoop P w K B b known seen H k1 k2 k3 ts qe H1) {q4 : Addr} (s : Same H1 H2) (hf : From H1 H2 qe q4) {k4 : Nat} (hq : SqL K H2 q4 (nl (B.S (b + k4)).1)) : KLoop P w K B b known seen H k1 k2 k4 ts q4 H2 := by
  have L2 := L.step s
  refine ⟨L2.same, L2.nl_, L2.nat, L2.tp, L2.ap, fun z => ?_, hq⟩
  rcases hf with h | h
  · exact L2.ne (h.symm.trans z)
  · rw [z, L.nl_] at h; exact nomatch h.1
theorem ts_get {ts : Nat → Addr} {k i : Nat} (h : i < k) : ((List.range k).map fun i => V.ref (ts i))[i]? = some (.ref (ts i)) := by
  rw [List.getElem?_map, List.getElem?_range h]; rfl
end
section
variable {P : Program} {w : World} {K : PySem.W.Frag} {mg : Str → Option Value} {base : Heap} {C : Addr} {pA gA pC gC pW gW fHR fPR fRE : Addr} {dA dC dW dHR dPR dRE : FuncData}
theorem ok_ends_after {f : Addr} {fd : FuncData} (F : Fun K "ends_after" "ends_after" s_ends_after f fd) (T : Glob mg) (S : StripT K C)
    (c_Strip_ahead : PCal K C "ahead" pA gA dA) (G_Strip_ahead : FnOk P w K mg base CX0 1 gA dA ["self"] (spAhead K C)) (c_Strip_cycle : PCal K C "cycle" pC gC dC) (G_Strip_cycle : FnOk P w K mg base CX0 1 gC dC ["self"] (spCycle K C))
    (c_Strip_width : PCal K C "width" pW gW dW) (G_Strip_width : FnOk P w K mg base CX0 1 gW dW ["self"] (spWidth K C))
    (c_head_row : Cal K mg "head_row" fHR dHR ["strip", "r"]) (G_head_row : FnOk P w K mg base CX0 3 fHR dHR ["strip", "r"] (spHeadRow K C))
    (c_past_rows : Cal K mg "past_rows" fPR dPR ["ends", "closed", "rows"]) (G_past_rows : FnOk P w K mg base CX0 3 fPR dPR ["ends", "closed", "rows"] (spRows K))
    (c_rim_ends : Cal K mg "rim_ends" fRE dRE ["width"]) (G_rim_ends : FnOk P w K mg base CX0 1 fRE dRE ["width"] (spRim K)) :
    FnOk P w K mg base CX0 4 f fd ["strip", "length"] (spEndsAfter K C) := by
  refine F.ok sc_ends_after (fun vs H Q E h => ?_) (fun cdv A outer s H vs Q E hr h => ?_)
  · obtain ⟨p, B, n, rfl, _⟩ := h
    rfl
  · obtain ⟨p, B, n, rfl, hB, O, hn, k⟩ := h
    have hr_Strip_ahead : Room 2 _ := hr.mono (by decide)
    have hr_Strip_cycle : Room 2 _ := hr.mono (by decide)
    have hr_Strip_width : Room 2 _ := hr.mono (by decide)
    have hr_head_row : Room 3 _ := hr.mono (by decide)
    have hr_past_rows : Room 3 _ := hr.mono (by decide)
    have hr_rim_ends : Room 1 _ := hr.mono (by decide)
    have hu := hu_of hr
    refine ⟨_, (pss_cons (ps_set (i := 2) sc_ends_after.nd rfl (Or.inl rfl) (pe_callB call_len_seq (by rfl) T.len PySem.boot_len (pa_cons (pe_prop (pv 0) S.cl c_Strip_ahead.pr G_Strip_ahead hr_Strip_ahead c_Strip_ahead.b .nil pass0 rfl) pa_nil)))
      (pss_cons (ps_asg (pe_call G_past_rows hr_past_rows rfl c_past_rows.mg c_past_rows.kp c_past_rows.b .nil pass0 (pa_cons (pe_call G_rim_ends hr_rim_ends rfl c_rim_ends.mg c_rim_ends.kp c_rim_ends.b .nil pass0 (pa_cons (pe_prop (pv 0) S.cl c_Strip_width.pr G_Strip_width hr_Strip_width c_Strip_width.b .nil pass0 rfl) pa_nil)) (pa_cons pe_int (pa_cons (pe_slice sl_list (pe_prop (pv 0) S.cl c_Strip_ahead.pr G_Strip_ahead hr_Strip_ahead c_Strip_ahead.b .nil pass0 rfl) po_none (po_some (pv 1))) pa_nil)))) (pg_tup rfl (pgs_cons (pg_name (i := 6) sc_ends_after.nd rfl (Or.inl rfl)) (pgs_cons (pg_name (i := 7) sc_ends_after.nd rfl (Or.inl rfl)) pgs_nil))))
      (pss_cons (ps_set (i := 3) sc_ends_after.nd rfl (Or.inl rfl) (pe_lst pa_nil))
      (pss_cons (ps_set (i := 4) sc_ends_after.nd rfl (Or.inl rfl) pe_dnewN)
      (pss_cons (ps_for PassesOwn.never rfl (pi_rangeL (by rfl) T.range (pa_cons (pe_op op_sub (pv 1) (pv 2)) pa_nil)) (pg_name (i := 5) sc_ends_after.nd rfl (Or.inl rfl)) (pss_cons (ps_set (i := 8) sc_ends_after.nd rfl (Or.inl rfl) (pe_tup (pa_cons (pe_callTy call_tuple_of (by rfl) T.tuple (by decide +kernel) (pa_cons (pv 6) pa_nil)) (pa_cons (pe_op op_mod (pv 5) (pe_callB call_len_seq (by rfl) T.len PySem.boot_len (pa_cons (pe_prop (pv 0) S.cl c_Strip_cycle.pr G_Strip_cycle hr_Strip_cycle c_Strip_cycle.b .nil pass0 rfl) pa_nil))) pa_nil))))
      (pss_cons (ps_if (pt_cmp (pc_nin hr (pv 8) (pv 4))) (pss_cons (ps_set (i := 9) sc_ends_after.nd rfl (Or.inl rfl) (pe_nget hr (pv 4) (pv 8) (fun _ _ => rfl)))
      (pss_cons (ps_asg (pe_callB call_divmodW (by rfl) T.divmod (by decide +kernel) (pa_cons (pe_op op_sub (pe_op op_sub (pv 1) (pv 2)) (pv 9)) (pa_cons (pe_op op_sub (pv 5) (pv 9)) pa_nil))) (pg_tup rfl (pgs_cons (pg_name (i := 10) sc_ends_after.nd rfl (Or.inl rfl)) (pgs_cons (pg_name (i := 11) sc_ends_after.nd rfl (Or.inl rfl)) pgs_nil))))
      (pss_cons (ps_asg (pe_ix ix_list (pv 3) (pe_op op_add (pv 9) (pv 11)) (fun _ _ => rfl)) (pg_tup rfl (pgs_cons (pg_name (i := 12) sc_ends_after.nd rfl (Or.inl rfl)) (pgs_cons (pg_name (i := 13) sc_ends_after.nd rfl (Or.inl rfl)) pgs_nil))))
      (pss_one (ps_ret (pe_tup (pa_cons (pv 12) (pa_cons (pe_op op_add (pv 13) (pe_op op_mulW (pv 10) (pe_op op_sub (pv 7) (pe_ix ix_tup (pe_ix ix_list (pv 3) (pv 9) (fun _ _ => rfl)) pe_int (fun _ _ => rfl))))) pa_nil)))))))) pss_nil)
      (pss_cons (ps_nput hr (pv 4) (pv 8) (pv 5))
      (pss_cons (ps_expr (pe_bm PySem.F.plainAttrs_list PySem.F.slot_list_append PySem.F.type_list_append mt_append (pv 3) (pa_cons (pe_tup (pa_cons (pv 6) (pa_cons (pv 7) pa_nil))) pa_nil)))
      (pss_one (ps_asg (pe_call G_past_rows hr_past_rows rfl c_past_rows.mg c_past_rows.kp c_past_rows.b .nil pass0 (pa_cons (pv 6) (pa_cons (pv 7) (pa_cons (pe_lst (pa_cons (pe_call G_head_row hr_head_row rfl c_head_row.mg c_head_row.kp c_head_row.b .nil pass0 (pa_cons (pv 0) (pa_cons (pe_op op_add (pv 2) (pv 5)) pa_nil))) pa_nil)) pa_nil)))) (pg_tup rfl (pgs_cons (pg_name (i := 6) sc_ends_after.nd rfl (Or.inl rfl)) (pgs_cons (pg_name (i := 7) sc_ends_after.nd rfl (Or.inl rfl)) pgs_nil))))))))))
      (pss_one (ps_ret (pe_tup (pa_cons (pv 6) (pa_cons (pv 7) pa_nil)))))))))), ?_⟩
    obtain ⟨dx, a, b, c, hp, _⟩ := id hB
    have w4 := O.w4
    have a8 := O.a8
    -- skipped
    refine ⟨_, rfl, p, dx, _, rfl, hp, p, B, rfl, hB, fun qa H1 hqa s1 hA => ?_⟩
    obtain ⟨va, la, ra⟩ := hA
    refine ⟨qa, _, rfl, .inl la, ?_⟩
    rw [pd_len ra]
    -- ends, closed
    refine ⟨_, rfl, p, dx, _, rfl, s1 _ _ hp, p, B, rfl, hB.same s1, B.w, rfl, by omega, fun r0 H4 hr0 s4 hr0' => ?_⟩
    have s04 := s1.trans s4
    refine ⟨_, rfl, p, dx, _, rfl, s04 _ _ hp, p, B, rfl, hB.same s04, fun qb H2 hqb s2 hA2 => ?_⟩
    obtain ⟨vb, lb, rb⟩ := hA2
    refine ⟨_, rfl, _, rfl, qb, _, rfl, lb, fun sl hsl => ?_⟩
    have s05 := s04.trans s2
    have s06 := Same.new (o := .lst (cutV vb none (some (n : Int)))) s05 hsl
    dsimp only
    rw [cut_to] at s06 ⊢
    obtain ⟨b0, hb0⟩ : ∃ b0, min n B.ah.length = b0 := ⟨_, rfl⟩
    have eup : B.ah.take n = B.upto b0 := by
      rw [← hb0, upto_ahead (Nat.min_le_right _ _)]
      by_cases q : n ≤ B.ah.length
      · rw [Nat.min_eq_left q]
      · rw [Nat.min_eq_right (by omega), List.take_of_length_le (by omega), List.take_length]
    have hrows : RowsAt K (upd H2 sl (.lst (vb.take n))) sl (B.upto b0) := ⟨_, SqL.of upd_same, by rw [← eup]; exact pd_take n (pd_same (Same.new (Same.refl H2) hsl) rb)⟩
    refine ⟨r0, sl, Band.rim B.w, 0, B.w, B.upto b0, rfl, SqL.of (Same.new (s2) hsl _ _ hr0'), hrows, (rim_pairs B.w).Lt, rim_len _, by omega, O.upto _, fun t qe H5 ht s5 ht5 hqe hf5 => ?_⟩
    have s07 := s06.trans s5
    rw [Int.zero_add] at ht5
    refine ⟨t, _, rfl, SqT.of ht5, rfl, _, _, rfl, _, _, rfl, rfl, ?_⟩
    -- known, seen
    refine ⟨Nat.zero_le _, fun known hknown => ?_⟩
    have hn0 : H known = none := s07.free hknown
    have s08 := Same.new (o := .lst []) s07 hknown
    intro seen hseen
    have hs0 : H seen = none := s08.free hseen
    have hns : known ≠ seen := ne_of_none upd_same hseen
    have s09 := Same.new (o := NDo P w seen []) s08 hseen
    have hne5 : qe ≠ known := fun z => by
      rcases hf5 with h | h
      · have := s5 _ _ (Same.new (o := .lst (vb.take n)) s2 hsl _ _ hr0')
        rw [← h, z, hknown] at this
        cases this
      · rw [z] at h; exact h.2 hknown
    have L0 : KLoop P w K B b0 known seen H 0 0 0 (fun _ => 0) qe (upd (upd H5 known (.lst [])) seen (NDo P w seen [])) :=
      ⟨s09, by rw [upd_ne hns, upd_same]; rfl, NAt.nil, fun i hi => by omega, fun i j h1 h2 => by omega, hne5, (Same.new (Same.new (Same.refl H5) hknown) hseen).seq hqe⟩
    refine ⟨_, rfl, _, rfl, _, _, rfl, rfl, _, rfl, for_range (fun i σ H' => ∃ (qe : Addr) (ts : Nat → Addr) (v5 v8 v9 v10 v11 v12 v13 : Option V),
        σ = [some (.ref p), some (.int (n : Int)), some (.int (B.ah.length : Int)), some (.ref known), some (.ref seen), v5, some (.ref qe), some (.int ((B.S (b0 + i)).2 : Nat)), v8, v9, v10, v11, v12, v13] ∧ KLoop P w K B b0 known seen H i i i ts qe H')
      ⟨qe, _, none, none, none, none, none, none, none, rfl, L0⟩ ?_ ?_⟩
    · rintro i σ H' hi ⟨qe, ts, v5, v8, v9, v10, v11, v12, v13, rfl, L⟩
      have hi : i + B.ah.length < n := by omega
      obtain rfl : B.ah.length = b0 := by omega
      have hK := L.ap.le O
      rw [Int.zero_add]
      -- key
      refine ⟨_, rfl, qe, _, rfl, .inl ⟨L.q, fun tb htb => ?_⟩⟩
      have s9 := Same.new (o := .tup (nl (B.S (B.ah.length + i)).1)) (Same.refl H') htb
      have L9 := L.step s9
      refine ⟨_, rfl, _, rfl, p, dx, _, rfl, L9.same _ _ hp, p, B, rfl, hB.same L9.same, fun qc H10 hqc s10 hCy => ?_⟩
      obtain ⟨vc, lc, rc⟩ := hCy
      have c0 := O.c0
      refine ⟨qc, _, rfl, .inl lc, _, _, rfl, rfl, by rw [pd_len rc]; omega, by show 2 ≤ sizeLine; decide, fun tk htk => ?_⟩
      have em : ((i : Int)) % ((vc.length : Nat) : Int) = ((i % B.cy.length : Nat) : Int) := by
        rw [pd_len rc, Int.natCast_emod]
      have sk := Same.new (o := .tup [.ref tb, .int (((i : Int)) % ((vc.length : Nat) : Int))]) s10 htk
      have LK := L9.step sk
      have hkey := key_made (B := B) (i := i) (sk _ _ upd_same) upd_same em
      -- key in seen
      refine ⟨_, rfl, _, rfl, seen, tk, _, _, rfl, rfl, LK.nat, hkey, ?_⟩
      cases e : valV (keys B (fun i : Nat => V.int (i : Int)) i) (keyOf B i) with
      | some v =>
        refine ⟨_, rfl, iteT ?_⟩
        obtain ⟨j, hj, hkj, rfl⟩ := keys_some e
        refine ⟨_, rfl, _, rfl, seen, tk, _, _, _, rfl, rfl, LK.nat, hkey, e, ?_⟩
        have ei : (n : Int) - (B.ah.length : Int) - (j : Int) = ((n - B.ah.length - j : Nat) : Int) := by omega
        have ek : (i : Int) - (j : Int) = ((i - j : Nat) : Int) := by omega
        have hrest : (n - B.ah.length - j) % (i - j) < i - j := Nat.mod_lt _ (by omega)
        have hdm := Nat.div_add_mod (n - B.ah.length - j) (i - j)
        refine ⟨_, rfl, _, rfl, _, _, rfl, rfl, _, rfl, _, _, rfl, rfl, _, rfl, _, rfl, _, _, rfl, rfl, _, _, rfl, ?_⟩
        dsimp only
        obtain ⟨R, hR⟩ : ∃ R, (n - B.ah.length - j) / (i - j) = R := ⟨_, rfl⟩
        obtain ⟨M, hM⟩ : ∃ M, (n - B.ah.length - j) % (i - j) = M := ⟨_, rfl⟩
        have ed : ((n - B.ah.length - j : Nat) : Int) / ((i - j : Nat) : Int) = (R : Int) := by rw [← hR, Int.natCast_ediv]
        have ee : ((n - B.ah.length - j : Nat) : Int) % ((i - j : Nat) : Int) = (M : Int) := by rw [← hM, Int.natCast_emod]
        rw [ei, ek, ed, ee]
        rw [hR, hM] at hdm
        rw [hM] at hrest
        refine ⟨?_, fun pd hpd => ?_⟩
        · refine divp_ok (by omega) ?_
          have b1 := PyProof.Rows.intBits_le (a := ((n - B.ah.length - j : Nat) : Int)) (k := 180) (by rw [Int.natAbs_natCast]; omega)
          omega
        have LD := LK.step (Same.new (o := .tup [.int (R : Int), .int (M : Int)]) (Same.refl _) hpd)
        refine ⟨pd, _, rfl, SqT.of upd_same, rfl, _, _, rfl, _, _, rfl, rfl, ?_⟩
        obtain ⟨q1, ht1, hq1, _⟩ := LD.tp (j + M) (by omega)
        obtain ⟨q2, ht2, hq2, _⟩ := LD.tp j hj
        have ejm : (j : Int) + (M : Int) = ((j + M : Nat) : Int) := by omega
        refine ⟨_, rfl, _, rfl, _, rfl, _, _, rfl, rfl, known, _, _, _, rfl, rfl, SqL.of LD.nl_, at_of ejm (ts_get (by omega)), ?_⟩
        refine ⟨ts (j + M), _, rfl, SqT.of ht1, rfl, _, _, rfl, _, _, rfl, rfl, ?_⟩
        refine ⟨_, rfl, _, rfl, _, rfl, _, rfl, _, rfl, _, rfl, known, _, _, _, rfl, rfl, SqL.of LD.nl_, at_of rfl (ts_get hj), ?_⟩
        refine ⟨ts j, _, _, _, rfl, rfl, SqT.of ht2, at_of (j := 1) rfl rfl, _, _, rfl, rfl, _, _, rfl, rfl, ?_⟩
        have hS1 := O.S_le (B.ah.length + i)
        have hS2 := O.S_le (B.ah.length + j)
        refine ⟨?_, ?_⟩
        · refine wide_mul (a := 180) (b := 20) ?_ ?_ (by decide) (by decide) (by decide)
          · rw [Int.natAbs_natCast]
            have := Nat.div_le_self (n - B.ah.length - j) (i - j)
            omega
          · exact Nat.lt_of_le_of_lt (show _ ≤ 10000 by omega) (by decide)
        have hn2 : B.ah.length + (j + (R * (i - j) + M)) = n := by
          rw [Nat.mul_comm] at hdm
          omega
        obtain ⟨hE, hph⟩ := keyOf_eq hkj
        have eji : j + (i - j) = i := by omega
        obtain ⟨g1, g2⟩ := S_again B (b := j) (p := i - j) (by rw [eji]; exact hE.symm) (by rw [eji]; exact hph.symm) R M
        rw [hn2, eji] at g2
        rw [hn2] at g1
        refine ⟨_, _, rfl, rfl, by show 2 ≤ sizeLine; decide, fun t1 ht1n => ?_⟩
        have sF := Same.new (o := .tup [.ref q1, .int (((B.S (B.ah.length + (j + M))).2 : Nat) + (R : Int) * (((B.S (B.ah.length + i)).2 : Nat) - ((B.S (B.ah.length + j)).2 : Nat)))]) (Same.refl _) ht1n
        refine k t1 q1 _ (LD.same.trans sF) ?_ (by rw [g1]; exact sF.seq hq1)
        rw [upd_same, g2]
      | none =>
        refine ⟨_, rfl, iteF ?_⟩
        -- seen[key] = k
        refine ⟨_, rfl, _, rfl, _, rfl, seen, tk, _, _, rfl, rfl, LK.nat, hkey, e, small1000 (by rw [keys_len]; omega), fun H4 hoth hN4 => ?_⟩
        have LV := LK.put hs0 hoth hN4 e
        -- known.append((ends, closed))
        refine ⟨_, rfl, .inl ⟨rfl, _, SqL.of LV.nl_⟩, _, rfl, _, rfl, by show 2 ≤ sizeLine; decide, fun tt htt => ?_⟩
        have LT := LV.step (Same.new (o := .tup [.ref qe, .int ((B.S (B.ah.length + i)).2 : Nat)]) (Same.refl _) htt)
        refine ⟨known, _, _, rfl, rfl, LT.nl_, small1000 (by rw [List.length_map, List.length_range]; omega), ?_⟩
        have LA := LT.app hn0 upd_same
        -- past the next row
        refine ⟨_, rfl, _, rfl, _, rfl, _, rfl, _, rfl, _, _, rfl, rfl, p, B, B.ah.length + i, by rw [Int.natCast_add]; rfl, hB.same LA.same, O.c0, fun tr Hc sc htr => ?_⟩
        refine ⟨by show 1 ≤ sizeLine; decide, fun pl hpl => ?_⟩
        have LC := LA.step (Same.new (o := .lst [.ref tr]) sc hpl)
        refine ⟨qe, pl, (B.S (B.ah.length + i)).1, ((B.S (B.ah.length + i)).2 : Nat), B.w, [B.row (B.ah.length + i)], rfl, LC.q, ⟨[.ref tr], SqL.of upd_same, .cons ⟨tr, rfl, (Same.new (Same.refl Hc) hpl).seqT htr⟩ .nil⟩,
          (O.pairs _).Lt, S_len B _, by omega, fun r hr => by rw [List.mem_singleton.mp hr]; exact O.row _, fun t4 q4 Hd ht4 sd ht5 hq4 hf4 => ?_⟩
        refine ⟨t4, _, rfl, SqT.of ht5, rfl, _, _, rfl, _, _, rfl, rfl, ?_⟩
        have eS : B.S (B.ah.length + (i + 1)) = ((pRows (B.S (B.ah.length + i)).1 [B.row (B.ah.length + i)]).1, (B.S (B.ah.length + i)).2 + (pRows (B.S (B.ah.length + i)).1 [B.row (B.ah.length + i)]).2) := by
          rw [show B.ah.length + (i + 1) = B.ah.length + i + 1 from rfl, S_succ]; rfl
        exact ⟨q4, _, _, _, v9, v10, v11, v12, v13, by rw [eS]; rfl, LC.nxt (k4 := i + 1) sd hf4 (by rw [eS]; exact hq4)⟩
    · rintro σ H' ⟨qe, ts, v5, v8, v9, v10, v11, v12, v13, rfl, L⟩
      have en : b0 + ((n : Int) - (B.ah.length : Int)).toNat = n := by omega
      have hq := L.q
      rw [en] at hq ⊢
      refine ⟨_, rfl, _, rfl, by show 2 ≤ sizeLine; decide, fun t1 ht1n => ?_⟩
      have sF := Same.new (o := .tup [.ref qe, .int ((B.S n).2 : Nat)]) (Same.refl _) ht1n
      exact k t1 qe _ (L.same.trans sF) upd_same (sF.seq hq)
end
def spCutEnds (K : PySem.W.Frag) (C : Addr) : Sp := fun vs H Q _ => ∃ (p : Addr) (B : Band) (n : Nat), vs = [.ref p, .int (n : Int)] ∧ StripAt K C H p B ∧ B.Ok ∧ B.least ≤ n ∧ n < 2 ^ 180 ∧ ∀ t q H', Same H H' → H' t = some (.tup [.ref q, .int ((B.cutv n).2 : Nat)]) → H' q = some (.lst (nl (B.cutv n).1)) → Q (.ref t) H'
section
variable {P : Program} {w : World} {K : PySem.W.Frag} {mg : Str → Option Value} {base : Heap} {C : Addr} {pL gL fHL fEA fLR fPR fPL : Addr} {dL dHL dEA dLR dPR dPL : FuncData}
theorem ok_cut_ends {f : Addr} {fd : FuncData} (F : Fun K "cut_ends" "cut_ends" s_cut_ends f fd) (T : Glob mg) (S : StripT K C)
    (c_Strip_least : PCal K C "least" pL gL dL) (G_Strip_least : FnOk P w K mg base CX0 1 gL dL ["self"] (spLeast K C))
    (c_head_length : Cal K mg "head_length" fHL dHL ["strip", "n"]) (G_head_length : FnOk P w K mg base CX0 3 fHL dHL ["strip", "n"] (spHeadLen K C))
    (c_ends_after : Cal K mg "ends_after" fEA dEA ["strip", "length"]) (G_ends_after : FnOk P w K mg base CX0 4 fEA dEA ["strip", "length"] (spEndsAfter K C))
    (c_last_rows : Cal K mg "last_rows" fLR dLR ["strip", "n"]) (G_last_rows : FnOk P w K mg base CX0 4 fLR dLR ["strip", "n"] (spLastRows K C))
    (c_past_rows : Cal K mg "past_rows" fPR dPR ["ends", "closed", "rows"]) (G_past_rows : FnOk P w K mg base CX0 3 fPR dPR ["ends", "closed", "rows"] (spRows K))
    (c_past_level : Cal K mg "past_level" fPL dPL ["ends", "left", "text"]) (G_past_level : FnOk P w K mg base CX0 2 fPL dPL ["ends", "left", "text"] (spLevel K)) :
    FnOk P w K mg base CX0 5 f fd ["strip", "n"] (spCutEnds K C) := by
  refine F.ok sc_cut_ends (fun vs H Q E h => ?_) (fun cdv A outer s H vs Q E hr h => ?_)
  · obtain ⟨p, B, n, rfl, _⟩ := h
    rfl
  · obtain ⟨p, B, n, rfl, hB, O, hn, hb, k⟩ := h
    have hr_Strip_least : Room 2 _ := hr.mono (by decide)
    have hr_head_length : Room 3 _ := hr.mono (by decide)
    have hr_ends_after : Room 4 _ := hr
    have hr_last_rows : Room 4 _ := hr
    have hr_past_rows : Room 3 _ := hr.mono (by decide)
    have hr_past_level : Room 2 _ := hr.mono (by decide)
    have hu := hu_of hr
    refine ⟨_, (pss_cons (ps_if (pt_cmpR op_lt (pv 1) (pe_prop (pv 0) S.cl c_Strip_least.pr G_Strip_least hr_Strip_least c_Strip_least.b .nil pass0 rfl) (nomark _)) (pss_one ps_never) pss_nil)
      (pss_cons (ps_asg (pe_call G_ends_after hr_ends_after rfl c_ends_after.mg c_ends_after.kp c_ends_after.b .nil pass0 (pa_cons (pv 0) (pa_cons (pe_call G_head_length hr_head_length rfl c_head_length.mg c_head_length.kp c_head_length.b .nil pass0 (pa_cons (pv 0) (pa_cons (pv 1) pa_nil))) pa_nil))) (pg_tup rfl (pgs_cons (pg_name (i := 3) sc_cut_ends.nd rfl (Or.inl rfl)) (pgs_cons (pg_name (i := 4) sc_cut_ends.nd rfl (Or.inl rfl)) pgs_nil))))
      (pss_cons (ps_set (i := 2) sc_cut_ends.nd rfl (Or.inl rfl) (pe_call G_last_rows hr_last_rows rfl c_last_rows.mg c_last_rows.kp c_last_rows.b .nil pass0 (pa_cons (pv 0) (pa_cons (pv 1) pa_nil))))
      (pss_cons (ps_asg (pe_call G_past_rows hr_past_rows rfl c_past_rows.mg c_past_rows.kp c_past_rows.b .nil pass0 (pa_cons (pv 3) (pa_cons (pv 4) (pa_cons (pe_slice sl_list (pv 2) po_none (po_some (pe_un un_neg pe_int))) pa_nil)))) (pg_tup rfl (pgs_cons (pg_name (i := 3) sc_cut_ends.nd rfl (Or.inl rfl)) (pgs_cons (pg_name (i := 4) sc_cut_ends.nd rfl (Or.inl rfl)) pgs_nil))))
      (pss_cons (ps_asg (pe_call G_past_level hr_past_level rfl c_past_level.mg c_past_level.kp c_past_level.b .nil pass0 (pa_cons (pv 3) (pa_cons pe_int (pa_cons (pe_ix ix_tup (pe_ix ix_list (pv 2) (pe_un un_neg pe_int) (fun _ _ => rfl)) pe_int (fun _ _ => rfl)) pa_nil)))) (pg_tup rfl (pgs_cons (pg_name (i := 3) sc_cut_ends.nd rfl (Or.inl rfl)) (pgs_cons (pg_name (i := 5) sc_cut_ends.nd rfl (Or.inl rfl)) pgs_nil))))
      (pss_one (ps_ret (pe_tup (pa_cons (pe_callTy call_list_of (by rfl) T.list (by decide +kernel) (pa_cons (pv 3) pa_nil)) (pa_cons (pe_op op_add (pv 4) (pv 5)) pa_nil)))))))))), ?_⟩
    obtain ⟨dx, a, b, c, hp, _⟩ := id hB
    have w4 := O.w4
    refine ⟨_, rfl, _, rfl, p, dx, _, rfl, hp, p, B, rfl, hB, _, _, rfl, rfl, _, rfl, ifD (fun g => False.elim (by omega)) (fun _ => ?_)⟩
    -- ends_after(strip, head_length(strip, n))
    have hhl : B.headLen n ≤ n := by unfold Band.headLen; split <;> omega
    refine ⟨_, rfl, _, rfl, _, rfl, p, B, n, rfl, hB, hn, fun H1 s1 => ?_⟩
    refine ⟨p, B, B.headLen n, rfl, hB.same s1, O, by omega, fun t qe H2 s2 ht hqe => ?_⟩
    refine ⟨t, _, rfl, SqT.of ht, rfl, _, _, rfl, _, _, rfl, rfl, ?_⟩
    have s02 := s1.trans s2
    -- last_rows
    refine ⟨_, rfl, _, rfl, p, B, n, rfl, hB.same s02, O.c0, by unfold Band.least at hn; omega, fun ql H3 s3 hql => ?_⟩
    obtain ⟨vl, ll, rl⟩ := id hql
    have s03 := s02.trans s3
    have hne := last_ne B n
    have hok := O.lasts n
    -- rows[:-1]
    refine ⟨_, rfl, _, rfl, _, rfl, _, rfl, _, rfl, ql, _, rfl, ll, fun sl hsl => ?_⟩
    have s4 := Same.new (o := .lst (cutV vl none (some (-1)))) (Same.refl H3) hsl
    have hrows : RowsAt K (upd H3 sl (.lst (cutV vl none (some (-1))))) sl (B.lastRows n).dropLast := ⟨_, SqL.of upd_same, by have z := pd_dropLast (pd_same s4 rl); rw [← cut_last] at z; exact z⟩
    have hokd : ∀ r, r ∈ (B.lastRows n).dropLast → RowOk B.w r := fun r h => hok r ((List.dropLast_sublist _).subset h)
    have hl0 := S_len B (B.headLen n)
    have hlt := (O.pairs (B.headLen n)).Lt
    refine ⟨qe, sl, (B.S (B.headLen n)).1, ((B.S (B.headLen n)).2 : Nat), B.w, (B.lastRows n).dropLast, rfl, (s3.trans s4).seq hqe, hrows, hlt, hl0, by omega, hokd, fun t5 q5 H5 ht5 s5 ht6 hq5 _ => ?_⟩
    refine ⟨t5, _, rfl, SqT.of ht6, rfl, _, _, rfl, _, _, rfl, rfl, ?_⟩
    have hlast := hok _ (lastRow_mem hne)
    have l1 := hlast.l1
    have hlt1 := pRows_lt _ _ hlt hl0 hokd
    have hl1 : (pRows (B.S (B.headLen n)).1 (B.lastRows n).dropLast).1.length = 2 * B.w := by rw [pRows_len]; exact hl0
    -- the points within the last row
    obtain ⟨tr, hat, htr⟩ := last_row (pd_same (s4.trans s5) rl) hne
    refine ⟨_, rfl, _, rfl, _, rfl, ql, _, _, _, rfl, rfl, (s4.trans s5).seq ll, hat, tr, _, _, _, rfl, rfl, htr, at_of (j := 0) rfl rfl, ?_⟩
    refine ⟨q5, _, 1, _, rfl, hq5, by rw [hl1]; omega, hlt1, by rw [hl1]; omega, fun t7 q7 H7 ht7 s7 ht8 hq7 _ => ?_⟩
    refine ⟨t7, _, rfl, SqT.of ht8, rfl, _, _, rfl, _, _, rfl, rfl, ?_⟩
    -- return
    refine ⟨_, rfl, q7, _, rfl, .inl hq7, fun q8 hq8 => ?_⟩
    refine ⟨_, rfl, _, rfl, _, _, rfl, rfl, by show 2 ≤ sizeLine; decide, fun t9 ht9 => ?_⟩
    have ecut := cutv_head hn
    refine k t9 q8 _ (((((s03.trans s4).trans s5).trans s7).trans (Same.new (Same.refl _) hq8)).trans (Same.new (Same.refl _) ht9)) ?_ ?_
    · rw [upd_same, ecut]
      unfold cut
      refine congrArg (fun z => some (HO.tup [V.ref q8, V.int z])) ?_
      dsimp only
      omega
    · rw [upd_ne (ne_of_none upd_same ht9), upd_same, ecut]
      unfold cut
      rfl
end
end Sand
/-! ## PPaper -/
set_option Elab.async false
set_option linter.all false
set_option maxRecDepth 100000
set_option maxHeartbeats 8000000
namespace Sand
open PySem L2
/-! ### the keys that are tuples of ints -/
def kn (e : List Nat) : List Key := e.map fun n : Nat => Sum.inl (n : Int)
theorem kn_inj {a b : List Nat} (h : kn a = kn b) : a = b := by
  have h1 := congrArg (fun l : List Key => l.map fun k => match k with | .inl z => z.toNat | .inr _ => 0) h
  unfold kn at h1
  rw [List.map_map, List.map_map] at h1
  have e : ((fun k : Key => match k with | .inl z => z.toNat | .inr _ => 0) ∘ fun n : Nat => (Sum.inl (n : Int) : Key)) = id := by funext n; exact Int.toNat_natCast n
  rw [e, List.map_id, List.map_id] at h1
  exact h1
theorem kn_nl (e : List Nat) : (kn e).map kV = nl e := by
  unfold kn nl
  rw [List.map_map]; rfl
def hkeys (B : Band) (m : Nat) : List (List Key × V) := (List.range m).map fun i => (kn (B.H i).1, V.int (i : Int))
theorem hkeys_len (B : Band) (m : Nat) : (hkeys B m).length = m := by unfold hkeys; simp
theorem hkeys_succ (B : Band) (m : Nat) : hkeys B (m + 1) = hkeys B m ++ [(kn (B.H m).1, V.int (m : Int))] := by
  unfold hkeys; rw [List.range_succ, List.map_append]; rfl
theorem hkeys_some {B : Band} {m : Nat} {k : List Key} {v : V} (h : valV (hkeys B m) k = some v) : ∃ j : Nat, j < m ∧ kn (B.H j).1 = k ∧ v = .int (j : Int) := by
  unfold valV at h
  obtain ⟨kv, h1, h2⟩ := Option.map_eq_some_iff.mp h
  have hm := List.mem_of_find?_eq_some h1
  have hp := List.find?_some h1
  obtain ⟨j, hj, e⟩ := List.mem_map.mp hm
  subst e
  exact ⟨j, List.mem_range.mp hj, of_decide_eq_true hp, h2.symm⟩
theorem hkeys_none {B : Band} {m : Nat} {k : List Key} (h : valV (hkeys B m) k = none) : ∀ j, j < m → kn (B.H j).1 ≠ k := by
  intro j hj e
  unfold valV at h
  have h1 : (hkeys B m).find? (fun kv => decide (kv.1 = k)) = none := by simpa using h
  have := List.find?_eq_none.mp h1 (kn (B.H j).1, .int (j : Int)) (List.mem_map.mpr ⟨j, List.mem_range.mpr hj, rfl⟩)
  exact this (decide_eq_true e)
/-- no ends came twice -/
def HApart (B : Band) (m : Nat) : Prop := ∀ i j, i < j → j < m → (B.H i).1 ≠ (B.H j).1
theorem HApart.succ {B : Band} {m : Nat} (h : HApart B m) (hn : ∀ j, j < m → (B.H j).1 ≠ (B.H m).1) : HApart B (m + 1) := fun i j hij hj => by
  by_cases q : j = m
  · subst q; exact hn i hij
  · exact h i j hij (by omega)
theorem HApart.le {B : Band} (O : B.Ok) {m : Nat} (h : HApart B m) : m ≤ 105 := by
  have a := Sand.pigeon (A := Sand.ways B.w) (c := 1) (E := fun i => (B.H i).1) (K := m) (fun k _ => O.ways _) (by decide) fun i j hij hj e => h i j hij hj e.1
  have b := ways_len B.w
  omega
theorem ts_get' {ts : Nat → Addr} {k i : Nat} (h : i < k) : ((List.range k).map fun i => V.ref (ts i))[i]? = some (.ref (ts i)) := by
  rw [List.getElem?_map, List.getElem?_range h]; rfl
/-- the state of course_paper: k1 keys seen, k2 heads, the ends behind k3 turns -/
structure PLoop (K : PySem.W.Frag) (B : Band) (hd seen : Addr) (H : Hp) (k1 k2 k3 : Nat) (ts : Nat → Addr) (qe : Addr) (H' : Hp) : Prop where
  same : Same H H'
  nl_ : H' hd = some (.lst ((List.range k2).map fun i => V.ref (ts i)))
  dt : H' seen = some (.dT (hkeys B k1))
  tp : ∀ i, i < k2 → ∃ q, H' (ts i) = some (.tup [.ref q, .int ((B.H i).2 : Nat)]) ∧ H' q = some (.lst (nl (B.H i).1)) ∧ q ≠ hd
  ap : HApart B k1
  ne : qe ≠ hd
  q : SqL K H' qe (nl (B.H k3).1)
section
variable {K : PySem.W.Frag} {B : Band} {hd seen : Addr} {H : Hp} {k1 k2 k3 : Nat} {ts : Nat → Addr} {qe : Addr} {H1 H2 : Hp}
theorem PLoop.step (L : PLoop K B hd seen H k1 k2 k3 ts qe H1) (s : Same H1 H2) : PLoop K B hd seen H k1 k2 k3 ts qe H2 :=
  ⟨L.same.trans s, s _ _ L.nl_, s _ _ L.dt, fun i hi => let ⟨q, h1, h2, h3⟩ := L.tp i hi; ⟨q, s _ _ h1, s _ _ h2, h3⟩, L.ap, L.ne, s.seq L.q⟩
theorem PLoop.put (L : PLoop K B hd seen H k1 k2 k1 ts qe H1) (hs : H seen = none) (e : valV (hkeys B k1) (kn (B.H k1).1) = none) :
    PLoop K B hd seen H (k1 + 1) k2 k1 ts qe (upd H1 seen (.dT (putK (hkeys B k1) (kn (B.H k1).1) (.int (k1 : Int))))) := by
  have keep : ∀ b o, b ≠ seen → H1 b = some o → upd H1 seen (.dT (putK (hkeys B k1) (kn (B.H k1).1) (.int (k1 : Int)))) b = some o := fun b o hb hbo => by rw [upd_ne hb]; exact hbo
  refine ⟨fun b o hb => keep b o (ne_of_none hb hs) (L.same _ _ hb), keep _ _ (ne_of L.nl_ L.dt (fun q => nomatch q)) L.nl_, ?_, fun i hi => ?_, L.ap.succ (fun j hj z => hkeys_none e j hj (by rw [z])), L.ne, ?_⟩
  · rw [upd_same, putK_new _ e, hkeys_succ]
  · obtain ⟨q, h1, h2, h3⟩ := L.tp i hi
    exact ⟨q, keep _ _ (ne_of h1 L.dt (fun q => nomatch q)) h1, keep _ _ (ne_of h2 L.dt (fun q => nomatch q)) h2, h3⟩
  · rcases L.q with (hq | ⟨o, hq⟩) | hq
    · exact .inl (.inl (keep _ _ (ne_of hq L.dt (fun q => nomatch q)) hq))
    · exact .inl (.inr ⟨o, keep _ _ (ne_of hq L.dt (fun q => nomatch q)) hq⟩)
    · exact .inr hq
theorem PLoop.app (L : PLoop K B hd seen H k1 k2 k3 ts qe H1) (hk : H hd = none) {t q : Addr} (ht : H1 t = some (.tup [.ref q, .int ((B.H k2).2 : Nat)])) (hq : H1 q = some (.lst (nl (B.H k2).1))) (hn : q ≠ hd) :
    PLoop K B hd seen H k1 (k2 + 1) k3 (fun i => if i = k2 then t else ts i) qe (upd H1 hd (.lst (((List.range k2).map fun i => V.ref (ts i)) ++ [.ref t]))) := by
  have gne : ∀ b o, b ≠ hd → H1 b = some o → upd H1 hd (.lst (((List.range k2).map fun i => V.ref (ts i)) ++ [.ref t])) b = some o := fun b o hb e => by rw [upd_ne hb]; exact e
  refine ⟨fun b o e => gne b o (ne_of_none e hk) (L.same b o e), ?_, gne _ _ (ne_of L.dt L.nl_ (fun q => nomatch q)) L.dt, fun i hi => ?_, L.ap, L.ne, seqL_lst L.nl_ L.q L.ne⟩
  · rw [upd_same, List.range_succ, List.map_append]
    congr 3
    · exact List.map_congr_left fun i hi => by rw [if_neg (by have := List.mem_range.mp hi; omega)]
    · show [V.ref t] = [V.ref (if k2 = k2 then t else ts k2)]
      rw [if_pos rfl]
  · by_cases z : i = k2
    · subst z
      exact ⟨q, by rw [if_pos rfl]; exact gne _ _ (ne_of ht L.nl_ (fun q => nomatch q)) ht, gne _ _ hn hq, hn⟩
    · obtain ⟨q, h1, h2, h3⟩ := L.tp i (by omega)
      exact ⟨q, by rw [if_neg z]; exact gne _ _ (ne_of h1 L.nl_ (fun q => nomatch q)) h1, gne _ _ h3 h2, h3⟩
theorem PLoop.nxt (L : PLoop K B hd seen H k1 k2 k3 ts qe H1) {q4 : Addr} (s : Same H1 H2) (hf : From H1 H2 qe q4) {k4 : Nat} (hq : SqL K H2 q4 (nl (B.H k4).1)) : PLoop K B hd seen H k1 k2 k4 ts q4 H2 := by
  have L2 := L.step s
  refine ⟨L2.same, L2.nl_, L2.dt, L2.tp, L2.ap, fun z => ?_, hq⟩
  rcases hf with h | h
  · exact L2.ne (h.symm.trans z)
  · rw [z, L.nl_] at h; exact nomatch h.1
end
abbrev s_course_paper : Stmt := top 30
theorem sc_course_paper : FnScope ["strip", "heads", "seen", "ends", "closed"] ["strip"] (defScope s_course_paper) := ⟨rfl, rfl, rfl, by decide +kernel, rfl, by decide +kernel, by decide +kernel⟩
/-- the paper: the heads behind 0, 1, .. n turns, and at which one the last is again -/
structure PaperAt (B : Band) (H : Hp) (p : Addr) (hd : Addr) (ts : Nat → Addr) (n back : Nat) : Prop where
  tp : H p = some (.tup [.ref hd, .int (back : Int)])
  hd : H hd = some (.lst ((List.range (n + 1)).map fun i => V.ref (ts i)))
  at_ : ∀ i, i ≤ n → ∃ q, H (ts i) = some (.tup [.ref q, .int ((B.H i).2 : Nat)]) ∧ H q = some (.lst (nl (B.H i).1))
  lt : back < n
  le : n ≤ 105
  again : (B.H n).1 = (B.H back).1
theorem PaperAt.same {B : Band} {H H' : Hp} {p hd : Addr} {ts : Nat → Addr} {n back : Nat} (s : Same H H') (h : PaperAt B H p hd ts n back) : PaperAt B H' p hd ts n back :=
  ⟨s _ _ h.tp, s _ _ h.hd, fun i hi => let ⟨q, h1, h2⟩ := h.at_ i hi; ⟨q, s _ _ h1, s _ _ h2⟩, h.lt, h.le, h.again⟩
def spPaper (K : PySem.W.Frag) (C : Addr) : Sp := fun vs H Q _ => ∃ (p : Addr) (B : Band), vs = [.ref p] ∧ StripAt K C H p B ∧ B.Ok ∧ ∀ t hd ts n back H', Same H H' → PaperAt B H' t hd ts n back → Q (.ref t) H'
section
variable {P : Program} {w : World} {K : PySem.W.Frag} {mg : Str → Option Value} {base : Heap} {C : Addr} {pA gA pC gC pW gW fPR fRE : Addr} {dA dC dW dPR dRE : FuncData}
theorem ok_course_paper {f : Addr} {fd : FuncData} (F : Fun K "course_paper" "course_paper" s_course_paper f fd) (T : Glob mg) (S : StripT K C)
    (c_Strip_ahead : PCal K C "ahead" pA gA dA) (G_Strip_ahead : FnOk P w K mg base CX0 1 gA dA ["self"] (spAhead K C)) (c_Strip_cycle : PCal K C "cycle" pC gC dC) (G_Strip_cycle : FnOk P w K mg base CX0 1 gC dC ["self"] (spCycle K C))
    (c_Strip_width : PCal K C "width" pW gW dW) (G_Strip_width : FnOk P w K mg base CX0 1 gW dW ["self"] (spWidth K C))
    (c_past_rows : Cal K mg "past_rows" fPR dPR ["ends", "closed", "rows"]) (G_past_rows : FnOk P w K mg base CX0 3 fPR dPR ["ends", "closed", "rows"] (spRows K))
    (c_rim_ends : Cal K mg "rim_ends" fRE dRE ["width"]) (G_rim_ends : FnOk P w K mg base CX0 1 fRE dRE ["width"] (spRim K)) :
    FnOk P w K mg base CX0 4 f fd ["strip"] (spPaper K C) := by
  refine F.ok sc_course_paper (fun vs H Q E h => ?_) (fun cdv A outer s H vs Q E hr h => ?_)
  · obtain ⟨p, B, rfl, _⟩ := h
    rfl
  · obtain ⟨p, B, rfl, hB, O, k⟩ := h
    have hr_Strip_ahead : Room 2 _ := hr.mono (by decide)
    have hr_Strip_cycle : Room 2 _ := hr.mono (by decide)
    have hr_Strip_width : Room 2 _ := hr.mono (by decide)
    have hr_past_rows : Room 3 _ := hr.mono (by decide)
    have hr_rim_ends : Room 1 _ := hr.mono (by decide)
    have hu := hu_of hr
    refine ⟨_, (pss_cons (ps_asg (pe_call G_past_rows hr_past_rows rfl c_past_rows.mg c_past_rows.kp c_past_rows.b .nil pass0 (pa_cons (pe_call G_rim_ends hr_rim_ends rfl c_rim_ends.mg c_rim_ends.kp c_rim_ends.b .nil pass0 (pa_cons (pe_prop (pv 0) S.cl c_Strip_width.pr G_Strip_width hr_Strip_width c_Strip_width.b .nil pass0 rfl) pa_nil)) (pa_cons pe_int (pa_cons (pe_prop (pv 0) S.cl c_Strip_ahead.pr G_Strip_ahead hr_Strip_ahead c_Strip_ahead.b .nil pass0 rfl) pa_nil)))) (pg_tup rfl (pgs_cons (pg_name (i := 3) sc_course_paper.nd rfl (Or.inl rfl)) (pgs_cons (pg_name (i := 4) sc_course_paper.nd rfl (Or.inl rfl)) pgs_nil))))
      (pss_cons (ps_set (i := 1) sc_course_paper.nd rfl (Or.inl rfl) (pe_lst pa_nil))
      (pss_cons (ps_set (i := 2) sc_course_paper.nd rfl (Or.inl rfl) pe_dnewT)
      (pss_cons (ps_while PassesOwn.never (pt_cmp (pc_dnotin hu (pe_callTy call_tuple_of (by rfl) T.tuple (by decide +kernel) (pa_cons (pv 3) pa_nil)) (pv 2))) (pss_cons (ps_dput hu (pv 2) (pe_callTy call_tuple_of (by rfl) T.tuple (by decide +kernel) (pa_cons (pv 3) pa_nil)) (pe_callB call_len_seq (by rfl) T.len PySem.boot_len (pa_cons (pv 1) pa_nil)) rfl)
      (pss_cons (ps_expr (pe_bm PySem.F.plainAttrs_list PySem.F.slot_list_append PySem.F.type_list_append mt_append (pv 1) (pa_cons (pe_tup (pa_cons (pe_callTy call_list_of (by rfl) T.list (by decide +kernel) (pa_cons (pv 3) pa_nil)) (pa_cons (pv 4) pa_nil))) pa_nil)))
      (pss_one (ps_asg (pe_call G_past_rows hr_past_rows rfl c_past_rows.mg c_past_rows.kp c_past_rows.b .nil pass0 (pa_cons (pv 3) (pa_cons (pv 4) (pa_cons (pe_prop (pv 0) S.cl c_Strip_cycle.pr G_Strip_cycle hr_Strip_cycle c_Strip_cycle.b .nil pass0 rfl) pa_nil)))) (pg_tup rfl (pgs_cons (pg_name (i := 3) sc_course_paper.nd rfl (Or.inl rfl)) (pgs_cons (pg_name (i := 4) sc_course_paper.nd rfl (Or.inl rfl)) pgs_nil))))))))
      (pss_cons (ps_expr (pe_bm PySem.F.plainAttrs_list PySem.F.slot_list_append PySem.F.type_list_append mt_append (pv 1) (pa_cons (pe_tup (pa_cons (pe_callTy call_list_of (by rfl) T.list (by decide +kernel) (pa_cons (pv 3) pa_nil)) (pa_cons (pv 4) pa_nil))) pa_nil)))
      (pss_one (ps_ret (pe_tup (pa_cons (pv 1) (pa_cons (pe_dget hu (pv 2) (pe_callTy call_tuple_of (by rfl) T.tuple (by decide +kernel) (pa_cons (pv 3) pa_nil)) (fun _ _ => rfl)) pa_nil)))))))))), ?_⟩
    obtain ⟨dx, a, b, c, hp, _⟩ := id hB
    have w4 := O.w4
    -- ends, closed
    refine ⟨_, rfl, p, dx, _, rfl, hp, p, B, rfl, hB, B.w, rfl, by omega, fun r0 H4 hr0 s4 hr0' => ?_⟩
    refine ⟨_, rfl, p, dx, _, rfl, s4 _ _ hp, p, B, rfl, hB.same s4, fun qb H2 hqb s2 hA2 => ?_⟩
    have s05 := s4.trans s2
    refine ⟨r0, qb, Band.rim B.w, 0, B.w, B.ah, rfl, SqL.of (s2 _ _ hr0'), hA2, (rim_pairs B.w).Lt, rim_len _, by omega, O.ra, fun t qe H5 ht s5 ht5 hqe hf5 => ?_⟩
    have s07 := s05.trans s5
    rw [Int.zero_add, ← H_zero] at ht5
    rw [← H_zero] at hqe
    refine ⟨t, _, rfl, SqT.of ht5, rfl, _, _, rfl, _, _, rfl, rfl, ?_⟩
    -- heads, seen
    refine ⟨Nat.zero_le _, fun hd hhd => ?_⟩
    have hn0 : H hd = none := s07.free hhd
    have s08 := Same.new (o := .lst []) s07 hhd
    intro seen hseen
    have hs0 : H seen = none := s08.free hseen
    have hns : hd ≠ seen := ne_of_none upd_same hseen
    have s09 := Same.new (o := .dT []) s08 hseen
    have hne5 : qe ≠ hd := fun z => by
      rcases hf5 with h | h
      · have := s5 _ _ (s2 _ _ hr0')
        rw [← h, z, hhd] at this
        cases this
      · rw [z] at h; exact h.2 hhd
    have L0 : PLoop K B hd seen H 0 0 0 (fun _ => 0) qe (upd (upd H5 hd (.lst [])) seen (.dT [])) :=
      ⟨s09, by rw [upd_ne hns, upd_same]; rfl, upd_same, fun i hi => by omega, fun i j h1 h2 => by omega, hne5, (Same.new (Same.new (Same.refl H5) hhd) hseen).seq hqe⟩
    refine ⟨fun m σ H' => ∃ (t : Nat) (qe : Addr) (ts : Nat → Addr), m + t = 110 ∧
        σ = [some (.ref p), some (.ref hd), some (.ref seen), some (.ref qe), some (.int ((B.H t).2 : Nat))] ∧ PLoop K B hd seen H t t t ts qe H', ⟨110, 0, qe, _, rfl, rfl, L0⟩, ?_⟩
    rintro m σ H' ⟨t, qe, ts, hm, rfl, L⟩
    have hK := L.ap.le O
    refine ⟨_, rfl, qe, _, rfl, .inl ⟨L.q, fun tb htb => ?_⟩⟩
    have LB := L.step (Same.new (o := .tup (nl (B.H t).1)) (Same.refl H') htb)
    refine ⟨_, rfl, seen, _, rfl, DGet.t LB.dt (by rw [upd_same, kn_nl]), ?_⟩
    cases e : valV (hkeys B t) (kn (B.H t).1) with
    | none =>
      refine ⟨_, rfl, iteT ?_⟩
      refine ⟨_, fun σ' H2 z => z, ?_⟩
      -- seen[tuple(ends)] = len(heads)
      refine ⟨_, rfl, hd, _, rfl, .inl (SqL.of LB.nl_), _, rfl, _, rfl, qe, _, rfl, .inl ⟨LB.q, fun tb2 htb2 => ?_⟩⟩
      have LB2 := LB.step (Same.new (o := .tup (nl (B.H t).1)) (Same.refl _) htb2)
      have DP := DPut.t (k := kn (B.H t).1) (v := .int (t : Int)) LB2.dt (by rw [upd_same, kn_nl]) (by rw [hkeys_len]; exact Nat.lt_of_le_of_lt (show t ≤ 1000 by omega) (by decide))
      refine ⟨seen, _, rfl, by rw [List.length_map, List.length_range]; exact DP, ?_⟩
      have LP := LB2.put hs0 e
      -- heads.append((list(ends), closed))
      refine ⟨_, rfl, .inl ⟨rfl, _, SqL.of LP.nl_⟩, _, rfl, qe, _, rfl, .inl LP.q, fun ql hql => ?_⟩
      have LQ := LP.step (Same.new (o := .lst (nl (B.H t).1)) (Same.refl _) hql)
      refine ⟨_, rfl, by show 2 ≤ sizeLine; decide, fun tt htt => ?_⟩
      have LT := LQ.step (Same.new (o := .tup [.ref ql, .int ((B.H t).2 : Nat)]) (Same.refl _) htt)
      refine ⟨hd, _, _, rfl, rfl, LT.nl_, small1000 (by rw [List.length_map, List.length_range]; omega), ?_⟩
      have LA := LT.app hn0 (q := ql) upd_same (by rw [upd_ne (ne_of_none upd_same htt), upd_same]) (fun z => by rw [z, LP.nl_] at hql; exact nomatch hql)
      -- past the round
      refine ⟨_, rfl, _, rfl, _, rfl, p, dx, _, rfl, LA.same _ _ hp, p, B, rfl, hB.same LA.same, fun qc H7 hqc s7 hCy => ?_⟩
      have LC := LA.step s7
      refine ⟨qe, qc, (B.H t).1, ((B.H t).2 : Nat), B.w, B.cy, rfl, LC.q, hCy, (O.pairs _).Lt, S_len B _, by omega, O.rc, fun t4 q4 Hd ht4 sd ht5 hq4 hf4 => ?_⟩
      refine ⟨t4, _, rfl, SqT.of ht5, rfl, _, _, rfl, _, _, rfl, rfl, ?_⟩
      have eS := H_succ B t
      exact ⟨m - 1, by omega, t + 1, q4, _, by omega, by rw [eS]; rfl, LC.nxt (k4 := t + 1) sd hf4 (by rw [eS]; exact hq4)⟩
    | some v =>
      refine ⟨_, rfl, iteF ?_⟩
      obtain ⟨j, hj, hkj, rfl⟩ := hkeys_some e
      -- heads.append((list(ends), closed))
      refine ⟨_, rfl, .inl ⟨rfl, _, SqL.of LB.nl_⟩, _, rfl, qe, _, rfl, .inl LB.q, fun ql hql => ?_⟩
      have LQ := LB.step (Same.new (o := .lst (nl (B.H t).1)) (Same.refl _) hql)
      refine ⟨_, rfl, by show 2 ≤ sizeLine; decide, fun tt htt => ?_⟩
      have LT := LQ.step (Same.new (o := .tup [.ref ql, .int ((B.H t).2 : Nat)]) (Same.refl _) htt)
      refine ⟨hd, _, _, rfl, rfl, LT.nl_, small1000 (by rw [List.length_map, List.length_range]; omega), ?_⟩
      have LA := LT.app hn0 (q := ql) upd_same (by rw [upd_ne (ne_of_none upd_same htt), upd_same]) (fun z => by rw [z, LB.nl_] at hql; exact nomatch hql)
      -- return (heads, seen[tuple(ends)])
      refine ⟨_, rfl, _, rfl, _, rfl, qe, _, rfl, .inl ⟨LA.q, fun tb3 htb3 => ?_⟩⟩
      have LR := LA.step (Same.new (o := .tup (nl (B.H t).1)) (Same.refl _) htb3)
      refine ⟨seen, _, rfl, by rw [← e]; exact DGet.t LR.dt (by rw [upd_same, kn_nl]), ?_⟩
      refine ⟨by show 2 ≤ sizeLine; decide, fun tr htr => ?_⟩
      have LZ := LR.step (Same.new (o := .tup [.ref hd, .int (j : Int)]) (Same.refl _) htr)
      refine k tr hd _ t j _ LZ.same ⟨upd_same, LZ.nl_, fun i hi => ?_, hj, hK, (kn_inj hkj).symm⟩
      obtain ⟨q, h1, h2, _⟩ := LZ.tp i (by omega)
      exact ⟨q, h1, h2⟩
end
end Sand
/-! ## PWell -/
set_option Elab.async false
set_option linter.all false
set_option maxRecDepth 100000
set_option maxHeartbeats 8000000
namespace Sand
open PySem L2
abbrev s__law_well : Stmt := top 32
theorem sc__law_well : FnScope ["_law_cell", "_law_salt", "_law_prime", "_law_seed", "_law_number", "_law_k"] ["_law_cell", "_law_salt"] (defScope s__law_well) := ⟨rfl, rfl, rfl, by decide +kernel, rfl, by decide +kernel, by decide +kernel⟩
abbrev s__law_pick : Stmt := top 33
theorem sc__law_pick : FnScope ["_law_well_here", "_law_many", "_law_taken"] ["_law_well_here", "_law_many"] (defScope s__law_pick) := ⟨rfl, rfl, rfl, by decide +kernel, rfl, by decide +kernel, by decide +kernel⟩
def spWell : Sp := fun vs H Q _ => ∃ (z salt : Int), vs = [.int z, .int salt] ∧ 0 ≤ salt ∧ salt < 1000 ∧ ∀ a N H', H a = none → Same H H' → H' a = some (.lst [.int N]) → Q (.ref a) H'
def spPick : Sp := fun vs H Q _ => ∃ (a : Addr) (N : Int) (m : Nat), vs = [.ref a, .int (m : Int)] ∧ H a = some (.lst [.int N]) ∧ 0 < m ∧ m < 2 ^ 200 ∧ ∀ (k : Nat) N', k < m → Q (.int (k : Int)) (upd H a (.lst [.int N']))
theorem seed_lt {x : Int} : (x % 170141183460469231731687303715884105727).natAbs < 2 ^ 127 := by
  have h1 := Int.emod_nonneg x (show (170141183460469231731687303715884105727 : Int) ≠ 0 by decide)
  have h2 := Int.emod_lt_of_pos x (show (0 : Int) < 170141183460469231731687303715884105727 by decide)
  omega
theorem num_lt {a s : Int} {n : Nat} (ha : a.natAbs < 2 ^ n) (hs : s.natAbs < 2 ^ 127) : (a * 170141183460469231731687303715884105727 + s).natAbs < 2 ^ (n + 128) := by
  have h1 := Int.natAbs_add_le (a * 170141183460469231731687303715884105727) s
  rw [Int.natAbs_mul] at h1
  have h2 : a.natAbs * (170141183460469231731687303715884105727 : Int).natAbs ≤ a.natAbs * 2 ^ 127 := Nat.mul_le_mul (Nat.le_refl _) (by decide)
  have h3 : (a.natAbs + 1) * 2 ^ 127 ≤ 2 ^ n * 2 ^ 127 := Nat.mul_le_mul ha (Nat.le_refl _)
  rw [Nat.add_mul, Nat.one_mul] at h3
  have h4 : 2 ^ (n + 128) = 2 ^ n * 2 ^ 127 * 2 := by rw [Nat.pow_add, Nat.mul_assoc]
  have key : ∀ (x X Y T G s : Nat), x ≤ X + s → X ≤ Y → Y + T ≤ G → s < T → x < G * 2 := by intros; omega
  rw [h4]
  exact key _ _ _ _ _ _ h1 h2 h3 hs
theorem sq_lt {s : Int} (hs : s.natAbs < 2 ^ 127) : (s * s).natAbs < 2 ^ 254 := by
  rw [Int.natAbs_mul, show (254 : Nat) = 127 + 127 from rfl, Nat.pow_add]
  exact Nat.mul_lt_mul'' hs hs
section
variable {P : Program} {w : World} {K : PySem.W.Frag} {mg : Str → Option Value} {base : Heap}
theorem ok_law_well {f : Addr} {fd : FuncData} (F : Fun K "_law_well" "_law_well" s__law_well f fd) (T : Glob mg) : FnOk P w K mg base CX0 1 f fd ["_law_cell", "_law_salt"] spWell := by
  refine F.ok sc__law_well (fun vs H Q E h => ?_) (fun cdv A outer s H vs Q E hr h => ?_)
  · obtain ⟨z, salt, rfl, _⟩ := h
    rfl
  · obtain ⟨z, salt, rfl, h0, h1, k⟩ := h
    have hu := hu_of hr
    refine ⟨_, (pss_cons (ps_if (pt_cmpR op_ge (pv 0) (pe_op op_pow pe_int pe_int) (nomark _)) (pss_one (ps_ret (pe_lst (pa_cons (pe_op op_sub (pv 0) (pe_op op_pow pe_int pe_int)) pa_nil)))) pss_nil)
      (pss_cons (ps_set (i := 2) sc__law_well.nd rfl (Or.inl rfl) pe_int)
      (pss_cons (ps_set (i := 3) sc__law_well.nd rfl (Or.inl rfl) (pe_op op_mod (pe_callTy call_int1 (by rfl) T.int (by decide +kernel) (pa_cons (pe_op op_add (pe_op op_add (pe_op op_mul (pv 0) pe_int) (pe_op op_mul (pv 1) pe_int)) pe_int) pa_nil)) (pv 2)))
      (pss_cons (ps_set (i := 4) sc__law_well.nd rfl (Or.inl rfl) pe_int)
      (pss_cons (ps_for PassesOwn.never rfl (pi_range1 (by rfl) T.range (pa_cons pe_int pa_nil)) (pg_name (i := 5) sc__law_well.nd rfl (Or.inl rfl)) (pss_cons (ps_set (i := 3) sc__law_well.nd rfl (Or.inl rfl) (pe_op op_mod (pe_callTy call_int1 (by rfl) T.int (by decide +kernel) (pa_cons (pe_op op_add (pe_op op_add (pe_op op_mulW (pe_op op_mulW (pv 3) (pv 3)) (pv 3)) (pe_op op_mul pe_int (pv 5))) (pv 1)) pa_nil)) (pv 2)))
      (pss_one (ps_set (i := 4) sc__law_well.nd rfl (Or.inl rfl) (pe_op op_add (pe_op op_mulW (pv 4) (pv 2)) (pv 3))))))
      (pss_one (ps_ret (pe_lst (pa_cons (pv 4) pa_nil))))))))), ?_⟩
    refine ⟨_, rfl, _, _, rfl, rfl, ⟨by decide, by decide, by decide⟩, _, _, rfl, rfl, _, rfl, ifD (fun g => ?_) (fun g => ?_)⟩
    · refine ⟨_, rfl, _, _, rfl, rfl, ⟨by decide, by decide, by decide⟩, _, _, rfl, rfl, by show 1 ≤ sizeLine; decide, fun a ha => k a _ _ ha (Same.new (Same.refl H) ha) upd_same⟩
    · refine ⟨_, rfl, _, _, rfl, rfl, .inr ⟨by decide, by decide⟩, _, rfl, _, _, rfl, rfl, .inr ⟨by decide, by decide⟩, _, _, rfl, rfl, _, _, rfl, rfl, .inl ⟨_, rfl, ?_⟩⟩
      refine ⟨_, rfl, _, _, rfl, rfl, (by show (0 : Int) < 170141183460469231731687303715884105727; decide), ?_⟩
      refine ⟨_, rfl, by decide, by decide, for_range (fun i σ H' => ∃ (sd nm : Int) (v5 : Option V), σ = [some (.int z), some (.int salt), some (.int 170141183460469231731687303715884105727), some (.int sd), some (.int nm), v5] ∧ H' = H ∧ sd.natAbs < 2 ^ 127 ∧ nm.natAbs < 2 ^ (128 * i + 1))
        ⟨_, 0, none, rfl, rfl, seed_lt, by decide⟩ ?_ ?_⟩
      · rintro i σ H' hi ⟨sd, nm, v5, rfl, rfl, hsd, hnm⟩
        have hi : i < 16 := hi
        refine ⟨_, rfl, _, rfl, _, _, rfl, rfl, wide_mul hsd hsd (by decide) (by decide) (by decide), _, rfl, _, _, rfl, rfl, wide_mul (sq_lt hsd) hsd (by decide) (by decide) (by decide), _, rfl, _, _, rfl, rfl, .inl ⟨by decide, by decide⟩, _, _, rfl, rfl, _, rfl, _, _, rfl, rfl, .inl ⟨_, rfl, ?_⟩⟩
        refine ⟨_, rfl, _, _, rfl, rfl, (by show (0 : Int) < 170141183460469231731687303715884105727; decide), ?_⟩
        refine ⟨_, rfl, _, rfl, _, _, rfl, rfl, wide_mul (b := 128) hnm (by decide) (by omega) (by decide) (by omega), _, rfl, _, _, rfl, rfl, ?_⟩
        exact ⟨_, _, _, rfl, rfl, seed_lt, num_lt hnm seed_lt⟩
      · rintro σ H' ⟨sd, nm, v5, rfl, rfl, hsd, hnm⟩
        exact ⟨_, rfl, by show 1 ≤ sizeLine; decide, fun a ha => k a _ _ ha (Same.new (Same.refl _) ha) upd_same⟩
theorem ok_law_pick {f : Addr} {fd : FuncData} (F : Fun K "_law_pick" "_law_pick" s__law_pick f fd) (T : Glob mg) : FnOk P w K mg base CX0 1 f fd ["_law_well_here", "_law_many"] spPick := by
  refine F.ok sc__law_pick (fun vs H Q E h => ?_) (fun cdv A outer s H vs Q E hr h => ?_)
  · obtain ⟨a, N, m, rfl, _⟩ := h
    rfl
  · obtain ⟨a, N, m, rfl, ha, h0, hm, k⟩ := h
    have hu := hu_of hr
    refine ⟨_, (pss_cons (ps_set (i := 2) sc__law_pick.nd rfl (Or.inl rfl) (pe_op op_mod (pe_callTy call_int1 (by rfl) T.int (by decide +kernel) (pa_cons (pe_ix ix_list (pv 0) pe_int (fun _ _ => rfl)) pa_nil)) (pv 1)))
      (pss_cons (ps_asg (pe_op op_fdivW (pe_ix ix_list (pv 0) pe_int (fun _ _ => rfl)) (pv 1)) (pg_sub (pv 0) pe_int set_list))
      (pss_one (ps_ret (pv 2))))), ?_⟩
    have hm0 : (0 : Int) < (m : Int) := by omega
    have h1 := Int.emod_nonneg N (show (m : Int) ≠ 0 by omega)
    have h2 := Int.emod_lt_of_pos N hm0
    refine ⟨_, rfl, a, _, _, _, rfl, rfl, SqL.of ha, at_of (j := 0) rfl rfl, .inl ⟨_, rfl, _, rfl, _, _, rfl, rfl, hm0, ?_⟩⟩
    refine ⟨_, rfl, a, _, _, _, rfl, rfl, SqL.of ha, at_of (j := 0) rfl rfl, _, rfl, _, _, rfl, rfl, wide_div hm0 (b := 200) (by rw [Int.natAbs_natCast]; exact hm) (by decide) (by decide), ?_⟩
    refine ⟨_, rfl, a, _, _, 0, rfl, rfl, ha, ixN_nat (n := 1) (i := 0) (by decide), ?_⟩
    refine ⟨_, rfl, ?_⟩
    have e : N % (m : Int) = ((N % (m : Int)).toNat : Int) := by omega
    dsimp only
    rw [e]
    exact k _ _ (by omega)
end
end Sand
/-! ## PParts -/
set_option Elab.async false
set_option linter.all false
set_option maxRecDepth 100000
set_option maxHeartbeats 8000000
namespace Sand
open PySem L2
/-! ### texts of signs -/
theorem But.mut {x D : Addr} {H H' : Hp} {o : HO} (k : But x H H') (h : H D = none) : But x H (L2.upd H' D o) := fun b u e hb => by rw [upd_ne (ne_of_none e h)]; exact k b u e hb
theorem But.trans {x : Addr} {H H1 H2 : Hp} (k : But x H H1) (k2 : But x H1 H2) : But x H H2 := fun b u e hb => k2 b u (k b u e hb) hb
theorem But.andS {x : Addr} {H H1 H2 : Hp} (k : But x H H1) (k2 : Same H1 H2) : But x H H2 := fun b u e hb => k2 b u (k b u e hb)
theorem But.free {x b : Addr} {H H' : Hp} (k : But x H H') (hx : ∃ o, H x = some o) (h : H' b = none) (hn : b ≠ x) : H b = none := by
  cases e : H b with
  | none => rfl
  | some o => rw [k b o e hn] at h; exact nomatch h
theorem pd_but {K : PySem.W.Frag} {H H' : Hp} {a : Addr} {l : List V} {vs : List V} {rs : List Row} (k : But a H H') (ha : H a = some (.lst l)) (h : Paired (RowV K H) vs rs) : Paired (RowV K H') vs rs :=
  Paired.mapP h fun _ _ ⟨t, e, q⟩ => ⟨t, e, by
    rcases q with (q | ⟨u, q⟩) | q
    · exact .inl (.inl (k _ _ q (ne_of q ha (fun z => nomatch z))))
    · exact .inl (.inr ⟨u, k _ _ q (ne_of q ha (fun z => nomatch z))⟩)
    · exact .inr q⟩
theorem joinL_nil : ∀ ps : List (List Nat), TL.joinL [] ps = ps.flatten
  | [] => rfl
  | [p] => by simp [TL.joinL]
  | p :: q :: r => by
    show p ++ ([] ++ TL.joinL [] (q :: r)) = _
    rw [joinL_nil (q :: r)]; simp
def s1s (cs : List Nat) : List Str := cs.map fun c => ⟨#[c]⟩
theorem s1s_flat : ∀ cs : List Nat, ((s1s cs).map TL.tl).flatten = cs
  | [] => rfl
  | c :: cs => by
    show [c] ++ ((s1s cs).map TL.tl).flatten = c :: cs
    rw [s1s_flat cs]; rfl
theorem join_signs (cs : List Nat) : Txt.join ("" : Str) (s1s cs) = st cs := by
  rw [TL.join_eq]
  refine TL.ext_tl ?_
  rw [TL.tl_join]
  have e : TL.tl ("" : Str) = [] := by decide +kernel
  rw [e, joinL_nil, s1s_flat]
  unfold st; simp
theorem s1s_app (cs : List Nat) (c : Nat) : (s1s (cs ++ [c])).map V.str = (s1s cs).map V.str ++ [.str ⟨#[c]⟩] := by
  unfold s1s; rw [List.map_append, List.map_append]; rfl
theorem s1s_len (cs : List Nat) : ((s1s cs).map (·.length)).sum = cs.length := by
  unfold s1s
  induction cs with
  | nil => rfl
  | cons c cs ih =>
    rw [List.map_cons, List.map_cons, List.sum_cons, ih, List.length_cons]
    show 1 + cs.length = cs.length + 1
    omega
abbrev s__law_rows : Stmt := top 35
theorem sc__law_rows : FnScope ["_law_well_here", "_law_wide", "_law_many", "_law_signs", "_law_rows_here", "_law_k", "_law_inside", "_law_j"] ["_law_well_here", "_law_wide", "_law_many"] (defScope s__law_rows) := ⟨rfl, rfl, rfl, by decide +kernel, rfl, by decide +kernel, by decide +kernel⟩
abbrev s__law_parts : Stmt := top 36
theorem sc__law_parts : FnScope ["_law_well_here", "_law_wide", "_law_counts", "_law_many"] ["_law_well_here"] (defScope s__law_parts) := ⟨rfl, rfl, rfl, by decide +kernel, rfl, by decide +kernel, by decide +kernel⟩
def spLawRows (K : PySem.W.Frag) : Sp := fun vs H Q _ => ∃ (a : Addr) (N : Int) (w m : Nat), vs = [.ref a, .int (w : Int), .int (m : Int)] ∧ H a = some (.lst [.int N]) ∧ 0 < w ∧ w ≤ 4 ∧ m ≤ 8 ∧
  ∀ p ps rs N' H', But a H H' → H p = none → p ≠ a → H' a = some (.lst [.int N']) → H' p = some (.lst ps) → Paired (RowV K H') ps rs → rs.length = m → (∀ r, r ∈ rs → RowOk w r) → Q (.ref p) H'
def sgs (k : Nat) : List Nat := if k = 0 then [46, 45, 124] else if k = 1 then [46, 46, 46, 46, 45, 124] else if k = 2 then [124, 45] else if k = 3 then [46, 124] else [46, 45]
theorem sgs_at {k : Nat} (h : k < 5) : ([V.str ".-|", V.str "....-|", V.str "|-", V.str ".|", V.str ".-"] : List V)[k]? = some (.str (st (sgs k))) := by
  have e0 : (".-|" : Str) = st [46, 45, 124] := by decide +kernel
  have e1 : ("....-|" : Str) = st [46, 46, 46, 46, 45, 124] := by decide +kernel
  have e2 : ("|-" : Str) = st [124, 45] := by decide +kernel
  have e3 : (".|" : Str) = st [46, 124] := by decide +kernel
  have e4 : (".-" : Str) = st [46, 45] := by decide +kernel
  rw [e0, e1, e2, e3, e4]
  match k, h with
  | 0, _ => rfl
  | 1, _ => rfl
  | 2, _ => rfl
  | 3, _ => rfl
  | 4, _ => rfl
theorem sgs_sign (k : Nat) : ∀ c, c ∈ sgs k → Sign c := by
  unfold sgs Sign
  intro c hc
  split at hc
  · simp at hc; omega
  · split at hc
    · simp at hc; omega
    · split at hc
      · simp at hc; omega
      · split at hc
        · simp at hc; omega
        · simp at hc; omega
theorem sgs_len (k : Nat) : 0 < (sgs k).length ∧ (sgs k).length ≤ 6 := by
  unfold sgs
  split
  · decide
  · split
    · decide
    · split
      · decide
      · split <;> decide
section
variable {P : Program} {w : World} {K : PySem.W.Frag} {mg : Str → Option Value} {base : Heap}
theorem ok_law_rows {f f1 : Addr} {fd fd1 : FuncData} (F : Fun K "_law_rows" "_law_rows" s__law_rows f fd) (T : Glob mg)
    (c__law_pick : Cal K mg "_law_pick" f1 fd1 ["_law_well_here", "_law_many"]) (G__law_pick : FnOk P w K mg base CX0 1 f1 fd1 ["_law_well_here", "_law_many"] spPick) : FnOk P w K mg base CX0 2 f fd ["_law_well_here", "_law_wide", "_law_many"] (spLawRows K) := by
  refine F.ok sc__law_rows (fun vs H Q E h => ?_) (fun cdv A outer s H vs Q E hr h => ?_)
  · obtain ⟨a, N, wd, m, rfl, _⟩ := h
    rfl
  · obtain ⟨a, N, wd, m, rfl, ha, w0, w4, m8, k⟩ := h
    have hu := hu_of hr
    have hr__law_pick : Room 1 _ := hr
    refine ⟨_, (pss_cons (ps_set (i := 3) sc__law_rows.nd rfl (Or.inr rfl) (pe_ix ix_list (pe_lst (pa_cons pe_str (pa_cons pe_str (pa_cons pe_str (pa_cons pe_str (pa_cons pe_str pa_nil)))))) (pe_call G__law_pick hr__law_pick rfl c__law_pick.mg c__law_pick.kp c__law_pick.b .nil pass0 (pa_cons (pv 0) (pa_cons pe_int pa_nil))) (fun _ _ => rfl)))
      (pss_cons (ps_set (i := 4) sc__law_rows.nd rfl (Or.inl rfl) (pe_lst pa_nil))
      (pss_cons (ps_for PassesOwn.never rfl (pi_range1 (by rfl) T.range (pa_cons (pv 2) pa_nil)) (pg_name (i := 5) sc__law_rows.nd rfl (Or.inl rfl)) (pss_cons (ps_set (i := 6) sc__law_rows.nd rfl (Or.inl rfl) (pe_join pe_str (pe_lc (own := [("_law_j", 7)]) (g := gName 7) (tt := tYes) (by rfl) sc__law_rows.nd (pi_range1 (by rfl) T.range (pa_cons (pe_op op_sub (pv 1) pe_int) pa_nil)) (blkOk_by (own := [("_law_j", 7)]) (N := ["_law_well_here", "_law_wide", "_law_many", "_law_signs", "_law_rows_here", "_law_k", "_law_inside", "_law_j"]) (sc := defScope s__law_rows) (by decide +kernel)) (fun _ _ _ _ _ => pg_name (i := 7) sc__law_rows.nd rfl (Or.inl rfl)) (fun _ _ _ _ _ => pts_nil) (fun _ _ _ _ _ => (pe_ix ix_str (pv 3) (pe_call G__law_pick hr__law_pick rfl c__law_pick.mg c__law_pick.kp c__law_pick.b .nil pass0 (pa_cons (pv 0) (pa_cons (pe_callB call_len_str (by rfl) T.len PySem.boot_len (pa_cons (pv 3) pa_nil)) pa_nil))) (fun _ _ => rfl))))))
      (pss_one (ps_expr (pe_bm PySem.F.plainAttrs_list PySem.F.slot_list_append PySem.F.type_list_append mt_append (pv 4) (pa_cons (pe_tup (pa_cons (pv 6) (pa_cons (pe_join pe_str (pe_lc (own := [("_law_j", 7)]) (g := gName 7) (tt := tYes) (by rfl) sc__law_rows.nd (pi_range1 (by rfl) T.range (pa_cons (pv 1) pa_nil)) (blkOk_by (own := [("_law_j", 7)]) (N := ["_law_well_here", "_law_wide", "_law_many", "_law_signs", "_law_rows_here", "_law_k", "_law_inside", "_law_j"]) (sc := defScope s__law_rows) (by decide +kernel)) (fun _ _ _ _ _ => pg_name (i := 7) sc__law_rows.nd rfl (Or.inl rfl)) (fun _ _ _ _ _ => pts_nil) (fun _ _ _ _ _ => (pe_ix ix_str (pv 3) (pe_call G__law_pick hr__law_pick rfl c__law_pick.mg c__law_pick.kp c__law_pick.b .nil pass0 (pa_cons (pv 0) (pa_cons (pe_callB call_len_str (by rfl) T.len PySem.boot_len (pa_cons (pv 3) pa_nil)) pa_nil))) (fun _ _ => rfl))))) pa_nil))) pa_nil))))))
      (pss_one (ps_ret (pv 4)))))), ?_⟩
    -- signs
    refine ⟨by show 5 ≤ sizeLine; decide, fun q hq => ?_⟩
    have hqa : a ≠ q := ne_of_none ha hq
    refine ⟨_, rfl, a, N, 5, rfl, by rw [upd_ne hqa]; exact ha, by decide, by decide, fun j N1 hj => ?_⟩
    refine ⟨q, _, _, _, rfl, rfl, SqL.of (by rw [upd_ne (Ne.symm hqa)]; exact upd_same), at_of rfl (sgs_at hj), ?_⟩
    have b1 : But a H (upd (upd H q (.lst [V.str ".-|", V.str "....-|", V.str "|-", V.str ".|", V.str ".-"])) a (.lst [.int N1])) := ((But.refl a H).new hq).upd
    have ha1 : upd (upd H q (.lst [V.str ".-|", V.str "....-|", V.str "|-", V.str ".|", V.str ".-"])) a (.lst [.int N1]) a = some (.lst [.int N1]) := upd_same
    generalize upd (upd H q (.lst [V.str ".-|", V.str "....-|", V.str "|-", V.str ".|", V.str ".-"])) a (.lst [.int N1]) = Hx at *
    obtain ⟨sl1, sl2⟩ := sgs_len j
    -- the rows
    refine ⟨Nat.zero_le _, fun p hp => ?_⟩
    have hpa : p ≠ a := Ne.symm (ne_of_none ha1 hp)
    have hp0 : H p = none := b1.free ⟨_, ha⟩ hp hpa
    refine ⟨_, rfl, _, rfl, by omega, by omega, for_range (fun i σ H' => ∃ (N2 : Int) (ps : List V) (rs : List Row) (v5 v6 v7 : Option V), σ = [some (.ref a), some (.int (wd : Int)), some (.int (m : Int)), some (.str (st (sgs j))), some (.ref p), v5, v6, v7] ∧
        But a H H' ∧ H' a = some (.lst [.int N2]) ∧ H' p = some (.lst ps) ∧ Paired (RowV K H') ps rs ∧ rs.length = i ∧ ∀ r, r ∈ rs → RowOk wd r)
      ⟨N1, [], [], none, none, none, rfl, b1.new hp, by rw [upd_ne (Ne.symm hpa)]; exact ha1, upd_same, .nil, rfl, (fun r hr => nomatch hr)⟩ ?_ ?_⟩
    · rintro i σ HH hi ⟨N2, ps, rs, v5, v6, v7, rfl, b2, HA, hps, hpd, hlen, hok⟩
      refine ⟨⟨_, rfl⟩, _, rfl, _, _, rfl, rfl, _, rfl, by omega, by omega, fun D hD => lc_range (lo := 0) (fun i H' => ∃ (N3 : Int) (cs : List Nat), cs.length = i ∧ (∀ c, c ∈ cs → Sign c) ∧ H' D = some (.lst ((s1s cs).map V.str)) ∧ H' a = some (.lst [.int N3]) ∧ But a HH H')
          ⟨_, [], rfl, (fun c hc => nomatch hc), upd_same, by rw [upd_ne (ne_of_none HA hD)]; exact HA, (But.refl a HH).new hD⟩ ?_ ?_⟩
      · rintro i H4 hi ⟨N3, cs, hcl, hcs, hD4, ha4, b4⟩
        have hDa : D ≠ a := Ne.symm (ne_of_none HA hD)
        refine ⟨rfl, ?_⟩
        refine ⟨_, rfl, _, rfl, _, rfl, _, rfl, sz1000 (by rw [st_len]; omega), ?_⟩
        refine ⟨a, N3, (sgs j).length, by rw [st_len]; rfl, ha4, by omega, Nat.lt_of_le_of_lt (show _ ≤ 1000 by omega) (by decide), fun x N4 hx => ?_⟩
        have hx : x < (sgs j).length := hx
        have hxa : (st (sgs j)).cps.toList[x]? = some ((sgs j).getD x 0) := by
          unfold st
          rw [List.getD_eq_getElem?_getD, List.getElem?_eq_getElem hx]
          simp [hx]
        refine ⟨_, _, (sgs j).getD x 0, rfl, rfl, sz1000 (by rw [st_len]; omega), atI_nat hxa, ?_⟩
        refine ⟨_, by rw [upd_ne hDa]; exact hD4, small1000 (by rw [List.length_map]; unfold s1s; rw [List.length_map]; omega), N4, cs ++ [(sgs j).getD x 0], by rw [List.length_append, hcl]; rfl, fun c hc => ?_, ?_, ?_, ?_⟩
        · rcases List.mem_append.mp hc with h | h
          · exact hcs c h
          · rw [List.mem_singleton.mp h]; exact sgs_sign j _ (mem_getD hx)
        · rw [upd_same, s1s_app]
        · rw [upd_ne (Ne.symm hDa), upd_same]
        · exact (b4.upd).mut hD
      · rintro H4 ⟨N3, cs, hcl, hcs, hD4, ha4, b4⟩
        have hwd : wd - 1 = cs.length := by rw [hcl]; omega
        refine ⟨_, D, s1s cs, rfl, rfl, .inl (SqL.of hD4), by rw [s1s_len]; unfold s1s; rw [List.length_map]; show _ + _ * 0 ≤ _; omega, ?_⟩
        rw [join_signs]
        have hps4 := b4 _ _ hps hpa
        refine ⟨_, rfl, .inl ⟨rfl, _, SqL.of hps4⟩, _, rfl, ⟨_, rfl⟩, _, rfl, _, rfl, by omega, by omega, fun D2 hD2 => lc_range (lo := 0) (fun i H' => ∃ (N3 : Int) (cs : List Nat), cs.length = i ∧ (∀ c, c ∈ cs → Sign c) ∧ H' D2 = some (.lst ((s1s cs).map V.str)) ∧ H' a = some (.lst [.int N3]) ∧ But a H4 H')
          ⟨_, [], rfl, (fun c hc => nomatch hc), upd_same, by rw [upd_ne (ne_of_none ha4 hD2)]; exact ha4, (But.refl a H4).new hD2⟩ ?_ ?_⟩
        · rintro i2 H5 hi ⟨N5, cs2, hcl2, hcs2, hD5, ha5, b5⟩
          have hDb : D2 ≠ a := Ne.symm (ne_of_none ha4 hD2)
          refine ⟨rfl, ?_⟩
          refine ⟨_, rfl, _, rfl, _, rfl, _, rfl, sz1000 (by rw [st_len]; omega), ?_⟩
          refine ⟨a, N5, (sgs j).length, by rw [st_len]; rfl, ha5, by omega, Nat.lt_of_le_of_lt (show _ ≤ 1000 by omega) (by decide), fun x N6 hx => ?_⟩
          have hx : x < (sgs j).length := hx
          have hxa : (st (sgs j)).cps.toList[x]? = some ((sgs j).getD x 0) := by
            unfold st
            rw [List.getD_eq_getElem?_getD, List.getElem?_eq_getElem hx]
            simp [hx]
          refine ⟨_, _, (sgs j).getD x 0, rfl, rfl, sz1000 (by rw [st_len]; omega), atI_nat hxa, ?_⟩
          refine ⟨_, by rw [upd_ne hDb]; exact hD5, small1000 (by rw [List.length_map]; unfold s1s; rw [List.length_map]; omega), N6, cs2 ++ [(sgs j).getD x 0], by rw [List.length_append, hcl2]; rfl, fun c hc => ?_, ?_, ?_, ?_⟩
          · rcases List.mem_append.mp hc with h | h
            · exact hcs2 c h
            · rw [List.mem_singleton.mp h]; exact sgs_sign j _ (mem_getD hx)
          · rw [upd_same, s1s_app]
          · rw [upd_ne (Ne.symm hDb), upd_same]
          · exact (b5.upd).mut hD2
        · rintro H5 ⟨N5, cs2, hcl2, hcs2, hD5, ha5, b5⟩
          have hwd2 : cs2.length = wd := by rw [hcl2]; omega
          refine ⟨_, D2, s1s cs2, rfl, rfl, .inl (SqL.of hD5), by rw [s1s_len]; unfold s1s; rw [List.length_map]; show _ + _ * 0 ≤ _; omega, ?_⟩
          rw [join_signs]
          refine ⟨by show 2 ≤ sizeLine; decide, fun tt htt => ?_⟩
          have hps5 := b5 _ _ hps4 hpa
          have sn := Same.new (o := .tup [.str (st cs), .str (st cs2)]) (Same.refl H5) htt
          refine ⟨p, _, _, rfl, rfl, sn _ _ hps5, small1000 (by rw [pd_len hpd]; omega), ?_⟩
          have b24 := (b2.trans b4).trans b5
          refine ⟨N5, ps ++ [.ref tt], rs ++ [(cs, cs2)], _, _, _, rfl, (b24.andS sn).mut hp0, ?_, upd_same, ?_, by rw [List.length_append, hlen]; rfl, fun r hr => ?_⟩
          · rw [upd_ne (Ne.symm hpa)]; exact sn _ _ ha5
          · refine pd_app (pd_lst (sn _ _ hps5) (pd_same sn (pd_but (b4.trans b5) HA hpd))) (.cons ⟨tt, rfl, seqT_lst (sn _ _ hps5) (SqT.of upd_same)⟩ .nil)
          · rcases List.mem_append.mp hr with h | h
            · exact hok r h
            · rw [List.mem_singleton.mp h]
              exact ⟨by show cs.length + 1 = wd; omega, hwd2, hcs, hcs2⟩
    · rintro σ H' ⟨N2, ps, rs, v5, v6, v7, rfl, b2, HA, hps, hpd, hlen, hok⟩
      exact ⟨_, rfl, k p ps rs N2 H' b2 hp0 hpa HA hps hpd (by rw [hlen]; omega) hok⟩
end
/-- a list of rows that stands there as a list -/
def RowsL (K : PySem.W.Frag) (H : Hp) (p : Addr) (rs : List Row) : Prop := ∃ ps, H p = some (.lst ps) ∧ Paired (RowV K H) ps rs
theorem RowsL.at_ {K : PySem.W.Frag} {H : Hp} {p : Addr} {rs : List Row} (h : RowsL K H p rs) : RowsAt K H p rs := let ⟨ps, h1, h2⟩ := h; ⟨ps, SqL.of h1, h2⟩
theorem RowsL.same {K : PySem.W.Frag} {H H' : Hp} {p : Addr} {rs : List Row} (s : Same H H') (h : RowsL K H p rs) : RowsL K H' p rs := let ⟨ps, h1, h2⟩ := h; ⟨ps, s _ _ h1, pd_same s h2⟩
theorem RowsL.but {K : PySem.W.Frag} {H H' : Hp} {p a : Addr} {l : List V} {rs : List Row} (k : But a H H') (ha : H a = some (.lst l)) (n : p ≠ a) (h : RowsL K H p rs) : RowsL K H' p rs := let ⟨ps, h1, h2⟩ := h; ⟨ps, k _ _ h1 n, pd_but k ha h2⟩
/-- the three lists of rows of the band -/
def ListsAt (K : PySem.W.Frag) (H : Hp) (ls : Addr) (B : Band) : Prop := ∃ la lb lc, H ls = some (.lst [.ref la, .ref lb, .ref lc]) ∧ RowsL K H la B.ah ∧ RowsL K H lb B.cy ∧ RowsL K H lc B.en
theorem ListsAt.same {K : PySem.W.Frag} {H H' : Hp} {p : Addr} {B : Band} (s : Same H H') (h : ListsAt K H p B) : ListsAt K H' p B :=
  let ⟨la, lb, lc, h1, h2, h3, h4⟩ := h; ⟨la, lb, lc, s _ _ h1, h2.same s, h3.same s, h4.same s⟩
def spLawParts (K : PySem.W.Frag) : Sp := fun vs H Q _ => ∃ (a : Addr) (N : Int), vs = [.ref a] ∧ H a = some (.lst [.int N]) ∧
  ∀ t ls B N' H', But a H H' → H' a = some (.lst [.int N']) → B.Ok → H' t = some (.tup [.int (B.w : Int), .ref ls]) → ListsAt K H' ls B → ls ≠ a → Q (.ref t) H'
def cnts (k : Nat) : Nat := if k < 5 then k else 8
theorem cnts_at {k : Nat} (h : k < 6) : ([V.int 0, V.int 1, V.int 2, V.int 3, V.int 4, V.int 8] : List V)[k]? = some (.int (cnts k : Int)) := by
  match k, h with
  | 0, _ => rfl
  | 1, _ => rfl
  | 2, _ => rfl
  | 3, _ => rfl
  | 4, _ => rfl
  | 5, _ => rfl
theorem three {α : Type} {bs : List (List α)} {x y z : Nat} (h : bs.map List.length = [x, y, z]) : ∃ b1 b2 b3, bs = [b1, b2, b3] ∧ b1.length = x ∧ b2.length = y ∧ b3.length = z := by
  cases bs with
  | nil => exact nomatch h
  | cons b1 bs => cases bs with
    | nil => simp at h
    | cons b2 bs => cases bs with
      | nil => simp at h
      | cons b3 bs => cases bs with
        | nil => simp at h; exact ⟨b1, b2, b3, rfl, h.1, h.2.1, h.2.2⟩
        | cons b4 bs => simp at h
def PartV (K : PySem.W.Frag) (a D : Addr) (H : Hp) (v : V) (rs : List Row) : Prop := ∃ p, v = .ref p ∧ RowsL K H p rs ∧ p ≠ a ∧ p ≠ D
section
variable {P : Program} {w : World} {K : PySem.W.Frag} {mg : Str → Option Value} {base : Heap}
theorem ok_law_parts {f f1 f2 : Addr} {fd fd1 fd2 : FuncData} (F : Fun K "_law_parts" "_law_parts" s__law_parts f fd) (T : Glob mg)
    (c__law_pick : Cal K mg "_law_pick" f1 fd1 ["_law_well_here", "_law_many"]) (G__law_pick : FnOk P w K mg base CX0 1 f1 fd1 ["_law_well_here", "_law_many"] spPick)
    (c__law_rows : Cal K mg "_law_rows" f2 fd2 ["_law_well_here", "_law_wide", "_law_many"]) (G__law_rows : FnOk P w K mg base CX0 2 f2 fd2 ["_law_well_here", "_law_wide", "_law_many"] (spLawRows K)) : FnOk P w K mg base CX0 3 f fd ["_law_well_here"] (spLawParts K) := by
  refine F.ok sc__law_parts (fun vs H Q E h => ?_) (fun cdv A outer s H vs Q E hr h => ?_)
  · obtain ⟨a, N, rfl, _⟩ := h
    rfl
  · obtain ⟨a, N, rfl, ha, k⟩ := h
    have hu := hu_of hr
    have hr__law_pick : Room 1 _ := hr.mono (by decide)
    have hr__law_rows : Room 2 _ := hr
    refine ⟨_, (pss_cons (ps_set (i := 1) sc__law_parts.nd rfl (Or.inr rfl) (pe_op op_add pe_int (pe_op op_mod (pe_op op_add (pe_call G__law_pick hr__law_pick rfl c__law_pick.mg c__law_pick.kp c__law_pick.b .nil pass0 (pa_cons (pv 0) (pa_cons pe_int pa_nil))) pe_int) pe_int)))
      (pss_cons (ps_set (i := 2) sc__law_parts.nd rfl (Or.inl rfl) (pe_lst (pa_cons (pe_ix ix_list (pe_lst (pa_cons pe_int (pa_cons pe_int (pa_cons pe_int (pa_cons pe_int (pa_cons pe_int (pa_cons pe_int pa_nil))))))) (pe_call G__law_pick hr__law_pick rfl c__law_pick.mg c__law_pick.kp c__law_pick.b .nil pass0 (pa_cons (pv 0) (pa_cons pe_int pa_nil))) (fun _ _ => rfl)) (pa_cons (pe_op op_add pe_int (pe_call G__law_pick hr__law_pick rfl c__law_pick.mg c__law_pick.kp c__law_pick.b .nil pass0 (pa_cons (pv 0) (pa_cons pe_int pa_nil)))) (pa_cons (pe_call G__law_pick hr__law_pick rfl c__law_pick.mg c__law_pick.kp c__law_pick.b .nil pass0 (pa_cons (pv 0) (pa_cons pe_int pa_nil))) pa_nil)))))
      (pss_one (ps_ret (pe_tup (pa_cons (pv 1) (pa_cons (pe_lc (own := [("_law_many", 3)]) (g := gName 3) (tt := tYes) (by rfl) sc__law_parts.nd (pi_list (pv 2)) (blkOk_by (own := [("_law_many", 3)]) (N := ["_law_well_here", "_law_wide", "_law_counts", "_law_many"]) (sc := defScope s__law_parts) (by decide +kernel)) (fun _ _ _ _ _ => pg_name (i := 3) sc__law_parts.nd rfl (Or.inl rfl)) (fun _ _ _ _ _ => pts_nil) (fun _ _ _ _ _ => (pe_call G__law_rows hr__law_rows rfl c__law_rows.mg c__law_rows.kp c__law_rows.b .nil pass0 (pa_cons (pv 0) (pa_cons (pv 1) (pa_cons (pv 3) pa_nil)))))) pa_nil))))))), ?_⟩
    -- wide
    refine ⟨_, rfl, a, N, 4, rfl, ha, by decide, by decide, fun k0 N1 hk0 => ?_⟩
    refine ⟨_, _, rfl, rfl, _, _, rfl, rfl, (by show (0 : Int) < 4; decide), _, _, rfl, rfl, ?_⟩
    obtain ⟨wd, hwd⟩ : ∃ wd : Nat, 1 + (k0 + 2) % 4 = wd := ⟨_, rfl⟩
    have ew : (1 : Int) + ((k0 : Int) + 2) % 4 = (wd : Int) := by omega
    dsimp only
    rw [ew]
    have b1 : But a H (upd H a (.lst [.int N1])) := (But.refl a H).upd
    have ha1 : upd H a (.lst [.int N1]) a = some (.lst [.int N1]) := upd_same
    generalize upd H a (.lst [.int N1]) = H1 at *
    -- counts
    refine ⟨by show 6 ≤ sizeLine; decide, fun q hq => ?_⟩
    have hqa : a ≠ q := ne_of_none ha1 hq
    refine ⟨_, rfl, a, N1, 6, rfl, by rw [upd_ne hqa]; exact ha1, by decide, by decide, fun j N2 hj => ?_⟩
    refine ⟨q, _, _, _, rfl, rfl, SqL.of (by rw [upd_ne (Ne.symm hqa)]; exact upd_same), at_of rfl (cnts_at hj), ?_⟩
    have b2 : But a H1 (upd (upd H1 q (.lst [V.int 0, V.int 1, V.int 2, V.int 3, V.int 4, V.int 8])) a (.lst [.int N2])) := ((But.refl a H1).new hq).upd
    have ha2 : upd (upd H1 q (.lst [V.int 0, V.int 1, V.int 2, V.int 3, V.int 4, V.int 8])) a (.lst [.int N2]) a = some (.lst [.int N2]) := upd_same
    generalize upd (upd H1 q (.lst [V.int 0, V.int 1, V.int 2, V.int 3, V.int 4, V.int 8])) a (.lst [.int N2]) = H2 at *
    refine ⟨_, rfl, a, N2, 4, rfl, ha2, by decide, by decide, fun k3 N3 hk3 => ?_⟩
    have b3 : But a H2 (upd H2 a (.lst [.int N3])) := (But.refl a H2).upd
    have ha3 : upd H2 a (.lst [.int N3]) a = some (.lst [.int N3]) := upd_same
    generalize upd H2 a (.lst [.int N3]) = H3 at *
    refine ⟨_, _, rfl, rfl, ?_⟩
    refine ⟨_, rfl, a, N3, 5, rfl, ha3, by decide, by decide, fun k4 N4 hk4 => ?_⟩
    have b4 : But a H3 (upd H3 a (.lst [.int N4])) := (But.refl a H3).upd
    have ha4 : upd H3 a (.lst [.int N4]) a = some (.lst [.int N4]) := upd_same
    generalize upd H3 a (.lst [.int N4]) = H4 at *
    refine ⟨by show 3 ≤ sizeLine; decide, fun ct hct => ?_⟩
    have b04 := (((b1.trans b2).trans b3).trans b4).new (o := .lst [.int (cnts j : Int), .int (1 + (k3 : Int)), .int (k4 : Int)]) hct
    have hcta : ct ≠ a := Ne.symm (ne_of_none ha4 hct)
    have ha5 : upd H4 ct (.lst [.int (cnts j : Int), .int (1 + (k3 : Int)), .int (k4 : Int)]) a = some (.lst [.int N4]) := by rw [upd_ne (Ne.symm hcta)]; exact ha4
    have hc5 : upd H4 ct (.lst [.int (cnts j : Int), .int (1 + (k3 : Int)), .int (k4 : Int)]) ct = some (.lst [.int (cnts j : Int), .int (1 + (k3 : Int)), .int (k4 : Int)]) := upd_same
    have en : ([.int (cnts j : Int), .int (1 + (k3 : Int)), .int (k4 : Int)] : List V) = nl [cnts j, 1 + k3, k4] := by
      unfold nl
      show _ = [V.int (cnts j : Int), V.int ((1 + k3 : Nat) : Int), V.int (k4 : Int)]
      rw [Int.natCast_add]; rfl
    dsimp only
    rw [en] at b04 ha5 hc5 ⊢
    generalize upd H4 ct (.lst (nl [cnts j, 1 + k3, k4])) = H5 at *
    have hcn : cnts j ≤ 8 := by unfold cnts; split <;> omega
    have hcl : ∀ c, c ∈ [cnts j, 1 + k3, k4] → c ≤ 8 := fun c hc => by
      simp at hc; omega
    -- return
    refine ⟨_, rfl, _, rfl, ct, rfl, ⟨_, SqL.of hc5⟩, fun D hD => lc_list (K := K) (a := ct) (xs := nl [cnts j, 1 + k3, k4]) (fun i H' => ∃ (N5 : Int) (ds : List V) (bs : List (List Row)), H' a = some (.lst [.int N5]) ∧ But a H5 H' ∧ H' D = some (.lst ds) ∧
        Paired (PartV K a D H') ds bs ∧ bs.map List.length = [cnts j, 1 + k3, k4].take i ∧ ∀ rs, rs ∈ bs → ∀ r, r ∈ rs → RowOk wd r)
      ⟨N4, [], [], by rw [upd_ne (ne_of_none ha5 hD)]; exact ha5, (But.refl a H5).new hD, upd_same, .nil, rfl, (fun r hr => nomatch hr)⟩ (fun i H' hi ⟨_, _, _, _, b, _⟩ => SqL.of (b _ _ hc5 hcta)) ?_ ?_⟩
    · rintro i x H6 hx ⟨N5, ds, bs, ha6, b6, hD6, hpd, hln, hok⟩
      have hDa : D ≠ a := Ne.symm (ne_of_none ha5 hD)
      obtain ⟨c, hc, rfl⟩ : ∃ c, [cnts j, 1 + k3, k4][i]? = some c ∧ x = .int (c : Int) := by
        unfold nl at hx
        rw [List.getElem?_map] at hx
        obtain ⟨c, h1, h2⟩ := Option.map_eq_some_iff.mp hx
        exact ⟨c, h1, h2.symm⟩
      refine ⟨rfl, ?_⟩
      refine ⟨_, rfl, _, rfl, _, rfl, a, N5, wd, c, rfl, ha6, by omega, by omega, hcl c (List.mem_of_getElem? hc), fun p ps rs N6 H7 b7 hp0 hpa ha7 hp7 hpd7 hlen7 hok7 => ?_⟩
      have hpD : p ≠ D := fun z => by rw [z, hD6] at hp0; cases hp0
      have hD7 := b7 _ _ hD6 hDa
      have hdl : ds.length = bs.length := pd_len hpd
      have hbl : bs.length ≤ 3 := by
        have := congrArg List.length hln
        rw [List.length_map, List.length_take] at this
        show bs.length ≤ 3
        have e3 : [cnts j, 1 + k3, k4].length = 3 := rfl
        omega
      refine ⟨_, hD7, small1000 (by omega), N6, ds ++ [.ref p], bs ++ [rs], by rw [upd_ne (Ne.symm hDa)]; exact ha7, (b6.trans b7).mut hD, upd_same, ?_, ?_, fun rs2 h => ?_⟩
      · refine pd_app (Paired.mapP hpd fun v rs2 ⟨q, e, hR, n1, n2⟩ => ⟨q, e, ?_, n1, n2⟩) (.cons ⟨p, rfl, ?_, hpa, hpD⟩ .nil)
        · obtain ⟨ps2, h1, h2⟩ := hR.but b7 ha6 n1
          exact ⟨ps2, by rw [upd_ne n2]; exact h1, pd_lst hD7 h2⟩
        · exact ⟨ps, by rw [upd_ne hpD]; exact hp7, pd_lst hD7 hpd7⟩
      · rw [List.map_append, hln, take_succ hc, ← hlen7]; rfl
      · rcases List.mem_append.mp h with h | h
        · exact hok rs2 h
        · rw [List.mem_singleton.mp h]; exact hok7
    · rintro H6 ⟨N5, ds, bs, ha6, b6, hD6, hpd, hln, hok⟩
      refine ⟨by show 2 ≤ sizeLine; decide, fun t ht => ?_⟩
      have hln : bs.map List.length = [cnts j, 1 + k3, k4] := hln
      have sn := Same.new (o := .tup [.int (wd : Int), .ref D]) (Same.refl H6) ht
      obtain ⟨b1, b2, b3, rfl, l1, l2, l3⟩ := three hln
      cases hpd with
      | cons p1 hpd => cases hpd with
        | cons p2 hpd => cases hpd with
          | cons p3 hpd =>
            cases hpd
            obtain ⟨q1, rfl, r1, _, _⟩ := p1
            obtain ⟨q2, rfl, r2, _, _⟩ := p2
            obtain ⟨q3, rfl, r3, _, _⟩ := p3
            refine k t D ⟨wd, b1, b2, b3⟩ N5 _ ((b04.trans b6).andS sn) (sn _ _ ha6) ?_ upd_same ⟨q1, q2, q3, sn _ _ hD6, r1.same sn, r2.same sn, r3.same sn⟩ (Ne.symm (ne_of_none ha5 hD))
            exact ⟨by show 0 < wd; omega, by show wd ≤ 4; omega, by show b1.length ≤ 8; omega, by show 0 < b2.length; omega, by show b2.length ≤ 4; omega, by show b3.length ≤ 4; omega, hok b1 (by simp), hok b2 (by simp), hok b3 (by simp)⟩
end
end Sand
/-! ## PSame -/
set_option Elab.async false
set_option linter.all false
set_option maxRecDepth 100000
set_option maxHeartbeats 8000000
namespace Sand
open PySem L2
abbrev s__law_same : Stmt := top 34
theorem sc__law_same : FnScope ["_law_found", "_law_due_here", "_law_k"] ["_law_found", "_law_due_here"] (defScope s__law_same) := ⟨rfl, rfl, rfl, by decide +kernel, rfl, by decide +kernel, by decide +kernel⟩
/-- two values that hold the same data, of less than d levels -/
def Alike (H : Hp) : Nat → V → V → Prop
  | 0, _, _ => False
  | d + 1, x, y => (∃ z : Int, x = .int z ∧ y = .int z) ∨ ∃ (a b : Addr) (xs ys : List V), x = .ref a ∧ y = .ref b ∧ xs.length ≤ 1000 ∧ Paired (Alike H d) xs ys ∧ ((H a = some (.lst xs) ∧ H b = some (.lst ys)) ∨ (H a = some (.tup xs) ∧ H b = some (.tup ys)))
theorem Alike.same {H H' : Hp} (s : Same H H') : ∀ {d : Nat} {x y : V}, Alike H d x y → Alike H' d x y
  | 0, _, _, h => h
  | d + 1, x, y, h => by
    rcases h with h | ⟨a, b, xs, ys, e1, e2, hl, hp, h⟩
    · exact .inl h
    · refine .inr ⟨a, b, xs, ys, e1, e2, hl, Paired.mapP hp fun _ _ z => z.same s, ?_⟩
      rcases h with ⟨h1, h2⟩ | ⟨h1, h2⟩
      · exact .inl ⟨s _ _ h1, s _ _ h2⟩
      · exact .inr ⟨s _ _ h1, s _ _ h2⟩
def spSame (d : Nat) : Sp := fun vs H Q _ => ∃ x y, vs = [x, y] ∧ Alike H d x y ∧ ∀ H', Same H H' → Q (.bl true) H'
section
variable {P : Program} {w : World} {K : PySem.W.Frag} {mg : Str → Option Value} {base : Heap}
theorem ok_law_same {f : Addr} {fd : FuncData} (F : Fun K "_law_same" "_law_same" s__law_same f fd) (T : Glob mg) (c__law_same : Cal K mg "_law_same" f fd ["_law_found", "_law_due_here"]) : ∀ d : Nat, FnOk P w K mg base CX0 d f fd ["_law_found", "_law_due_here"] (spSame d)
  | 0 => by
    refine ⟨fun vs H Q E h => ?_, fun A outer s H args us vs Q E hr => ?_⟩
    · obtain ⟨x, y, _, h, _⟩ := h
      exact h.elim
    · intros
      rename_i h
      obtain ⟨x, y, _, h, _⟩ := h
      exact h.elim
  | d + 1 => by
    have G__law_same := ok_law_same F T c__law_same d
    refine F.ok sc__law_same (fun vs H Q E h => ?_) (fun cdv A outer s H vs Q E hr h => ?_)
    · obtain ⟨x, y, rfl, _⟩ := h
      rfl
    · obtain ⟨x, y, rfl, hxy, k⟩ := h
      have hu := hu_of hr
      have hr__law_same : Room d _ := hr
      refine ⟨_, (pss_cons (ps_if (pt_cmpR op_isN (pv 1) pe_non (nomark _)) (pss_one (ps_ret (pe_cmpR op_isN (pv 0) pe_non (nomark _)))) pss_nil)
      (pss_cons (ps_if (pt_val (pe_callB call_isi (by rfl) T.isinstance (by decide +kernel) (pa_cons (pv 1) (pa_cons (pe_bltn (v := V.ty "bool") (u := .type "bool") (by rfl) T.bool (by decide +kernel) rfl) pa_nil)))) (pss_one (ps_ret (pe_and (pe_callB call_isi (by rfl) T.isinstance (by decide +kernel) (pa_cons (pv 0) (pa_cons (pe_bltn (v := V.ty "bool") (u := .type "bool") (by rfl) T.bool (by decide +kernel) rfl) pa_nil))) (pe_one (pe_cmpR op_eq (pv 0) (pv 1) (nomark _)))))) pss_nil)
      (pss_cons (ps_if (pt_val (pe_callB call_isi (by rfl) T.isinstance (by decide +kernel) (pa_cons (pv 1) (pa_cons (pe_bltn (v := V.ty "int") (u := .type "int") (by rfl) T.int (by decide +kernel) rfl) pa_nil)))) (pss_one (ps_ret (pe_and (pe_callB call_isi (by rfl) T.isinstance (by decide +kernel) (pa_cons (pv 0) (pa_cons (pe_bltn (v := V.ty "int") (u := .type "int") (by rfl) T.int (by decide +kernel) rfl) pa_nil))) (pe_and (pe_not (pe_callB call_isi (by rfl) T.isinstance (by decide +kernel) (pa_cons (pv 0) (pa_cons (pe_bltn (v := V.ty "bool") (u := .type "bool") (by rfl) T.bool (by decide +kernel) rfl) pa_nil)))) (pe_one (pe_cmpR op_eq (pv 0) (pv 1) (nomark _))))))) pss_nil)
      (pss_cons (ps_if (pt_val (pe_callB call_isi (by rfl) T.isinstance (by decide +kernel) (pa_cons (pv 1) (pa_cons (pe_bltn (v := V.ty "str") (u := .type "str") (by rfl) T.str (by decide +kernel) rfl) pa_nil)))) (pss_one (ps_ret (pe_and (pe_callB call_isi (by rfl) T.isinstance (by decide +kernel) (pa_cons (pv 0) (pa_cons (pe_bltn (v := V.ty "str") (u := .type "str") (by rfl) T.str (by decide +kernel) rfl) pa_nil))) (pe_one (pe_cmpR op_eq (pv 0) (pv 1) (nomark _)))))) pss_nil)
      (pss_cons (ps_if (PW.pt (pw_and (pt_val (pe_callB call_isi (by rfl) T.isinstance (by decide +kernel) (pa_cons (pv 1) (pa_cons (pe_bltn (v := V.ty "list") (u := .type "list") (by rfl) T.list (by decide +kernel) rfl) pa_nil)))) (pw_and1 (pt_not (pt_val (pe_callB call_isi (by rfl) T.isinstance (by decide +kernel) (pa_cons (pv 0) (pa_cons (pe_bltn (v := V.ty "list") (u := .type "list") (by rfl) T.list (by decide +kernel) rfl) pa_nil)))))))) (pss_one (ps_ret pe_bl)) pss_nil)
      (pss_cons (ps_if (PW.pt (pw_and (pt_val (pe_callB call_isi (by rfl) T.isinstance (by decide +kernel) (pa_cons (pv 1) (pa_cons (pe_bltn (v := V.ty "tuple") (u := .type "tuple") (by rfl) T.tuple (by decide +kernel) rfl) pa_nil)))) (pw_and1 (pt_not (pt_val (pe_callB call_isi (by rfl) T.isinstance (by decide +kernel) (pa_cons (pv 0) (pa_cons (pe_bltn (v := V.ty "tuple") (u := .type "tuple") (by rfl) T.tuple (by decide +kernel) rfl) pa_nil)))))))) (pss_one (ps_ret pe_bl)) pss_nil)
      (pss_cons (ps_if (pt_cmpR op_ne (pe_callB call_len_seq (by rfl) T.len PySem.boot_len (pa_cons (pv 0) pa_nil)) (pe_callB call_len_seq (by rfl) T.len PySem.boot_len (pa_cons (pv 1) pa_nil)) (nomark _)) (pss_one (ps_ret pe_bl)) pss_nil)
      (pss_one (ps_ret (pe_callB (cr_all rfl) (by rfl) T.all (by decide +kernel) (pa_cons (pe_lc (own := [("_law_k", 2)]) (g := gName 2) (tt := tYes) (by rfl) sc__law_same.nd (pi_range1 (by rfl) T.range (pa_cons (pe_callB call_len_seq (by rfl) T.len PySem.boot_len (pa_cons (pv 1) pa_nil)) pa_nil)) (blkOk_by (own := [("_law_k", 2)]) (N := ["_law_found", "_law_due_here", "_law_k"]) (sc := defScope s__law_same) (by decide +kernel)) (fun _ _ _ _ _ => pg_name (i := 2) sc__law_same.nd rfl (Or.inl rfl)) (fun _ _ _ _ _ => pts_nil) (fun _ _ _ _ _ => (pe_call G__law_same hr__law_same rfl c__law_same.mg c__law_same.kp c__law_same.b .nil pass0 (pa_cons (pe_ix (ix_ltK (K := K)) (pv 0) (pv 2) (fun _ _ => rfl)) (pa_cons (pe_ix (ix_ltK (K := K)) (pv 1) (pv 2) (fun _ _ => rfl)) pa_nil))))) pa_nil))))))))))), ?_⟩
      rcases hxy with ⟨z, rfl, rfl⟩ | ⟨a, b, xs, ys, rfl, rfl, hlen, hp, hab⟩
      · refine ⟨_, rfl, rfl, _, rfl, iteF ?_⟩
        refine ⟨_, rfl, _, _, .type "int", .type "bool", false, rfl, .ty _, .base (.int z), rfl, _, rfl, iteF ?_⟩
        refine ⟨_, rfl, _, _, .type "int", .type "int", true, rfl, .ty _, .base (.int z), rfl, _, rfl, iteT ?_⟩
        refine ⟨_, rfl, _, _, .type "int", .type "int", true, rfl, .ty _, .base (.int z), rfl, _, rfl, iteT ⟨_, rfl, _, _, .type "int", .type "bool", false, rfl, .ty _, .base (.int z), rfl, _, rfl, _, rfl, iteT ⟨_, rfl, _, rfl, rfl, ?_⟩⟩⟩
        have e : decide (V.int z = V.int z) = true := decide_eq_true rfl
        rw [e]
        exact k H (Same.refl H)
      · have hln : xs.length = ys.length := pd_len hp
        rcases hab with ⟨ha, hb⟩ | ⟨ha, hb⟩
        · refine ⟨_, rfl, rfl, _, rfl, iteF ?_⟩
          refine ⟨_, rfl, _, _, .type "list", .type "bool", false, rfl, .ty _, .base (.lst hb), rfl, _, rfl, iteF ?_⟩
          refine ⟨_, rfl, _, _, .type "list", .type "int", false, rfl, .ty _, .base (.lst hb), rfl, _, rfl, iteF ?_⟩
          refine ⟨_, rfl, _, _, .type "list", .type "str", false, rfl, .ty _, .base (.lst hb), rfl, _, rfl, iteF ?_⟩
          refine ⟨_, rfl, _, _, .type "list", .type "list", true, rfl, .ty _, .base (.lst hb), rfl, _, rfl, iteT ⟨_, rfl, _, _, .type "list", .type "list", true, rfl, .ty _, .base (.lst ha), rfl, _, rfl, iteF ?_⟩⟩
          refine ⟨_, rfl, _, _, .type "list", .type "tuple", false, rfl, .ty _, .base (.lst hb), rfl, _, rfl, iteF (iteF ?_)⟩
          refine ⟨_, rfl, a, xs, rfl, .inl (SqL.of ha), _, rfl, b, ys, rfl, .inl (SqL.of hb), rfl, _, rfl, ?_⟩
          rw [hln]
          refine (show ∀ {A B : Prop}, B → if (!decide (V.int ((ys.length : Nat) : Int) = V.int ((ys.length : Nat) : Int))) = true then A else B from fun h => by simp; exact h) ?_
          refine ⟨_, rfl, b, ys, rfl, .inl (SqL.of hb), _, rfl, by omega, by omega, fun D hD => lc_range (lo := 0) (fun i H' => Same H H' ∧ H' D = some (.lst ((List.replicate i true).map V.bl))) ⟨Same.new (Same.refl H) hD, upd_same⟩ ?_ ?_⟩
          · rintro i H1 hi ⟨s1, hD1⟩
            have hi : i < ys.length := hi
            have hxi : xs[i]? = some xs[i] := List.getElem?_eq_getElem (by omega)
            obtain ⟨y, hy, hxy⟩ := pd_get hp hxi
            refine ⟨rfl, ?_⟩
            rw [Int.zero_add]
            refine ⟨_, rfl, _, rfl, .inl ⟨a, xs, _, _, rfl, rfl, SqL.of (s1 _ _ ha), atI_nat hxi, _, rfl, _, rfl, .inl ⟨b, ys, _, _, rfl, rfl, SqL.of (s1 _ _ hb), atI_nat hy, ?_⟩⟩⟩
            refine ⟨xs[i], y, rfl, hxy.same s1, fun H2 s2 => ?_⟩
            exact ⟨_, s2 _ _ hD1, small1000 (by rw [List.length_map, List.length_replicate]; omega), (s1.trans s2).mut (hD), by rw [upd_same, List.replicate_succ']; simp⟩
          · rintro H1 ⟨s1, hD1⟩
            refine ⟨D, List.replicate ys.length true, rfl, SqL.of hD1, ?_⟩
            have e : (List.replicate ys.length true).all id = true := by simp
            rw [e]
            exact k H1 s1
        · refine ⟨_, rfl, rfl, _, rfl, iteF ?_⟩
          refine ⟨_, rfl, _, _, .type "tuple", .type "bool", false, rfl, .ty _, .base (.tup hb), rfl, _, rfl, iteF ?_⟩
          refine ⟨_, rfl, _, _, .type "tuple", .type "int", false, rfl, .ty _, .base (.tup hb), rfl, _, rfl, iteF ?_⟩
          refine ⟨_, rfl, _, _, .type "tuple", .type "str", false, rfl, .ty _, .base (.tup hb), rfl, _, rfl, iteF ?_⟩
          refine ⟨_, rfl, _, _, .type "tuple", .type "list", false, rfl, .ty _, .base (.tup hb), rfl, _, rfl, iteF (iteF ?_)⟩
          refine ⟨_, rfl, _, _, .type "tuple", .type "tuple", true, rfl, .ty _, .base (.tup hb), rfl, _, rfl, iteT ⟨_, rfl, _, _, .type "tuple", .type "tuple", true, rfl, .ty _, .base (.tup ha), rfl, _, rfl, iteF ?_⟩⟩
          refine ⟨_, rfl, a, xs, rfl, .inr (SqT.of ha), _, rfl, b, ys, rfl, .inr (SqT.of hb), rfl, _, rfl, ?_⟩
          rw [hln]
          refine (show ∀ {A B : Prop}, B → if (!decide (V.int ((ys.length : Nat) : Int) = V.int ((ys.length : Nat) : Int))) = true then A else B from fun h => by simp; exact h) ?_
          refine ⟨_, rfl, b, ys, rfl, .inr (SqT.of hb), _, rfl, by omega, by omega, fun D hD => lc_range (lo := 0) (fun i H' => Same H H' ∧ H' D = some (.lst ((List.replicate i true).map V.bl))) ⟨Same.new (Same.refl H) hD, upd_same⟩ ?_ ?_⟩
          · rintro i H1 hi ⟨s1, hD1⟩
            have hi : i < ys.length := hi
            have hxi : xs[i]? = some xs[i] := List.getElem?_eq_getElem (by omega)
            obtain ⟨y, hy, hxy⟩ := pd_get hp hxi
            refine ⟨rfl, ?_⟩
            rw [Int.zero_add]
            refine ⟨_, rfl, _, rfl, .inr ⟨a, xs, _, _, rfl, rfl, SqT.of (s1 _ _ ha), atI_nat hxi, _, rfl, _, rfl, .inr ⟨b, ys, _, _, rfl, rfl, SqT.of (s1 _ _ hb), atI_nat hy, ?_⟩⟩⟩
            refine ⟨xs[i], y, rfl, hxy.same s1, fun H2 s2 => ?_⟩
            exact ⟨_, s2 _ _ hD1, small1000 (by rw [List.length_map, List.length_replicate]; omega), (s1.trans s2).mut (hD), by rw [upd_same, List.replicate_succ']; simp⟩
          · rintro H1 ⟨s1, hD1⟩
            refine ⟨D, List.replicate ys.length true, rfl, SqL.of hD1, ?_⟩
            have e : (List.replicate ys.length true).all id = true := by simp
            rw [e]
            exact k H1 s1
end
end Sand
/-! ## PLinks -/
set_option Elab.async false
set_option linter.all false
set_option maxRecDepth 100000
set_option maxHeartbeats 8000000
namespace Sand
open PySem L2
/-! ### the links of the squares, as a dict -/
def sqT (s : Sq) : List V := [.int (s.1 : Int), .int (s.2 : Int)]
def kq (s : Sq) : List Key := [.inl (s.1 : Int), .inl (s.2 : Int)]
theorem kq_V (s : Sq) : (kq s).map kV = sqT s := rfl
theorem kq_inj {s u : Sq} (h : kq s = kq u) : s = u := by
  obtain ⟨a, b⟩ := s
  obtain ⟨c, e⟩ := u
  unfold kq at h
  injection h with h1 h2
  injection h2 with h2 h3
  injection h1 with h1
  injection h2 with h2
  have h1 : (a : Int) = c := h1
  have h2 : (b : Int) = e := h2
  have x1 : a = c := by omega
  have x2 : b = e := by omega
  rw [x1, x2]
def SqV (H : Hp) (v : V) (s : Sq) : Prop := ∃ t, v = .ref t ∧ H t = some (.tup (sqT s))
def lkv (L : List Sq) (loc : Sq → Addr) : List (List Key × V) := L.map fun s => (kq s, V.ref (loc s))
theorem valV_in {f : Sq → V} {u : Sq} : ∀ {L : List Sq}, u ∈ L → valV (L.map fun s => (kq s, f s)) (kq u) = some (f u)
  | s :: L, h => by
    by_cases q : s = u
    · subst q; exact valV_pos rfl
    · rw [List.map_cons, valV_neg (fun z => q (kq_inj z))]
      exact valV_in ((List.mem_cons.mp h).resolve_left (Ne.symm q))
theorem valV_out {f : Sq → V} {u : Sq} : ∀ {L : List Sq}, u ∉ L → valV (L.map fun s => (kq s, f s)) (kq u) = none
  | [], _ => rfl
  | s :: L, h => by
    rw [List.map_cons, valV_neg (fun z => h (by rw [kq_inj z]; exact List.mem_cons_self))]
    exact valV_out fun z => h (List.mem_cons_of_mem _ z)
/-- the dict d holds for the squares L the lists of their neighbours -/
structure LinksAt (H0 : Hp) (d : Addr) (L : List Sq) (adj : Sq → List Sq) (loc : Sq → Addr) (n : Nat) (H : Hp) : Prop where
  same : Same H0 H
  free : ∀ s, s ∈ L → H0 (loc s) = none
  dict : H d = some (.dT (lkv L loc))
  lst : ∀ s, s ∈ L → ∃ ts, H (loc s) = some (.lst ts) ∧ Paired (SqV H) ts (adj s)
  inj : ∀ s u, s ∈ L → u ∈ L → loc s = loc u → s = u
  cl : ∀ s t, t ∈ adj s → t ∈ L
  few : ∀ s, (adj s).length ≤ n
section
variable {H0 H H' : Hp} {d : Addr} {L : List Sq} {adj : Sq → List Sq} {loc : Sq → Addr} {n : Nat}
theorem sqv_same {vs : List V} {ss : List Sq} (s : Same H H') (h : Paired (SqV H) vs ss) : Paired (SqV H') vs ss := Paired.mapP h fun _ _ ⟨t, e, q⟩ => ⟨t, e, s _ _ q⟩
theorem sqv_lst {D : Addr} {l : List V} {o : HO} {vs : List V} {ss : List Sq} (hD : H D = some (.lst l)) (h : Paired (SqV H) vs ss) : Paired (SqV (upd H D o)) vs ss :=
  Paired.mapP h fun _ _ ⟨t, e, q⟩ => ⟨t, e, by rw [upd_ne (ne_of q hD (fun z => nomatch z))]; exact q⟩
theorem LinksAt.step (A : LinksAt H0 d L adj loc n H) (s : Same H H') : LinksAt H0 d L adj loc n H' :=
  ⟨A.same.trans s, A.free, s _ _ A.dict, fun u hu => let ⟨ts, h1, h2⟩ := A.lst u hu; ⟨ts, s _ _ h1, sqv_same s h2⟩, A.inj, A.cl, A.few⟩
theorem LinksAt.get (A : LinksAt H0 d L adj loc n H) {u : Sq} (hu : u ∈ L) {b : Addr} (hb : H b = some (.tup (sqT u))) : DGet H d (.ref b) (some (.ref (loc u))) := by
  have := DGet.t (k := kq u) A.dict hb
  unfold lkv at this
  rw [valV_in (f := fun s => V.ref (loc s)) hu] at this
  exact this
theorem LinksAt.putL (A : LinksAt H0 d L adj loc n H) {u v : Sq} (hu : u ∈ L) (hv : v ∈ L) {t : Addr} (ht : H t = some (.tup (sqT v))) {ts : List V} (hts : H (loc u) = some (.lst ts)) :
    LinksAt H0 d L (put adj u v) loc (n + 1) (upd H (loc u) (.lst (ts ++ [.ref t]))) := by
  have keep : ∀ b o, b ≠ loc u → H b = some o → upd H (loc u) (.lst (ts ++ [.ref t])) b = some o := fun b o hb e => by rw [upd_ne hb]; exact e
  refine ⟨fun b o e => keep b o (ne_of_none e (A.free u hu)) (A.same b o e), A.free, keep _ _ (ne_of A.dict hts (fun q => nomatch q)) A.dict, fun s hs => ?_, A.inj, fun s t h => ?_, fun s => ?_⟩
  · obtain ⟨ts2, h1, h2⟩ := A.lst s hs
    by_cases q : s = u
    · subst q
      rw [hts] at h1
      cases h1
      refine ⟨ts ++ [.ref t], upd_same, ?_⟩
      have e : put adj s v s = adj s ++ [v] := if_pos rfl
      rw [e]
      exact pd_app (sqv_lst hts h2) (.cons ⟨t, rfl, keep _ _ (ne_of ht hts (fun q => nomatch q)) ht⟩ .nil)
    · have e : put adj u v s = adj s := if_neg q
      rw [e]
      exact ⟨ts2, keep _ _ (fun z => q (A.inj s u hs hu z)) h1, sqv_lst hts h2⟩
  · rcases mem_put.mp h with h | ⟨_, h⟩
    · exact A.cl s t h
    · rw [h]; exact hv
  · unfold put
    split
    · rw [List.length_append]; have := A.few s; show _ + 1 ≤ _; omega
    · have := A.few s; omega
end
abbrev s__law_point : Stmt := top 38
theorem sc__law_point : FnScope ["_law_links_here", "_law_x", "_law_y", "_law_char", "_law_corners", "_law_pairs", "_law_a", "_law_b"] ["_law_links_here", "_law_x", "_law_y", "_law_char"] (defScope s__law_point) := ⟨rfl, rfl, rfl, by decide +kernel, rfl, by decide +kernel, by decide +kernel⟩
def corner (x y k : Nat) : Sq := if k = 0 then (x - 1, y - 1) else if k = 1 then (x, y - 1) else if k = 2 then (x - 1, y) else (x, y)
def spLawPoint : Sp := fun vs H Q _ => ∃ (H0 : Hp) (d : Addr) (L : List Sq) (adj : Sq → List Sq) (loc : Sq → Addr) (n x y c : Nat), vs = [.ref d, .int (x : Int), .int (y : Int), .str ⟨#[c]⟩] ∧ LinksAt H0 d L adj loc n H ∧ 1 ≤ x ∧ 1 ≤ y ∧
  (∀ k, corner x y k ∈ L) ∧ n ≤ 900 ∧ ∀ H', LinksAt H0 d L (lPoint adj x y c) loc (n + 4) H' → Q .non H'
/-- the state of _law_point before its loop -/
structure PtAt (H0 : Hp) (d : Addr) (L : List Sq) (adj : Sq → List Sq) (loc : Sq → Addr) (n x y : Nat) (cl : Addr) (T : Nat → Addr) (H : Hp) : Prop where
  A : LinksAt H0 d L adj loc n H
  cl_ : H cl = some (.lst [.ref (T 0), .ref (T 1), .ref (T 2), .ref (T 3)])
  t : ∀ k, k < 4 → H (T k) = some (.tup (sqT (corner x y k)))
  no : ∀ s, s ∈ L → cl ≠ loc s
theorem PtAt.step {H0 : Hp} {d : Addr} {L : List Sq} {adj : Sq → List Sq} {loc : Sq → Addr} {n x y : Nat} {cl : Addr} {T : Nat → Addr} {H H' : Hp} (h : PtAt H0 d L adj loc n x y cl T H) (s : Same H H') : PtAt H0 d L adj loc n x y cl T H' :=
  ⟨h.A.step s, s _ _ h.cl_, fun k hk => s _ _ (h.t k hk), h.no⟩
theorem PtAt.get {H0 : Hp} {d : Addr} {L : List Sq} {adj : Sq → List Sq} {loc : Sq → Addr} {n x y : Nat} {cl : Addr} {T : Nat → Addr} {H : Hp} (h : PtAt H0 d L adj loc n x y cl T H) {k : Nat} (hk : k < 4) :
    atI [V.ref (T 0), V.ref (T 1), V.ref (T 2), V.ref (T 3)] (k : Int) = some (.ref (T k)) := by
  refine atI_nat ?_
  match k, hk with
  | 0, _ => rfl
  | 1, _ => rfl
  | 2, _ => rfl
  | 3, _ => rfl
theorem PtAt.putP {H0 : Hp} {d : Addr} {L : List Sq} {adj : Sq → List Sq} {loc : Sq → Addr} {n x y : Nat} {cl : Addr} {T : Nat → Addr} {H : Hp} (h : PtAt H0 d L adj loc n x y cl T H) (hc : ∀ k, corner x y k ∈ L) {a b : Nat} (hb : b < 4) {ts : List V}
    (hts : H (loc (corner x y a)) = some (.lst ts)) : PtAt H0 d L (put adj (corner x y a) (corner x y b)) loc (n + 1) x y cl T (upd H (loc (corner x y a)) (.lst (ts ++ [.ref (T b)]))) :=
  ⟨h.A.putL (hc a) (hc b) (h.t b hb) hts, by rw [upd_ne (h.no _ (hc a))]; exact h.cl_, fun k hk => by rw [upd_ne (ne_of (h.t k hk) hts (fun z => nomatch z))]; exact h.t k hk, h.no⟩
/-- the two pairs of corners to be joined -/
structure PrAt (L : List Sq) (loc : Sq → Addr) (pl p1 p2 : Addr) (a1 b1 a2 b2 : Nat) (H : Hp) : Prop where
  l : H pl = some (.lst [.ref p1, .ref p2])
  p : H p1 = some (.tup [.int (a1 : Int), .int (b1 : Int)])
  q : H p2 = some (.tup [.int (a2 : Int), .int (b2 : Int)])
  no : ∀ s, s ∈ L → pl ≠ loc s
  lt : a1 < 4 ∧ b1 < 4 ∧ a2 < 4 ∧ b2 < 4
theorem PrAt.upd {L : List Sq} {loc : Sq → Addr} {pl p1 p2 : Addr} {a1 b1 a2 b2 : Nat} {H : Hp} (U : PrAt L loc pl p1 p2 a1 b1 a2 b2 H) {s : Sq} (hs : s ∈ L) {ts us : List V} (hts : H (loc s) = some (.lst ts)) : PrAt L loc pl p1 p2 a1 b1 a2 b2 (upd H (loc s) (.lst us)) :=
  ⟨by rw [upd_ne (U.no s hs)]; exact U.l, by rw [upd_ne (ne_of U.p hts (fun z => nomatch z))]; exact U.p, by rw [upd_ne (ne_of U.q hts (fun z => nomatch z))]; exact U.q, U.no, U.lt⟩
def ptAdj (adj : Sq → List Sq) (x y a1 b1 a2 b2 i : Nat) : Sq → List Sq := if i = 0 then adj else if i = 1 then link adj (corner x y a1) (corner x y b1) else link (link adj (corner x y a1) (corner x y b1)) (corner x y a2) (corner x y b2)
section
variable {P : Program} {w : World} {K : PySem.W.Frag} {mg : Str → Option Value} {base : Heap}
theorem ok_law_point {f : Addr} {fd : FuncData} (F : Fun K "_law_point" "_law_point" s__law_point f fd) (T : Glob mg) : FnOk P w K mg base CX0 1 f fd ["_law_links_here", "_law_x", "_law_y", "_law_char"] spLawPoint := by
  refine F.ok sc__law_point (fun vs H Q E h => ?_) (fun cdv A outer s H vs Q E hr h => ?_)
  · obtain ⟨H0, d, L, adj, loc, n, x, y, c, rfl, _⟩ := h
    rfl
  · obtain ⟨H0, d, L, adj, loc, n, x, y, c, rfl, A0, hx, hy, hc, hn, k⟩ := h
    have hu := hu_of hr
    refine ⟨_, (pss_cons (ps_set (i := 4) sc__law_point.nd rfl (Or.inl rfl) (pe_lst (pa_cons (pe_tup (pa_cons (pe_op op_sub (pv 1) pe_int) (pa_cons (pe_op op_sub (pv 2) pe_int) pa_nil))) (pa_cons (pe_tup (pa_cons (pv 1) (pa_cons (pe_op op_sub (pv 2) pe_int) pa_nil))) (pa_cons (pe_tup (pa_cons (pe_op op_sub (pv 1) pe_int) (pa_cons (pv 2) pa_nil))) (pa_cons (pe_tup (pa_cons (pv 1) (pa_cons (pv 2) pa_nil))) pa_nil))))))
      (pss_cons (ps_set (i := 5) sc__law_point.nd rfl (Or.inl rfl) (pe_lst (pa_cons (pe_tup (pa_cons pe_int (pa_cons pe_int pa_nil))) (pa_cons (pe_tup (pa_cons pe_int (pa_cons pe_int pa_nil))) pa_nil))))
      (Evl.pss_cut (ps_if (pt_cmpR op_eq (pv 3) pe_str (nomark _)) (pss_one (ps_set (i := 5) sc__law_point.nd rfl (Or.inl rfl) (pe_lst (pa_cons (pe_tup (pa_cons pe_int (pa_cons pe_int pa_nil))) (pa_cons (pe_tup (pa_cons pe_int (pa_cons pe_int pa_nil))) pa_nil))))) pss_nil)
      (Evl.pss_cut (ps_if (pt_cmpR op_eq (pv 3) pe_str (nomark _)) (pss_one (ps_set (i := 5) sc__law_point.nd rfl (Or.inl rfl) (pe_lst (pa_cons (pe_tup (pa_cons pe_int (pa_cons pe_int pa_nil))) (pa_cons (pe_tup (pa_cons pe_int (pa_cons pe_int pa_nil))) pa_nil))))) pss_nil)
      (pss_one (ps_for PassesOwn.never rfl (pi_list (pv 5)) (pg_tup rfl (pgs_cons (pg_name (i := 6) sc__law_point.nd rfl (Or.inl rfl)) (pgs_cons (pg_name (i := 7) sc__law_point.nd rfl (Or.inl rfl)) pgs_nil))) (pss_cons (ps_expr (pe_bm PySem.F.plainAttrs_list PySem.F.slot_list_append PySem.F.type_list_append mt_append (pe_dget hu (pv 0) (pe_ix ix_list (pv 4) (pv 6) (fun _ _ => rfl)) (fun _ _ => rfl)) (pa_cons (pe_ix ix_list (pv 4) (pv 7) (fun _ _ => rfl)) pa_nil)))
      (pss_one (ps_expr (pe_bm PySem.F.plainAttrs_list PySem.F.slot_list_append PySem.F.type_list_append mt_append (pe_dget hu (pv 0) (pe_ix ix_list (pv 4) (pv 7) (fun _ _ => rfl)) (fun _ _ => rfl)) (pa_cons (pe_ix ix_list (pv 4) (pv 6) (fun _ _ => rfl)) pa_nil))))))))))), ?_⟩
    have ex : (x : Int) - 1 = ((x - 1 : Nat) : Int) := by omega
    have ey : (y : Int) - 1 = ((y - 1 : Nat) : Int) := by omega
    -- corners
    refine ⟨_, rfl, _, _, rfl, rfl, _, rfl, _, _, rfl, rfl, by show 2 ≤ sizeLine; decide, fun t0 ht0 => ?_⟩
    dsimp only
    rw [ex, ey]
    have s1 := Same.new (o := .tup [.int ((x - 1 : Nat) : Int), .int ((y - 1 : Nat) : Int)]) (Same.refl H) ht0
    have f0 : upd H t0 (.tup [.int ((x - 1 : Nat) : Int), .int ((y - 1 : Nat) : Int)]) t0 = _ := upd_same
    generalize upd H t0 (.tup [.int ((x - 1 : Nat) : Int), .int ((y - 1 : Nat) : Int)]) = Ha at *
    refine ⟨_, rfl, _, rfl, _, _, rfl, rfl, by show 2 ≤ sizeLine; decide, fun t1 ht1 => ?_⟩
    dsimp only
    rw [ey]
    have s2 := Same.new (o := .tup [.int (x : Int), .int ((y - 1 : Nat) : Int)]) (Same.refl Ha) ht1
    have f1 : upd Ha t1 (.tup [.int (x : Int), .int ((y - 1 : Nat) : Int)]) t1 = _ := upd_same
    generalize upd Ha t1 (.tup [.int (x : Int), .int ((y - 1 : Nat) : Int)]) = Hb at *
    refine ⟨_, rfl, _, _, rfl, rfl, _, rfl, by show 2 ≤ sizeLine; decide, fun t2 ht2 => ?_⟩
    dsimp only
    rw [ex]
    have s3 := Same.new (o := .tup [.int ((x - 1 : Nat) : Int), .int (y : Int)]) (Same.refl Hb) ht2
    have f2 : upd Hb t2 (.tup [.int ((x - 1 : Nat) : Int), .int (y : Int)]) t2 = _ := upd_same
    generalize upd Hb t2 (.tup [.int ((x - 1 : Nat) : Int), .int (y : Int)]) = Hc at *
    refine ⟨_, rfl, _, rfl, by show 2 ≤ sizeLine; decide, fun t3 ht3 => ?_⟩
    have s4 := Same.new (o := .tup [.int (x : Int), .int (y : Int)]) (Same.refl Hc) ht3
    have f3 : upd Hc t3 (.tup [.int (x : Int), .int (y : Int)]) t3 = _ := upd_same
    generalize upd Hc t3 (.tup [.int (x : Int), .int (y : Int)]) = Hd at *
    refine ⟨by show 4 ≤ sizeLine; decide, fun cl hcl => ?_⟩
    have s5 := Same.new (o := .lst [.ref t0, .ref t1, .ref t2, .ref t3]) (Same.refl Hd) hcl
    have f4 : upd Hd cl (.lst [.ref t0, .ref t1, .ref t2, .ref t3]) cl = _ := upd_same
    have sHd := ((s1.trans s2).trans s3).trans s4
    have R : PtAt H0 d L adj loc n x y cl (fun k => if k = 0 then t0 else if k = 1 then t1 else if k = 2 then t2 else t3) (upd Hd cl (.lst [.ref t0, .ref t1, .ref t2, .ref t3])) := by
      refine ⟨A0.step (sHd.trans s5), f4, fun k hk => ?_, fun s hs z => ?_⟩
      · match k, hk with
        | 0, _ => exact s5 _ _ (s4 _ _ (s3 _ _ (s2 _ _ f0)))
        | 1, _ => exact s5 _ _ (s4 _ _ (s3 _ _ f1))
        | 2, _ => exact s5 _ _ (s4 _ _ f2)
        | 3, _ => exact s5 _ _ f3
      · obtain ⟨ts, h, _⟩ := A0.lst s hs
        rw [z, sHd _ _ h] at hcl
        cases hcl
    generalize (fun k => if k = 0 then t0 else if k = 1 then t1 else if k = 2 then t2 else t3) = T at *
    generalize upd Hd cl (.lst [.ref t0, .ref t1, .ref t2, .ref t3]) = H1 at *
    have hpr : ∀ (p1 p2 pl : Addr) (a1 b1 a2 b2 : Nat) (H1 : Hp), PtAt H0 d L adj loc n x y cl T H1 → H1 p1 = none → (upd H1 p1 (.tup [.int (a1 : Int), .int (b1 : Int)])) p2 = none →
        (upd (upd H1 p1 (.tup [.int (a1 : Int), .int (b1 : Int)])) p2 (.tup [.int (a2 : Int), .int (b2 : Int)])) pl = none → (a1 < 4 ∧ b1 < 4 ∧ a2 < 4 ∧ b2 < 4) →
        PtAt H0 d L adj loc n x y cl T (upd (upd (upd H1 p1 (.tup [.int (a1 : Int), .int (b1 : Int)])) p2 (.tup [.int (a2 : Int), .int (b2 : Int)])) pl (.lst [.ref p1, .ref p2])) ∧
        PrAt L loc pl p1 p2 a1 b1 a2 b2 (upd (upd (upd H1 p1 (.tup [.int (a1 : Int), .int (b1 : Int)])) p2 (.tup [.int (a2 : Int), .int (b2 : Int)])) pl (.lst [.ref p1, .ref p2])) := by
      intro p1 p2 pl a1 b1 a2 b2 H1 R h1 h2 h3 hlt
      have s1 := Same.new (o := .tup [.int (a1 : Int), .int (b1 : Int)]) (Same.refl H1) h1
      have s2 := Same.new (o := .tup [.int (a2 : Int), .int (b2 : Int)]) (Same.refl _) h2
      have s3 := Same.new (o := .lst [.ref p1, .ref p2]) (Same.refl _) h3
      refine ⟨R.step ((s1.trans s2).trans s3), upd_same, s3 _ _ (s2 _ _ upd_same), s3 _ _ upd_same, fun s hs z => ?_, hlt⟩
      obtain ⟨ts, h, _⟩ := R.A.lst s hs
      rw [z, s2 _ _ (s1 _ _ h)] at h3
      cases h3
    -- pairs
    refine ⟨by show 2 ≤ sizeLine; decide, fun p1 hp1 => ⟨by show 2 ≤ sizeLine; decide, fun p2 hp2 => ⟨by show 2 ≤ sizeLine; decide, fun pl hpl => ?_⟩⟩⟩
    obtain ⟨R1, U1⟩ := hpr p1 p2 pl 0 3 1 2 _ R hp1 hp2 hpl ⟨by decide, by decide, by decide, by decide⟩
    refine ⟨fun σ' H2 => ∃ (pl p1 p2 : Addr) (a1 b1 a2 b2 : Nat), σ' = [some (.ref d), some (.int (x : Int)), some (.int (y : Int)), some (.str ⟨#[c]⟩), some (.ref cl), some (.ref pl), none, none] ∧ PtAt H0 d L adj loc n x y cl T H2 ∧ PrAt L loc pl p1 p2 a1 b1 a2 b2 H2 ∧
      (c ≠ 124 → lPoint adj x y c = link (link adj (corner x y a1) (corner x y b1)) (corner x y a2) (corner x y b2)), ?_, ?_⟩
    · refine ⟨_, rfl, rfl, _, rfl, ifD (fun q => ?_) (fun q => ?_)⟩
      · refine ⟨by show 2 ≤ sizeLine; decide, fun p1 hp1 => ⟨by show 2 ≤ sizeLine; decide, fun p2 hp2 => ⟨by show 2 ≤ sizeLine; decide, fun pl hpl => ?_⟩⟩⟩
        obtain ⟨R2, U2⟩ := hpr p1 p2 pl 0 1 2 3 _ R1 hp1 hp2 hpl ⟨by decide, by decide, by decide, by decide⟩
        exact ⟨pl, p1, p2, 0, 1, 2, 3, rfl, R2, U2, fun hb => by unfold lPoint; rw [if_neg hb, if_pos (is_dash.mp q)]; rfl⟩
      · exact ⟨pl, p1, p2, 0, 3, 1, 2, rfl, R1, U1, fun hb => by unfold lPoint; rw [if_neg hb, if_neg (fun z => q (is_dash.mpr z))]; rfl⟩
    · rintro σ' H2 ⟨pl, p1, p2, a1, b1, a2, b2, rfl, R2, U2, e2⟩
      refine ⟨fun σ' H2 => ∃ (pl p1 p2 : Addr) (a1 b1 a2 b2 : Nat), σ' = [some (.ref d), some (.int (x : Int)), some (.int (y : Int)), some (.str ⟨#[c]⟩), some (.ref cl), some (.ref pl), none, none] ∧ PtAt H0 d L adj loc n x y cl T H2 ∧ PrAt L loc pl p1 p2 a1 b1 a2 b2 H2 ∧
        lPoint adj x y c = link (link adj (corner x y a1) (corner x y b1)) (corner x y a2) (corner x y b2), ?_, ?_⟩
      · refine ⟨_, rfl, rfl, _, rfl, ifD (fun q => ?_) (fun q => ?_)⟩
        · refine ⟨by show 2 ≤ sizeLine; decide, fun p1 hp1 => ⟨by show 2 ≤ sizeLine; decide, fun p2 hp2 => ⟨by show 2 ≤ sizeLine; decide, fun pl hpl => ?_⟩⟩⟩
          obtain ⟨R3, U3⟩ := hpr p1 p2 pl 0 2 1 3 _ R2 hp1 hp2 hpl ⟨by decide, by decide, by decide, by decide⟩
          exact ⟨pl, p1, p2, 0, 2, 1, 3, rfl, R3, U3, by unfold lPoint; rw [if_pos (is_bar.mp q)]; rfl⟩
        · exact ⟨pl, p1, p2, a1, b1, a2, b2, rfl, R2, U2, e2 fun z => q (is_bar.mpr z)⟩
      · rintro σ' H3 ⟨pl, p1, p2, a1, b1, a2, b2, rfl, R3, U3, e3⟩
        refine ⟨_, rfl, pl, rfl, ⟨_, SqL.of U3.l⟩, for_list (K := K) (a := pl) (xs := [.ref p1, .ref p2]) (fun i σ H' => ∃ v6 v7, σ = [some (.ref d), some (.int (x : Int)), some (.int (y : Int)), some (.str ⟨#[c]⟩), some (.ref cl), some (.ref pl), v6, v7] ∧
            PtAt H0 d L (ptAdj adj x y a1 b1 a2 b2 i) loc (n + 2 * i) x y cl T H' ∧ PrAt L loc pl p1 p2 a1 b1 a2 b2 H')
          ⟨none, none, rfl, R3, U3⟩ (fun i σ H' _ ⟨_, _, _, _, U⟩ => SqL.of U.l) ?_ ?_⟩
        · rintro i v σ H4 hi ⟨v6, v7, rfl, R4, U4⟩
          obtain ⟨pp, a, b, rfl, hpp, ha, hb, hadj, hi2⟩ : ∃ (pp : Addr) (a b : Nat), v = .ref pp ∧ H4 pp = some (.tup [.int (a : Int), .int (b : Int)]) ∧ a < 4 ∧ b < 4 ∧ ptAdj adj x y a1 b1 a2 b2 (i + 1) = link (ptAdj adj x y a1 b1 a2 b2 i) (corner x y a) (corner x y b) ∧ i < 2 := by
            match i, hi with
            | 0, hi => exact ⟨p1, a1, b1, (Option.some.inj hi).symm, U4.p, U4.lt.1, U4.lt.2.1, rfl, by decide⟩
            | 1, hi => exact ⟨p2, a2, b2, (Option.some.inj hi).symm, U4.q, U4.lt.2.2.1, U4.lt.2.2.2, rfl, by decide⟩
          refine ⟨pp, _, rfl, SqT.of hpp, rfl, _, _, rfl, _, _, rfl, rfl, ?_⟩
          -- the one
          obtain ⟨ts, hts, hpd⟩ := R4.A.lst _ (hc a)
          have few1 := R4.A.few (corner x y a)
          refine ⟨_, rfl, _, rfl, _, rfl, cl, _, _, _, rfl, rfl, SqL.of R4.cl_, R4.get ha, d, _, rfl, R4.A.get (hc a) (R4.t a ha), ?_⟩
          refine ⟨.inl ⟨rfl, _, SqL.of hts⟩, _, rfl, _, rfl, cl, _, _, _, rfl, rfl, SqL.of R4.cl_, R4.get hb, ?_⟩
          refine ⟨_, _, _, rfl, rfl, hts, small1000 (by rw [pd_len hpd]; omega), ?_⟩
          have R5 := R4.putP hc (b := b) hb hts
          have U5 := U4.upd (hc a) (us := ts ++ [.ref (T b)]) hts
          -- the other
          obtain ⟨ts2, hts2, hpd2⟩ := R5.A.lst _ (hc b)
          have few2 := R5.A.few (corner x y b)
          refine ⟨_, rfl, _, rfl, _, rfl, cl, _, _, _, rfl, rfl, SqL.of R5.cl_, R5.get hb, d, _, rfl, R5.A.get (hc b) (R5.t b hb), ?_⟩
          refine ⟨.inl ⟨rfl, _, SqL.of hts2⟩, _, rfl, _, rfl, cl, _, _, _, rfl, rfl, SqL.of R5.cl_, R5.get ha, ?_⟩
          refine ⟨_, _, _, rfl, rfl, hts2, small1000 (by rw [pd_len hpd2]; omega), ?_⟩
          have R6 := R5.putP hc (b := a) ha hts2
          have U6 := U5.upd (hc b) (us := ts2 ++ [.ref (T a)]) hts2
          exact ⟨_, _, rfl, by rw [hadj]; exact R6, U6⟩
        · rintro σ H4 ⟨v6, v7, rfl, R4, U4⟩
          refine k H4 ?_
          rw [e3]
          exact R4.A
end
end Sand
/-! ## PLinkAll -/
set_option Elab.async false
set_option linter.all false
set_option maxRecDepth 100000
set_option maxHeartbeats 8000000
namespace Sand
open PySem L2
/-! ### plain: the links, step by step -/
theorem lLevel_snoc (y : Nat) : ∀ (cs : List Nat) (adj : Sq → List Sq) (x c : Nat), lLevel adj x y (cs ++ [c]) = lPoint (lLevel adj x y cs) (x + 2 * cs.length) y c
  | [], adj, x, c => rfl
  | b :: cs, adj, x, c => by
    show lLevel (lPoint adj x y b) (x + 2) y (cs ++ [c]) = _
    rw [lLevel_snoc y cs]
    have e : x + 2 + 2 * cs.length = x + 2 * (b :: cs).length := by simp; omega
    rw [e]; rfl
theorem lRows_snoc (n : Nat) : ∀ (rs : List Row) (adj : Sq → List Sq) (r : Nat) (row : Row), lRows n r adj (rs ++ [row]) = lRow (lRows n r adj rs) n (r + rs.length) row
  | [], adj, r, row => rfl
  | b :: rs, adj, r, row => by
    show lRows n (r + 1) (lRow adj n r b) (rs ++ [row]) = _
    rw [lRows_snoc n rs]
    have e : r + 1 + rs.length = r + (b :: rs).length := by simp; omega
    rw [e]; rfl
theorem take_getD {α : Type} {l : List α} {k : Nat} {d : α} (h : k < l.length) : l.take (k + 1) = l.take k ++ [l.getD k d] :=
  take_succ (by rw [List.getD_eq_getElem?_getD, List.getElem?_eq_getElem h]; rfl)
def sqTo (n j : Nat) : List Sq := (List.range j).flatMap fun j => (List.range n).map fun i => (i, j)
def sqIn (n j i : Nat) : List Sq := sqTo n j ++ (List.range i).map fun i => (i, j)
theorem sqTo_succ (n j : Nat) : sqTo n (j + 1) = sqIn n j n := by
  unfold sqIn sqTo
  rw [List.range_succ, List.flatMap_append]; simp
theorem sqIn_succ (n j i : Nat) : sqIn n j (i + 1) = sqIn n j i ++ [(i, j)] := by
  unfold sqIn
  rw [List.range_succ, List.map_append, List.append_assoc]; rfl
theorem sqIn_zero (n j : Nat) : sqIn n j 0 = sqTo n j := by unfold sqIn; simp
theorem mem_sqTo {n j : Nat} {v : Sq} (h : v ∈ sqTo n j) : v.2 < j := by
  obtain ⟨k, hk, q⟩ := List.mem_flatMap.mp h
  obtain ⟨i, _, e⟩ := List.mem_map.mp q
  subst e
  exact List.mem_range.mp hk
theorem out_sqIn {n j i : Nat} : ((i, j) : Sq) ∉ sqIn n j i := fun h => by
  rcases List.mem_append.mp h with h | h
  · have := mem_sqTo h; exact absurd this (Nat.lt_irrefl _)
  · obtain ⟨k, hk, e⟩ := List.mem_map.mp h
    have hk := List.mem_range.mp hk
    injection e with e1 e2
    omega
theorem sqTo_len (n : Nat) : ∀ j, (sqTo n j).length = j * n
  | 0 => by simp [sqTo]
  | j + 1 => by rw [sqTo_succ]; unfold sqIn; rw [List.length_append, sqTo_len n j, List.length_map, List.length_range, Nat.add_mul, Nat.one_mul]
theorem sqIn_len (n j i : Nat) : (sqIn n j i).length = j * n + i := by unfold sqIn; rw [List.length_append, sqTo_len, List.length_map, List.length_range]
theorem sqs_to (n last : Nat) : sqs n last = sqTo n (last + 1) := rfl
theorem LinksAt.le {H0 H : Hp} {d : Addr} {L : List Sq} {adj : Sq → List Sq} {loc : Sq → Addr} {n m : Nat} (A : LinksAt H0 d L adj loc n H) (h : n ≤ m) : LinksAt H0 d L adj loc m H :=
  ⟨A.same, A.free, A.dict, A.lst, A.inj, A.cl, fun s => Nat.le_trans (A.few s) h⟩
theorem LinksAt.more {H0 H H1 : Hp} {d : Addr} {L : List Sq} {loc : Sq → Addr} (A : LinksAt H0 d L (fun _ => []) loc 0 H) (hd : H0 d = none) {u : Sq} (hu : u ∉ L) {l : Addr} (hl : H l = none) (s : Same H H1) (hl1 : H1 l = some (.lst [])) :
    LinksAt H0 d (L ++ [u]) (fun _ => []) (fun s => if s = u then l else loc s) 0 (upd H1 d (.dT (putK (lkv L loc) (kq u) (.ref l)))) := by
  have A1 := A.step s
  have keep : ∀ b o, b ≠ d → H1 b = some o → upd H1 d (.dT (putK (lkv L loc) (kq u) (.ref l))) b = some o := fun b o hb e => by rw [upd_ne hb]; exact e
  have hne : ∀ s, s ∈ L → s ≠ u := fun s hs z => hu (by rw [← z]; exact hs)
  have hloc : ∀ s, s ∈ L → loc s ≠ l := fun s hs z => by
    obtain ⟨ts, h, _⟩ := A.lst s hs
    rw [z, hl] at h; cases h
  refine ⟨fun b o e => keep b o (ne_of_none e hd) (A1.same b o e), fun s hs => ?_, ?_, fun s hs => ?_, fun s v hs hv e => ?_, (fun s t h => nomatch h), fun s => Nat.le_refl _⟩
  · by_cases q : s = u
    · rw [if_pos q]; exact A.same.free hl
    · rw [if_neg q]
      exact A.free s ((List.mem_append.mp hs).resolve_right (fun z => q (List.mem_singleton.mp z)))
  · rw [upd_same, putK_new _ (show valV (lkv L loc) (kq u) = none from valV_out (f := fun s => V.ref (loc s)) hu)]
    unfold lkv
    refine congrArg (fun z => some (HO.dT z)) ?_
    rw [List.map_append]
    refine congr (congrArg HAppend.hAppend (List.map_congr_left fun s hs => ?_)) ?_
    · show (kq s, V.ref (loc s)) = (kq s, V.ref (if s = u then l else loc s))
      rw [if_neg (hne s hs)]
    · show [(kq u, V.ref l)] = [(kq u, V.ref (if u = u then l else loc u))]
      rw [if_pos rfl]
  · by_cases q : s = u
    · rw [if_pos q]
      exact ⟨[], keep _ _ (ne_of hl1 A1.dict (fun q => nomatch q)) hl1, .nil⟩
    · rw [if_neg q]
      obtain ⟨ts, h1, h2⟩ := A1.lst s ((List.mem_append.mp hs).resolve_right (fun z => q (List.mem_singleton.mp z)))
      refine ⟨ts, keep _ _ (ne_of h1 A1.dict (fun q => nomatch q)) h1, ?_⟩
      cases h2; exact .nil
  · by_cases q : s = u
    · by_cases q2 : v = u
      · rw [q, q2]
      · rw [if_pos q, if_neg q2] at e
        exact (hloc v ((List.mem_append.mp hv).resolve_right (fun z => q2 (List.mem_singleton.mp z))) e.symm).elim
    · have hs2 := (List.mem_append.mp hs).resolve_right (fun z => q (List.mem_singleton.mp z))
      by_cases q2 : v = u
      · rw [if_neg q, if_pos q2] at e
        exact (hloc s hs2 e).elim
      · rw [if_neg q, if_neg q2] at e
        exact A.inj s v hs2 ((List.mem_append.mp hv).resolve_right (fun z => q2 (List.mem_singleton.mp z))) e
theorem st_at {l : List Nat} {i : Nat} (h : i < l.length) : (st l).cps.toList[i]? = some (l.getD i 0) := by
  unfold st
  rw [List.getD_eq_getElem?_getD, List.getElem?_eq_getElem h]
  simp [h]
def rimAdj (adj : Sq → List Sq) (n y i : Nat) : Sq → List Sq := if i = 0 then adj else if i = 1 then link adj (0, y - 1) (0, y) else lRim adj n y
theorem corner_in {n last x y : Nat} (hx : x < n) (hy : y ≤ last) : ∀ k, corner x y k ∈ sqs n last := fun k => by
  rw [mem_sqs]
  unfold corner
  split
  · exact ⟨by show x - 1 < n; omega, by show y - 1 ≤ last; omega⟩
  · split
    · exact ⟨hx, by show y - 1 ≤ last; omega⟩
    · split
      · exact ⟨by show x - 1 < n; omega, hy⟩
      · exact ⟨hx, hy⟩
abbrev s__law_links : Stmt := top 39
theorem sc__law_links : FnScope ["_law_top", "_law_rows_here", "_law_links_here", "_law_j", "_law_i", "_law_r", "_law_y", "_law_k"] ["_law_top", "_law_rows_here"] (defScope s__law_links) := ⟨rfl, rfl, rfl, by decide +kernel, rfl, by decide +kernel, by decide +kernel⟩
def spLinks (K : PySem.W.Frag) : Sp := fun vs H Q _ => ∃ (tp rp : Addr) (top : List Nat) (rs : List Row) (w : Nat), vs = [.ref tp, .ref rp] ∧ SqL K H tp (nl top) ∧ RowsAt K H rp rs ∧ top.length = 2 * w ∧ (∀ i, i < 2 * w → top.getD i 0 < 2 * w) ∧ 0 < w ∧ w ≤ 4 ∧ (∀ r, r ∈ rs → RowOk w r) ∧ rs.length ≤ 20 ∧
  ∀ d loc n H', H d = none → n ≤ 900 → LinksAt H d (sqs (2 * w) (2 * rs.length)) (lRows (2 * w) 0 (lTop top (2 * w)) rs) loc n H' → Q (.ref d) H'
section
variable {P : Program} {w : World} {K : PySem.W.Frag} {mg : Str → Option Value} {base : Heap}
theorem ok_law_links {f f1 : Addr} {fd fd1 : FuncData} (F : Fun K "_law_links" "_law_links" s__law_links f fd) (T : Glob mg)
    (c__law_point : Cal K mg "_law_point" f1 fd1 ["_law_links_here", "_law_x", "_law_y", "_law_char"]) (G__law_point : FnOk P w K mg base CX0 1 f1 fd1 ["_law_links_here", "_law_x", "_law_y", "_law_char"] spLawPoint) : FnOk P w K mg base CX0 2 f fd ["_law_top", "_law_rows_here"] (spLinks K) := by
  refine F.ok sc__law_links (fun vs H Q E h => ?_) (fun cdv A outer s H vs Q E hr h => ?_)
  · obtain ⟨tp, rp, top, rs, wd, rfl, _⟩ := h
    rfl
  · obtain ⟨tp, rp, top, rs, wd, rfl, hS, ⟨vr, hrp, hrs⟩, hlt, htop, w0, w4, hok, hlen, k⟩ := h
    have hu := hu_of hr
    have hr__law_point : Room 1 _ := hr
    refine ⟨_, (pss_cons (ps_set (i := 2) sc__law_links.nd rfl (Or.inl rfl) pe_dnewT)
      (pss_cons (ps_for PassesOwn.never rfl (pi_range1 (by rfl) T.range (pa_cons (pe_op op_add (pe_op op_mul pe_int (pe_callB call_len_seq (by rfl) T.len PySem.boot_len (pa_cons (pv 1) pa_nil))) pe_int) pa_nil)) (pg_name (i := 3) sc__law_links.nd rfl (Or.inl rfl)) (pss_one (ps_for PassesOwn.never rfl (pi_range1 (by rfl) T.range (pa_cons (pe_callB call_len_seq (by rfl) T.len PySem.boot_len (pa_cons (pv 0) pa_nil)) pa_nil)) (pg_name (i := 4) sc__law_links.nd rfl (Or.inl rfl)) (pss_one (ps_dput hu (pv 2) (pe_tup (pa_cons (pv 4) (pa_cons (pv 3) pa_nil))) (pe_lst pa_nil) rfl)))))
      (pss_cons (ps_for PassesOwn.never rfl (pi_range1 (by rfl) T.range (pa_cons (pe_callB call_len_seq (by rfl) T.len PySem.boot_len (pa_cons (pv 0) pa_nil)) pa_nil)) (pg_name (i := 4) sc__law_links.nd rfl (Or.inl rfl)) (pss_one (ps_expr (pe_bm PySem.F.plainAttrs_list PySem.F.slot_list_append PySem.F.type_list_append mt_append (pe_dget hu (pv 2) (pe_tup (pa_cons (pv 4) (pa_cons pe_int pa_nil))) (fun _ _ => rfl)) (pa_cons (pe_tup (pa_cons (pe_ix ix_list (pv 0) (pv 4) (fun _ _ => rfl)) (pa_cons pe_int pa_nil))) pa_nil)))))
      (pss_cons (ps_for PassesOwn.never rfl (pi_range1 (by rfl) T.range (pa_cons (pe_callB call_len_seq (by rfl) T.len PySem.boot_len (pa_cons (pv 1) pa_nil)) pa_nil)) (pg_name (i := 5) sc__law_links.nd rfl (Or.inl rfl)) (pss_cons (ps_set (i := 6) sc__law_links.nd rfl (Or.inl rfl) (pe_op op_add (pe_op op_mul pe_int (pv 5)) pe_int))
      (pss_cons (ps_for PassesOwn.never rfl (pi_list (pe_lst (pa_cons pe_int (pa_cons (pe_op op_sub (pe_callB call_len_seq (by rfl) T.len PySem.boot_len (pa_cons (pv 0) pa_nil)) pe_int) pa_nil)))) (pg_name (i := 4) sc__law_links.nd rfl (Or.inl rfl)) (pss_cons (ps_expr (pe_bm PySem.F.plainAttrs_list PySem.F.slot_list_append PySem.F.type_list_append mt_append (pe_dget hu (pv 2) (pe_tup (pa_cons (pv 4) (pa_cons (pe_op op_sub (pv 6) pe_int) pa_nil))) (fun _ _ => rfl)) (pa_cons (pe_tup (pa_cons (pv 4) (pa_cons (pv 6) pa_nil))) pa_nil)))
      (pss_one (ps_expr (pe_bm PySem.F.plainAttrs_list PySem.F.slot_list_append PySem.F.type_list_append mt_append (pe_dget hu (pv 2) (pe_tup (pa_cons (pv 4) (pa_cons (pv 6) pa_nil))) (fun _ _ => rfl)) (pa_cons (pe_tup (pa_cons (pv 4) (pa_cons (pe_op op_sub (pv 6) pe_int) pa_nil))) pa_nil))))))
      (pss_cons (ps_for PassesOwn.never rfl (pi_range1 (by rfl) T.range (pa_cons (pe_callB call_len_str (by rfl) T.len PySem.boot_len (pa_cons (pe_ix ix_tup (pe_ix ix_list (pv 1) (pv 5) (fun _ _ => rfl)) pe_int (fun _ _ => rfl)) pa_nil)) pa_nil)) (pg_name (i := 7) sc__law_links.nd rfl (Or.inl rfl)) (pss_one (ps_expr (pe_call G__law_point hr__law_point rfl c__law_point.mg c__law_point.kp c__law_point.b .nil pass0 (pa_cons (pv 2) (pa_cons (pe_op op_add (pe_op op_mul pe_int (pv 7)) pe_int) (pa_cons (pv 6) (pa_cons (pe_ix ix_str (pe_ix ix_tup (pe_ix ix_list (pv 1) (pv 5) (fun _ _ => rfl)) pe_int (fun _ _ => rfl)) (pv 7) (fun _ _ => rfl)) pa_nil))))))))
      (pss_one (ps_for PassesOwn.never rfl (pi_range1 (by rfl) T.range (pa_cons (pe_callB call_len_str (by rfl) T.len PySem.boot_len (pa_cons (pe_ix ix_tup (pe_ix ix_list (pv 1) (pv 5) (fun _ _ => rfl)) pe_int (fun _ _ => rfl)) pa_nil)) pa_nil)) (pg_name (i := 7) sc__law_links.nd rfl (Or.inl rfl)) (pss_one (ps_expr (pe_call G__law_point hr__law_point rfl c__law_point.mg c__law_point.kp c__law_point.b .nil pass0 (pa_cons (pv 2) (pa_cons (pe_op op_add (pe_op op_mul pe_int (pv 7)) pe_int) (pa_cons (pe_op op_add (pv 6) pe_int) (pa_cons (pe_ix ix_str (pe_ix ix_tup (pe_ix ix_list (pv 1) (pv 5) (fun _ _ => rfl)) pe_int (fun _ _ => rfl)) (pv 7) (fun _ _ => rfl)) pa_nil)))))))))))))
      (pss_one (ps_ret (pv 2))))))), ?_⟩
    intro d hd
    have A0 : LinksAt H d (sqTo (2 * wd) 0) (fun _ => []) (fun _ => 0) 0 (upd H d (.dT [])) :=
      ⟨Same.new (Same.refl H) hd, (fun s h => nomatch h), upd_same, (fun s h => nomatch h), (fun s _ h => nomatch h), (fun s t h => nomatch h), fun s => Nat.le_refl _⟩
    have elen : (nl top).length = 2 * wd := by rw [nl_len, hlt]
    -- the squares
    refine ⟨_, rfl, rp, vr, rfl, .inl (A0.step (Same.refl _) |>.same.seq hrp), _, _, rfl, rfl, .inl ⟨by decide, by decide⟩, _, _, rfl, rfl, _, rfl, ?_⟩
    rw [pd_len hrs]
    refine ⟨by omega, by omega, for_range (fun j σ H' => ∃ loc v3 v4, σ = [some (.ref tp), some (.ref rp), some (.ref d), v3, v4, none, none, none] ∧ LinksAt H d (sqTo (2 * wd) j) (fun _ => []) loc 0 H') ⟨_, none, none, rfl, A0⟩ ?_ ?_⟩
    · rintro j σ H1 hj ⟨loc, v3, v4, rfl, A1⟩
      refine ⟨_, rfl, tp, _, rfl, .inl (A1.same.seq hS), _, rfl, ?_⟩
      rw [elen]
      refine ⟨by omega, by omega, for_range (fun i σ H' => ∃ loc v4, σ = [some (.ref tp), some (.ref rp), some (.ref d), some (.int (j : Int)), v4, none, none, none] ∧ LinksAt H d (sqIn (2 * wd) j i) (fun _ => []) loc 0 H')
        ⟨loc, v4, by rw [Int.zero_add]; rfl, by rw [sqIn_zero]; exact A1⟩ ?_ ?_⟩
      · rintro i σ H2 hi ⟨loc, v4, rfl, A2⟩
        refine ⟨Nat.zero_le _, fun l hl => ⟨_, rfl, _, rfl, _, rfl, by show 2 ≤ sizeLine; decide, fun b hb => ?_⟩⟩
        have s2 := Same.new (o := .lst []) (Same.refl H2) hl
        have s3 := Same.new (o := .tup [.int (0 + (i : Int)), .int (j : Int)]) s2 hb
        have hi : i < 2 * wd := hi
        have hj : j < 2 * rs.length + 1 := by omega
        have A3 := A2.more hd (u := (i, j)) out_sqIn hl s3 (by rw [upd_ne (ne_of_none upd_same hb), upd_same])
        rw [← sqIn_succ] at A3
        refine ⟨d, _, rfl, DPut.t (k := kq (i, j)) (s3 _ _ A2.dict) (by rw [upd_same, Int.zero_add]; rfl) ?_, ?_⟩
        · unfold lkv
          rw [List.length_map, sqIn_len]
          have : j * (2 * wd) ≤ 40 * 8 := Nat.mul_le_mul (by omega) (by omega)
          exact Nat.lt_of_le_of_lt (show _ ≤ 1000 by omega) (by decide)
        · exact ⟨_, _, rfl, A3⟩
      · rintro σ H2 ⟨loc, v4, rfl, A2⟩
        exact ⟨loc, _, v4, rfl, by rw [sqTo_succ]; exact A2⟩
    · rintro σ H1 ⟨loc, v3, v4, rfl, A1⟩
      have ej : ((2 : Int) * (rs.length : Int) + 1).toNat = 2 * rs.length + 1 := by omega
      rw [ej, ← sqs_to] at A1
      have hin : ∀ {i j : Nat}, i < 2 * wd → j ≤ 2 * rs.length → ((i, j) : Sq) ∈ sqs (2 * wd) (2 * rs.length) := fun h1 h2 => mem_sqs.mpr ⟨h1, h2⟩
      -- the top
      refine ⟨_, rfl, tp, _, rfl, .inl (A1.same.seq hS), _, rfl, ?_⟩
      rw [elen]
      refine ⟨by omega, by omega, for_range (fun i σ H' => ∃ v4, σ = [some (.ref tp), some (.ref rp), some (.ref d), v3, v4, none, none, none] ∧ LinksAt H d (sqs (2 * wd) (2 * rs.length)) (lTop top i) loc i H')
        ⟨v4, rfl, A1⟩ ?_ ?_⟩
      · rintro i σ H2 hi ⟨v4, rfl, A2⟩
        have hi : i < 2 * wd := hi
        obtain ⟨ts, hts, hpd⟩ := A2.lst _ (hin (i := i) (j := 0) hi (Nat.zero_le _))
        have few := A2.few (i, 0)
        refine ⟨_, rfl, _, rfl, by show 2 ≤ sizeLine; decide, fun b hb => ?_⟩
        have A3 := A2.step (Same.new (o := .tup [.int (0 + (i : Int)), .int 0]) (Same.refl H2) hb)
        have s3 := Same.new (o := .tup [.int (0 + (i : Int)), .int 0]) (Same.refl H2) hb
        refine ⟨d, _, rfl, A3.get (u := (i, 0)) (hin hi (Nat.zero_le _)) (by rw [upd_same, Int.zero_add]; rfl), ?_⟩
        refine ⟨.inl ⟨rfl, _, SqL.of (s3 _ _ hts)⟩, _, rfl, _, rfl, tp, _, _, _, rfl, rfl, A3.same.seq hS, (by rw [Int.zero_add]; exact nl_at (by omega)), by show 2 ≤ sizeLine; decide, fun t ht => ?_⟩
        have s4 := Same.new (o := .tup [.int ((top.getD i 0 : Nat) : Int), .int 0]) (Same.refl _) ht
        have A4 := A3.step s4
        refine ⟨_, _, _, rfl, rfl, s4 _ _ (s3 _ _ hts), small1000 (by rw [pd_len hpd]; omega), ?_⟩
        exact ⟨_, rfl, A4.putL (hin hi (Nat.zero_le _)) (v := (top.getD i 0, 0)) (hin (htop i hi) (Nat.zero_le _)) upd_same (s4 _ _ (s3 _ _ hts))⟩
      · rintro σ H2 ⟨v4, rfl, A2⟩
        -- the rows
        refine ⟨_, rfl, rp, vr, rfl, .inl (A2.same.seq hrp), _, rfl, ?_⟩
        rw [pd_len hrs]
        refine ⟨by omega, by omega, for_range (fun r σ H' => ∃ v4 v5 v6 v7, σ = [some (.ref tp), some (.ref rp), some (.ref d), v3, v4, v5, v6, v7] ∧ LinksAt H d (sqs (2 * wd) (2 * rs.length)) (lRows (2 * wd) 0 (lTop top (2 * wd)) (rs.take r)) loc (2 * wd + 32 * r) H')
          ⟨_, _, _, _, rfl, A2⟩ ?_ ?_⟩
        · rintro r σ H3 hr ⟨v4, v5, v6, v7, rfl, A3⟩
          have hr : r < rs.length := hr
          have ey : (2 : Int) * (0 + (r : Int)) + 1 = ((2 * r + 1 : Nat) : Int) := by omega
          have ey1 : ((2 * r + 1 : Nat) : Int) - 1 = ((2 * r : Nat) : Int) := by omega
          have ey2 : ((2 * r + 1 : Nat) : Int) + 1 = ((2 * r + 2 : Nat) : Int) := by omega
          have ewd : ((2 * wd : Nat) : Int) - 1 = ((2 * wd - 1 : Nat) : Int) := by omega
          have hR : RowOk wd (rs.getD r ([], [])) := hok _ (mem_getD hr)
          have l1 := hR.l1
          have l2 := hR.l2
          obtain ⟨adj, hadj⟩ : ∃ adj, lRows (2 * wd) 0 (lTop top (2 * wd)) (rs.take r) = adj := ⟨_, rfl⟩
          rw [hadj] at A3
          refine ⟨_, rfl, _, _, rfl, rfl, .inl ⟨by decide, by decide⟩, _, _, rfl, rfl, ?_⟩
          dsimp only
          rw [ey]
          -- the rim
          refine ⟨_, rfl, tp, _, rfl, .inl (A3.same.seq hS), ?_⟩
          rw [elen]
          refine ⟨_, _, rfl, rfl, by show 2 ≤ sizeLine; decide, fun il hil => ?_⟩
          dsimp only
          rw [ewd]
          have s4 := Same.new (o := .lst [.int 0, .int ((2 * wd - 1 : Nat) : Int)]) (Same.refl H3) hil
          have A4 := A3.step s4
          have hno : ∀ s, s ∈ sqs (2 * wd) (2 * rs.length) → il ≠ loc s := fun s hs z => by
            obtain ⟨ts, h, _⟩ := A3.lst s hs
            rw [z, h] at hil; cases hil
          refine ⟨il, rfl, ⟨_, SqL.of upd_same⟩, for_list (K := K) (D := { nx := _, rt := _ }) (a := il) (xs := [.int 0, .int ((2 * wd - 1 : Nat) : Int)]) (fun i σ H' => ∃ v4, σ = [some (.ref tp), some (.ref rp), some (.ref d), v3, v4, some (.int (0 + (r : Int))), some (.int ((2 * r + 1 : Nat) : Int)), v7] ∧
              LinksAt H d (sqs (2 * wd) (2 * rs.length)) (rimAdj adj (2 * wd) (2 * r + 1) i) loc (2 * wd + 32 * r + 2 * i) H' ∧ H' il = some (.lst [.int 0, .int ((2 * wd - 1 : Nat) : Int)]))
            ⟨v4, rfl, A4, upd_same⟩ (fun i σ H' _ ⟨_, _, _, h⟩ => SqL.of h) ?_ ?_⟩
          · rintro i v σ H5 hi ⟨v4, rfl, A5, hl5⟩
            obtain ⟨q, rfl, hq, hstep, hi2⟩ : ∃ q : Nat, v = .int (q : Int) ∧ q < 2 * wd ∧ rimAdj adj (2 * wd) (2 * r + 1) (i + 1) = link (rimAdj adj (2 * wd) (2 * r + 1) i) (q, 2 * r) (q, 2 * r + 1) ∧ i < 2 := by
              match i, hi with
              | 0, hi => exact ⟨0, (Option.some.inj hi).symm, by omega, rfl, by decide⟩
              | 1, hi => exact ⟨2 * wd - 1, (Option.some.inj hi).symm, by omega, rfl, by decide⟩
            have in1 : ((q, 2 * r) : Sq) ∈ sqs (2 * wd) (2 * rs.length) := hin hq (by omega)
            have in2 : ((q, 2 * r + 1) : Sq) ∈ sqs (2 * wd) (2 * rs.length) := hin hq (by omega)
            -- above: to the one below
            refine ⟨_, rfl, _, rfl, _, rfl, _, _, rfl, rfl, by show 2 ≤ sizeLine; decide, fun b hb => ?_⟩
            dsimp only
            rw [ey1]
            have s6 := Same.new (o := .tup [.int (q : Int), .int ((2 * r : Nat) : Int)]) (Same.refl H5) hb
            have A6 := A5.step s6
            obtain ⟨ts, hts, hpd⟩ := A6.lst _ in1
            have few := A6.few (q, 2 * r)
            refine ⟨d, _, rfl, A6.get (u := (q, 2 * r)) in1 upd_same, .inl ⟨rfl, _, SqL.of hts⟩, _, rfl, _, rfl, by show 2 ≤ sizeLine; decide, fun t ht => ?_⟩
            have s7 := Same.new (o := .tup [.int (q : Int), .int ((2 * r + 1 : Nat) : Int)]) (Same.refl _) ht
            have A7 := A6.step s7
            refine ⟨_, _, _, rfl, rfl, s7 _ _ hts, small1000 (by rw [pd_len hpd]; omega), ?_⟩
            have A8 := A7.putL in1 (v := (q, 2 * r + 1)) in2 upd_same (s7 _ _ hts)
            have hl8 := s7 _ _ (s6 _ _ hl5)
            have hl9 := fun o => (upd_ne (o := o) (hno _ in1)).trans hl8
            -- below: to the one above
            refine ⟨_, rfl, _, rfl, _, rfl, by show 2 ≤ sizeLine; decide, fun b2 hb2 => ?_⟩
            have s9 := Same.new (o := .tup [.int (q : Int), .int ((2 * r + 1 : Nat) : Int)]) (Same.refl _) hb2
            have A9 := A8.step s9
            obtain ⟨ts2, hts2, hpd2⟩ := A9.lst _ in2
            have few2 := A9.few (q, 2 * r + 1)
            refine ⟨d, _, rfl, A9.get (u := (q, 2 * r + 1)) in2 upd_same, .inl ⟨rfl, _, SqL.of hts2⟩, _, rfl, _, rfl, _, _, rfl, rfl, by show 2 ≤ sizeLine; decide, fun t2 ht2 => ?_⟩
            dsimp only
            rw [ey1]
            have sA := Same.new (o := .tup [.int (q : Int), .int ((2 * r : Nat) : Int)]) (Same.refl _) ht2
            have AA := A9.step sA
            refine ⟨_, _, _, rfl, rfl, sA _ _ hts2, small1000 (by rw [pd_len hpd2]; omega), ?_⟩
            have AB := AA.putL in2 (v := (q, 2 * r)) in1 upd_same (sA _ _ hts2)
            exact ⟨_, rfl, by rw [hstep]; exact AB, by rw [upd_ne (hno _ in2)]; exact sA _ _ (s9 _ _ (hl9 _))⟩
          · rintro σ H5 ⟨v4, rfl, A5, hl5⟩
            obtain ⟨tr, hat, htr⟩ := pd_at (pd_same A5.same hrs) hr
            refine ⟨_, rfl, _, rfl, rp, _, _, _, rfl, rfl, A5.same.seq hrp, at_of (Int.zero_add _) hat, tr, _, _, _, rfl, rfl, htr, at_of (j := 0) rfl rfl, _, rfl, sz1000 (by rw [st_len]; omega), _, rfl, ?_⟩
            rw [st_len]
            refine ⟨by omega, by omega, for_range (fun k σ H' => ∃ v7, σ = [some (.ref tp), some (.ref rp), some (.ref d), v3, v4, some (.int (0 + (r : Int))), some (.int ((2 * r + 1 : Nat) : Int)), v7] ∧ LinksAt H d (sqs (2 * wd) (2 * rs.length)) (lLevel (lRim adj (2 * wd) (2 * r + 1)) 2 (2 * r + 1) ((rs.getD r ([], [])).1.take k)) loc (2 * wd + 32 * r + 4 + 4 * k) H')
              ⟨_, rfl, A5⟩ ?_ ?_⟩
            · rintro k2 σ H6 hk ⟨v7, rfl, A6⟩
              have hk : k2 < (rs.getD r ([], [])).1.length := hk
              obtain ⟨tr6, hat6, htr6⟩ := pd_at (pd_same A6.same hrs) hr
              have ek : (2 : Int) * (0 + (k2 : Int)) + 2 = ((2 * k2 + 2 : Nat) : Int) := by omega
              refine ⟨_, rfl, _, rfl, _, _, rfl, rfl, .inl ⟨by decide, by decide⟩, _, _, rfl, rfl, _, rfl, _, rfl, _, rfl, rp, _, _, _, rfl, rfl, A6.same.seq hrp, at_of (Int.zero_add _) hat6, tr6, _, _, _, rfl, rfl, htr6, at_of (j := 0) rfl rfl, _, rfl, _, _, _, rfl, rfl, sz1000 (by rw [st_len]; omega), (by rw [Int.zero_add]; exact atI_nat (st_at hk)), ?_⟩
              refine ⟨H, d, _, _, loc, _, 2 * k2 + 2, 2 * r + 1, _, by dsimp only; rw [ek]; rfl, A6, by omega, by omega, corner_in (by omega) (by omega), by omega, fun H7 A7 => ?_⟩
              have et : (rs.getD r ([], [])).1.take (k2 + 1) = (rs.getD r ([], [])).1.take k2 ++ [(rs.getD r ([], [])).1.getD k2 0] := take_getD (by omega)
              refine ⟨_, rfl, ?_⟩
              rw [et, lLevel_snoc]
              have e5 : 2 + 2 * ((rs.getD r ([], [])).1.take k2).length = 2 * k2 + 2 := by rw [List.length_take]; omega
              have e6 : 2 * wd + 32 * r + 4 + 4 * (k2 + 1) = 2 * wd + 32 * r + 4 + 4 * k2 + 4 := by omega
              rw [e5, e6]
              exact A7
            · rintro σ H6 ⟨v7, rfl, A6⟩
              rw [Int.toNat_natCast, List.take_length] at A6
              obtain ⟨tr8, hat8, htr8⟩ := pd_at (pd_same A6.same hrs) hr
              refine ⟨_, rfl, _, rfl, rp, _, _, _, rfl, rfl, A6.same.seq hrp, at_of (Int.zero_add _) hat8, tr8, _, _, _, rfl, rfl, htr8, at_of (j := 1) rfl rfl, _, rfl, sz1000 (by rw [st_len]; omega), _, rfl, ?_⟩
              rw [st_len]
              refine ⟨by omega, by omega, for_range (fun k σ H' => ∃ v7, σ = [some (.ref tp), some (.ref rp), some (.ref d), v3, v4, some (.int (0 + (r : Int))), some (.int ((2 * r + 1 : Nat) : Int)), v7] ∧ LinksAt H d (sqs (2 * wd) (2 * rs.length)) (lLevel (lLevel (lRim adj (2 * wd) (2 * r + 1)) 2 (2 * r + 1) (rs.getD r ([], [])).1) 1 (2 * r + 2) ((rs.getD r ([], [])).2.take k)) loc (2 * wd + 32 * r + 4 + 4 * (rs.getD r ([], [])).1.length + 4 * k) H')
                ⟨_, rfl, A6⟩ ?_ ?_⟩
              · rintro k2 σ H8 hk ⟨v7, rfl, A8⟩
                have hk : k2 < (rs.getD r ([], [])).2.length := hk
                obtain ⟨tr9, hat9, htr9⟩ := pd_at (pd_same A8.same hrs) hr
                have ek : (2 : Int) * (0 + (k2 : Int)) + 1 = ((2 * k2 + 1 : Nat) : Int) := by omega
                refine ⟨_, rfl, _, rfl, _, _, rfl, rfl, .inl ⟨by decide, by decide⟩, _, _, rfl, rfl, _, rfl, _, _, rfl, rfl, _, rfl, _, rfl, rp, _, _, _, rfl, rfl, A8.same.seq hrp, at_of (Int.zero_add _) hat9, tr9, _, _, _, rfl, rfl, htr9, at_of (j := 1) rfl rfl, _, rfl, _, _, _, rfl, rfl, sz1000 (by rw [st_len]; omega), (by rw [Int.zero_add]; exact atI_nat (st_at hk)), ?_⟩
                refine ⟨H, d, _, _, loc, _, 2 * k2 + 1, 2 * r + 2, _, by dsimp only; rw [ek]; rw [ey2]; rfl, A8, by omega, by omega, corner_in (by omega) (by omega), by omega, fun H7 A7 => ?_⟩
                have et : (rs.getD r ([], [])).2.take (k2 + 1) = (rs.getD r ([], [])).2.take k2 ++ [(rs.getD r ([], [])).2.getD k2 0] := take_getD (by omega)
                refine ⟨_, rfl, ?_⟩
                rw [et, lLevel_snoc]
                have e5 : 1 + 2 * ((rs.getD r ([], [])).2.take k2).length = 2 * k2 + 1 := by rw [List.length_take]; omega
                have e6 : 2 * wd + 32 * r + 4 + 4 * (rs.getD r ([], [])).1.length + 4 * (k2 + 1) = 2 * wd + 32 * r + 4 + 4 * (rs.getD r ([], [])).1.length + 4 * k2 + 4 := by omega
                rw [e5, e6]
                exact A7
              · rintro σ H8 ⟨v7, rfl, A8⟩
                rw [Int.toNat_natCast, List.take_length] at A8
                have et : rs.take (r + 1) = rs.take r ++ [rs.getD r ([], [])] := take_getD (by omega)
                refine ⟨_, _, _, _, rfl, ?_⟩
                rw [et, lRows_snoc, hadj]
                have e7 : 0 + (rs.take r).length = r := by rw [List.length_take]; omega
                rw [e7]
                exact A8.le (by omega)
        · rintro σ H3 ⟨v4, v5, v6, v7, rfl, A3⟩
          have e9 : ((rs.length : Int)).toNat = rs.length := by omega
          rw [e9, List.take_length] at A3
          exact ⟨_, rfl, k d loc _ H3 hd (by omega) A3⟩
end
end Sand
/-! ## PAlong -/
set_option Elab.async false
set_option linter.all false
set_option maxRecDepth 100000
set_option maxHeartbeats 8000000
namespace L2
open PySem PySem.Spec PyProof.Rows
/-- len of a dict with tuples as keys, locked or not -/
def rLenR : List V → Hp → VK → Prop := fun xs H Q => ∃ (p : Addr) (kvs : List (List Key × V)), xs = [.ref p] ∧ Rd H p (.dT kvs) ∧ Q (.int ((kvs.length : Nat) : Int)) H
theorem call_len_dR {X : Cx} : CallR X (.builtin "len") rLenR := by
  intro pins s σ H xs us Q I r h
  obtain ⟨p, kvs, rfl, hp, q⟩ := h
  obtain ⟨u, rfl, rx⟩ := vals1 r
  obtain rfl : u = .ref p := rx
  obtain ⟨z, hd, ys, rel, dd⟩ := dt_rd I.hok hp
  have hl : kvs.length = ys.length := Paired.length rel
  refine call_len_dictH hd dd (by rw [← hl]; rw [sizeLine_eq] at z; omega) ?_
  rw [← hl]
  exact ⟨.int ((kvs.length : Nat) : Int), H, I.tok _, ⟨_, rfl⟩, q⟩
end L2
namespace Sand
open PySem L2
/-! ### lists of squares as data -/
def sqD (s : Sq) : PyData := .tuple [.int (s.1 : Int), .int (s.2 : Int)]
theorem dp_sq {K : PySem.W.Frag} {H : Hp} : ∀ {vs : List V} {ss : List Sq}, Paired (SqV H) vs ss → DpAll K H vs (ss.map sqD)
  | _, _, .nil => .nil
  | _, _, .cons ⟨t, e, h⟩ r => by
    subst e
    exact .cons (.tup (SqT.of h) (.cons (.int _) (.cons (.int _) .nil))) (dp_sq r)
theorem lay_sq : ∀ ss : List Sq, PyData.canLayAll0 (ss.map sqD) = true
  | [] => rfl
  | s :: ss => by
    rw [List.map_cons]
    show (PyData.canLayAll0 [PyData.int (s.1 : Int), PyData.int (s.2 : Int)] && PyData.canLayAll0 (ss.map sqD)) = true
    rw [lay_sq ss]; rfl
theorem depth_sq : ∀ ss : List Sq, PyData.depthAll (ss.map sqD) ≤ 1
  | [] => Nat.zero_le _
  | s :: ss => by
    rw [List.map_cons]
    show max 1 (PyData.depthAll (ss.map sqD)) ≤ 1
    have := depth_sq ss
    omega
theorem shaped_sq (ss : List Sq) : SeqAt.shaped (.list (ss.map sqD)) = true := by
  show (PyData.canLayAll0 (ss.map sqD) && decide (PyData.depthAll (ss.map sqD) + 1 ≤ 64)) = true
  have := depth_sq ss
  rw [lay_sq, decide_eq_true (show PyData.depthAll (ss.map sqD) + 1 ≤ 64 by omega)]; rfl
theorem eqv_sq : ∀ ss : List Sq, PyData.eqv (.list (ss.map sqD)) (.list []) = decide (ss = [])
  | [] => by rw [PyData.eqv]; simp [PyData.eqvAll]
  | s :: ss => by rw [PyData.eqv]; simp [PyData.eqvAll]
/-! ### plain: what along keeps -/
def notIn (l : List Sq) (u : Sq) : Bool := !decide (u ∈ l)
theorem notIn_t {l : List Sq} {u : Sq} : notIn l u = true ↔ u ∉ l := by
  unfold notIn
  by_cases h : u ∈ l
  · rw [decide_eq_true h]; exact ⟨(fun z => nomatch z), fun z => absurd h z⟩
  · rw [decide_eq_false h]; exact ⟨fun _ => h, fun _ => rfl⟩
theorem notIn_any {l : List Sq} {u : Sq} (inst : Decidable (u ∉ l)) : @decide _ inst = notIn l u := by
  unfold notIn
  by_cases h : u ∈ l
  · rw [decide_eq_true h]; exact decide_eq_false (fun z => z h)
  · rw [decide_eq_false h]; exact decide_eq_true h
def alPick (adj : Sq → List Sq) (k : Nat) (s : Sq) (seen : List Sq) : List Sq → Sq × List Sq
  | [] => (s, seen ++ [s])
  | t :: _ => along adj k t (seen ++ [s])
theorem along_succ (adj : Sq → List Sq) (k : Nat) (s : Sq) (seen : List Sq) : along adj (k + 1) s seen = alPick adj k s seen ((adj s).filter (notIn (seen ++ [s]))) := by
  rw [along]
  split
  · rename_i e
    rw [(List.filter_congr fun u _ => (notIn_any _).symm).trans e]; rfl
  · rename_i t r e
    rw [(List.filter_congr fun u _ => (notIn_any _).symm).trans e]; rfl
theorem along_seen {adj : Sq → List Sq} {L : List Sq} (hcl : ∀ s t, t ∈ adj s → t ∈ L) : ∀ (k : Nat) (s : Sq) (seen : List Sq), s ∈ L → s ∉ seen → seen.Nodup → (∀ v, v ∈ seen → v ∈ L) →
    (along adj k s seen).1 ∈ L ∧ (along adj k s seen).2.Nodup ∧ ∀ v, v ∈ (along adj k s seen).2 → v ∈ L
  | 0, s, seen, hs, hn, hd, hL => ⟨hs, hd, hL⟩
  | k + 1, s, seen, hs, hn, hd, hL => by
    have hd2 : (seen ++ [s]).Nodup := List.nodup_append.mpr ⟨hd, by simp, fun a ha b hb e => hn (by rw [← List.mem_singleton.mp hb, ← e]; exact ha)⟩
    have hL2 : ∀ v, v ∈ seen ++ [s] → v ∈ L := fun v hv => by
      rcases List.mem_append.mp hv with h | h
      · exact hL v h
      · rw [List.mem_singleton.mp h]; exact hs
    rw [along_succ]
    cases e : (adj s).filter (notIn (seen ++ [s])) with
    | nil => exact ⟨hs, hd2, hL2⟩
    | cons t r =>
      have ht : t ∈ (adj s).filter (notIn (seen ++ [s])) := by rw [e]; exact List.mem_cons_self
      obtain ⟨h1, h2⟩ := List.mem_filter.mp ht
      exact along_seen hcl k t (seen ++ [s]) (hcl s t h1) (notIn_t.mp h2) hd2 hL2
def SeenAt (H : Hp) (d : Addr) (seen : List Sq) : Prop := H d = some (.dT (seen.map fun s => (kq s, V.bl true)))
theorem SeenAt.get {H : Hp} {d : Addr} {seen : List Sq} (h : SeenAt H d seen) {u : Sq} {b : Addr} (hb : H b = some (.tup (sqT u))) : ∃ o, DGet H d (.ref b) o ∧ (!o.isSome) = notIn seen u := by
  unfold notIn
  refine ⟨_, DGet.t (k := kq u) h hb, ?_⟩
  by_cases q : u ∈ seen
  · rw [valV_in (f := fun _ => V.bl true) q, decide_eq_true q]; rfl
  · rw [valV_out (f := fun _ => V.bl true) q, decide_eq_false q]; rfl
theorem SeenAt.put {H : Hp} {d : Addr} {seen : List Sq} (h : SeenAt H d seen) {u : Sq} (hu : u ∉ seen) {b : Addr} (hb : H b = some (.tup (sqT u))) (hl : seen.length ≤ 900) :
    ∃ H', DPut H d (.ref b) (.bl true) H' ∧ SeenAt H' d (seen ++ [u]) ∧ ∀ o, H' = upd H d o ∨ True := by
  refine ⟨_, DPut.t (k := kq u) h hb (by rw [List.length_map]; exact small1000 (by omega)), ?_, fun _ => .inr trivial⟩
  unfold SeenAt
  rw [upd_same, putK_new _ (valV_out (f := fun _ => V.bl true) hu), List.map_append]; rfl
/-- the links as they are read, the dict locked or not -/
structure LinksR (d : Addr) (L : List Sq) (adj : Sq → List Sq) (loc : Sq → Addr) (n : Nat) (H : Hp) : Prop where
  dict : Rd H d (.dT (lkv L loc))
  lst : ∀ s, s ∈ L → ∃ ts, H (loc s) = some (.lst ts) ∧ Paired (SqV H) ts (adj s)
  cl : ∀ s t, t ∈ adj s → t ∈ L
  few : ∀ s, (adj s).length ≤ n
theorem LinksAt.rd {H0 H : Hp} {d : Addr} {L : List Sq} {adj : Sq → List Sq} {loc : Sq → Addr} {n : Nat} (A : LinksAt H0 d L adj loc n H) : LinksR d L adj loc n H := ⟨.inl A.dict, A.lst, A.cl, A.few⟩
theorem LinksR.step {H H' : Hp} {d : Addr} {L : List Sq} {adj : Sq → List Sq} {loc : Sq → Addr} {n : Nat} (A : LinksR d L adj loc n H) (s : Same H H') : LinksR d L adj loc n H' :=
  ⟨by
    rcases A.dict with h | ⟨o, h⟩
    · exact .inl (s _ _ h)
    · exact .inr ⟨o, s _ _ h⟩, fun u hu => let ⟨ts, h1, h2⟩ := A.lst u hu; ⟨ts, s _ _ h1, sqv_same s h2⟩, A.cl, A.few⟩
theorem LinksR.get {H : Hp} {d : Addr} {L : List Sq} {adj : Sq → List Sq} {loc : Sq → Addr} {n : Nat} (A : LinksR d L adj loc n H) {u : Sq} (hu : u ∈ L) {b : Addr} (hb : H b = some (.tup (sqT u))) : DGet H d (.ref b) (some (.ref (loc u))) :=
  .inr ⟨lkv L loc, kq u, b, A.dict, rfl, hb, (valV_in (f := fun s => V.ref (loc s)) hu).symm⟩
theorem LinksR.butD {H H' : Hp} {d ds : Addr} {L : List Sq} {adj : Sq → List Sq} {loc : Sq → Addr} {n : Nat} {kvs : List (List Key × V)} (A : LinksR d L adj loc n H) (k : But ds H H') (hd : H ds = some (.dT kvs)) (hn : ds ≠ d) : LinksR d L adj loc n H' :=
  ⟨by
    rcases A.dict with h | ⟨o, h⟩
    · exact .inl (k _ _ h (Ne.symm hn))
    · exact .inr ⟨o, k _ _ h (Ne.symm hn)⟩, fun s hs => by
    obtain ⟨ts, h1, h2⟩ := A.lst s hs
    exact ⟨ts, k _ _ h1 (ne_of h1 hd (fun z => nomatch z)), Paired.mapP h2 fun _ _ ⟨t, e, q⟩ => ⟨t, e, k _ _ q (ne_of q hd (fun z => nomatch z))⟩⟩, A.cl, A.few⟩
abbrev s__law_along : Stmt := top 40
theorem sc__law_along : FnScope ["_law_links_here", "_law_square", "_law_seen", "_law_k", "_law_more", "_law_near"] ["_law_links_here", "_law_square", "_law_seen"] (defScope s__law_along) := ⟨rfl, rfl, rfl, by decide +kernel, rfl, by decide +kernel, by decide +kernel⟩
def spAlong : Sp := fun vs H Q _ => ∃ (dl tq ds : Addr) (L : List Sq) (adj : Sq → List Sq) (loc : Sq → Addr) (n : Nat) (s : Sq) (seen : List Sq), vs = [.ref dl, .ref tq, .ref ds] ∧ LinksR dl L adj loc n H ∧ n ≤ 900 ∧ L.length ≤ 900 ∧
  H tq = some (.tup (sqT s)) ∧ s ∈ L ∧ s ∉ seen ∧ SeenAt H ds seen ∧ seen.Nodup ∧ (∀ v, v ∈ seen → v ∈ L) ∧ ds ≠ dl ∧
  ∀ tq' H', H' tq' = some (.tup (sqT (along adj L.length s seen).1)) → SeenAt H' ds (along adj L.length s seen).2 → But ds H H' → Q (.ref tq') H'
section
variable {P : Program} {w : World} {K : PySem.W.Frag} {mg : Str → Option Value} {base : Heap}
theorem ok_law_along {f : Addr} {fd : FuncData} (F : Fun K "_law_along" "_law_along" s__law_along f fd) (T : Glob mg) : FnOk P w K mg base CX0 1 f fd ["_law_links_here", "_law_square", "_law_seen"] spAlong := by
  refine F.ok sc__law_along (fun vs H Q E h => ?_) (fun cdv A outer s H vs Q E hr h => ?_)
  · obtain ⟨dl, tq, ds, L, adj, loc, n, s, seen, rfl, _⟩ := h
    rfl
  · obtain ⟨dl, tq, ds, L, adj, loc, n, s0, seen, rfl, A0, hn, hLn, htq, hs, hns, hse, hnd, hsL, hne, k⟩ := h
    have hu := hu_of hr
    refine ⟨_, (pss_cons (ps_for PassesOwn.never rfl (pi_range1 (by rfl) T.range (pa_cons (pe_callB call_len_dR (by rfl) T.len PySem.boot_len (pa_cons (pv 0) pa_nil)) pa_nil)) (pg_name (i := 3) sc__law_along.nd rfl (Or.inl rfl)) (pss_cons (ps_dput hu (pv 2) (pv 1) pe_bl rfl)
      (pss_cons (ps_setLc (i := 4) (own := [("_law_near", 5)]) (g := gName 5) (by rfl) sc__law_along.nd rfl rfl (sw_true rfl rfl rfl (by decide +kernel)) (pi_list (pe_dget hu (pv 0) (pv 1) (fun _ _ => rfl))) (blkOk_by (own := [("_law_near", 5)]) (N := ["_law_links_here", "_law_square", "_law_seen", "_law_k", "_law_more", "_law_near"]) (sc := defScope s__law_along) (by decide +kernel)) (fun _ _ _ _ _ => pg_name (i := 5) sc__law_along.nd rfl (Or.inl rfl)) (fun _ _ _ _ _ => (pts_one (pt_cmp (pc_dnotin hu (pv 5) (pv 2))))) (fun _ _ _ _ _ => (pv 5)))
      (pss_cons (ps_if (pt_cmpR (op_eqD hr.units) (pv 4) (pe_lst pa_nil) (nomark _)) (pss_one (ps_ret (pv 1))) pss_nil)
      (pss_one (ps_set (i := 1) sc__law_along.nd rfl (Or.inl rfl) (pe_ix ix_list (pv 4) pe_int (fun _ _ => rfl))))))))
      (pss_one (ps_ret (pv 1)))), ?_⟩
    have elk : (lkv L loc).length = L.length := by unfold lkv; rw [List.length_map]
    have hds0 := hse
    unfold SeenAt at hds0
    refine ⟨_, rfl, dl, _, rfl, A0.dict, _, rfl, ?_⟩
    rw [elk]
    refine ⟨by omega, by omega, for_range (fun i σ H' => ∃ (s : Sq) (sn : List Sq) (t : Addr) (v3 v4 v5 : Option V), σ = [some (.ref dl), some (.ref t), some (.ref ds), v3, v4, v5] ∧ H' t = some (.tup (sqT s)) ∧ SeenAt H' ds sn ∧ s ∈ L ∧ s ∉ sn ∧ sn.Nodup ∧ (∀ v, v ∈ sn → v ∈ L) ∧
        But ds H H' ∧ along adj L.length s0 seen = along adj (L.length - i) s sn)
      ⟨s0, seen, tq, none, none, none, rfl, htq, hse, hs, hns, hnd, hsL, But.refl ds H, rfl⟩ ?_ ?_⟩
    · rintro i σ H1 hi ⟨s, sn, t, v3, v4, v5, rfl, ht, hse1, hs1, hns1, hnd1, hsL1, b1, ea⟩
      have hi : i < L.length := hi
      have hfew : sn.length ≤ L.length := nodup_le hnd1 hsL1
      -- seen[square] = True
      refine ⟨_, rfl, _, rfl, ds, _, rfl, DPut.t (k := kq s) hse1 ht (by rw [List.length_map]; exact small1000 (by omega)), ?_⟩
      have hse2 : SeenAt (upd H1 ds (.dT (putK (sn.map fun s => (kq s, V.bl true)) (kq s) (.bl true)))) ds (sn ++ [s]) := by
        unfold SeenAt
        rw [upd_same, putK_new _ (valV_out (f := fun _ => V.bl true) hns1), List.map_append]; rfl
      have b2 : But ds H (upd H1 ds (.dT (putK (sn.map fun s => (kq s, V.bl true)) (kq s) (.bl true)))) := b1.upd
      have ht2 : upd H1 ds (.dT (putK (sn.map fun s => (kq s, V.bl true)) (kq s) (.bl true))) t = some (.tup (sqT s)) := by
        rw [upd_ne (ne_of ht hse1 (fun z => nomatch z))]; exact ht
      generalize upd H1 ds (.dT (putK (sn.map fun s => (kq s, V.bl true)) (kq s) (.bl true))) = H2 at *
      have A2 := A0.butD b2 hds0 hne
      obtain ⟨ts, hts, hpd⟩ := A2.lst s hs1
      -- more
      refine ⟨_, rfl, _, rfl, dl, _, rfl, A2.get hs1 ht2, loc s, rfl, ⟨_, SqL.of hts⟩, fun D hD => lc_list (K := K) (a := loc s) (xs := ts) (fun i H' => Same H2 H' ∧ ∃ acc, H' D = some (.lst acc) ∧ Paired (SqV H') acc (((adj s).take i).filter (notIn (sn ++ [s]))))
        ⟨Same.new (Same.refl H2) hD, [], upd_same, .nil⟩ (fun i H' _ ⟨s', _⟩ => SqL.of (s' _ _ hts)) ?_ ?_⟩
      · rintro j x H3 hx ⟨s3, acc, hD3, hacc⟩
        obtain ⟨u, hu1, tu, rfl, htu⟩ := pd_get hpd hx
        have htu3 := s3 _ _ htu
        obtain ⟨o, hg, ho⟩ := SeenAt.get (s3 _ _ hse2) htu3
        have ef : ((adj s).take (j + 1)).filter (notIn (sn ++ [s])) = ((adj s).take j).filter (notIn (sn ++ [s])) ++ if notIn (sn ++ [s]) u = true then [u] else [] := by
          rw [take_succ hu1, List.filter_append]
          simp only [List.filter_cons, List.filter_nil]
        refine ⟨rfl, ?_⟩
        refine ⟨_, rfl, _, rfl, ds, o, rfl, hg, _, rfl, ?_⟩
        rw [ho]
        rw [ef]
        cases e : notIn (sn ++ [s]) u with
        | true =>
          refine iteT ⟨_, rfl, acc, hD3, ?_, s3.mut hD, acc ++ [.ref tu], upd_same, ?_⟩
          · have h1 := pd_len hacc
            have h2 := List.length_filter_le (notIn (sn ++ [s])) ((adj s).take j)
            have h3 := List.length_take_le j (adj s)
            have h4 := A0.few s
            have h5 : ((adj s).take j).length ≤ (adj s).length := List.length_take_le' ..
            exact small1000 (by omega)
          · rw [if_pos rfl]
            exact sqv_lst hD3 (pd_app hacc (.cons ⟨tu, rfl, htu3⟩ .nil))
        | false =>
          refine iteF ⟨s3, acc, hD3, ?_⟩
          rw [if_neg (fun z => nomatch z), List.append_nil]
          exact hacc
      · rintro H3 ⟨s3, acc, hD3, hacc⟩
        have hl : ts.length = (adj s).length := pd_len hpd
        rw [hl, List.take_length] at hacc
        have hds2 := hse2
        unfold SeenAt at hds2
        have b3 : But ds H H3 := b2.andS s3
        obtain ⟨m, hm⟩ : ∃ m, L.length - i = m + 1 := ⟨L.length - i - 1, by omega⟩
        have hm2 : L.length - (i + 1) = m := by omega
        rw [hm, along_succ] at ea
        have hin : ∀ u, u ∈ (adj s).filter (notIn (sn ++ [s])) → u ∈ L ∧ u ∉ sn ++ [s] := fun u hu => by
          obtain ⟨h1, h2⟩ := List.mem_filter.mp hu
          exact ⟨A0.cl s u h1, notIn_t.mp h2⟩
        obtain ⟨fl, hfl⟩ : ∃ fl, (adj s).filter (notIn (sn ++ [s])) = fl := ⟨_, rfl⟩
        rw [hfl] at hacc ea hin
        -- if more == []
        refine ⟨_, rfl, Nat.zero_le _, fun q hq => ?_⟩
        have s4 := Same.new (o := .lst []) (Same.refl H3) hq
        refine ⟨_, _, .lst (SqL.of (s4 _ _ hD3)) (dp_sq (sqv_same s4 hacc)), .lst (SqL.of upd_same) .nil, shaped_sq _, shaped_sq [], _, rfl, ?_⟩
        rw [eqv_sq]
        have hd2 : (sn ++ [s]).Nodup := List.nodup_append.mpr ⟨hnd1, by simp, fun a ha b hb e => hns1 (by rw [← List.mem_singleton.mp hb, ← e]; exact ha)⟩
        have hL2 : ∀ v, v ∈ sn ++ [s] → v ∈ L := fun v hv => by
          rcases List.mem_append.mp hv with h | h
          · exact hsL1 v h
          · rw [List.mem_singleton.mp h]; exact hs1
        have s34 := s3.trans s4
        cases hacc with
        | nil =>
          refine ifD (fun _ => ?_) (fun z => (z rfl).elim)
          refine ⟨_, rfl, k t _ ?_ ?_ (b3.andS s4)⟩
          · rw [ea]; exact s34 _ _ ht2
          · rw [ea]; exact s34 _ _ hds2
        | @cons v u vs us h r =>
          obtain ⟨tu, rfl, htu⟩ := h
          refine ifD (fun z => nomatch z) (fun _ => ?_)
          refine ⟨_, rfl, D, _, _, _, rfl, rfl, SqL.of (s4 _ _ hD3), at_of (j := 0) rfl rfl, ?_⟩
          refine ⟨u, sn ++ [s], tu, _, _, v5, rfl, s4 _ _ htu, s34 _ _ hds2, (hin u List.mem_cons_self).1, (hin u List.mem_cons_self).2, hd2, hL2, b3.andS s4, ?_⟩
          rw [ea, hm2]; rfl
    · rintro σ H1 ⟨s, sn, t, v3, v4, v5, rfl, ht, hse1, hs1, hns1, hnd1, hsL1, b1, ea⟩
      have e0 : L.length - ((L.length : Int)).toNat = 0 := by omega
      rw [e0] at ea
      exact ⟨_, rfl, k t _ (by rw [ea]; exact ht) (by rw [ea]; exact hse1) b1⟩
end
end Sand
/-! ## PBehind -/
set_option Elab.async false
set_option linter.all false
set_option maxRecDepth 100000
set_option maxHeartbeats 8000000
namespace Sand
open PySem L2
abbrev s__law_behind : Stmt := top 41
theorem sc__law_behind : FnScope ["_law_top", "_law_rows_here", "_law_links_here", "_law_last", "_law_ends", "_law_seen", "_law_i", "_law_closed_here", "_law_square", "_law_j"] ["_law_top", "_law_rows_here"] (defScope s__law_behind) := ⟨rfl, rfl, rfl, by decide +kernel, rfl, by decide +kernel, by decide +kernel⟩
theorem sqs_len (n last : Nat) : (sqs n last).length = (last + 1) * n := by rw [sqs_to, sqTo_len]
theorem sqTo_nodup (n : Nat) : ∀ j, (sqTo n j).Nodup
  | 0 => by unfold sqTo; simp
  | j + 1 => by
    rw [sqTo_succ]
    have h : ∀ i, (sqIn n j i).Nodup := fun i => by
      induction i with
      | zero => rw [sqIn_zero]; exact sqTo_nodup n j
      | succ i ih =>
        rw [sqIn_succ]
        exact List.nodup_append.mpr ⟨ih, by simp, fun a ha b hb e => by have hb := List.mem_singleton.mp hb; subst hb; subst e; exact out_sqIn ha⟩
    exact h n
theorem LinksAt.butN {H0 H H' : Hp} {d ds : Addr} {L : List Sq} {adj : Sq → List Sq} {loc : Sq → Addr} {n : Nat} {kvs : List (List Key × V)} (A : LinksAt H0 d L adj loc n H) (h0 : H0 ds = none) (k : But ds H H') (hd : H ds = some (.dT kvs)) (hn : ds ≠ d) : LinksAt H0 d L adj loc n H' := by
  have R := A.rd.butD k hd hn
  exact ⟨fun b o e => k b o (A.same b o e) (ne_of_none e h0), A.free, k _ _ A.dict (Ne.symm hn), R.lst, A.inj, A.cl, A.few⟩
theorem LinksAt.updQ {H0 H : Hp} {d q : Addr} {L : List Sq} {adj : Sq → List Sq} {loc : Sq → Addr} {n : Nat} {l l' : List V} (A : LinksAt H0 d L adj loc n H) (h0 : H0 q = none) (hq : H q = some (.lst l)) (hn : ∀ s, s ∈ L → q ≠ loc s) : LinksAt H0 d L adj loc n (upd H q (.lst l')) :=
  ⟨fun b o e => by rw [upd_ne (ne_of_none e h0)]; exact A.same b o e, A.free, by rw [upd_ne (ne_of A.dict hq (fun z => nomatch z))]; exact A.dict, fun s hs => by
    obtain ⟨ts, h1, h2⟩ := A.lst s hs
    exact ⟨ts, by rw [upd_ne (Ne.symm (hn s hs))]; exact h1, sqv_lst hq h2⟩, A.inj, A.cl, A.few⟩
/-- what the law's own walk tells of the rows under a rim of ends -/
def spBehind (K : PySem.W.Frag) : Sp := fun vs H Q _ => ∃ (tp rp : Addr) (top : List Nat) (rs : List Row) (w : Nat), vs = [.ref tp, .ref rp] ∧ SqL K H tp (nl top) ∧ RowsAt K H rp rs ∧ Pairs (2 * w) top ∧ 0 < w ∧ w ≤ 4 ∧ (∀ r, r ∈ rs → RowOk w r) ∧ rs.length ≤ 20 ∧
  ∀ t q H', Same H H' → H' t = some (.tup [.ref q, .int ((pRows top rs).2 : Nat)]) → H' q = some (.lst (nl (pRows top rs).1)) → Q (.ref t) H'
section
variable {P : Program} {w : World} {K : PySem.W.Frag} {mg : Str → Option Value} {base : Heap}
theorem ok_law_behind {f f1 f2 : Addr} {fd fd1 fd2 : FuncData} (F : Fun K "_law_behind" "_law_behind" s__law_behind f fd) (T : Glob mg)
    (c__law_links : Cal K mg "_law_links" f1 fd1 ["_law_top", "_law_rows_here"]) (G__law_links : FnOk P w K mg base CX0 2 f1 fd1 ["_law_top", "_law_rows_here"] (spLinks K))
    (c__law_along : Cal K mg "_law_along" f2 fd2 ["_law_links_here", "_law_square", "_law_seen"]) (G__law_along : FnOk P w K mg base CX0 1 f2 fd2 ["_law_links_here", "_law_square", "_law_seen"] spAlong) : FnOk P w K mg base CX0 3 f fd ["_law_top", "_law_rows_here"] (spBehind K) := by
  refine F.ok sc__law_behind (fun vs H Q E h => ?_) (fun cdv A outer s H vs Q E hr h => ?_)
  · obtain ⟨tp, rp, top, rs, wd, rfl, _⟩ := h
    rfl
  · obtain ⟨tp, rp, top, rs, wd, rfl, hS, hR, hP, w0, w4, hok, hlen, k⟩ := h
    have hu := hu_of hr
    have hr__law_links : Room 2 _ := hr
    have hr__law_along : Room 1 _ := hr.mono (by decide)
    refine ⟨_, (pss_cons (ps_set (i := 2) sc__law_behind.nd rfl (Or.inl rfl) (pe_call G__law_links hr__law_links rfl c__law_links.mg c__law_links.kp c__law_links.b .nil pass0 (pa_cons (pv 0) (pa_cons (pv 1) pa_nil))))
      (pss_cons (ps_set (i := 3) sc__law_behind.nd rfl (Or.inl rfl) (pe_op op_mul pe_int (pe_callB call_len_seq (by rfl) T.len PySem.boot_len (pa_cons (pv 1) pa_nil))))
      (pss_cons (ps_set (i := 4) sc__law_behind.nd rfl (Or.inl rfl) (pe_op op_rep (pe_lst (pa_cons pe_int pa_nil)) (pe_callB call_len_seq (by rfl) T.len PySem.boot_len (pa_cons (pv 0) pa_nil))))
      (pss_cons (ps_set (i := 5) sc__law_behind.nd rfl (Or.inl rfl) pe_dnewT)
      (pss_cons (ps_for PassesOwn.never rfl (pi_range1 (by rfl) T.range (pa_cons (pe_callB call_len_seq (by rfl) T.len PySem.boot_len (pa_cons (pv 0) pa_nil)) pa_nil)) (pg_name (i := 6) sc__law_behind.nd rfl (Or.inl rfl)) (pss_one (ps_if (pt_cmp (pc_dnotin hu (pe_tup (pa_cons (pv 6) (pa_cons (pv 3) pa_nil))) (pv 5))) (pss_cons (ps_set (i := 9) sc__law_behind.nd rfl (Or.inl rfl) (pe_ix ix_tup (pe_call G__law_along hr__law_along rfl c__law_along.mg c__law_along.kp c__law_along.b .nil pass0 (pa_cons (pv 2) (pa_cons (pe_tup (pa_cons (pv 6) (pa_cons (pv 3) pa_nil))) (pa_cons (pv 5) pa_nil)))) pe_int (fun _ _ => rfl)))
      (pss_cons (ps_asg (pv 9) (pg_sub (pv 4) (pv 6) set_list))
      (pss_one (ps_asg (pv 6) (pg_sub (pv 4) (pv 9) set_list))))) pss_nil)))
      (pss_cons (ps_set (i := 7) sc__law_behind.nd rfl (Or.inl rfl) pe_int)
      (pss_cons (ps_lock (ps_for PassesOwn.never rfl (pi_keys (pv 2)) (pg_name (i := 8) sc__law_behind.nd rfl (Or.inl rfl)) (pss_one (ps_if (pt_cmp (pc_dnotin hu (pv 8) (pv 5))) (pss_cons (ps_expr (pe_call G__law_along hr__law_along rfl c__law_along.mg c__law_along.kp c__law_along.b .nil pass0 (pa_cons (pv 2) (pa_cons (pv 8) (pa_cons (pv 5) pa_nil)))))
      (pss_one (ps_set (i := 7) sc__law_behind.nd rfl (Or.inl rfl) (pe_op op_add (pv 7) pe_int)))) pss_nil))))
      (pss_one (ps_ret (pe_tup (pa_cons (pv 4) (pa_cons (pv 7) pa_nil)))))))))))), ?_⟩
    have elen : (nl top).length = 2 * wd := by rw [nl_len, hP.len]
    obtain ⟨B1, B2⟩ := behind_law hP hok
    obtain ⟨vr, hrp, hrs⟩ := id hR
    -- the links
    refine ⟨_, rfl, _, rfl, tp, rp, top, rs, wd, rfl, hS, hR, hP.len, hP.lt, w0, w4, hok, hlen, fun d loc n H1 hd hn A1 => ?_⟩
    obtain ⟨adj, hadj⟩ : ∃ adj, lRows (2 * wd) 0 (lTop top (2 * wd)) rs = adj := ⟨_, rfl⟩
    obtain ⟨L, hL⟩ : ∃ L, sqs (2 * wd) (2 * rs.length) = L := ⟨_, rfl⟩
    rw [hadj, hL] at A1
    rw [hadj, hL] at B1 B2
    have hLl : L.length ≤ 400 := by
      rw [← hL, sqs_len]
      exact Nat.le_trans (Nat.mul_le_mul (show 2 * rs.length + 1 ≤ 41 by omega) (show 2 * wd ≤ 8 by omega)) (by decide)
    have hin : ∀ {v : Sq}, v ∈ L ↔ v.1 < 2 * wd ∧ v.2 ≤ 2 * rs.length := fun {v} => by rw [← hL]; exact mem_sqs
    have hLn : L.Nodup := by rw [← hL, sqs_to]; exact sqTo_nodup _ _
    -- last
    refine ⟨_, rfl, rp, vr, rfl, .inl (A1.same.seq hrp), _, _, rfl, rfl, .inl ⟨by decide, by decide⟩, ?_⟩
    have el : (2 : Int) * ((vr.length : Nat) : Int) = ((2 * rs.length : Nat) : Int) := by rw [pd_len hrs]; omega
    -- ends
    dsimp only
    rw [el]
    refine ⟨by show 1 ≤ sizeLine; decide, fun e0 he0 => ?_⟩
    have s2 := Same.new (o := .lst [.int 0]) (Same.refl H1) he0
    refine ⟨_, rfl, tp, _, rfl, .inl ((A1.same.trans s2).seq hS), e0, _, _, rfl, rfl, upd_same, by rw [elen]; omega, by rw [elen]; omega, by rw [elen]; exact sz1000 (by simp; omega), fun qe hqe => ?_⟩
    have erep : (List.replicate ((nl top).length : Int).toNat ([V.int 0])).flatten = nl (List.replicate (2 * wd) 0) := by
      have e : ((2 * wd : Nat) : Int).toNat = 2 * wd := by omega
      rw [elen, e]
      generalize 2 * wd = n
      induction n with
      | zero => rfl
      | succ n ih => rw [List.replicate_succ, List.replicate_succ, List.flatten_cons, ih]; rfl
    rw [erep]
    have s3 := Same.new (o := .lst (nl (List.replicate (2 * wd) 0))) s2 hqe
    have A3 := A1.step s3
    have hqe0 : H qe = none := (A1.same.trans s2).free hqe
    have hq3 : upd (upd H1 e0 (.lst [.int 0])) qe (.lst (nl (List.replicate (2 * wd) 0))) qe = _ := upd_same
    generalize upd (upd H1 e0 (.lst [.int 0])) qe (.lst (nl (List.replicate (2 * wd) 0))) = H3 at *
    -- seen
    intro ds hds
    have hds0 : H ds = none := A3.same.free hds
    have hdd : ds ≠ d := fun z => by rw [z, A3.dict] at hds; cases hds
    have s4 := Same.new (o := .dT []) (Same.refl H3) hds
    have A4 := A3.step s4
    have hse4 : SeenAt (upd H3 ds (.dT [])) ds [] := upd_same
    have hq4 := s4 _ _ hq3
    have hnoq : ∀ s, s ∈ L → qe ≠ loc s := fun s hs z => by
      obtain ⟨ts, h, _⟩ := A1.lst s hs
      rw [z, s2 _ _ h] at hqe
      cases hqe
    -- the ends
    refine ⟨_, rfl, tp, _, rfl, .inl (A4.same.seq hS), _, rfl, ?_⟩
    rw [elen]
    refine ⟨by omega, by omega, for_range (D := { nx := _, rt := _ }) (fun i σ H' => ∃ v6 v9, σ = [some (.ref tp), some (.ref rp), some (.ref d), some (.int ((2 * rs.length : Nat) : Int)), some (.ref qe), some (.ref ds), v6, none, none, v9] ∧ LinksAt H d L adj loc n H' ∧
        H' qe = some (.lst (nl (bOne adj L.length (2 * wd) (2 * rs.length) i).1)) ∧ (bOne adj L.length (2 * wd) (2 * rs.length) i).1.length = 2 * wd ∧ SeenAt H' ds (bOne adj L.length (2 * wd) (2 * rs.length) i).2 ∧
        (bOne adj L.length (2 * wd) (2 * rs.length) i).2.Nodup ∧ ∀ v, v ∈ (bOne adj L.length (2 * wd) (2 * rs.length) i).2 → v ∈ L)
      ⟨none, none, rfl, A4, hq4, by show (List.replicate (2 * wd) 0).length = 2 * wd; simp, hse4, List.nodup_nil, (fun v h => nomatch h)⟩ ?_ ?_⟩
    · rintro i σ H5 hi ⟨v6, v9, rfl, A5, hq5, hel, hse5, hnd5, hL5⟩
      have hi : i < 2 * wd := hi
      rw [Int.zero_add]
      obtain ⟨st, hst⟩ : ∃ st, bOne adj L.length (2 * wd) (2 * rs.length) i = st := ⟨_, rfl⟩
      have hstep : bOne adj L.length (2 * wd) (2 * rs.length) (i + 1) = oStep adj L.length (2 * rs.length) st i := by rw [← hst]; rfl
      rw [hst] at hq5 hel hse5 hnd5 hL5
      rw [hstep]
      have hq5d := ne_of hq5 hse5 (fun z => nomatch z)
      refine ⟨_, rfl, _, rfl, by show 2 ≤ sizeLine; decide, fun b hb => ?_⟩
      have s6 := Same.new (o := .tup [.int (i : Int), .int ((2 * rs.length : Nat) : Int)]) (Same.refl H5) hb
      have A6 := A5.step s6
      obtain ⟨o, hg, ho⟩ := SeenAt.get (u := (i, 2 * rs.length)) (s6 _ _ hse5) upd_same
      refine ⟨_, rfl, ds, o, rfl, hg, _, rfl, ?_⟩
      rw [ho]
      cases q : notIn st.2 (i, 2 * rs.length) with
      | true =>
        have hni := notIn_t.mp q
        have es : oStep adj L.length (2 * rs.length) st i = ((st.1.set i (along adj L.length (i, 2 * rs.length) st.2).1.1).set (along adj L.length (i, 2 * rs.length) st.2).1.1 i, (along adj L.length (i, 2 * rs.length) st.2).2) := if_neg hni
        rw [es]
        have hiL : ((i, 2 * rs.length) : Sq) ∈ L := hin.mpr ⟨hi, Nat.le_refl _⟩
        obtain ⟨c1, c2, c3⟩ := along_seen A5.cl L.length (i, 2 * rs.length) st.2 hiL hni hnd5 hL5
        obtain ⟨r, hr2⟩ : ∃ r, along adj L.length (i, 2 * rs.length) st.2 = r := ⟨_, rfl⟩
        rw [hr2] at c1 c2 c3 ⊢
        have hj : r.1.1 < 2 * wd := (hin.mp c1).1
        refine iteT ⟨_, rfl, _, rfl, _, rfl, by show 2 ≤ sizeLine; decide, fun tq htq => ?_⟩
        have s7 := Same.new (o := .tup [.int (i : Int), .int ((2 * rs.length : Nat) : Int)]) s6 htq
        have A7 := A5.step s7
        refine ⟨_, rfl, d, tq, ds, L, adj, loc, n, (i, 2 * rs.length), st.2, rfl, A7.rd, hn, by omega, upd_same, hiL, hni, s7 _ _ hse5, hnd5, hL5, hdd, fun tq' H8 h1 h2 b8 => ?_⟩
        rw [hr2] at h1 h2
        have hds7 := s7 _ _ hse5
        have A8 := A7.butN hds0 b8 hds7 hdd
        have hq8 := b8 _ _ (s7 _ _ hq5) hq5d
        refine ⟨tq', _, _, _, rfl, rfl, SqT.of h1, at_of (j := 0) rfl rfl, ?_⟩
        refine ⟨_, rfl, _, rfl, _, rfl, qe, _, _, i, rfl, rfl, hq8, ixN_nat (by rw [nl_len, hel]; exact hi), ?_⟩
        refine ⟨_, rfl, _, rfl, _, rfl, qe, _, _, r.1.1, rfl, rfl, upd_same, ixN_nat (by rw [List.length_set, nl_len, hel]; exact hj), ?_⟩
        have hv6 : ∀ {l : List V}, (upd H8 qe (.lst l)) qe = some (.lst l) := upd_same
        refine ⟨_, _, rfl, (A8.updQ hqe0 hq8 hnoq).updQ hqe0 upd_same hnoq, ?_, by rw [List.length_set, List.length_set]; exact hel, ?_, c2, c3⟩
        · rw [upd_same, nl_set, nl_set]
        · unfold SeenAt at h2 ⊢
          rw [upd_ne (Ne.symm hq5d), upd_ne (Ne.symm hq5d)]
          exact h2
      | false =>
        have hni : (i, 2 * rs.length) ∈ st.2 := Classical.byContradiction fun z => by rw [notIn_t.mpr z] at q; cases q
        have es : oStep adj L.length (2 * rs.length) st i = st := if_pos hni
        rw [es]
        exact iteF ⟨_, _, rfl, A6, s6 _ _ hq5, hel, s6 _ _ hse5, hnd5, hL5⟩
    · rintro σ H5 ⟨v6, v9, rfl, A5, hq5, hel, hse5, hnd5, hL5⟩
      rw [Int.toNat_natCast] at hq5 hel hse5 hnd5 hL5
      rw [B1] at hq5 hel
      obtain ⟨sn, hsn⟩ : ∃ sn, (bOne adj L.length (2 * wd) (2 * rs.length) (2 * wd)).2 = sn := ⟨_, rfl⟩
      rw [hsn] at hse5 hnd5 hL5 B2
      have hq5d := ne_of hq5 hse5 (fun z => nomatch z)
      -- closed
      have hds5 := hse5
      unfold SeenAt at hds5
      have hl5 : (lkv L loc).length = L.length := by unfold lkv; rw [List.length_map]
      have hqd : qe ≠ d := ne_of hq5 A5.dict (fun z => nomatch z)
      refine ⟨d, _, A5.dict, trivial, fun od => ?_⟩
      have R5 : LinksR d L adj loc n (upd H5 d (.frz od (.dT (lkv L loc)))) :=
        ⟨.inr ⟨od, upd_same⟩, fun s hs => by
          obtain ⟨ts, h1, h2⟩ := A5.lst s hs
          exact ⟨ts, by rw [upd_ne (ne_of h1 A5.dict (fun z => nomatch z))]; exact h1, Paired.mapP h2 fun _ _ ⟨t, e, q⟩ => ⟨t, e, by rw [upd_ne (ne_of q A5.dict (fun z => nomatch z))]; exact q⟩⟩, A5.cl, A5.few⟩
      have hse6 : SeenAt (upd H5 d (.frz od (.dT (lkv L loc)))) ds sn := by unfold SeenAt; rw [upd_ne hdd]; exact hds5
      refine ⟨_, rfl, d, od, rfl, .inr ⟨_, upd_same, for_it walk_keysT (fun i σ H' => ∃ v6 v8 v9, σ = [some (.ref tp), some (.ref rp), some (.ref d), some (.int ((2 * rs.length : Nat) : Int)), some (.ref qe), some (.ref ds), v6, some (.int (((L.take i).foldl (bStep adj L.length) (sn, 0)).2 : Nat)), v8, v9] ∧
          H' d = some (.frz od (.dT (lkv L loc))) ∧ Same H H' ∧ LinksR d L adj loc n H' ∧ H' qe = some (.lst (nl (pRows top rs).1)) ∧ SeenAt H' ds ((L.take i).foldl (bStep adj L.length) (sn, 0)).1 ∧ ((L.take i).foldl (bStep adj L.length) (sn, 0)).1.Nodup ∧
          ∀ v, v ∈ ((L.take i).foldl (bStep adj L.length) (sn, 0)).1 → v ∈ L)
        ⟨v6, none, v9, rfl, upd_same, A5.same.mut hd, R5, by rw [upd_ne hqd]; exact hq5, hse6, hnd5, hL5⟩ (fun i σ H' _ ⟨_, _, _, _, h, _⟩ => h) ?_ ?_⟩⟩
      · rintro i x σ H6 H7 hi ⟨v6, v8, v9, rfl, hd6, s6, R6, hq6, hse6, hnd6, hL6⟩ ⟨rfl, kk, vv, q, hk, rfl, hq⟩
        obtain ⟨s, hs, rfl⟩ : ∃ s, L[i]? = some s ∧ kk = kq s := by
          unfold lkv at hk
          rw [List.getElem?_map] at hk
          obtain ⟨s, h1, h2⟩ := Option.map_eq_some_iff.mp hk
          exact ⟨s, h1, (Prod.mk.inj h2).1.symm⟩
        have hsL : s ∈ L := List.mem_of_getElem? hs
        obtain ⟨st, hst⟩ : ∃ st, (L.take i).foldl (bStep adj L.length) (sn, 0) = st := ⟨_, rfl⟩
        have hstep : (L.take (i + 1)).foldl (bStep adj L.length) (sn, 0) = bStep adj L.length st s := by rw [take_succ hs, List.foldl_append, hst]; rfl
        rw [hst] at hse6 hnd6 hL6 ⊢
        rw [hstep]
        obtain ⟨o, hg, ho⟩ := SeenAt.get (u := s) hse6 hq
        refine ⟨_, rfl, _, rfl, ds, o, rfl, hg, _, rfl, ?_⟩
        rw [ho]
        cases e : notIn st.1 s with
        | true =>
          have hni := notIn_t.mp e
          have es : bStep adj L.length st s = ((along adj L.length s st.1).2, st.2 + 1) := if_neg hni
          rw [es]
          obtain ⟨c1, c2, c3⟩ := along_seen A5.cl L.length s st.1 hsL hni hnd6 hL6
          have hds6 := hse6
          unfold SeenAt at hds6
          refine iteT ⟨_, rfl, _, rfl, _, rfl, d, q, ds, L, adj, loc, n, s, st.1, rfl, R6, hn, by omega, hq, hsL, hni, hse6, hnd6, hL6, hdd, fun tq' H8 h1 h2 b8 => ?_⟩
          refine ⟨_, rfl, _, _, rfl, rfl, v6, _, v9, rfl, b8 _ _ hd6 (Ne.symm hdd), fun b o e => b8 _ _ (s6 _ _ e) (ne_of_none e hds0), R6.butD b8 hds6 hdd, b8 _ _ hq6 hq5d, h2, c2, c3⟩
        | false =>
          have hni : s ∈ st.1 := Classical.byContradiction fun z => by rw [notIn_t.mpr z] at e; cases e
          have es : bStep adj L.length st s = st := if_pos hni
          rw [es]
          exact iteF ⟨v6, _, v9, rfl, hd6, s6, R6, hq6, hse6, hnd6, hL6⟩
      · rintro σ H6 ⟨v6, v8, v9, rfl, hd6, s6, R6, hq6, hse6, hnd6, hL6⟩
        rw [hl5, List.take_length, B2]
        refine ⟨hd6, _, rfl, _, rfl, by show 2 ≤ sizeLine; decide, fun t ht => ?_⟩
        have s7 := s6.mut (o := .dT (lkv L loc)) hd
        exact k t qe _ (Same.new s7 ht) upd_same (by rw [upd_ne (ne_of_none (by rw [upd_ne hqd]; exact hq6) ht), upd_ne hqd]; exact hq6)
end
end Sand
/-! ## PDue -/
set_option Elab.async false
set_option linter.all false
set_option maxRecDepth 100000
set_option maxHeartbeats 8000000
namespace Sand
open PySem L2
abbrev s__law_rim : Stmt := top 42
theorem sc__law_rim : FnScope ["_law_wide", "_law_i"] ["_law_wide"] (defScope s__law_rim) := ⟨rfl, rfl, rfl, by decide +kernel, rfl, by decide +kernel, by decide +kernel⟩
abbrev s__law_closed : Stmt := top 43
theorem sc__law_closed : FnScope ["_law_top", "_law_rows_here"] ["_law_top", "_law_rows_here"] (defScope s__law_closed) := ⟨rfl, rfl, rfl, by decide +kernel, rfl, by decide +kernel, by decide +kernel⟩
abbrev s__law_entry : Stmt := top 45
theorem sc__law_entry : FnScope ["_law_told", "_law_rounds", "_law_last", "_law_turns", "_law_entry_here", "_law_heads", "_law_back"] ["_law_told", "_law_rounds"] (defScope s__law_entry) := ⟨rfl, rfl, rfl, by decide +kernel, rfl, by decide +kernel, by decide +kernel⟩
abbrev s__law_due : Stmt := top 46
theorem sc__law_due : FnScope ["_law_told", "_law_wide", "_law_lists", "_law_size", "_law_body", "_law_rounds", "_law_tail", "_law_entry_here", "_law_ahead", "_law_turns", "_law_last", "_law_ends", "_law_closed_here"] ["_law_told", "_law_wide", "_law_lists", "_law_size"] (defScope s__law_due) := ⟨rfl, rfl, rfl, by decide +kernel, rfl, by decide +kernel, by decide +kernel⟩
def spLawRim : Sp := fun vs H Q _ => ∃ (w : Nat), vs = [.int (w : Int)] ∧ w ≤ 100 ∧ ∀ p H', H p = none → Same H H' → H' p = some (.lst (nl (Band.rim w))) → Q (.ref p) H'
theorem nl_app (a b : List Nat) : nl (a ++ b) = nl a ++ nl b := List.map_append
theorem fin_rows (e : List Nat) (rs : List Row) {w : Nat} (he : e.length = 2 * w) : fin e rs = (pRows e (rs.dropLast ++ [((lastRow rs).1, List.replicate w 45)])).2 := by
  rw [pRows_append]
  unfold fin
  have e2 : e.length / 2 = w := by omega
  rw [e2, Nat.add_assoc]; rfl
theorem pLevel_bars (e : List Nat) : ∀ (k l : Nat), pLevel e l (List.replicate k 124) = (e, 0)
  | 0, l => rfl
  | k + 1, l => by
    rw [List.replicate_succ]
    show ((pLevel (pPoint e l 124).1 (l + 2) (List.replicate k 124)).1, (pPoint e l 124).2 + (pLevel (pPoint e l 124).1 (l + 2) (List.replicate k 124)).2) = (e, 0)
    rw [pPoint_bar, pLevel_bars e k]
    rfl
theorem cut_rows (e : List Nat) (rs : List Row) (w : Nat) : cut e rs = pRows e (rs.dropLast ++ [((lastRow rs).1, List.replicate w 124)]) := by
  rw [pRows_append]
  unfold cut
  show _ = ((pRow (pRows e rs.dropLast).1 ((lastRow rs).1, List.replicate w 124)).1, (pRows e rs.dropLast).2 + (pRow (pRows e rs.dropLast).1 ((lastRow rs).1, List.replicate w 124)).2)
  unfold pRow
  rw [pLevel_bars]
  rfl
theorem ok_front {rs : List Row} {w c : Nat} (hok : ∀ r, r ∈ rs → RowOk w r) (hne : rs ≠ []) (hc : Sign c) : ∀ r, r ∈ rs.dropLast ++ [((lastRow rs).1, List.replicate w c)] → RowOk w r := fun r hr => by
  rcases List.mem_append.mp hr with h | h
  · exact hok r ((List.dropLast_sublist _).subset h)
  · rw [List.mem_singleton.mp h]
    have hl := hok _ (lastRow_mem hne)
    exact ⟨hl.l1, List.length_replicate, hl.s1, fun d hd => by rw [(List.mem_replicate.mp hd).2]; exact hc⟩
section
variable {P : Program} {w : World} {K : PySem.W.Frag} {mg : Str → Option Value} {base : Heap}
theorem ok_law_rim {f : Addr} {fd : FuncData} (F : Fun K "_law_rim" "_law_rim" s__law_rim f fd) (T : Glob mg) : FnOk P w K mg base CX0 1 f fd ["_law_wide"] spLawRim := by
  refine F.ok sc__law_rim (fun vs H Q E h => ?_) (fun cdv A outer s H vs Q E hr h => ?_)
  · obtain ⟨wd, rfl, _⟩ := h
    rfl
  · obtain ⟨wd, rfl, hw, k⟩ := h
    have hu := hu_of hr
    refine ⟨_, (pss_one (ps_ret (pe_lc (own := [("_law_i", 1)]) (g := gName 1) (tt := tYes) (by rfl) sc__law_rim.nd (pi_range1 (by rfl) T.range (pa_cons (pe_op op_mul pe_int (pv 0)) pa_nil)) (blkOk_by (own := [("_law_i", 1)]) (N := ["_law_wide", "_law_i"]) (sc := defScope s__law_rim) (by decide +kernel)) (fun _ _ _ _ _ => pg_name (i := 1) sc__law_rim.nd rfl (Or.inl rfl)) (fun _ _ _ _ _ => pts_nil) (fun _ _ _ _ _ => (pe_op op_sub (pe_op op_add (pv 1) pe_int) (pe_op op_mul pe_int (pe_op op_mod (pv 1) pe_int))))))), ?_⟩
    refine ⟨_, rfl, _, _, rfl, rfl, .inl ⟨by decide, by decide⟩, _, rfl, by omega, by omega, fun D hD => lc_range (lo := 0) (fun i H' => Same H H' ∧ H' D = some (.lst (nl ((List.range i).map fun i => if i % 2 = 0 then i + 1 else i - 1)))) ⟨Same.new (Same.refl H) hD, upd_same⟩ ?_ ?_⟩
    · rintro i H1 hi ⟨s1, hD1⟩
      have hi : i < 2 * wd := by omega
      refine ⟨rfl, ?_⟩
      rw [Int.zero_add]
      refine ⟨_, rfl, _, _, rfl, rfl, _, rfl, _, _, rfl, rfl, (by show (0 : Int) < 2; decide), _, _, rfl, rfl, .inl ⟨by decide, by decide⟩, _, _, rfl, rfl, ?_⟩
      refine ⟨_, hD1, small1000 (by rw [nl_len]; simp; omega), s1.mut hD, ?_⟩
      rw [upd_same, List.range_succ, List.map_append, nl_app]
      have e : (i : Int) + 1 - 2 * ((i : Int) % 2) = ((if i % 2 = 0 then i + 1 else i - 1 : Nat) : Int) := by split <;> omega
      dsimp only
      rw [e]; rfl
    · rintro H1 ⟨s1, hD1⟩
      have e : ((2 : Int) * (wd : Int)).toNat = 2 * wd := by omega
      rw [e] at hD1
      exact k D H1 hD s1 hD1
def spLawClosed (K : PySem.W.Frag) : Sp := fun vs H Q _ => ∃ (tp rp : Addr) (top : List Nat) (rs : List Row) (w : Nat), vs = [.ref tp, .ref rp] ∧ SqL K H tp (nl top) ∧ RowsAt K H rp rs ∧ Pairs (2 * w) top ∧ 0 < w ∧ w ≤ 4 ∧ (∀ r, r ∈ rs → RowOk w r) ∧ rs.length ≤ 20 ∧ rs ≠ [] ∧
  ∀ H', Same H H' → Q (.int (fin top rs : Nat)) H'
theorem ok_law_closed {f f1 : Addr} {fd fd1 : FuncData} (F : Fun K "_law_closed" "_law_closed" s__law_closed f fd) (T : Glob mg)
    (c__law_behind : Cal K mg "_law_behind" f1 fd1 ["_law_top", "_law_rows_here"]) (G__law_behind : FnOk P w K mg base CX0 3 f1 fd1 ["_law_top", "_law_rows_here"] (spBehind K)) : FnOk P w K mg base CX0 4 f fd ["_law_top", "_law_rows_here"] (spLawClosed K) := by
  refine F.ok sc__law_closed (fun vs H Q E h => ?_) (fun cdv A outer s H vs Q E hr h => ?_)
  · obtain ⟨tp, rp, top, rs, wd, rfl, _⟩ := h
    rfl
  · obtain ⟨tp, rp, top, rs, wd, rfl, hS, hR, hP, w0, w4, hok, hlen, hne, k⟩ := h
    have hu := hu_of hr
    have hr__law_behind : Room 3 _ := hr
    refine ⟨_, (pss_one (ps_ret (pe_ix ix_tup (pe_call G__law_behind hr__law_behind rfl c__law_behind.mg c__law_behind.kp c__law_behind.b .nil pass0 (pa_cons (pv 0) (pa_cons (pe_op op_cat (pe_slice sl_list (pv 1) po_none (po_some (pe_un un_neg pe_int))) (pe_lst (pa_cons (pe_tup (pa_cons (pe_ix ix_tup (pe_ix ix_list (pv 1) (pe_un un_neg pe_int) (fun _ _ => rfl)) pe_int (fun _ _ => rfl)) (pa_cons (pe_op op_repS pe_str (pe_op op_fdiv (pe_callB call_len_seq (by rfl) T.len PySem.boot_len (pa_cons (pv 0) pa_nil)) pe_int)) pa_nil))) pa_nil))) pa_nil))) pe_int (fun _ _ => rfl)))), ?_⟩
    obtain ⟨vr, hrp, hrs⟩ := id hR
    refine ⟨_, rfl, _, rfl, _, rfl, _, rfl, rp, _, rfl, hrp, fun sl hsl => ?_⟩
    have s1 := Same.new (o := .lst (cutV vr none (some (-1)))) (Same.refl H) hsl
    have hps : Paired (RowV K (upd H sl (.lst (cutV vr none (some (-1)))))) (cutV vr none (some (-1))) rs.dropLast := by have z := pd_dropLast (pd_same s1 hrs); rw [← cut_last] at z; exact z
    have hq1 : upd H sl (.lst (cutV vr none (some (-1)))) sl = some (.lst (cutV vr none (some (-1)))) := upd_same
    have hln := pd_len hps
    rw [List.length_dropLast] at hln
    generalize cutV vr none (some (-1)) = vs at *
    generalize upd H sl (.lst vs) = H1 at *
    obtain ⟨tr, hat, htr⟩ := last_row (pd_same s1 hrs) hne
    refine ⟨_, rfl, _, rfl, rp, _, _, _, rfl, rfl, s1.seq hrp, hat, tr, _, _, _, rfl, rfl, htr, at_of (j := 0) rfl rfl, ?_⟩
    have ediv : ((nl top).length : Int) / 2 = ((wd : Nat) : Int) := by rw [nl_len, hP.len]; omega
    refine ⟨_, rfl, tp, _, rfl, .inl (s1.seq hS), _, _, rfl, rfl, ⟨by decide, by decide⟩, _, _, rfl, rfl, ?_⟩
    dsimp only
    rw [ediv]
    refine ⟨by omega, by omega, by decide +kernel, by show 2 ≤ sizeLine; decide, fun t ht => ?_⟩
    rw [repS_dash]
    have s2 := Same.new (o := .tup [.str (st (lastRow rs).1), .str (st (List.replicate wd 45))]) (Same.refl H1) ht
    refine ⟨by show 1 ≤ sizeLine; decide, fun l hl => ?_⟩
    have s3 := Same.new (o := .lst [.ref t]) s2 hl
    refine ⟨sl, l, vs, [.ref t], rfl, rfl, s3 _ _ hq1, upd_same, sz1000 (by rw [hln, List.length_singleton]; omega), fun rp2 hrp2 => ?_⟩
    have s4 := Same.new (o := .lst (vs ++ [.ref t])) s3 hrp2
    have sA := s1.trans s4
    refine ⟨tp, rp2, top, rs.dropLast ++ [((lastRow rs).1, List.replicate wd 45)], wd, rfl, sA.seq hS, ⟨_, SqL.of upd_same, pd_app (pd_same s4 hps) (.cons ⟨t, rfl, SqT.of (by rw [upd_ne (ne_of_none (by rw [upd_ne (ne_of_none upd_same hl)]; exact upd_same) hrp2), upd_ne (ne_of_none upd_same hl)]; exact upd_same)⟩ .nil)⟩, hP, w0, w4, ok_front hok hne (.inr (.inl rfl)), by rw [List.length_append, List.length_dropLast, List.length_singleton]; omega, fun t2 q2 H2 s5 ht2 hq2 => ?_⟩
    refine ⟨t2, _, _, _, rfl, rfl, SqT.of ht2, at_of (j := 1) rfl rfl, ?_⟩
    rw [← fin_rows top rs hP.len]
    exact k H2 (sA.trans s5)
/-- _law_entry: the head behind r turns, told from the paper -/
def spEntry : Sp := fun vs H Q _ => ∃ (p hd : Addr) (B : Band) (ts : Nat → Addr) (n back r : Nat), vs = [.ref p, .int (r : Int)] ∧ PaperAt B H p hd ts n back ∧ B.Ok ∧ r < 2 ^ 180 ∧
  ∀ t q H', Same H H' → H' t = some (.tup [.ref q, .int ((B.H r).2 : Nat)]) → H' q = some (.lst (nl (B.H r).1)) → Q (.ref t) H'
theorem ok_law_entry {f : Addr} {fd : FuncData} (F : Fun K "_law_entry" "_law_entry" s__law_entry f fd) (T : Glob mg) : FnOk P w K mg base CX0 1 f fd ["_law_told", "_law_rounds"] spEntry := by
  refine F.ok sc__law_entry (fun vs H Q E h => ?_) (fun cdv A outer s H vs Q E hr h => ?_)
  · obtain ⟨p, hd, B, ts, n, back, r, rfl, _⟩ := h
    rfl
  · obtain ⟨p, hd, B, ts, n, back, r, rfl, Pp, O, hrl, k⟩ := h
    have hu := hu_of hr
    have hlt := Pp.lt
    have hle := Pp.le
    refine ⟨_, (pss_cons (ps_asg (pv 0) (pg_tup rfl (pgs_cons (pg_name (i := 5) sc__law_entry.nd rfl (Or.inl rfl)) (pgs_cons (pg_name (i := 6) sc__law_entry.nd rfl (Or.inl rfl)) pgs_nil))))
      (pss_cons (ps_set (i := 2) sc__law_entry.nd rfl (Or.inl rfl) (pe_op op_sub (pe_callB call_len_seq (by rfl) T.len PySem.boot_len (pa_cons (pv 5) pa_nil)) pe_int))
      (pss_cons (ps_if (pt_cmpR op_lt (pv 1) (pv 2) (nomark _)) (pss_one (ps_ret (pe_ix ix_list (pv 5) (pv 1) (fun _ _ => rfl)))) pss_nil)
      (pss_cons (ps_set (i := 3) sc__law_entry.nd rfl (Or.inl rfl) (pe_op op_fdivW (pe_op op_sub (pv 1) (pv 6)) (pe_op op_sub (pv 2) (pv 6))))
      (pss_cons (ps_set (i := 4) sc__law_entry.nd rfl (Or.inl rfl) (pe_ix ix_list (pv 5) (pe_op op_add (pv 6) (pe_op op_mod (pe_callTy call_int1 (by rfl) T.int (by decide +kernel) (pa_cons (pe_op op_sub (pv 1) (pv 6)) pa_nil)) (pe_op op_sub (pv 2) (pv 6)))) (fun _ _ => rfl)))
      (pss_one (ps_ret (pe_tup (pa_cons (pe_ix ix_tup (pv 4) pe_int (fun _ _ => rfl)) (pa_cons (pe_op op_add (pe_ix ix_tup (pv 4) pe_int (fun _ _ => rfl)) (pe_op op_mulW (pv 3) (pe_op op_sub (pe_ix ix_tup (pe_ix ix_list (pv 5) (pv 2) (fun _ _ => rfl)) pe_int (fun _ _ => rfl)) (pe_ix ix_tup (pe_ix ix_list (pv 5) (pv 6) (fun _ _ => rfl)) pe_int (fun _ _ => rfl))))) pa_nil)))))))))), ?_⟩
    have hlen : ((List.range (n + 1)).map fun i => V.ref (ts i)).length = n + 1 := by rw [List.length_map, List.length_range]
    refine ⟨_, rfl, p, _, rfl, SqT.of Pp.tp, rfl, _, _, rfl, _, _, rfl, rfl, ?_⟩
    refine ⟨_, rfl, hd, _, rfl, .inl (SqL.of Pp.hd), _, _, rfl, rfl, ?_⟩
    rw [hlen]
    have en : ((n + 1 : Nat) : Int) - 1 = (n : Int) := by omega
    dsimp only
    rw [en]
    refine ⟨_, rfl, _, rfl, _, _, rfl, rfl, _, rfl, ifD (fun g => ?_) (fun g => ?_)⟩
    · have g : r < n := by omega
      obtain ⟨q, h1, h2⟩ := Pp.at_ r (by omega)
      exact ⟨_, rfl, _, rfl, hd, _, _, _, rfl, rfl, SqL.of Pp.hd, at_of rfl (ts_get' (by omega)), k _ q H (Same.refl H) h1 h2⟩
    · have g : n ≤ r := by omega
      have e1 : (r : Int) - (back : Int) = ((r - back : Nat) : Int) := by omega
      have e2 : (n : Int) - (back : Int) = ((n - back : Nat) : Int) := by omega
      have hp : (0 : Int) < ((n - back : Nat) : Int) := by omega
      refine ⟨_, rfl, _, rfl, _, _, rfl, rfl, _, rfl, _, rfl, _, _, rfl, rfl, _, _, rfl, rfl, ?_⟩
      dsimp only
      rw [e1, e2]
      refine ⟨wide_div hp (b := 20) (by rw [Int.natAbs_natCast]; exact Nat.lt_of_le_of_lt (show _ ≤ 105 by omega) (by decide)) (by decide) (by decide), ?_⟩
      obtain ⟨R, hR⟩ : ∃ R, (r - back) / (n - back) = R := ⟨_, rfl⟩
      obtain ⟨M, hM⟩ : ∃ M, (r - back) % (n - back) = M := ⟨_, rfl⟩
      have ed : ((r - back : Nat) : Int) / ((n - back : Nat) : Int) = (R : Int) := by rw [← hR, Int.natCast_ediv]
      have ee : ((r - back : Nat) : Int) % ((n - back : Nat) : Int) = (M : Int) := by rw [← hM, Int.natCast_emod]
      have hdm := Nat.div_add_mod (r - back) (n - back)
      have hMl : M < n - back := by rw [← hM]; exact Nat.mod_lt _ (by omega)
      have hRl : R ≤ r - back := by rw [← hR]; exact Nat.div_le_self _ _
      rw [hR, hM] at hdm
      rw [ed]
      have ejm : (back : Int) + ((r : Int) - (back : Int)) % ((n : Int) - (back : Int)) = ((back + M : Nat) : Int) := by rw [e1, e2, ee]; omega
      obtain ⟨q1, hq1, hl1⟩ := Pp.at_ (back + M) (by omega)
      obtain ⟨q2, hq2, hl2⟩ := Pp.at_ n (Nat.le_refl _)
      obtain ⟨q3, hq3, hl3⟩ := Pp.at_ back (by omega)
      refine ⟨_, rfl, _, rfl, _, rfl, _, rfl, _, _, rfl, rfl, .inl ⟨_, rfl, _, rfl, _, rfl, _, _, rfl, rfl, _, _, rfl, rfl, (by rw [e2]; exact hp), _, _, rfl, rfl, hd, _, _, _, rfl, rfl, SqL.of Pp.hd, at_of ejm (ts_get' (by omega)), ?_⟩⟩
      refine ⟨_, rfl, ts (back + M), _, _, _, rfl, rfl, SqT.of hq1, at_of (j := 0) rfl rfl, _, rfl, ts (back + M), _, _, _, rfl, rfl, SqT.of hq1, at_of (j := 1) rfl rfl, _, rfl, ?_⟩
      refine ⟨_, rfl, _, rfl, hd, _, _, _, rfl, rfl, SqL.of Pp.hd, at_of rfl (ts_get' (i := n) (by omega)), ts n, _, _, _, rfl, rfl, SqT.of hq2, at_of (j := 1) rfl rfl, ?_⟩
      refine ⟨_, rfl, _, rfl, hd, _, _, _, rfl, rfl, SqL.of Pp.hd, at_of rfl (ts_get' (i := back) (by omega)), ts back, _, _, _, rfl, rfl, SqT.of hq3, at_of (j := 1) rfl rfl, _, _, rfl, rfl, ?_⟩
      have hS : ∀ i, i ≤ n → (B.H i).2 ≤ 10000 := fun i hi => by
        have h1 := O.S_le (B.ah.length + i * B.cy.length)
        have h2 := O.a8
        have h3 : i * B.cy.length ≤ 105 * 4 := Nat.mul_le_mul (by omega) O.c4
        show (B.S (B.ah.length + i * B.cy.length)).2 ≤ 10000
        omega
      have b1 := hS n (Nat.le_refl _)
      have b2 := hS back (by omega)
      refine ⟨_, _, rfl, rfl, wide_mul (a := 180) (b := 20) ?_ ?_ (by decide) (by decide) (by decide), ?_⟩
      · rw [Int.natAbs_natCast]; omega
      · exact Nat.lt_of_le_of_lt (show _ ≤ 10000 by omega) (by decide)
      have hn2 : back + (R * (n - back) + M) = r := by
        rw [Nat.mul_comm] at hdm
        omega
      have eji : back + (n - back) = n := by omega
      obtain ⟨g1, g2⟩ := H_again B (b := back) (p := n - back) (by rw [eji]; exact Pp.again) R M
      rw [hn2, eji] at g2
      rw [hn2] at g1
      refine ⟨_, _, rfl, rfl, by show 2 ≤ sizeLine; decide, fun t ht => ?_⟩
      refine k t q1 _ (Same.new (Same.refl H) ht) ?_ (by rw [upd_ne (ne_of_none hl1 ht), g1]; exact hl1)
      rw [upd_same, g2]
end
end Sand
/-! ## PDue2 -/
set_option Elab.async false
set_option linter.all false
set_option maxRecDepth 100000
set_option maxHeartbeats 8000000
namespace Sand
open PySem L2
/-! ### lists of rows as data -/
def rowD (r : Row) : PyData := .tuple [.str (st r.1), .str (st r.2)]
theorem dp_rows {K : PySem.W.Frag} {H : Hp} : ∀ {vs : List V} {rs : List Row}, Paired (RowV K H) vs rs → DpAll K H vs (rs.map rowD)
  | _, _, .nil => .nil
  | _, _, .cons ⟨t, e, h⟩ r => by
    subst e
    exact .cons (.tup h (.cons (.str _) (.cons (.str _) .nil))) (dp_rows r)
def lowRow (r : Row) : Prop := PyData.strOk (st r.1) = true ∧ PyData.strOk (st r.2) = true
theorem lay_rows : ∀ rs : List Row, (∀ r, r ∈ rs → lowRow r) → PyData.canLayAll0 (rs.map rowD) = true
  | [], _ => rfl
  | s :: ss, h => by
    rw [List.map_cons]
    show ((PyData.strOk (st s.1) && (PyData.strOk (st s.2) && true)) && PyData.canLayAll0 (ss.map rowD)) = true
    have h1 := h s List.mem_cons_self
    rw [lay_rows ss (fun r hr => h r (List.mem_cons_of_mem _ hr)), h1.1, h1.2]; rfl
theorem depth_rows : ∀ ss : List Row, PyData.depthAll (ss.map rowD) ≤ 1
  | [] => Nat.zero_le _
  | s :: ss => by
    rw [List.map_cons]
    show max 1 (PyData.depthAll (ss.map rowD)) ≤ 1
    have := depth_rows ss
    omega
theorem shaped_rows (ss : List Row) (h : ∀ r, r ∈ ss → lowRow r) : SeqAt.shaped (.list (ss.map rowD)) = true := by
  show (PyData.canLayAll0 (ss.map rowD) && decide (PyData.depthAll (ss.map rowD) + 1 ≤ 64)) = true
  have := depth_rows ss
  rw [lay_rows ss h, decide_eq_true (show PyData.depthAll (ss.map rowD) + 1 ≤ 64 by omega)]; rfl
theorem eqv_rows : ∀ ss : List Row, PyData.eqv (.list (ss.map rowD)) (.list []) = decide (ss = [])
  | [] => by rw [PyData.eqv]; simp [PyData.eqvAll]
  | s :: ss => by rw [PyData.eqv]; simp [PyData.eqvAll]
theorem strOk_signs {l : List Nat} (h : ∀ c, c ∈ l → Sign c) : PyData.strOk (st l) = true := by
  show l.toArray.all (fun c => decide (c < 0x110000)) = true
  rw [List.all_toArray, List.all_eq_true]
  intro c hc
  refine decide_eq_true ?_
  rcases h c hc with q | q | q <;> rw [q] <;> decide
theorem low_of {w : Nat} {rs : List Row} (h : ∀ r, r ∈ rs → RowOk w r) : ∀ r, r ∈ rs → lowRow r := fun r hr => ⟨strOk_signs (h r hr).s1, strOk_signs (h r hr).s2⟩
def spDue (K : PySem.W.Frag) : Sp := fun vs H Q _ => ∃ (p hd ls : Addr) (B : Band) (ts : Nat → Addr) (n back size : Nat), vs = [.ref p, .int (B.w : Int), .ref ls, .int (size : Int)] ∧ PaperAt B H p hd ts n back ∧ ListsAt K H ls B ∧ B.Ok ∧ B.least ≤ size ∧ size < 2 ^ 180 ∧
  ∀ t c q H', Same H H' → H' t = some (.tup [.int (B.number size : Nat), .ref c]) → H' c = some (.tup [.ref q, .int ((B.cutv size).2 : Nat)]) → H' q = some (.lst (nl (B.cutv size).1)) → Q (.ref t) H'
/-- the tail and the entry, chosen -/
structure Chosen (K : PySem.W.Frag) (B : Band) (size : Nat) (H0 : Hp) (tl et q : Addr) (rs : List Row) (e : List Nat) (c : Nat) (H : Hp) : Prop where
  same : Same H0 H
  rows : RowsL K H tl rs
  ne : rs ≠ []
  ok : ∀ r, r ∈ rs → RowOk B.w r
  len : rs.length ≤ 19
  et_ : H et = some (.tup [.ref q, .int (c : Int)])
  q_ : H q = some (.lst (nl e))
  pairs : Pairs (2 * B.w) e
  number : B.number size = c + fin e rs
  cut : B.cutv size = ((Sand.cut e rs).1, c + (Sand.cut e rs).2)
section
variable {P : Program} {w : World} {K : PySem.W.Frag} {mg : Str → Option Value} {base : Heap}
theorem ok_law_due {f f1 f2 f3 f4 : Addr} {fd fd1 fd2 fd3 fd4 : FuncData} (F : Fun K "_law_due" "_law_due" s__law_due f fd) (T : Glob mg)
    (c__law_rim : Cal K mg "_law_rim" f1 fd1 ["_law_wide"]) (G__law_rim : FnOk P w K mg base CX0 1 f1 fd1 ["_law_wide"] spLawRim)
    (c__law_entry : Cal K mg "_law_entry" f2 fd2 ["_law_told", "_law_rounds"]) (G__law_entry : FnOk P w K mg base CX0 1 f2 fd2 ["_law_told", "_law_rounds"] spEntry)
    (c__law_behind : Cal K mg "_law_behind" f3 fd3 ["_law_top", "_law_rows_here"]) (G__law_behind : FnOk P w K mg base CX0 3 f3 fd3 ["_law_top", "_law_rows_here"] (spBehind K))
    (c__law_closed : Cal K mg "_law_closed" f4 fd4 ["_law_top", "_law_rows_here"]) (G__law_closed : FnOk P w K mg base CX0 4 f4 fd4 ["_law_top", "_law_rows_here"] (spLawClosed K)) :
    FnOk P w K mg base CX0 5 f fd ["_law_told", "_law_wide", "_law_lists", "_law_size"] (spDue K) := by
  refine F.ok sc__law_due (fun vs H Q E h => ?_) (fun cdv A outer s H vs Q E hr h => ?_)
  · obtain ⟨p, hd, ls, B, ts, n, back, size, rfl, _⟩ := h
    rfl
  · obtain ⟨p, hd, ls, B, ts, n, back, size, rfl, Pp, hLs, O, hsz, hsl, k⟩ := h
    have hu := hu_of hr
    have hr__law_rim : Room 1 _ := hr.mono (by decide)
    have hr__law_entry : Room 1 _ := hr.mono (by decide)
    have hr__law_behind : Room 3 _ := hr.mono (by decide)
    have hr__law_closed : Room 4 _ := hr
    refine ⟨_, (pss_cons (ps_asg (pv 2) (pg_lst rfl (pgs_cons (pg_name (i := 8) sc__law_due.nd rfl (Or.inl rfl)) (pgs_cons (pg_name (i := 9) sc__law_due.nd rfl (Or.inl rfl)) (pgs_cons (pg_name (i := 10) sc__law_due.nd rfl (Or.inl rfl)) pgs_nil)))))
      (pss_cons (ps_set (i := 4) sc__law_due.nd rfl (Or.inl rfl) (pe_op op_sub (pe_op op_sub (pv 3) (pe_callB call_len_seq (by rfl) T.len PySem.boot_len (pa_cons (pv 8) pa_nil))) (pe_callB call_len_seq (by rfl) T.len PySem.boot_len (pa_cons (pv 10) pa_nil))))
      (pss_cons (ps_set (i := 5) sc__law_due.nd rfl (Or.inl rfl) (pe_op op_fdivW (pv 4) (pe_callB call_len_seq (by rfl) T.len PySem.boot_len (pa_cons (pv 9) pa_nil))))
      (pss_cons (ps_set (i := 6) sc__law_due.nd rfl (Or.inl rfl) (pe_op op_cat (pe_slice sl_list (pv 9) po_none (po_some (pe_op op_sub (pv 4) (pe_op op_mulW (pv 5) (pe_callB call_len_seq (by rfl) T.len PySem.boot_len (pa_cons (pv 9) pa_nil)))))) (pv 10)))
      (pss_cons (ps_set (i := 7) sc__law_due.nd rfl (Or.inl rfl) (pe_tup (pa_cons (pe_call G__law_rim hr__law_rim rfl c__law_rim.mg c__law_rim.kp c__law_rim.b .nil pass0 (pa_cons (pv 1) pa_nil)) (pa_cons pe_int pa_nil))))
      (Evl.pss_cut (ps_if (pt_cmpR (op_neD hr.units) (pv 6) (pe_lst pa_nil) (nomark _)) (pss_one (ps_set (i := 7) sc__law_due.nd rfl (Or.inl rfl) (pe_call G__law_entry hr__law_entry rfl c__law_entry.mg c__law_entry.kp c__law_entry.b .nil pass0 (pa_cons (pv 0) (pa_cons (pv 5) pa_nil))))) (pss_one (ps_if (pt_cmpR op_gt (pv 5) pe_int (nomark _)) (pss_cons (ps_set (i := 7) sc__law_due.nd rfl (Or.inl rfl) (pe_call G__law_entry hr__law_entry rfl c__law_entry.mg c__law_entry.kp c__law_entry.b .nil pass0 (pa_cons (pv 0) (pa_cons (pe_op op_sub (pv 5) pe_int) pa_nil))))
      (pss_one (ps_set (i := 6) sc__law_due.nd rfl (Or.inl rfl) (pv 9)))) (pss_one (ps_set (i := 6) sc__law_due.nd rfl (Or.inl rfl) (pv 8))))))
      (pss_cons (ps_asg (pe_call G__law_behind hr__law_behind rfl c__law_behind.mg c__law_behind.kp c__law_behind.b .nil pass0 (pa_cons (pe_ix ix_tup (pv 7) pe_int (fun _ _ => rfl)) (pa_cons (pe_op op_cat (pe_slice sl_list (pv 6) po_none (po_some (pe_un un_neg pe_int))) (pe_lst (pa_cons (pe_tup (pa_cons (pe_ix ix_tup (pe_ix ix_list (pv 6) (pe_un un_neg pe_int) (fun _ _ => rfl)) pe_int (fun _ _ => rfl)) (pa_cons (pe_op op_repS pe_str (pv 1)) pa_nil))) pa_nil))) pa_nil))) (pg_tup rfl (pgs_cons (pg_name (i := 11) sc__law_due.nd rfl (Or.inl rfl)) (pgs_cons (pg_name (i := 12) sc__law_due.nd rfl (Or.inl rfl)) pgs_nil))))
      (pss_one (ps_ret (pe_tup (pa_cons (pe_op op_add (pe_ix ix_tup (pv 7) pe_int (fun _ _ => rfl)) (pe_call G__law_closed hr__law_closed rfl c__law_closed.mg c__law_closed.kp c__law_closed.b .nil pass0 (pa_cons (pe_ix ix_tup (pv 7) pe_int (fun _ _ => rfl)) (pa_cons (pv 6) pa_nil)))) (pa_cons (pe_tup (pa_cons (pv 11) (pa_cons (pe_op op_add (pe_ix ix_tup (pv 7) pe_int (fun _ _ => rfl)) (pv 12)) pa_nil))) pa_nil)))))))))))), ?_⟩
    obtain ⟨la, lb, lc, hls, ⟨va, hla, pa⟩, ⟨vb, hlb, pb⟩, ⟨vc, hlc, pc⟩⟩ := id hLs
    have c0 := O.c0
    have c4 := O.c4
    have e4 := O.e4
    have a8 := O.a8
    have w0 := O.w0
    have w4 := O.w4
    -- ahead, turns, last
    refine ⟨_, rfl, ls, _, rfl, SqL.of hls, rfl, _, _, rfl, _, _, rfl, _, _, rfl, rfl, ?_⟩
    -- body
    refine ⟨_, rfl, _, rfl, la, _, rfl, .inl (SqL.of hla), _, _, rfl, rfl, _, rfl, lc, _, rfl, .inl (SqL.of hlc), _, _, rfl, rfl, ?_⟩
    have ebody : (size : Int) - ((va.length : Nat) : Int) - ((vc.length : Nat) : Int) = (B.body size : Int) := by
      rw [pd_len pa, pd_len pc]
      unfold Band.body Band.least at *
      omega
    dsimp only
    rw [ebody]
    have hbl : B.body size ≤ size := by unfold Band.body; omega
    generalize hbody : B.body size = body at *
    -- rounds
    refine ⟨_, rfl, _, rfl, lb, _, rfl, .inl (SqL.of hlb), _, _, rfl, rfl, ?_⟩
    rw [pd_len pb]
    refine ⟨wide_div (by omega) (b := 20) (by rw [Int.natAbs_natCast]; exact Nat.lt_of_le_of_lt (show _ ≤ 4 by omega) (by decide)) (by decide) (by decide), ?_⟩
    have erd : (body : Int) / ((B.cy.length : Nat) : Int) = ((body / B.cy.length : Nat) : Int) := by rw [Int.natCast_ediv]
    dsimp only
    rw [erd]
    have hrl : body / B.cy.length ≤ body := Nat.div_le_self _ _
    have hrm : body / B.cy.length * B.cy.length ≤ body := Nat.div_mul_le_self _ _
    generalize hrounds : body / B.cy.length = rounds at *
    -- tail
    have eq0 : (body : Int) - (rounds : Int) * ((B.cy.length : Nat) : Int) = ((body - rounds * B.cy.length : Nat) : Int) := by
      rw [← Int.natCast_mul]; omega
    refine ⟨_, rfl, _, rfl, _, rfl, _, rfl, lb, _, rfl, .inl (SqL.of hlb), ?_⟩
    rw [pd_len pb]
    refine ⟨_, _, rfl, rfl, wide_mul (a := 180) (b := 20) (by rw [Int.natAbs_natCast]; omega) (by rw [Int.natAbs_natCast]; exact Nat.lt_of_le_of_lt (show _ ≤ 4 by omega) (by decide)) (by decide) (by decide) (by decide), _, _, rfl, rfl, ?_⟩
    dsimp only
    rw [eq0]
    refine ⟨_, rfl, lb, _, rfl, SqL.of hlb, fun sl hsl => ?_⟩
    rw [cut_to]
    have s1 := Same.new (o := .lst (vb.take (body - rounds * B.cy.length))) (Same.refl H) hsl
    have hpt : Paired (RowV K (upd H sl (.lst (vb.take (body - rounds * B.cy.length))))) (vb.take (body - rounds * B.cy.length)) (B.cy.take (body - rounds * B.cy.length)) := pd_take _ (pd_same s1 pb)
    have hsl1 : upd H sl (.lst (vb.take (body - rounds * B.cy.length))) sl = some (.lst (vb.take (body - rounds * B.cy.length))) := upd_same
    refine ⟨_, rfl, sl, lc, _, _, rfl, rfl, hsl1, s1 _ _ hlc, sz1000 (by rw [pd_len hpt, pd_len pc, List.length_take]; omega), fun tl htl => ?_⟩
    have s2 := Same.new (o := .lst (vb.take (body - rounds * B.cy.length) ++ vc)) s1 htl
    have hpt2 : Paired (RowV K (upd (upd H sl (.lst (vb.take (body - rounds * B.cy.length)))) tl (.lst (vb.take (body - rounds * B.cy.length) ++ vc)))) (vb.take (body - rounds * B.cy.length) ++ vc) (B.cy.take (body - rounds * B.cy.length) ++ B.en) :=
      pd_app (pd_same (Same.new (Same.refl _) htl) hpt) (pd_same s2 pc)
    have htl2 : upd (upd H sl (.lst (vb.take (body - rounds * B.cy.length)))) tl (.lst (vb.take (body - rounds * B.cy.length) ++ vc)) tl = some (.lst (vb.take (body - rounds * B.cy.length) ++ vc)) := upd_same
    have hoktail : ∀ r, r ∈ B.cy.take (body - rounds * B.cy.length) ++ B.en → RowOk B.w r := fun r h => by
      rcases List.mem_append.mp h with h | h
      · exact O.rc r (List.mem_of_mem_take h)
      · exact O.re r h
    have htlen : (B.cy.take (body - rounds * B.cy.length) ++ B.en).length ≤ 19 := by rw [List.length_append, List.length_take]; omega
    have Dt := due_tail hsz c0
    have Dr := due_round hsz c0
    have Da := due_ahead hsz c0
    rw [hbody, hrounds] at Dt Dr Da
    generalize B.cy.take (body - rounds * B.cy.length) ++ B.en = tail at *
    generalize vb.take (body - rounds * B.cy.length) ++ vc = vt at *
    generalize upd (upd H sl (.lst (vb.take (body - rounds * B.cy.length)))) tl (.lst vt) = H2 at *
    -- entry
    refine ⟨_, rfl, B.w, rfl, by omega, fun r0 H3 hr0 s3 hr3 => ?_⟩
    refine ⟨by show 2 ≤ sizeLine; decide, fun e0 he0 => ?_⟩
    have s4 := Same.new (o := .tup [.ref r0, .int 0]) (Same.refl H3) he0
    have s24 := s3.trans s4
    have s04 := s2.trans s24
    have hr4 := s4 _ _ hr3
    have he4 : upd H3 e0 (.tup [.ref r0, .int 0]) e0 = some (.tup [.ref r0, .int 0]) := upd_same
    generalize upd H3 e0 (.tup [.ref r0, .int 0]) = H4 at *
    -- the choice
    refine ⟨fun σ' H' => ∃ (tl et q : Addr) (rs : List Row) (e : List Nat) (c : Nat), σ' = [some (.ref p), some (.int (B.w : Int)), some (.ref ls), some (.int (size : Int)), some (.int (body : Int)), some (.int (rounds : Int)), some (.ref tl), some (.ref et), some (.ref la), some (.ref lb), some (.ref lc), none, none] ∧
        Chosen K B size H tl et q rs e c H', ?_, ?_⟩
    · refine ⟨_, rfl, Nat.zero_le _, fun nn hnn => ?_⟩
      have s5 := Same.new (o := .lst []) (Same.refl H4) hnn
      have hn5 : upd H4 nn (.lst []) nn = some (.lst []) := upd_same
      refine ⟨_, _, .lst (SqL.of (s5 _ _ (s24 _ _ htl2))) (dp_rows (pd_same (s24.trans s5) hpt2)), .lst (SqL.of hn5) .nil, shaped_rows _ (low_of hoktail), shaped_rows [] (fun r h => nomatch h), _, rfl, ?_⟩
      rw [eqv_rows]
      have s05 := s04.trans s5
      generalize upd H4 nn (.lst []) = H5 at *
      by_cases qt : tail = []
      · rw [decide_eq_true qt]
        refine iteF ?_
        refine ⟨_, rfl, _, _, rfl, rfl, _, rfl, ifD (fun g => ?_) (fun g => ?_)⟩
        · -- the round before
          have g : 0 < rounds := by omega
          have er : (rounds : Int) - 1 = ((rounds - 1 : Nat) : Int) := by omega
          refine ⟨_, rfl, _, rfl, _, _, rfl, rfl, p, hd, B, ts, n, back, rounds - 1, by dsimp only; rw [er]; rfl, Pp.same s05, O, by omega, fun t q H6 s6 ht hq => ?_⟩
          refine ⟨_, rfl, lb, t, q, B.cy, (B.H (rounds - 1)).1, (B.H (rounds - 1)).2, rfl, s05.trans s6, (RowsL.same (s05.trans s6) ⟨vb, hlb, pb⟩), (fun z => by rw [z] at c0; exact absurd c0 (by simp)), O.rc, by omega, ht, hq, O.pairs _, (Dr qt g).1, (Dr qt g).2⟩
        · have g : rounds = 0 := by omega
          obtain ⟨d1, d2, d3⟩ := Da qt g
          refine ⟨_, rfl, la, e0, r0, B.ah, Band.rim B.w, 0, rfl, s05, RowsL.same s05 ⟨va, hla, pa⟩, d1, O.ra, by omega, s5 _ _ he4, s5 _ _ hr4, rim_pairs _, by rw [d2]; omega, by rw [d3]; simp⟩
      · rw [decide_eq_false qt]
        refine iteT ?_
        refine ⟨_, rfl, _, rfl, p, hd, B, ts, n, back, rounds, rfl, Pp.same s05, O, by omega, fun t q H6 s6 ht hq => ?_⟩
        refine ⟨tl, t, q, tail, (B.H rounds).1, (B.H rounds).2, rfl, s05.trans s6, ⟨vt, s6 _ _ (s5 _ _ (s24 _ _ htl2)), pd_same ((s24.trans s5).trans s6) hpt2⟩, qt, hoktail, htlen, ht, hq, O.pairs _, (Dt qt).1, (Dt qt).2⟩
    · rintro σ' H6 ⟨tl6, et, q, rs, e, c, rfl, Ch⟩
      obtain ⟨vr, hrp, hrs⟩ := Ch.rows
      have hne := Ch.ne
      -- ends, closed
      refine ⟨_, rfl, et, _, _, _, rfl, rfl, SqT.of Ch.et_, at_of (j := 0) rfl rfl, ?_⟩
      refine ⟨_, rfl, _, rfl, _, rfl, tl6, _, rfl, SqL.of hrp, fun sl6 hsl6 => ?_⟩
      have s1 := Same.new (o := .lst (cutV vr none (some (-1)))) (Same.refl H6) hsl6
      have hps : Paired (RowV K (upd H6 sl6 (.lst (cutV vr none (some (-1)))))) (cutV vr none (some (-1))) rs.dropLast := by have z := pd_dropLast (pd_same s1 hrs); rw [← cut_last] at z; exact z
      have hq1 : upd H6 sl6 (.lst (cutV vr none (some (-1)))) sl6 = some (.lst (cutV vr none (some (-1)))) := upd_same
      have hln := pd_len hps
      rw [List.length_dropLast] at hln
      generalize cutV vr none (some (-1)) = vs at *
      generalize upd H6 sl6 (.lst vs) = H7 at *
      obtain ⟨tr, hat, htr⟩ := last_row (pd_same s1 hrs) hne
      have hlen := Ch.len
      refine ⟨_, rfl, _, rfl, tl6, _, _, _, rfl, rfl, SqL.of (s1 _ _ hrp), hat, tr, _, _, _, rfl, rfl, htr, at_of (j := 0) rfl rfl, ?_⟩
      refine ⟨_, rfl, _, _, rfl, rfl, by omega, by omega, by decide +kernel, by show 2 ≤ sizeLine; decide, fun t ht => ?_⟩
      rw [repS_bar]
      have s2 := Same.new (o := .tup [.str (st (lastRow rs).1), .str (st (List.replicate B.w 124))]) (Same.refl H7) ht
      refine ⟨by show 1 ≤ sizeLine; decide, fun l hl => ?_⟩
      have s3 := Same.new (o := .lst [.ref t]) s2 hl
      refine ⟨sl6, l, vs, [.ref t], rfl, rfl, s3 _ _ hq1, upd_same, sz1000 (by rw [hln, List.length_singleton]; omega), fun rp2 hrp2 => ?_⟩
      have s4 := Same.new (o := .lst (vs ++ [.ref t])) s3 hrp2
      have sA := s1.trans s4
      refine ⟨q, rp2, e, rs.dropLast ++ [((lastRow rs).1, List.replicate B.w 124)], B.w, rfl, SqL.of (sA _ _ Ch.q_), ⟨_, SqL.of upd_same, pd_app (pd_same s4 hps) (.cons ⟨t, rfl, SqT.of (by rw [upd_ne (ne_of_none (by rw [upd_ne (ne_of_none upd_same hl)]; exact upd_same) hrp2), upd_ne (ne_of_none upd_same hl)]; exact upd_same)⟩ .nil)⟩, Ch.pairs, w0, w4, ok_front Ch.ok hne (.inr (.inr rfl)), by rw [List.length_append, List.length_dropLast, List.length_singleton]; omega, fun t2 q2 H8 s5 ht2 hq2 => ?_⟩
      rw [← cut_rows e rs B.w] at ht2 hq2
      refine ⟨t2, _, rfl, SqT.of ht2, rfl, _, _, rfl, _, _, rfl, rfl, ?_⟩
      have sB := sA.trans s5
      -- return
      refine ⟨_, rfl, et, _, _, _, rfl, rfl, SqT.of (sB _ _ Ch.et_), at_of (j := 1) rfl rfl, ?_⟩
      refine ⟨_, rfl, et, _, _, _, rfl, rfl, SqT.of (sB _ _ Ch.et_), at_of (j := 0) rfl rfl, _, rfl, ?_⟩
      refine ⟨q, tl6, e, rs, B.w, rfl, SqL.of (sB _ _ Ch.q_), ⟨vr, SqL.of (sB _ _ hrp), pd_same sB hrs⟩, Ch.pairs, w0, w4, Ch.ok, by omega, hne, fun H9 s6 => ?_⟩
      have sC := sB.trans s6
      refine ⟨_, _, rfl, rfl, _, rfl, _, rfl, et, _, _, _, rfl, rfl, SqT.of (sC _ _ Ch.et_), at_of (j := 1) rfl rfl, _, rfl, _, _, rfl, rfl, by show 2 ≤ sizeLine; decide, fun t3 ht3 => ?_⟩
      refine ⟨by show 2 ≤ sizeLine; decide, fun t4 ht4 => ?_⟩
      have en : (c : Int) + ((fin e rs : Nat) : Int) = (B.number size : Int) := by rw [Ch.number, Int.natCast_add]
      have ec : (c : Int) + (((Sand.cut e rs).2 : Nat) : Int) = ((B.cutv size).2 : Int) := by rw [Ch.cut, Int.natCast_add]
      have eq1 : (B.cutv size).1 = (Sand.cut e rs).1 := by rw [Ch.cut]
      have s7 := Same.new (o := .tup [.ref q2, .int ((c : Int) + (((Sand.cut e rs).2 : Nat) : Int))]) (Same.refl H9) ht3
      have s8 := Same.new (o := .tup [.int ((c : Int) + ((fin e rs : Nat) : Int)), .ref t3]) s7 ht4
      refine k t4 t3 q2 _ ((Ch.same.trans sC).trans s8) ?_ ?_ ?_
      · rw [upd_same, ← en]
      · rw [upd_ne (ne_of_none upd_same ht4), upd_same, ← ec]
      · rw [eq1]
        exact s8 _ _ (s6 _ _ hq2)
end
end Sand
/-! ## PIsPaper -/
set_option Elab.async false
set_option linter.all false
set_option maxRecDepth 100000
set_option maxHeartbeats 8000000
namespace Sand
open PySem L2
abbrev s__law_is_paper : Stmt := top 44
theorem sc__law_is_paper : FnScope ["_law_told", "_law_wide", "_law_lists", "_law_last", "_law_entry_here", "_law_ends", "_law_closed_here", "_law_more"] ["_law_told", "_law_wide", "_law_lists"] (defScope s__law_is_paper) := ⟨rfl, rfl, rfl, by decide +kernel, rfl, by decide +kernel, by decide +kernel⟩
theorem alike_ints {H : Hp} : ∀ e : List Nat, Paired (Alike H 1) (nl e) (nl e)
  | [] => .nil
  | x :: e => .cons (.inl ⟨_, rfl, rfl⟩) (alike_ints e)
theorem alike_pair {H : Hp} {t u q r : Addr} {e : List Nat} {c : Int} (ht : H t = some (.tup [.ref q, .int c])) (hu : H u = some (.tup [.ref r, .int c])) (hq : H q = some (.lst (nl e))) (hr : H r = some (.lst (nl e))) (hl : e.length ≤ 1000) : Alike H 3 (.ref t) (.ref u) :=
  .inr ⟨t, u, _, _, rfl, rfl, by show 2 ≤ 1000; decide, .cons (.inr ⟨q, r, _, _, rfl, rfl, by rw [nl_len]; exact hl, alike_ints e, .inl ⟨hq, hr⟩⟩) (.cons (.inl ⟨c, rfl, rfl⟩) .nil), .inr ⟨ht, hu⟩⟩
def spIsPaper (K : PySem.W.Frag) : Sp := fun vs H Q _ => ∃ (p hd ls : Addr) (B : Band) (ts : Nat → Addr) (n back : Nat), vs = [.ref p, .int (B.w : Int), .ref ls] ∧ PaperAt B H p hd ts n back ∧ ListsAt K H ls B ∧ B.Ok ∧ ∀ H', Same H H' → Q (.bl true) H'
section
variable {P : Program} {w : World} {K : PySem.W.Frag} {mg : Str → Option Value} {base : Heap}
theorem ok_law_is_paper {f f1 f2 f3 : Addr} {fd fd1 fd2 fd3 : FuncData} (F : Fun K "_law_is_paper" "_law_is_paper" s__law_is_paper f fd) (T : Glob mg)
    (c__law_rim : Cal K mg "_law_rim" f1 fd1 ["_law_wide"]) (G__law_rim : FnOk P w K mg base CX0 1 f1 fd1 ["_law_wide"] spLawRim)
    (c__law_behind : Cal K mg "_law_behind" f2 fd2 ["_law_top", "_law_rows_here"]) (G__law_behind : FnOk P w K mg base CX0 3 f2 fd2 ["_law_top", "_law_rows_here"] (spBehind K))
    (c__law_same : Cal K mg "_law_same" f3 fd3 ["_law_found", "_law_due_here"]) (G__law_same : FnOk P w K mg base CX0 3 f3 fd3 ["_law_found", "_law_due_here"] (spSame 3)) :
    FnOk P w K mg base CX0 4 f fd ["_law_told", "_law_wide", "_law_lists"] (spIsPaper K) := by
  refine F.ok sc__law_is_paper (fun vs H Q E h => ?_) (fun cdv A outer s H vs Q E hr h => ?_)
  · obtain ⟨p, hd, ls, B, ts, n, back, rfl, _⟩ := h
    rfl
  · obtain ⟨p, hd, ls, B, ts, n, back, rfl, Pp, hLs, O, k⟩ := h
    have hu := hu_of hr
    have hr__law_rim : Room 1 _ := hr.mono (by decide)
    have hr__law_behind : Room 3 _ := hr
    have hr__law_same : Room 3 _ := hr
    refine ⟨_, (pss_cons (ps_if (PW.pt (pw_or (pt_not (pt_val (pe_callB call_isi (by rfl) T.isinstance (by decide +kernel) (pa_cons (pv 0) (pa_cons (pe_bltn (v := V.ty "tuple") (u := .type "tuple") (by rfl) T.tuple (by decide +kernel) rfl) pa_nil))))) (pw_or (pt_cmpR op_ne (pe_callB call_len_seq (by rfl) T.len PySem.boot_len (pa_cons (pv 0) pa_nil)) pe_int (nomark _)) (pw_or1 (pt_not (pt_val (pe_callB call_isi (by rfl) T.isinstance (by decide +kernel) (pa_cons (pe_ix ix_tup (pv 0) pe_int (fun _ _ => rfl)) (pa_cons (pe_bltn (v := V.ty "list") (u := .type "list") (by rfl) T.list (by decide +kernel) rfl) pa_nil))))))))) (pss_one (ps_ret pe_bl)) pss_nil)
      (pss_cons (ps_set (i := 3) sc__law_is_paper.nd rfl (Or.inl rfl) (pe_op op_sub (pe_callB call_len_seq (by rfl) T.len PySem.boot_len (pa_cons (pe_ix ix_tup (pv 0) pe_int (fun _ _ => rfl)) pa_nil)) pe_int))
      (pss_cons (ps_if (PW.pt (pw_or (pt_not (pt_val (pe_callB call_isi (by rfl) T.isinstance (by decide +kernel) (pa_cons (pe_ix ix_tup (pv 0) pe_int (fun _ _ => rfl)) (pa_cons (pe_bltn (v := V.ty "int") (u := .type "int") (by rfl) T.int (by decide +kernel) rfl) pa_nil))))) (pw_or (pt_val (pe_callB call_isi (by rfl) T.isinstance (by decide +kernel) (pa_cons (pe_ix ix_tup (pv 0) pe_int (fun _ _ => rfl)) (pa_cons (pe_bltn (v := V.ty "bool") (u := .type "bool") (by rfl) T.bool (by decide +kernel) rfl) pa_nil)))) (pw_or1 (pt_cmpR op_notin_rng (pe_ix ix_tup (pv 0) pe_int (fun _ _ => rfl)) (pe_callTy cr_range1 (by rfl) T.range (by decide +kernel) (pa_cons (pv 3) pa_nil)) (by rfl)))))) (pss_one (ps_ret pe_bl)) pss_nil)
      (pss_cons (ps_asg (pe_call G__law_behind hr__law_behind rfl c__law_behind.mg c__law_behind.kp c__law_behind.b .nil pass0 (pa_cons (pe_call G__law_rim hr__law_rim rfl c__law_rim.mg c__law_rim.kp c__law_rim.b .nil pass0 (pa_cons (pv 1) pa_nil)) (pa_cons (pe_ix ix_list (pv 2) pe_int (fun _ _ => rfl)) pa_nil))) (pg_tup rfl (pgs_cons (pg_name (i := 5) sc__law_is_paper.nd rfl (Or.inl rfl)) (pgs_cons (pg_name (i := 6) sc__law_is_paper.nd rfl (Or.inl rfl)) pgs_nil))))
      (pss_cons (ps_for PassesOwn.never rfl (pi_list (pe_ix ix_tup (pv 0) pe_int (fun _ _ => rfl))) (pg_name (i := 4) sc__law_is_paper.nd rfl (Or.inl rfl)) (pss_cons (ps_if (pt_not (pt_val (pe_call G__law_same hr__law_same rfl c__law_same.mg c__law_same.kp c__law_same.b .nil pass0 (pa_cons (pv 4) (pa_cons (pe_tup (pa_cons (pv 5) (pa_cons (pv 6) pa_nil))) pa_nil))))) (pss_one (ps_ret pe_bl)) pss_nil)
      (pss_cons (ps_asg (pe_call G__law_behind hr__law_behind rfl c__law_behind.mg c__law_behind.kp c__law_behind.b .nil pass0 (pa_cons (pv 5) (pa_cons (pe_ix ix_list (pv 2) pe_int (fun _ _ => rfl)) pa_nil))) (pg_tup rfl (pgs_cons (pg_name (i := 5) sc__law_is_paper.nd rfl (Or.inl rfl)) (pgs_cons (pg_name (i := 7) sc__law_is_paper.nd rfl (Or.inl rfl)) pgs_nil))))
      (pss_one (ps_set (i := 6) sc__law_is_paper.nd rfl (Or.inl rfl) (pe_op op_add (pv 6) (pv 7)))))))
      (pss_one (ps_ret (pe_cmpR (op_eqD hr.units) (pe_ix ix_tup (pe_ix ix_list (pe_ix ix_tup (pv 0) pe_int (fun _ _ => rfl)) (pv 3) (fun _ _ => rfl)) pe_int (fun _ _ => rfl)) (pe_ix ix_tup (pe_ix ix_list (pe_ix ix_tup (pv 0) pe_int (fun _ _ => rfl)) (pe_ix ix_tup (pv 0) pe_int (fun _ _ => rfl)) (fun _ _ => rfl)) pe_int (fun _ _ => rfl)) (nomark _))))))))), ?_⟩
    have hlt := Pp.lt
    have hle := Pp.le
    have hlen : ((List.range (n + 1)).map fun i => V.ref (ts i)).length = n + 1 := by rw [List.length_map, List.length_range]
    refine ⟨_, rfl, _, _, .type "tuple", .type "tuple", true, rfl, .ty _, .base (.tup Pp.tp), rfl, _, rfl, iteF ?_⟩
    refine ⟨_, rfl, p, _, rfl, .inr (SqT.of Pp.tp), rfl, _, rfl, iteF ?_⟩
    refine ⟨_, rfl, p, _, _, _, rfl, rfl, SqT.of Pp.tp, at_of (j := 0) rfl rfl, _, _, .type "list", .type "list", true, rfl, .ty _, .base (.lst Pp.hd), rfl, _, rfl, iteF ?_⟩
    -- last
    refine ⟨_, rfl, p, _, _, _, rfl, rfl, SqT.of Pp.tp, at_of (j := 0) rfl rfl, hd, _, rfl, .inl (SqL.of Pp.hd), _, _, rfl, rfl, ?_⟩
    rw [hlen]
    have en : ((n + 1 : Nat) : Int) - 1 = (n : Int) := by omega
    dsimp only
    rw [en]
    refine ⟨_, rfl, p, _, _, _, rfl, rfl, SqT.of Pp.tp, at_of (j := 1) rfl rfl, _, _, .type "int", .type "int", true, rfl, .ty _, .base (.int _), rfl, _, rfl, iteF ?_⟩
    refine ⟨_, rfl, p, _, _, _, rfl, rfl, SqT.of Pp.tp, at_of (j := 1) rfl rfl, _, _, .type "int", .type "bool", false, rfl, .ty _, .base (.int _), rfl, _, rfl, iteF ?_⟩
    refine ⟨_, rfl, p, _, _, _, rfl, rfl, SqT.of Pp.tp, at_of (j := 1) rfl rfl, ?_⟩
    refine ⟨_, rfl, _, rfl, fun rg hrg => ?_⟩
    have s1 := Same.new (o := .rng 0 (n : Int)) (Same.refl H) hrg
    have hrg1 : upd H rg (.rng 0 (n : Int)) rg = some (.rng 0 (n : Int)) := upd_same
    generalize upd H rg (.rng 0 (n : Int)) = H1 at *
    refine ⟨_, _, _, _, rfl, rfl, hrg1, _, rfl, ?_⟩
    rw [decide_eq_true (show (0 : Int) ≤ (back : Int) ∧ (back : Int) < (n : Int) by omega)]
    refine iteF ?_
    obtain ⟨la, lb, lc, hls, hla, hlb, hlc⟩ := id hLs
    have a8 := O.a8
    have c4 := O.c4
    have w4 := O.w4
    have w0 := O.w0
    -- ends, closed
    refine ⟨_, rfl, B.w, rfl, by omega, fun r0 H2 hr0 s2 hr2 => ?_⟩
    have s02 := s1.trans s2
    refine ⟨_, rfl, ls, _, _, _, rfl, rfl, SqL.of (s02 _ _ hls), at_of (j := 0) rfl rfl, ?_⟩
    refine ⟨r0, la, Band.rim B.w, B.ah, B.w, rfl, SqL.of hr2, (hla.same s02).at_, rim_pairs _, w0, w4, O.ra, by omega, fun t3 q3 H3 s3 ht3 hq3 => ?_⟩
    rw [← H_zero] at ht3 hq3
    have s03 := s02.trans s3
    refine ⟨t3, _, rfl, SqT.of ht3, rfl, _, _, rfl, _, _, rfl, rfl, ?_⟩
    have P3 := Pp.same s03
    refine ⟨_, rfl, p, _, _, _, rfl, rfl, SqT.of P3.tp, at_of (j := 0) rfl rfl, hd, rfl, ⟨_, SqL.of P3.hd⟩, for_list (K := K) (a := hd) (xs := (List.range (n + 1)).map fun i => V.ref (ts i)) (fun i σ H' => ∃ (q : Addr) (v4 v7 : Option V), σ = [some (.ref p), some (.int (B.w : Int)), some (.ref ls), some (.int (n : Int)), v4, some (.ref q), some (.int ((B.H i).2 : Nat)), v7] ∧
        Same H H' ∧ H' q = some (.lst (nl (B.H i).1)))
      ⟨q3, none, none, rfl, s03, hq3⟩ (fun i σ H' _ ⟨_, _, _, _, s, _⟩ => SqL.of (s _ _ Pp.hd)) ?_ ?_⟩
    · rintro i x σ H4 hx ⟨q, v4, v7, rfl, s4, hq⟩
      have hi : i < n + 1 := by
        have := (List.getElem?_eq_some_iff.mp hx).1
        rw [hlen] at this; exact this
      rw [ts_get' hi] at hx
      obtain rfl := Option.some.inj hx
      obtain ⟨qi, h1, h2⟩ := Pp.at_ i (by omega)
      -- same
      refine ⟨_, rfl, _, rfl, _, rfl, by show 2 ≤ sizeLine; decide, fun t ht => ?_⟩
      have s5 := Same.new (o := .tup [.ref q, .int ((B.H i).2 : Nat)]) (Same.refl H4) ht
      have hB : (B.H i).1.length = 2 * B.w := S_len B _
      refine ⟨.ref (ts i), .ref t, rfl, alike_pair (s5 _ _ (s4 _ _ h1)) upd_same (s5 _ _ (s4 _ _ h2)) (s5 _ _ hq) (by omega), fun H5 s6 => ?_⟩
      refine ⟨_, rfl, iteF ?_⟩
      have s05 := (s4.trans s5).trans s6
      -- the next
      refine ⟨_, rfl, _, rfl, ls, _, _, _, rfl, rfl, SqL.of (s05 _ _ hls), at_of (j := 1) rfl rfl, ?_⟩
      refine ⟨q, lb, (B.H i).1, B.cy, B.w, rfl, SqL.of (s6 _ _ (s5 _ _ hq)), (hlb.same s05).at_, O.pairs _, w0, w4, O.rc, by omega, fun t6 q6 H6 s7 ht6 hq6 => ?_⟩
      refine ⟨t6, _, rfl, SqT.of ht6, rfl, _, _, rfl, _, _, rfl, rfl, ?_⟩
      refine ⟨_, rfl, _, rfl, _, _, rfl, rfl, ?_⟩
      refine ⟨q6, _, _, by rw [H_succ]; rfl, s05.trans s7, by rw [H_succ]; exact hq6⟩
    · rintro σ H4 ⟨q, v4, v7, rfl, s4, hq⟩
      have P4 := Pp.same s4
      obtain ⟨q1, h1, h2⟩ := P4.at_ n (Nat.le_refl _)
      obtain ⟨q2, h3, h4⟩ := P4.at_ back (by omega)
      refine ⟨_, rfl, p, _, _, _, rfl, rfl, SqT.of P4.tp, at_of (j := 0) rfl rfl, _, rfl, hd, _, _, _, rfl, rfl, SqL.of P4.hd, at_of rfl (ts_get' (i := n) (by omega)), ts n, _, _, _, rfl, rfl, SqT.of h1, at_of (j := 0) rfl rfl, ?_⟩
      refine ⟨_, rfl, p, _, _, _, rfl, rfl, SqT.of P4.tp, at_of (j := 0) rfl rfl, _, rfl, p, _, _, _, rfl, rfl, SqT.of P4.tp, at_of (j := 1) rfl rfl, hd, _, _, _, rfl, rfl, SqL.of P4.hd, at_of rfl (ts_get' (i := back) (by omega)), ts back, _, _, _, rfl, rfl, SqT.of h3, at_of (j := 0) rfl rfl, ?_⟩
      rw [nl_zs] at h2 h4
      refine ⟨_, _, .lst (SqL.of h2) (dp_zl _), .lst (SqL.of h4) (dp_zl _), shaped_zl _, shaped_zl _, ?_⟩
      rw [eqv_zl, Pp.again, decide_eq_true rfl]
      exact k H4 s4
end
end Sand
/-! ## PLaw -/
set_option Elab.async false
set_option linter.all false
set_option maxRecDepth 100000
set_option maxHeartbeats 8000000
namespace Sand
open PySem L2
abbrev s_law : Stmt := top 47
theorem sc_law : FnScope ["_law_script", "_law_cell", "_law_well_here", "_law_near", "_law_far", "_law_band", "_law_told", "_law_course", "_law_least", "_law_size", "_law_wide", "_law_lists", "_law_due_here", "_law_cut"] ["_law_script"] (defScope s_law) := ⟨rfl, rfl, rfl, by decide +kernel, rfl, by decide +kernel, by decide +kernel⟩
def spLaw (K : PySem.W.Frag) : Sp := fun vs H Q _ => ∃ (a : Addr) (ns : List Int), vs = [.ref a] ∧ SqL K H a (ns.map V.int) ∧ ∀ H', Q (.bl true) H'
theorem RowsL.no {K : PySem.W.Frag} {H : Hp} {p a : Addr} {rs : List Row} {N : Int} (h : RowsL K H p rs) (ha : H a = some (.lst [.int N])) : p ≠ a := fun e => by
  obtain ⟨ps, h1, h2⟩ := h
  rw [e, ha] at h1
  cases h1
  cases h2 with
  | cons h _ =>
    obtain ⟨t, e, _⟩ := h
    exact nomatch e
theorem But.toSame {a : Addr} {H H1 H2 : Hp} (s : Same H H1) (h0 : H a = none) (k : But a H1 H2) : Same H H2 := fun b o e => k b o (s b o e) (ne_of_none e h0)
section
variable {P : Program} {w : World} {K : PySem.W.Frag} {mg : Str → Option Value} {base : Heap} {C CC : Addr} {f1 f2 f3 f4 f5 f6 f7 f8 f9 f10 f11 f12 : Addr} {fd1 fd2 fd3 fd4 fd5 fd6 fd7 fd8 fd9 fd10 fd11 fd12 : FuncData}
theorem ok_law {f : Addr} {fd : FuncData} (F : Fun K "law" "law" s_law f fd) (T : Glob mg) (S : StripT K C) (SC : CourseT K CC)
    (c__law_well : Cal K mg "_law_well" f1 fd1 ["_law_cell", "_law_salt"]) (G__law_well : FnOk P w K mg base CX0 1 f1 fd1 ["_law_cell", "_law_salt"] spWell)
    (c__law_pick : Cal K mg "_law_pick" f2 fd2 ["_law_well_here", "_law_many"]) (G__law_pick : FnOk P w K mg base CX0 1 f2 fd2 ["_law_well_here", "_law_many"] spPick)
    (c__law_parts : Cal K mg "_law_parts" f3 fd3 ["_law_well_here"]) (G__law_parts : FnOk P w K mg base CX0 3 f3 fd3 ["_law_well_here"] (spLawParts K))
    (c_Strip : MCal K mg "Strip" C f4 fd4 ["self", "width", "ahead", "cycle", "end"]) (G_Strip : FnOk P w K mg base CX0 2 f4 fd4 ["self", "width", "ahead", "cycle", "end"] (spInit K C))
    (c_course_paper : Cal K mg "course_paper" f5 fd5 ["strip"]) (G_course_paper : FnOk P w K mg base CX0 4 f5 fd5 ["strip"] (spPaper K C))
    (c__law_is_paper : Cal K mg "_law_is_paper" f6 fd6 ["_law_told", "_law_wide", "_law_lists"]) (G__law_is_paper : FnOk P w K mg base CX0 4 f6 fd6 ["_law_told", "_law_wide", "_law_lists"] (spIsPaper K))
    (c_strip_course : Cal K mg "strip_course" f7 fd7 ["strip"]) (G_strip_course : FnOk P w K mg base CX0 6 f7 fd7 ["strip"] (spCourse K C CC))
    (c__law_due : Cal K mg "_law_due" f8 fd8 ["_law_told", "_law_wide", "_law_lists", "_law_size"]) (G__law_due : FnOk P w K mg base CX0 5 f8 fd8 ["_law_told", "_law_wide", "_law_lists", "_law_size"] (spDue K))
    (c__law_same : Cal K mg "_law_same" f9 fd9 ["_law_found", "_law_due_here"]) (G__law_same : FnOk P w K mg base CX0 3 f9 fd9 ["_law_found", "_law_due_here"] (spSame 3))
    (c_count_at : Cal K mg "count_at" f10 fd10 ["strip", "n"]) (G_count_at : FnOk P w K mg base CX0 7 f10 fd10 ["strip", "n"] (spCount K C))
    (c_at : TCal K CC "at" f11 fd11 ["self", "n"]) (G_at : FnOk P w K mg base CX0 2 f11 fd11 ["self", "n"] (spAt K CC))
    (c_cut_ends : Cal K mg "cut_ends" f12 fd12 ["strip", "n"]) (G_cut_ends : FnOk P w K mg base CX0 5 f12 fd12 ["strip", "n"] (spCutEnds K C)) :
    FnOk P w K mg base CX0 8 f fd ["_law_script"] (spLaw K) := by
  refine F.ok sc_law (fun vs H Q E h => ?_) (fun cdv A outer s H vs Q E hr h => ?_)
  · obtain ⟨a, ns, rfl, _⟩ := h
    rfl
  · obtain ⟨a, ns, rfl, hS, k⟩ := h
    have hu := hu_of hr
    have hr__law_well : Room 1 _ := hr.mono (by decide)
    have hr__law_pick : Room 1 _ := hr.mono (by decide)
    have hr__law_parts : Room 3 _ := hr.mono (by decide)
    have hr_Strip : Room 3 _ := hr.mono (by decide)
    have hr_course_paper : Room 4 _ := hr.mono (by decide)
    have hr__law_is_paper : Room 4 _ := hr.mono (by decide)
    have hr_strip_course : Room 6 _ := hr.mono (by decide)
    have hr__law_due : Room 5 _ := hr.mono (by decide)
    have hr__law_same : Room 3 _ := hr.mono (by decide)
    have hr_count_at : Room 7 _ := hr
    have hr_at : Room 2 _ := hr.mono (by decide)
    have hr_cut_ends : Room 5 _ := hr.mono (by decide)
    refine ⟨_, (pss_cons (ps_for PassesOwn.never rfl (pi_list (pe_op op_cat (pe_lst (pa_cons (pe_op op_add (pe_op op_pow pe_int pe_int) pe_int) pa_nil)) (pe_slice sl_list (pv 0) po_none (po_some pe_int)))) (pg_name (i := 1) sc_law.nd rfl (Or.inl rfl)) (pss_cons (ps_set (i := 2) sc_law.nd rfl (Or.inl rfl) (pe_call G__law_well hr__law_well rfl c__law_well.mg c__law_well.kp c__law_well.b .nil pass0 (pa_cons (pv 1) (pa_cons pe_int pa_nil))))
      (pss_cons (ps_set (i := 3) sc_law.nd rfl (Or.inl rfl) (pe_call G__law_pick hr__law_pick rfl c__law_pick.mg c__law_pick.kp c__law_pick.b .nil pass0 (pa_cons (pv 2) (pa_cons pe_int pa_nil))))
      (pss_cons (ps_asg (pe_call G__law_parts hr__law_parts rfl c__law_parts.mg c__law_parts.kp c__law_parts.b .nil pass0 (pa_cons (pv 2) pa_nil)) (pg_tup rfl (pgs_cons (pg_name (i := 10) sc_law.nd rfl (Or.inl rfl)) (pgs_cons (pg_name (i := 11) sc_law.nd rfl (Or.inl rfl)) pgs_nil))))
      (pss_cons (ps_set (i := 4) sc_law.nd rfl (Or.inl rfl) (pe_lst (pa_cons (pv 3) (pa_cons (pe_call G__law_pick hr__law_pick rfl c__law_pick.mg c__law_pick.kp c__law_pick.b .nil pass0 (pa_cons (pv 2) (pa_cons (pe_op op_pow pe_int pe_int) pa_nil))) (pa_cons (pe_call G__law_pick hr__law_pick rfl c__law_pick.mg c__law_pick.kp c__law_pick.b .nil pass0 (pa_cons (pv 2) (pa_cons (pe_op op_sub (pe_op op_pow pe_int pe_int) pe_int) pa_nil))) pa_nil)))))
      (pss_cons (ps_set (i := 5) sc_law.nd rfl (Or.inl rfl) (pe_make c_Strip.mk_ G_Strip hr_Strip rfl c_Strip.mg c_Strip.b .nil pass0 (pa_cons (pv 10) (pa_cons (pe_callTy call_list_of (by rfl) T.list (by decide +kernel) (pa_cons (pe_ix ix_list (pv 11) pe_int (fun _ _ => rfl)) pa_nil)) (pa_cons (pe_callTy call_list_of (by rfl) T.list (by decide +kernel) (pa_cons (pe_ix ix_list (pv 11) pe_int (fun _ _ => rfl)) pa_nil)) (pa_cons (pe_callTy call_list_of (by rfl) T.list (by decide +kernel) (pa_cons (pe_ix ix_list (pv 11) pe_int (fun _ _ => rfl)) pa_nil)) pa_nil))))))
      (pss_cons (ps_set (i := 6) sc_law.nd rfl (Or.inl rfl) (pe_call G_course_paper hr_course_paper rfl c_course_paper.mg c_course_paper.kp c_course_paper.b .nil pass0 (pa_cons (pv 5) pa_nil)))
      (pss_cons (ps_if (pt_not (pt_val (pe_call G__law_is_paper hr__law_is_paper rfl c__law_is_paper.mg c__law_is_paper.kp c__law_is_paper.b .nil pass0 (pa_cons (pv 6) (pa_cons (pv 10) (pa_cons (pv 11) pa_nil)))))) (pss_one (ps_ret pe_bl)) pss_nil)
      (pss_cons (ps_set (i := 7) sc_law.nd rfl (Or.inl rfl) (pe_call G_strip_course hr_strip_course rfl c_strip_course.mg c_strip_course.kp c_strip_course.b .nil pass0 (pa_cons (pv 5) pa_nil)))
      (pss_cons (ps_set (i := 8) sc_law.nd rfl (Or.inl rfl) (pe_callB (call_max2 rfl) (by rfl) T.max (by decide +kernel) (pa_cons pe_int (pa_cons (pe_op op_add (pe_callB call_len_seq (by rfl) T.len PySem.boot_len (pa_cons (pe_ix ix_list (pv 11) pe_int (fun _ _ => rfl)) pa_nil)) (pe_callB call_len_seq (by rfl) T.len PySem.boot_len (pa_cons (pe_ix ix_list (pv 11) pe_int (fun _ _ => rfl)) pa_nil))) pa_nil))))
      (pss_one (ps_for PassesOwn.never rfl (pi_list (pe_lst (pa_cons (pe_op op_add (pv 8) (pe_ix ix_list (pv 4) pe_int (fun _ _ => rfl))) (pa_cons (pv 8) (pa_cons (pe_op op_add (pv 8) (pe_ix ix_list (pv 4) pe_int (fun _ _ => rfl))) (pa_cons (pe_op op_add (pv 8) (pe_ix ix_list (pv 4) pe_int (fun _ _ => rfl))) (pa_cons (pe_op op_add (pe_op op_add (pv 8) (pe_ix ix_list (pv 4) pe_int (fun _ _ => rfl))) pe_int) pa_nil))))))) (pg_name (i := 9) sc_law.nd rfl (Or.inl rfl)) (pss_cons (ps_asg (pe_call G__law_due hr__law_due rfl c__law_due.mg c__law_due.kp c__law_due.b .nil pass0 (pa_cons (pv 6) (pa_cons (pv 10) (pa_cons (pv 11) (pa_cons (pv 9) pa_nil))))) (pg_tup rfl (pgs_cons (pg_name (i := 12) sc_law.nd rfl (Or.inl rfl)) (pgs_cons (pg_name (i := 13) sc_law.nd rfl (Or.inl rfl)) pgs_nil))))
      (pss_cons (ps_if (pt_not (pt_val (pe_call G__law_same hr__law_same rfl c__law_same.mg c__law_same.kp c__law_same.b .nil pass0 (pa_cons (pe_lst (pa_cons (pe_call G_count_at hr_count_at rfl c_count_at.mg c_count_at.kp c_count_at.b .nil pass0 (pa_cons (pv 5) (pa_cons (pv 9) pa_nil))) (pa_cons (pe_meth (pv 7) SC.cl c_at.mt G_at hr_at c_at.b .nil pass0 (pa_cons (pv 9) pa_nil)) pa_nil))) (pa_cons (pe_lst (pa_cons (pv 12) (pa_cons (pv 12) pa_nil))) pa_nil))))) (pss_one (ps_ret pe_bl)) pss_nil)
      (pss_one (ps_if (pt_not (pt_val (pe_call G__law_same hr__law_same rfl c__law_same.mg c__law_same.kp c__law_same.b .nil pass0 (pa_cons (pe_call G_cut_ends hr_cut_ends rfl c_cut_ends.mg c_cut_ends.kp c_cut_ends.b .nil pass0 (pa_cons (pv 5) (pa_cons (pv 9) pa_nil))) (pa_cons (pv 13) pa_nil))))) (pss_one (ps_ret pe_bl)) pss_nil))))))))))))))))
      (pss_one (ps_ret pe_bl))), ?_⟩
    -- the cells
    refine ⟨_, _, rfl, rfl, ⟨by decide, by decide, by decide⟩, _, _, rfl, rfl, by show 1 ≤ sizeLine; decide, ?_⟩
    dsimp only
    intro l hl
    have s1 := Same.new (o := .lst [.int ((10 : Int) ^ (18 : Int).toNat + 5281405)]) (Same.refl H) hl
    have hl1 : upd H l (.lst [.int ((10 : Int) ^ (18 : Int).toNat + 5281405)]) l = some (.lst [.int ((10 : Int) ^ (18 : Int).toNat + 5281405)]) := upd_same
    generalize (10 : Int) ^ (18 : Int).toNat + 5281405 = z0 at *
    generalize upd H l (.lst [.int z0]) = H1 at *
    refine ⟨_, rfl, _, rfl, a, _, rfl, s1.seq hS, fun sl hsl => ?_⟩
    have e2 : cutV (ns.map V.int) none (some (2 : Int)) = (ns.map V.int).take 2 := cut_to _ 2
    rw [e2]
    have s2 := Same.new (o := .lst ((ns.map V.int).take 2)) (Same.refl H1) hsl
    have hsl2 : upd H1 sl (.lst ((ns.map V.int).take 2)) sl = some (.lst ((ns.map V.int).take 2)) := upd_same
    generalize upd H1 sl (.lst ((ns.map V.int).take 2)) = H2 at *
    refine ⟨l, sl, _, _, rfl, rfl, s2 _ _ hl1, hsl2, sz1000 (by rw [List.length_singleton, List.length_take]; omega), fun p hp => ?_⟩
    have s3 := Same.new (o := .lst ([.int z0] ++ (ns.map V.int).take 2)) (s1.trans s2) hp
    have hp3 : upd H2 p (.lst ([.int z0] ++ (ns.map V.int).take 2)) p = some (.lst ([.int z0] ++ (ns.map V.int).take 2)) := upd_same
    generalize upd H2 p (.lst ([.int z0] ++ (ns.map V.int).take 2)) = H3 at *
    have hints : ∀ (i : Nat) (x : V), ([V.int z0] ++ (ns.map V.int).take 2)[i]? = some x → ∃ z : Int, x = .int z := fun i x hx => by
      have hm := List.mem_of_getElem? hx
      rcases List.mem_append.mp hm with h | h
      · exact ⟨z0, List.mem_singleton.mp h⟩
      · obtain ⟨z, _, e⟩ := List.mem_map.mp (List.mem_of_mem_take h)
        exact ⟨z, e.symm⟩
    generalize [V.int z0] ++ (ns.map V.int).take 2 = cells at *
    refine ⟨p, rfl, ⟨_, SqL.of hp3⟩, for_list (K := K) (D := { nx := _, rt := _ }) (a := p) (xs := cells) (fun i σ H' => ∃ v1 v2 v3 v4 v5 v6 v7 v8 v9 v10 v11 v12 v13, σ = [some (.ref a), v1, v2, v3, v4, v5, v6, v7, v8, v9, v10, v11, v12, v13] ∧ Same H3 H')
      ⟨_, _, _, _, _, _, _, _, _, _, _, _, _, rfl, Same.refl H3⟩ (fun i σ H' _ ⟨_, _, _, _, _, _, _, _, _, _, _, _, _, _, s⟩ => SqL.of (s _ _ hp3)) ?_ ?_⟩
    · rintro i x σ H4 hx ⟨v1, v2, v3, v4, v5, v6, v7, v8, v9, v10, v11, v12, v13, rfl, s4⟩
      obtain ⟨z, rfl⟩ := hints i x hx
      -- the well
      refine ⟨_, rfl, z, 93, rfl, by decide, by decide, fun wl N H5 hw s5 hwl => ?_⟩
      have hw0 : H3 wl = none := s4.free hw
      have s35 := s4.trans s5
      refine ⟨_, rfl, wl, N, 200, rfl, hwl, by decide, by decide, fun k0 N1 hk0 => ?_⟩
      have s6 := s35.mut (o := .lst [.int N1]) hw0
      have hwl6 : upd H5 wl (.lst [.int N1]) wl = some (.lst [.int N1]) := upd_same
      generalize upd H5 wl (.lst [.int N1]) = H6 at *
      -- the parts
      refine ⟨_, rfl, wl, N1, rfl, hwl6, fun t ls B N2 H7 b7 hwl7 O ht hLs hne => ?_⟩
      have s7 := b7.toSame s6 hw0
      refine ⟨t, _, rfl, SqT.of ht, rfl, _, _, rfl, _, _, rfl, rfl, ?_⟩
      -- how far
      refine ⟨_, rfl, _, rfl, _, _, rfl, rfl, ⟨by decide, by decide, by decide⟩, wl, N2, 10 ^ 29, by rfl, hwl7, by decide, by decide, fun k1 N3 hk1 => ?_⟩
      have s8 := s7.mut (o := .lst [.int N3]) hw0
      have hwl8 : upd H7 wl (.lst [.int N3]) wl = some (.lst [.int N3]) := upd_same
      have b8 : But wl H7 (upd H7 wl (.lst [.int N3])) := (But.refl wl H7).upd
      generalize upd H7 wl (.lst [.int N3]) = H8 at *
      refine ⟨_, rfl, _, _, rfl, rfl, ⟨by decide, by decide, by decide⟩, _, _, rfl, rfl, wl, N3, 10 ^ 30 - 100, by rfl, hwl8, by decide, by decide, fun k2 N4 hk2 => ?_⟩
      have s9 := s8.mut (o := .lst [.int N4]) hw0
      have b9 : But wl H8 (upd H8 wl (.lst [.int N4])) := (But.refl wl H8).upd
      generalize upd H8 wl (.lst [.int N4]) = H9 at *
      refine ⟨by show 3 ≤ sizeLine; decide, fun fl hfl => ?_⟩
      have sn := Same.new (o := .lst [.int (k0 : Int), .int (k1 : Int), .int (k2 : Int)]) (Same.refl H9) hfl
      have sA := s9.trans sn
      have bA := (b8.trans b9).andS sn
      have hflA : upd H9 fl (.lst [.int (k0 : Int), .int (k1 : Int), .int (k2 : Int)]) fl = some (.lst [.int (k0 : Int), .int (k1 : Int), .int (k2 : Int)]) := upd_same
      generalize upd H9 fl (.lst [.int (k0 : Int), .int (k1 : Int), .int (k2 : Int)]) = HA at *
      have hLsA : ListsAt K HA ls B := by
        obtain ⟨la, lb, lc, h1, h2, h3, h4⟩ := hLs
        exact ⟨la, lb, lc, bA _ _ h1 hne, h2.but bA hwl7 (h2.no hwl7), h3.but bA hwl7 (h3.no hwl7), h4.but bA hwl7 (h4.no hwl7)⟩
      obtain ⟨la, lb, lc, hls, ⟨va, hla, pa⟩, ⟨vb, hlb, pb⟩, ⟨vc, hlc, pc⟩⟩ := id hLsA
      -- the band
      refine ⟨_, rfl, _, rfl, ls, _, _, _, rfl, rfl, SqL.of hls, at_of (j := 0) rfl rfl, la, _, rfl, .inl (SqL.of hla), fun l1 hl1 => ?_⟩
      have t1 := Same.new (o := .lst va) (Same.refl HA) hl1
      have g1 : upd HA l1 (.lst va) l1 = some (.lst va) := upd_same
      generalize upd HA l1 (.lst va) = HB at *
      refine ⟨_, rfl, ls, _, _, _, rfl, rfl, SqL.of (t1 _ _ hls), at_of (j := 1) rfl rfl, lb, _, rfl, .inl (SqL.of (t1 _ _ hlb)), fun l2 hl2 => ?_⟩
      have t2 := Same.new (o := .lst vb) (Same.refl HB) hl2
      have g2 : upd HB l2 (.lst vb) l2 = some (.lst vb) := upd_same
      generalize upd HB l2 (.lst vb) = HC at *
      have t12 := t1.trans t2
      refine ⟨_, rfl, ls, _, _, _, rfl, rfl, SqL.of (t12 _ _ hls), at_of (j := 2) rfl rfl, lc, _, rfl, .inl (SqL.of (t12 _ _ hlc)), fun l3 hl3 => ?_⟩
      have t3 := Same.new (o := .lst vc) (Same.refl HC) hl3
      have g3 : upd HC l3 (.lst vc) l3 = some (.lst vc) := upd_same
      generalize upd HC l3 (.lst vc) = HD at *
      have t13 := t12.trans t3
      intro x dx hx2 hdx hdne
      have t4 : Same HD (upd (upd HD dx (.own x)) x (.ins C dx [])) := fun b o e => by
        rw [upd_ne (ne_of_none e hx2), upd_ne (ne_of_none e hdx)]; exact e
      have hxx : upd (upd HD dx (.own x)) x (.ins C dx []) x = some (.ins C dx []) := upd_same
      generalize upd (upd HD dx (.own x)) x (.ins C dx []) = HE at *
      have t14 := t13.trans t4
      have q1 : RowsAt K HE l1 B.ah := ⟨va, SqL.of (t4 _ _ (t3 _ _ (t2 _ _ g1))), pd_same t14 pa⟩
      have q2 : RowsAt K HE l2 B.cy := ⟨vb, SqL.of (t4 _ _ (t3 _ _ g2)), pd_same t14 pb⟩
      have q3 : RowsAt K HE l3 B.en := ⟨vc, SqL.of (t4 _ _ g3), pd_same t14 pc⟩
      refine ⟨x, dx, l1, l2, l3, B, rfl, hxx, q1, q2, q3, O, fun HF bF hB => ⟨rfl, ?_⟩⟩
      have hx0 : HA x = none := t13.free hx2
      have tF : Same HA HF := bF.toSame t14 hx0
      have sF := sA.trans tF
      -- the paper
      refine ⟨_, rfl, x, B, rfl, hB, O, fun tp hd ts n back HG tG Pp => ?_⟩
      have tFG := tF.trans tG
      refine ⟨_, rfl, _, rfl, _, rfl, tp, hd, ls, B, ts, n, back, rfl, Pp, hLsA.same tFG, O, fun HH tH => ?_⟩
      refine ⟨_, rfl, iteF ?_⟩
      have tFH := tFG.trans tH
      have hBH := hB.same (tG.trans tH)
      -- the course
      refine ⟨_, rfl, x, B, rfl, hBH, O, fun q HI told per rise tI hC hT hl hri => ?_⟩
      have tFI := tFH.trans tI
      have hBI := hBH.same tI
      have PI := Pp.same (tH.trans tI)
      have LI := hLsA.same tFI
      -- the least length
      obtain ⟨la, lb, lc, hls, ⟨va, hla, pa⟩, ⟨vb, hlb, pb⟩, ⟨vc, hlc, pc⟩⟩ := id LI
      refine ⟨_, rfl, ls, _, _, _, rfl, rfl, SqL.of hls, at_of (j := 0) rfl rfl, la, _, rfl, .inl (SqL.of hla), _, rfl, ls, _, _, _, rfl, rfl, SqL.of hls, at_of (j := 2) rfl rfl, lc, _, rfl, .inl (SqL.of hlc), _, _, rfl, rfl, _, _, rfl, ?_⟩
      dsimp only
      rw [pd_len pa, pd_len pc]
      have e : (if ((B.ah.length : Int) + (B.en.length : Int)) > 1 then ((B.ah.length : Int) + (B.en.length : Int)) else 1) = (B.least : Int) := by
        unfold Band.least
        split <;> omega
      rw [e]
      have hflI := tFI _ _ hflA
      -- the sizes
      refine ⟨_, rfl, _, rfl, fl, _, _, _, rfl, rfl, SqL.of hflI, at_of (j := 1) rfl rfl, _, _, rfl, rfl, _, rfl, _, rfl, _, rfl, fl, _, _, _, rfl, rfl, SqL.of hflI, at_of (j := 0) rfl rfl, _, _, rfl, rfl, _, rfl, _, rfl, fl, _, _, _, rfl, rfl, SqL.of hflI, at_of (j := 2) rfl rfl, _, _, rfl, rfl, ?_⟩
      refine ⟨_, rfl, _, rfl, fl, _, _, _, rfl, rfl, SqL.of hflI, at_of (j := 2) rfl rfl, _, _, rfl, rfl, _, _, rfl, rfl, by show 5 ≤ sizeLine; decide, fun sz hsz => ?_⟩
      have tz := Same.new (o := .lst [.int ((B.least : Int) + (k1 : Int)), .int (B.least : Int), .int ((B.least : Int) + (k0 : Int)), .int ((B.least : Int) + (k2 : Int)), .int ((B.least : Int) + (k2 : Int) + 1)]) (Same.refl HI) hsz
      have hz : ∀ (i : Nat) (y : V), ([.int ((B.least : Int) + (k1 : Int)), .int (B.least : Int), .int ((B.least : Int) + (k0 : Int)), .int ((B.least : Int) + (k2 : Int)), .int ((B.least : Int) + (k2 : Int) + 1)] : List V)[i]? = some y → ∃ m : Nat, y = .int (m : Int) ∧ B.least ≤ m ∧ m < 2 ^ 170 := fun i y hy => by
        have hle := least_le O
        have hb1 : B.least + k1 < 2 ^ 170 := Nat.lt_of_le_of_lt (show _ ≤ 12 + 10 ^ 29 by omega) (by decide)
        have hb2 : B.least + k2 + 1 < 2 ^ 170 := Nat.lt_of_le_of_lt (show _ ≤ 13 + 10 ^ 30 by omega) (by decide)
        have hb0 : B.least + k0 < 2 ^ 170 := Nat.lt_of_le_of_lt (show _ ≤ 300 by omega) (by decide)
        have hm := List.mem_of_getElem? hy
        simp only [List.mem_cons, List.not_mem_nil, or_false] at hm
        rcases hm with h | h | h | h | h
        · exact ⟨B.least + k1, by rw [h, Int.natCast_add], Nat.le_add_right _ _, hb1⟩
        · exact ⟨B.least, h, Nat.le_refl _, Nat.lt_of_le_of_lt hle (by decide)⟩
        · exact ⟨B.least + k0, by rw [h, Int.natCast_add], Nat.le_add_right _ _, hb0⟩
        · exact ⟨B.least + k2, by rw [h, Int.natCast_add], Nat.le_add_right _ _, Nat.lt_of_succ_lt hb2⟩
        · exact ⟨B.least + k2 + 1, by rw [h]; rfl, by omega, hb2⟩
      refine ⟨sz, rfl, ⟨_, SqL.of upd_same⟩, for_list (K := K) (D := { nx := _, rt := _ }) (a := sz) (xs := [.int ((B.least : Int) + (k1 : Int)), .int (B.least : Int), .int ((B.least : Int) + (k0 : Int)), .int ((B.least : Int) + (k2 : Int)), .int ((B.least : Int) + (k2 : Int) + 1)])
          (fun i σ H' => ∃ v9 v12 v13, σ = [some (.ref a), some (.int z), some (.ref wl), some (.int (k0 : Int)), some (.ref fl), some (.ref x), some (.ref tp), some (.ref q), some (.int (B.least : Int)), v9, some (.int (B.w : Int)), some (.ref ls), v12, v13] ∧ Same HI H' ∧
            H' sz = some (.lst [.int ((B.least : Int) + (k1 : Int)), .int (B.least : Int), .int ((B.least : Int) + (k0 : Int)), .int ((B.least : Int) + (k2 : Int)), .int ((B.least : Int) + (k2 : Int) + 1)]))
        ⟨_, _, _, rfl, tz, upd_same⟩ (fun i σ H' _ ⟨_, _, _, _, _, h⟩ => SqL.of h) ?_ ?_⟩
      · rintro i y σ HJ hy ⟨v9, v12, v13, rfl, tJ, hsJ⟩
        obtain ⟨m, rfl, hm1, hm2⟩ := hz i y hy
        have hm3 : m < 2 ^ 180 := Nat.lt_of_lt_of_le hm2 (Nat.pow_le_pow_right (by decide) (by decide))
        -- what is due
        refine ⟨_, rfl, _, rfl, _, rfl, _, rfl, tp, hd, ls, B, ts, n, back, m, rfl, PI.same tJ, LI.same tJ, O, hm1, hm3, fun t c qc HK tK ht hc hq => ?_⟩
        refine ⟨t, _, rfl, SqT.of ht, rfl, _, _, rfl, _, _, rfl, rfl, ?_⟩
        have tJK := tJ.trans tK
        -- the numbers
        refine ⟨_, rfl, _, rfl, x, B, m, rfl, hBI.same tJK, O, hm1, hm3, fun HL tL => ?_⟩
        have tJL := tJK.trans tL
        obtain ⟨dc, ac, hqc, _⟩ := id (hC.same tJL)
        have em : B.least + (m - B.least) = m := by omega
        have ef : fOf B (m - B.least) = (B.number m : Nat) := by unfold fOf; rw [em]
        refine ⟨_, rfl, q, dc, _, rfl, hqc, rfl, _, rfl, q, B.least, m - B.least, told, per, rise, fOf B, by rw [em]; rfl, hC.same tJL, hT, hl, hri, Nat.lt_of_le_of_lt (Nat.sub_le _ _) (Nat.lt_of_lt_of_le hm3 (Nat.pow_le_pow_right (by decide) (by decide))), fun HM tM => ?_⟩
        rw [ef]
        refine ⟨by show 2 ≤ sizeLine; decide, fun n1 hn1 => ?_⟩
        have u1 := Same.new (o := .lst [.int (B.number m : Nat), .int (B.number m : Nat)]) (Same.refl HM) hn1
        refine ⟨_, rfl, _, rfl, by show 2 ≤ sizeLine; decide, fun n2 hn2 => ?_⟩
        have u2 := Same.new (o := .lst [.int (B.number m : Nat), .int (B.number m : Nat)]) u1 hn2
        refine ⟨.ref n1, .ref n2, rfl, .inr ⟨n1, n2, _, _, rfl, rfl, by show 2 ≤ 1000; decide, .cons (.inl ⟨_, rfl, rfl⟩) (.cons (.inl ⟨_, rfl, rfl⟩) .nil), .inl ⟨by rw [upd_ne (ne_of_none upd_same hn2)]; exact upd_same, upd_same⟩⟩, fun HN tN => ?_⟩
        refine ⟨_, rfl, iteF ?_⟩
        have tLN := (tM.trans u2).trans tN
        have tJN := tJL.trans tLN
        have tKN := tL.trans tLN
        -- the cut
        refine ⟨_, rfl, _, rfl, x, B, m, rfl, hBI.same tJN, O, hm1, hm3, fun t5 q5 HO tO ht5 hq5 => ?_⟩
        have hlen : (B.cutv m).1.length ≤ 1000 := by
          rw [cutv_head hm1]
          unfold Sand.cut
          show (pLevel _ 1 _).1.length ≤ 1000
          rw [pLevel_len, pRows_len, S_len]
          have := O.w4
          omega
        refine ⟨_, rfl, .ref t5, .ref c, rfl, alike_pair ht5 (tO _ _ (tKN _ _ hc)) hq5 (tO _ _ (tKN _ _ hq)) hlen, fun HP tP => ?_⟩
        refine ⟨_, rfl, iteF ?_⟩
        have tJP := (tJN.trans tO).trans tP
        exact ⟨_, _, _, rfl, tJP, tJP.trans (Same.refl _) |> fun s => ((((tK.trans tL).trans tLN).trans tO).trans tP) _ _ hsJ⟩
      · rintro σ HJ ⟨v9, v12, v13, rfl, tJ, hsJ⟩
        exact ⟨_, _, _, _, _, _, _, _, _, _, _, _, _, rfl, (sA.trans tFI).trans tJ⟩
    · rintro σ H4 ⟨v1, v2, v3, v4, v5, v6, v7, v8, v9, v10, v11, v12, v13, rfl, s4⟩
      exact k H4
end
end Sand
/-! ## PAll -/
set_option Elab.async false
set_option linter.all false
set_option maxRecDepth 100000
set_option maxHeartbeats 8000000
namespace Sand
open PySem L2
theorem all_mk {l : PySem.W.OpenLaw} {w : World} {K : PySem.W.Frag} {h : Heap} {mg : Str → Option Value} {fa CS CC f_past_point f_past_level f_past_rows f_rim_ends f_finished f_check_rows f_tail_number f_least_every f_fewest_numbers f_head_length f_head_row f_last_rows f_strip_course f_count_at f_ends_after f_cut_ends f_course_paper f__law_well f__law_pick f__law_same f__law_rows f__law_parts f__law_point f__law_links f__law_along f__law_behind f__law_rim f__law_closed f__law_entry f__law_due f__law_is_paper f_law f_Strip___init__ f_Course___init__ f_Course_at p_Strip_width f_Strip_width p_Strip_ahead f_Strip_ahead p_Strip_cycle f_Strip_cycle p_Strip_end f_Strip_end p_Strip_least f_Strip_least : Addr} (X : K.In h) (G : h.Ns mainGlobals mg) (hfa : mg "law" = some (.ref fa))
    {od_past_point an_past_point : Option Addr} {sl_past_point : Array (Option Value)} {oc_past_point kV_past_point dc_past_point pm_past_point cd_past_point ct_past_point : Value}
    {od_past_level an_past_level : Option Addr} {sl_past_level : Array (Option Value)} {oc_past_level kV_past_level dc_past_level pm_past_level cd_past_level ct_past_level : Value}
    {od_past_rows an_past_rows : Option Addr} {sl_past_rows : Array (Option Value)} {oc_past_rows kV_past_rows dc_past_rows pm_past_rows cd_past_rows ct_past_rows : Value}
    {od_rim_ends an_rim_ends : Option Addr} {sl_rim_ends : Array (Option Value)} {oc_rim_ends kV_rim_ends dc_rim_ends pm_rim_ends cd_rim_ends ct_rim_ends : Value}
    {od_finished an_finished : Option Addr} {sl_finished : Array (Option Value)} {oc_finished kV_finished dc_finished pm_finished cd_finished ct_finished : Value}
    {od_check_rows an_check_rows : Option Addr} {sl_check_rows : Array (Option Value)} {oc_check_rows kV_check_rows dc_check_rows pm_check_rows cd_check_rows ct_check_rows : Value}
    {od_tail_number an_tail_number : Option Addr} {sl_tail_number : Array (Option Value)} {oc_tail_number kV_tail_number dc_tail_number pm_tail_number cd_tail_number ct_tail_number : Value}
    {od_least_every an_least_every : Option Addr} {sl_least_every : Array (Option Value)} {oc_least_every kV_least_every dc_least_every pm_least_every cd_least_every ct_least_every : Value}
    {od_fewest_numbers an_fewest_numbers : Option Addr} {sl_fewest_numbers : Array (Option Value)} {oc_fewest_numbers kV_fewest_numbers dc_fewest_numbers pm_fewest_numbers cd_fewest_numbers ct_fewest_numbers : Value}
    {od_head_length an_head_length : Option Addr} {sl_head_length : Array (Option Value)} {oc_head_length kV_head_length dc_head_length pm_head_length cd_head_length ct_head_length : Value}
    {od_head_row an_head_row : Option Addr} {sl_head_row : Array (Option Value)} {oc_head_row kV_head_row dc_head_row pm_head_row cd_head_row ct_head_row : Value}
    {od_last_rows an_last_rows : Option Addr} {sl_last_rows : Array (Option Value)} {oc_last_rows kV_last_rows dc_last_rows pm_last_rows cd_last_rows ct_last_rows : Value}
    {od_strip_course an_strip_course : Option Addr} {sl_strip_course : Array (Option Value)} {oc_strip_course kV_strip_course dc_strip_course pm_strip_course cd_strip_course ct_strip_course : Value}
    {od_count_at an_count_at : Option Addr} {sl_count_at : Array (Option Value)} {oc_count_at kV_count_at dc_count_at pm_count_at cd_count_at ct_count_at : Value}
    {od_ends_after an_ends_after : Option Addr} {sl_ends_after : Array (Option Value)} {oc_ends_after kV_ends_after dc_ends_after pm_ends_after cd_ends_after ct_ends_after : Value}
    {od_cut_ends an_cut_ends : Option Addr} {sl_cut_ends : Array (Option Value)} {oc_cut_ends kV_cut_ends dc_cut_ends pm_cut_ends cd_cut_ends ct_cut_ends : Value}
    {od_course_paper an_course_paper : Option Addr} {sl_course_paper : Array (Option Value)} {oc_course_paper kV_course_paper dc_course_paper pm_course_paper cd_course_paper ct_course_paper : Value}
    {od__law_well an__law_well : Option Addr} {sl__law_well : Array (Option Value)} {oc__law_well kV__law_well dc__law_well pm__law_well cd__law_well ct__law_well : Value}
    {od__law_pick an__law_pick : Option Addr} {sl__law_pick : Array (Option Value)} {oc__law_pick kV__law_pick dc__law_pick pm__law_pick cd__law_pick ct__law_pick : Value}
    {od__law_same an__law_same : Option Addr} {sl__law_same : Array (Option Value)} {oc__law_same kV__law_same dc__law_same pm__law_same cd__law_same ct__law_same : Value}
    {od__law_rows an__law_rows : Option Addr} {sl__law_rows : Array (Option Value)} {oc__law_rows kV__law_rows dc__law_rows pm__law_rows cd__law_rows ct__law_rows : Value}
    {od__law_parts an__law_parts : Option Addr} {sl__law_parts : Array (Option Value)} {oc__law_parts kV__law_parts dc__law_parts pm__law_parts cd__law_parts ct__law_parts : Value}
    {od__law_point an__law_point : Option Addr} {sl__law_point : Array (Option Value)} {oc__law_point kV__law_point dc__law_point pm__law_point cd__law_point ct__law_point : Value}
    {od__law_links an__law_links : Option Addr} {sl__law_links : Array (Option Value)} {oc__law_links kV__law_links dc__law_links pm__law_links cd__law_links ct__law_links : Value}
    {od__law_along an__law_along : Option Addr} {sl__law_along : Array (Option Value)} {oc__law_along kV__law_along dc__law_along pm__law_along cd__law_along ct__law_along : Value}
    {od__law_behind an__law_behind : Option Addr} {sl__law_behind : Array (Option Value)} {oc__law_behind kV__law_behind dc__law_behind pm__law_behind cd__law_behind ct__law_behind : Value}
    {od__law_rim an__law_rim : Option Addr} {sl__law_rim : Array (Option Value)} {oc__law_rim kV__law_rim dc__law_rim pm__law_rim cd__law_rim ct__law_rim : Value}
    {od__law_closed an__law_closed : Option Addr} {sl__law_closed : Array (Option Value)} {oc__law_closed kV__law_closed dc__law_closed pm__law_closed cd__law_closed ct__law_closed : Value}
    {od__law_entry an__law_entry : Option Addr} {sl__law_entry : Array (Option Value)} {oc__law_entry kV__law_entry dc__law_entry pm__law_entry cd__law_entry ct__law_entry : Value}
    {od__law_due an__law_due : Option Addr} {sl__law_due : Array (Option Value)} {oc__law_due kV__law_due dc__law_due pm__law_due cd__law_due ct__law_due : Value}
    {od__law_is_paper an__law_is_paper : Option Addr} {sl__law_is_paper : Array (Option Value)} {oc__law_is_paper kV__law_is_paper dc__law_is_paper pm__law_is_paper cd__law_is_paper ct__law_is_paper : Value}
    {od_law an_law : Option Addr} {sl_law : Array (Option Value)} {oc_law kV_law dc_law pm_law cd_law ct_law : Value}
    {od_Strip___init__ an_Strip___init__ : Option Addr} {sl_Strip___init__ : Array (Option Value)} {oc_Strip___init__ kV_Strip___init__ dc_Strip___init__ pm_Strip___init__ cd_Strip___init__ ct_Strip___init__ : Value}
    {od_Course___init__ an_Course___init__ : Option Addr} {sl_Course___init__ : Array (Option Value)} {oc_Course___init__ kV_Course___init__ dc_Course___init__ pm_Course___init__ cd_Course___init__ ct_Course___init__ : Value}
    {od_Course_at an_Course_at : Option Addr} {sl_Course_at : Array (Option Value)} {oc_Course_at kV_Course_at dc_Course_at pm_Course_at cd_Course_at ct_Course_at : Value}
    {rest_Strip_width : List Value}
    {od_Strip_width an_Strip_width : Option Addr} {sl_Strip_width : Array (Option Value)} {oc_Strip_width kV_Strip_width dc_Strip_width pm_Strip_width cd_Strip_width ct_Strip_width : Value}
    {rest_Strip_ahead : List Value}
    {od_Strip_ahead an_Strip_ahead : Option Addr} {sl_Strip_ahead : Array (Option Value)} {oc_Strip_ahead kV_Strip_ahead dc_Strip_ahead pm_Strip_ahead cd_Strip_ahead ct_Strip_ahead : Value}
    {rest_Strip_cycle : List Value}
    {od_Strip_cycle an_Strip_cycle : Option Addr} {sl_Strip_cycle : Array (Option Value)} {oc_Strip_cycle kV_Strip_cycle dc_Strip_cycle pm_Strip_cycle cd_Strip_cycle ct_Strip_cycle : Value}
    {rest_Strip_end : List Value}
    {od_Strip_end an_Strip_end : Option Addr} {sl_Strip_end : Array (Option Value)} {oc_Strip_end kV_Strip_end dc_Strip_end pm_Strip_end cd_Strip_end ct_Strip_end : Value}
    {rest_Strip_least : List Value}
    {od_Strip_least an_Strip_least : Option Addr} {sl_Strip_least : Array (Option Value)} {oc_Strip_least kV_Strip_least dc_Strip_least pm_Strip_least cd_Strip_least ct_Strip_least : Value}
    {tkC : Tok}
    (a_Strip : PySem.W.nsIn K mainGlobals "Strip" = some (some (.ref CS)))
    (a_Course : PySem.W.nsIn K mainGlobals "Course" = some (some (.ref CC)))
    (a_past_point : PySem.W.nsIn K mainGlobals "past_point" = some (some (.ref f_past_point)))
    (l_past_point : K.lookup f_past_point = some ⟨oc_past_point, od_past_point, .func (PySem.W.fnOf "past_point" "past_point" (defArgs s_past_point) (defBody s_past_point) (defScope s_past_point) .none kV_past_point dc_past_point pm_past_point an_past_point cd_past_point ct_past_point), sl_past_point⟩) (c_past_point : PySem.W.codeIn K cd_past_point "past_point" = true) (k_past_point : PySem.W.keepIn K (.ref f_past_point) = true)
    (a_past_level : PySem.W.nsIn K mainGlobals "past_level" = some (some (.ref f_past_level)))
    (l_past_level : K.lookup f_past_level = some ⟨oc_past_level, od_past_level, .func (PySem.W.fnOf "past_level" "past_level" (defArgs s_past_level) (defBody s_past_level) (defScope s_past_level) .none kV_past_level dc_past_level pm_past_level an_past_level cd_past_level ct_past_level), sl_past_level⟩) (c_past_level : PySem.W.codeIn K cd_past_level "past_level" = true) (k_past_level : PySem.W.keepIn K (.ref f_past_level) = true)
    (a_past_rows : PySem.W.nsIn K mainGlobals "past_rows" = some (some (.ref f_past_rows)))
    (l_past_rows : K.lookup f_past_rows = some ⟨oc_past_rows, od_past_rows, .func (PySem.W.fnOf "past_rows" "past_rows" (defArgs s_past_rows) (defBody s_past_rows) (defScope s_past_rows) .none kV_past_rows dc_past_rows pm_past_rows an_past_rows cd_past_rows ct_past_rows), sl_past_rows⟩) (c_past_rows : PySem.W.codeIn K cd_past_rows "past_rows" = true) (k_past_rows : PySem.W.keepIn K (.ref f_past_rows) = true)
    (a_rim_ends : PySem.W.nsIn K mainGlobals "rim_ends" = some (some (.ref f_rim_ends)))
    (l_rim_ends : K.lookup f_rim_ends = some ⟨oc_rim_ends, od_rim_ends, .func (PySem.W.fnOf "rim_ends" "rim_ends" (defArgs s_rim_ends) (defBody s_rim_ends) (defScope s_rim_ends) .none kV_rim_ends dc_rim_ends pm_rim_ends an_rim_ends cd_rim_ends ct_rim_ends), sl_rim_ends⟩) (c_rim_ends : PySem.W.codeIn K cd_rim_ends "rim_ends" = true) (k_rim_ends : PySem.W.keepIn K (.ref f_rim_ends) = true)
    (a_finished : PySem.W.nsIn K mainGlobals "finished" = some (some (.ref f_finished)))
    (l_finished : K.lookup f_finished = some ⟨oc_finished, od_finished, .func (PySem.W.fnOf "finished" "finished" (defArgs s_finished) (defBody s_finished) (defScope s_finished) .none kV_finished dc_finished pm_finished an_finished cd_finished ct_finished), sl_finished⟩) (c_finished : PySem.W.codeIn K cd_finished "finished" = true) (k_finished : PySem.W.keepIn K (.ref f_finished) = true)
    (a_check_rows : PySem.W.nsIn K mainGlobals "check_rows" = some (some (.ref f_check_rows)))
    (l_check_rows : K.lookup f_check_rows = some ⟨oc_check_rows, od_check_rows, .func (PySem.W.fnOf "check_rows" "check_rows" (defArgs s_check_rows) (defBody s_check_rows) (defScope s_check_rows) .none kV_check_rows dc_check_rows pm_check_rows an_check_rows cd_check_rows ct_check_rows), sl_check_rows⟩) (c_check_rows : PySem.W.codeIn K cd_check_rows "check_rows" = true) (k_check_rows : PySem.W.keepIn K (.ref f_check_rows) = true)
    (a_tail_number : PySem.W.nsIn K mainGlobals "tail_number" = some (some (.ref f_tail_number)))
    (l_tail_number : K.lookup f_tail_number = some ⟨oc_tail_number, od_tail_number, .func (PySem.W.fnOf "tail_number" "tail_number" (defArgs s_tail_number) (defBody s_tail_number) (defScope s_tail_number) .none kV_tail_number dc_tail_number pm_tail_number an_tail_number cd_tail_number ct_tail_number), sl_tail_number⟩) (c_tail_number : PySem.W.codeIn K cd_tail_number "tail_number" = true) (k_tail_number : PySem.W.keepIn K (.ref f_tail_number) = true)
    (a_least_every : PySem.W.nsIn K mainGlobals "least_every" = some (some (.ref f_least_every)))
    (l_least_every : K.lookup f_least_every = some ⟨oc_least_every, od_least_every, .func (PySem.W.fnOf "least_every" "least_every" (defArgs s_least_every) (defBody s_least_every) (defScope s_least_every) .none kV_least_every dc_least_every pm_least_every an_least_every cd_least_every ct_least_every), sl_least_every⟩) (c_least_every : PySem.W.codeIn K cd_least_every "least_every" = true) (k_least_every : PySem.W.keepIn K (.ref f_least_every) = true)
    (a_fewest_numbers : PySem.W.nsIn K mainGlobals "fewest_numbers" = some (some (.ref f_fewest_numbers)))
    (l_fewest_numbers : K.lookup f_fewest_numbers = some ⟨oc_fewest_numbers, od_fewest_numbers, .func (PySem.W.fnOf "fewest_numbers" "fewest_numbers" (defArgs s_fewest_numbers) (defBody s_fewest_numbers) (defScope s_fewest_numbers) .none kV_fewest_numbers dc_fewest_numbers pm_fewest_numbers an_fewest_numbers cd_fewest_numbers ct_fewest_numbers), sl_fewest_numbers⟩) (c_fewest_numbers : PySem.W.codeIn K cd_fewest_numbers "fewest_numbers" = true) (k_fewest_numbers : PySem.W.keepIn K (.ref f_fewest_numbers) = true)
    (a_head_length : PySem.W.nsIn K mainGlobals "head_length" = some (some (.ref f_head_length)))
    (l_head_length : K.lookup f_head_length = some ⟨oc_head_length, od_head_length, .func (PySem.W.fnOf "head_length" "head_length" (defArgs s_head_length) (defBody s_head_length) (defScope s_head_length) .none kV_head_length dc_head_length pm_head_length an_head_length cd_head_length ct_head_length), sl_head_length⟩) (c_head_length : PySem.W.codeIn K cd_head_length "head_length" = true) (k_head_length : PySem.W.keepIn K (.ref f_head_length) = true)
    (a_head_row : PySem.W.nsIn K mainGlobals "head_row" = some (some (.ref f_head_row)))
    (l_head_row : K.lookup f_head_row = some ⟨oc_head_row, od_head_row, .func (PySem.W.fnOf "head_row" "head_row" (defArgs s_head_row) (defBody s_head_row) (defScope s_head_row) .none kV_head_row dc_head_row pm_head_row an_head_row cd_head_row ct_head_row), sl_head_row⟩) (c_head_row : PySem.W.codeIn K cd_head_row "head_row" = true) (k_head_row : PySem.W.keepIn K (.ref f_head_row) = true)
    (a_last_rows : PySem.W.nsIn K mainGlobals "last_rows" = some (some (.ref f_last_rows)))
    (l_last_rows : K.lookup f_last_rows = some ⟨oc_last_rows, od_last_rows, .func (PySem.W.fnOf "last_rows" "last_rows" (defArgs s_last_rows) (defBody s_last_rows) (defScope s_last_rows) .none kV_last_rows dc_last_rows pm_last_rows an_last_rows cd_last_rows ct_last_rows), sl_last_rows⟩) (c_last_rows : PySem.W.codeIn K cd_last_rows "last_rows" = true) (k_last_rows : PySem.W.keepIn K (.ref f_last_rows) = true)
    (a_strip_course : PySem.W.nsIn K mainGlobals "strip_course" = some (some (.ref f_strip_course)))
    (l_strip_course : K.lookup f_strip_course = some ⟨oc_strip_course, od_strip_course, .func (PySem.W.fnOf "strip_course" "strip_course" (defArgs s_strip_course) (defBody s_strip_course) (defScope s_strip_course) .none kV_strip_course dc_strip_course pm_strip_course an_strip_course cd_strip_course ct_strip_course), sl_strip_course⟩) (c_strip_course : PySem.W.codeIn K cd_strip_course "strip_course" = true) (k_strip_course : PySem.W.keepIn K (.ref f_strip_course) = true)
    (a_count_at : PySem.W.nsIn K mainGlobals "count_at" = some (some (.ref f_count_at)))
    (l_count_at : K.lookup f_count_at = some ⟨oc_count_at, od_count_at, .func (PySem.W.fnOf "count_at" "count_at" (defArgs s_count_at) (defBody s_count_at) (defScope s_count_at) .none kV_count_at dc_count_at pm_count_at an_count_at cd_count_at ct_count_at), sl_count_at⟩) (c_count_at : PySem.W.codeIn K cd_count_at "count_at" = true) (k_count_at : PySem.W.keepIn K (.ref f_count_at) = true)
    (a_ends_after : PySem.W.nsIn K mainGlobals "ends_after" = some (some (.ref f_ends_after)))
    (l_ends_after : K.lookup f_ends_after = some ⟨oc_ends_after, od_ends_after, .func (PySem.W.fnOf "ends_after" "ends_after" (defArgs s_ends_after) (defBody s_ends_after) (defScope s_ends_after) .none kV_ends_after dc_ends_after pm_ends_after an_ends_after cd_ends_after ct_ends_after), sl_ends_after⟩) (c_ends_after : PySem.W.codeIn K cd_ends_after "ends_after" = true) (k_ends_after : PySem.W.keepIn K (.ref f_ends_after) = true)
    (a_cut_ends : PySem.W.nsIn K mainGlobals "cut_ends" = some (some (.ref f_cut_ends)))
    (l_cut_ends : K.lookup f_cut_ends = some ⟨oc_cut_ends, od_cut_ends, .func (PySem.W.fnOf "cut_ends" "cut_ends" (defArgs s_cut_ends) (defBody s_cut_ends) (defScope s_cut_ends) .none kV_cut_ends dc_cut_ends pm_cut_ends an_cut_ends cd_cut_ends ct_cut_ends), sl_cut_ends⟩) (c_cut_ends : PySem.W.codeIn K cd_cut_ends "cut_ends" = true) (k_cut_ends : PySem.W.keepIn K (.ref f_cut_ends) = true)
    (a_course_paper : PySem.W.nsIn K mainGlobals "course_paper" = some (some (.ref f_course_paper)))
    (l_course_paper : K.lookup f_course_paper = some ⟨oc_course_paper, od_course_paper, .func (PySem.W.fnOf "course_paper" "course_paper" (defArgs s_course_paper) (defBody s_course_paper) (defScope s_course_paper) .none kV_course_paper dc_course_paper pm_course_paper an_course_paper cd_course_paper ct_course_paper), sl_course_paper⟩) (c_course_paper : PySem.W.codeIn K cd_course_paper "course_paper" = true) (k_course_paper : PySem.W.keepIn K (.ref f_course_paper) = true)
    (a__law_well : PySem.W.nsIn K mainGlobals "_law_well" = some (some (.ref f__law_well)))
    (l__law_well : K.lookup f__law_well = some ⟨oc__law_well, od__law_well, .func (PySem.W.fnOf "_law_well" "_law_well" (defArgs s__law_well) (defBody s__law_well) (defScope s__law_well) .none kV__law_well dc__law_well pm__law_well an__law_well cd__law_well ct__law_well), sl__law_well⟩) (c__law_well : PySem.W.codeIn K cd__law_well "_law_well" = true) (k__law_well : PySem.W.keepIn K (.ref f__law_well) = true)
    (a__law_pick : PySem.W.nsIn K mainGlobals "_law_pick" = some (some (.ref f__law_pick)))
    (l__law_pick : K.lookup f__law_pick = some ⟨oc__law_pick, od__law_pick, .func (PySem.W.fnOf "_law_pick" "_law_pick" (defArgs s__law_pick) (defBody s__law_pick) (defScope s__law_pick) .none kV__law_pick dc__law_pick pm__law_pick an__law_pick cd__law_pick ct__law_pick), sl__law_pick⟩) (c__law_pick : PySem.W.codeIn K cd__law_pick "_law_pick" = true) (k__law_pick : PySem.W.keepIn K (.ref f__law_pick) = true)
    (a__law_same : PySem.W.nsIn K mainGlobals "_law_same" = some (some (.ref f__law_same)))
    (l__law_same : K.lookup f__law_same = some ⟨oc__law_same, od__law_same, .func (PySem.W.fnOf "_law_same" "_law_same" (defArgs s__law_same) (defBody s__law_same) (defScope s__law_same) .none kV__law_same dc__law_same pm__law_same an__law_same cd__law_same ct__law_same), sl__law_same⟩) (c__law_same : PySem.W.codeIn K cd__law_same "_law_same" = true) (k__law_same : PySem.W.keepIn K (.ref f__law_same) = true)
    (a__law_rows : PySem.W.nsIn K mainGlobals "_law_rows" = some (some (.ref f__law_rows)))
    (l__law_rows : K.lookup f__law_rows = some ⟨oc__law_rows, od__law_rows, .func (PySem.W.fnOf "_law_rows" "_law_rows" (defArgs s__law_rows) (defBody s__law_rows) (defScope s__law_rows) .none kV__law_rows dc__law_rows pm__law_rows an__law_rows cd__law_rows ct__law_rows), sl__law_rows⟩) (c__law_rows : PySem.W.codeIn K cd__law_rows "_law_rows" = true) (k__law_rows : PySem.W.keepIn K (.ref f__law_rows) = true)
    (a__law_parts : PySem.W.nsIn K mainGlobals "_law_parts" = some (some (.ref f__law_parts)))
    (l__law_parts : K.lookup f__law_parts = some ⟨oc__law_parts, od__law_parts, .func (PySem.W.fnOf "_law_parts" "_law_parts" (defArgs s__law_parts) (defBody s__law_parts) (defScope s__law_parts) .none kV__law_parts dc__law_parts pm__law_parts an__law_parts cd__law_parts ct__law_parts), sl__law_parts⟩) (c__law_parts : PySem.W.codeIn K cd__law_parts "_law_parts" = true) (k__law_parts : PySem.W.keepIn K (.ref f__law_parts) = true)
    (a__law_point : PySem.W.nsIn K mainGlobals "_law_point" = some (some (.ref f__law_point)))
    (l__law_point : K.lookup f__law_point = some ⟨oc__law_point, od__law_point, .func (PySem.W.fnOf "_law_point" "_law_point" (defArgs s__law_point) (defBody s__law_point) (defScope s__law_point) .none kV__law_point dc__law_point pm__law_point an__law_point cd__law_point ct__law_point), sl__law_point⟩) (c__law_point : PySem.W.codeIn K cd__law_point "_law_point" = true) (k__law_point : PySem.W.keepIn K (.ref f__law_point) = true)
    (a__law_links : PySem.W.nsIn K mainGlobals "_law_links" = some (some (.ref f__law_links)))
    (l__law_links : K.lookup f__law_links = some ⟨oc__law_links, od__law_links, .func (PySem.W.fnOf "_law_links" "_law_links" (defArgs s__law_links) (defBody s__law_links) (defScope s__law_links) .none kV__law_links dc__law_links pm__law_links an__law_links cd__law_links ct__law_links), sl__law_links⟩) (c__law_links : PySem.W.codeIn K cd__law_links "_law_links" = true) (k__law_links : PySem.W.keepIn K (.ref f__law_links) = true)
    (a__law_along : PySem.W.nsIn K mainGlobals "_law_along" = some (some (.ref f__law_along)))
    (l__law_along : K.lookup f__law_along = some ⟨oc__law_along, od__law_along, .func (PySem.W.fnOf "_law_along" "_law_along" (defArgs s__law_along) (defBody s__law_along) (defScope s__law_along) .none kV__law_along dc__law_along pm__law_along an__law_along cd__law_along ct__law_along), sl__law_along⟩) (c__law_along : PySem.W.codeIn K cd__law_along "_law_along" = true) (k__law_along : PySem.W.keepIn K (.ref f__law_along) = true)
    (a__law_behind : PySem.W.nsIn K mainGlobals "_law_behind" = some (some (.ref f__law_behind)))
    (l__law_behind : K.lookup f__law_behind = some ⟨oc__law_behind, od__law_behind, .func (PySem.W.fnOf "_law_behind" "_law_behind" (defArgs s__law_behind) (defBody s__law_behind) (defScope s__law_behind) .none kV__law_behind dc__law_behind pm__law_behind an__law_behind cd__law_behind ct__law_behind), sl__law_behind⟩) (c__law_behind : PySem.W.codeIn K cd__law_behind "_law_behind" = true) (k__law_behind : PySem.W.keepIn K (.ref f__law_behind) = true)
    (a__law_rim : PySem.W.nsIn K mainGlobals "_law_rim" = some (some (.ref f__law_rim)))
    (l__law_rim : K.lookup f__law_rim = some ⟨oc__law_rim, od__law_rim, .func (PySem.W.fnOf "_law_rim" "_law_rim" (defArgs s__law_rim) (defBody s__law_rim) (defScope s__law_rim) .none kV__law_rim dc__law_rim pm__law_rim an__law_rim cd__law_rim ct__law_rim), sl__law_rim⟩) (c__law_rim : PySem.W.codeIn K cd__law_rim "_law_rim" = true) (k__law_rim : PySem.W.keepIn K (.ref f__law_rim) = true)
    (a__law_closed : PySem.W.nsIn K mainGlobals "_law_closed" = some (some (.ref f__law_closed)))
    (l__law_closed : K.lookup f__law_closed = some ⟨oc__law_closed, od__law_closed, .func (PySem.W.fnOf "_law_closed" "_law_closed" (defArgs s__law_closed) (defBody s__law_closed) (defScope s__law_closed) .none kV__law_closed dc__law_closed pm__law_closed an__law_closed cd__law_closed ct__law_closed), sl__law_closed⟩) (c__law_closed : PySem.W.codeIn K cd__law_closed "_law_closed" = true) (k__law_closed : PySem.W.keepIn K (.ref f__law_closed) = true)
    (a__law_entry : PySem.W.nsIn K mainGlobals "_law_entry" = some (some (.ref f__law_entry)))
    (l__law_entry : K.lookup f__law_entry = some ⟨oc__law_entry, od__law_entry, .func (PySem.W.fnOf "_law_entry" "_law_entry" (defArgs s__law_entry) (defBody s__law_entry) (defScope s__law_entry) .none kV__law_entry dc__law_entry pm__law_entry an__law_entry cd__law_entry ct__law_entry), sl__law_entry⟩) (c__law_entry : PySem.W.codeIn K cd__law_entry "_law_entry" = true) (k__law_entry : PySem.W.keepIn K (.ref f__law_entry) = true)
    (a__law_due : PySem.W.nsIn K mainGlobals "_law_due" = some (some (.ref f__law_due)))
    (l__law_due : K.lookup f__law_due = some ⟨oc__law_due, od__law_due, .func (PySem.W.fnOf "_law_due" "_law_due" (defArgs s__law_due) (defBody s__law_due) (defScope s__law_due) .none kV__law_due dc__law_due pm__law_due an__law_due cd__law_due ct__law_due), sl__law_due⟩) (c__law_due : PySem.W.codeIn K cd__law_due "_law_due" = true) (k__law_due : PySem.W.keepIn K (.ref f__law_due) = true)
    (a__law_is_paper : PySem.W.nsIn K mainGlobals "_law_is_paper" = some (some (.ref f__law_is_paper)))
    (l__law_is_paper : K.lookup f__law_is_paper = some ⟨oc__law_is_paper, od__law_is_paper, .func (PySem.W.fnOf "_law_is_paper" "_law_is_paper" (defArgs s__law_is_paper) (defBody s__law_is_paper) (defScope s__law_is_paper) .none kV__law_is_paper dc__law_is_paper pm__law_is_paper an__law_is_paper cd__law_is_paper ct__law_is_paper), sl__law_is_paper⟩) (c__law_is_paper : PySem.W.codeIn K cd__law_is_paper "_law_is_paper" = true) (k__law_is_paper : PySem.W.keepIn K (.ref f__law_is_paper) = true)
    (a_law : PySem.W.nsIn K mainGlobals "law" = some (some (.ref f_law)))
    (l_law : K.lookup f_law = some ⟨oc_law, od_law, .func (PySem.W.fnOf "law" "law" (defArgs s_law) (defBody s_law) (defScope s_law) .none kV_law dc_law pm_law an_law cd_law ct_law), sl_law⟩) (c_law : PySem.W.codeIn K cd_law "law" = true) (k_law : PySem.W.keepIn K (.ref f_law) = true)
    (a_Strip___init__ : PySem.W.findIn K (.ref CS) "__init__" = some (some (.ref f_Strip___init__))) (i_Strip___init__ : PySem.W.isFn K (.ref f_Strip___init__) = true)
    (l_Strip___init__ : K.lookup f_Strip___init__ = some ⟨oc_Strip___init__, od_Strip___init__, .func (PySem.W.fnOf "__init__" "Strip.__init__" (defArgs s_Strip___init__) (defBody s_Strip___init__) (defScope s_Strip___init__) .none kV_Strip___init__ dc_Strip___init__ pm_Strip___init__ an_Strip___init__ cd_Strip___init__ ct_Strip___init__), sl_Strip___init__⟩) (c_Strip___init__ : PySem.W.codeIn K cd_Strip___init__ "Strip.__init__" = true) (k_Strip___init__ : PySem.W.keepIn K (.ref f_Strip___init__) = true)
    (a_Course___init__ : PySem.W.findIn K (.ref CC) "__init__" = some (some (.ref f_Course___init__))) (i_Course___init__ : PySem.W.isFn K (.ref f_Course___init__) = true)
    (l_Course___init__ : K.lookup f_Course___init__ = some ⟨oc_Course___init__, od_Course___init__, .func (PySem.W.fnOf "__init__" "Course.__init__" (defArgs s_Course___init__) (defBody s_Course___init__) (defScope s_Course___init__) .none kV_Course___init__ dc_Course___init__ pm_Course___init__ an_Course___init__ cd_Course___init__ ct_Course___init__), sl_Course___init__⟩) (c_Course___init__ : PySem.W.codeIn K cd_Course___init__ "Course.__init__" = true) (k_Course___init__ : PySem.W.keepIn K (.ref f_Course___init__) = true)
    (a_Course_at : PySem.W.findIn K (.ref CC) "at" = some (some (.ref f_Course_at))) (i_Course_at : PySem.W.isFn K (.ref f_Course_at) = true)
    (l_Course_at : K.lookup f_Course_at = some ⟨oc_Course_at, od_Course_at, .func (PySem.W.fnOf "at" "Course.at" (defArgs s_Course_at) (defBody s_Course_at) (defScope s_Course_at) .none kV_Course_at dc_Course_at pm_Course_at an_Course_at cd_Course_at ct_Course_at), sl_Course_at⟩) (c_Course_at : PySem.W.codeIn K cd_Course_at "Course.at" = true) (k_Course_at : PySem.W.keepIn K (.ref f_Course_at) = true)
    (a_Strip_width : PySem.W.findIn K (.ref CS) "width" = some (some (.ref p_Strip_width))) (g_Strip_width : PySem.W.specialIn K (.ref p_Strip_width) "__get__" = some (some (.builtin "property.__get__"))) (t_Strip_width : PySem.W.takesIn K (.ref p_Strip_width) = some true) (r_Strip_width : PySem.W.recIn K p_Strip_width "property" = some (.ref f_Strip_width :: rest_Strip_width))
    (l_Strip_width : K.lookup f_Strip_width = some ⟨oc_Strip_width, od_Strip_width, .func (PySem.W.fnOf "width" "Strip.width" (defArgs s_Strip_width) (defBody s_Strip_width) (defScope s_Strip_width) .none kV_Strip_width dc_Strip_width pm_Strip_width an_Strip_width cd_Strip_width ct_Strip_width), sl_Strip_width⟩) (c_Strip_width : PySem.W.codeIn K cd_Strip_width "Strip.width" = true) (k_Strip_width : PySem.W.keepIn K (.ref f_Strip_width) = true)
    (a_Strip_ahead : PySem.W.findIn K (.ref CS) "ahead" = some (some (.ref p_Strip_ahead))) (g_Strip_ahead : PySem.W.specialIn K (.ref p_Strip_ahead) "__get__" = some (some (.builtin "property.__get__"))) (t_Strip_ahead : PySem.W.takesIn K (.ref p_Strip_ahead) = some true) (r_Strip_ahead : PySem.W.recIn K p_Strip_ahead "property" = some (.ref f_Strip_ahead :: rest_Strip_ahead))
    (l_Strip_ahead : K.lookup f_Strip_ahead = some ⟨oc_Strip_ahead, od_Strip_ahead, .func (PySem.W.fnOf "ahead" "Strip.ahead" (defArgs s_Strip_ahead) (defBody s_Strip_ahead) (defScope s_Strip_ahead) .none kV_Strip_ahead dc_Strip_ahead pm_Strip_ahead an_Strip_ahead cd_Strip_ahead ct_Strip_ahead), sl_Strip_ahead⟩) (c_Strip_ahead : PySem.W.codeIn K cd_Strip_ahead "Strip.ahead" = true) (k_Strip_ahead : PySem.W.keepIn K (.ref f_Strip_ahead) = true)
    (a_Strip_cycle : PySem.W.findIn K (.ref CS) "cycle" = some (some (.ref p_Strip_cycle))) (g_Strip_cycle : PySem.W.specialIn K (.ref p_Strip_cycle) "__get__" = some (some (.builtin "property.__get__"))) (t_Strip_cycle : PySem.W.takesIn K (.ref p_Strip_cycle) = some true) (r_Strip_cycle : PySem.W.recIn K p_Strip_cycle "property" = some (.ref f_Strip_cycle :: rest_Strip_cycle))
    (l_Strip_cycle : K.lookup f_Strip_cycle = some ⟨oc_Strip_cycle, od_Strip_cycle, .func (PySem.W.fnOf "cycle" "Strip.cycle" (defArgs s_Strip_cycle) (defBody s_Strip_cycle) (defScope s_Strip_cycle) .none kV_Strip_cycle dc_Strip_cycle pm_Strip_cycle an_Strip_cycle cd_Strip_cycle ct_Strip_cycle), sl_Strip_cycle⟩) (c_Strip_cycle : PySem.W.codeIn K cd_Strip_cycle "Strip.cycle" = true) (k_Strip_cycle : PySem.W.keepIn K (.ref f_Strip_cycle) = true)
    (a_Strip_end : PySem.W.findIn K (.ref CS) "end" = some (some (.ref p_Strip_end))) (g_Strip_end : PySem.W.specialIn K (.ref p_Strip_end) "__get__" = some (some (.builtin "property.__get__"))) (t_Strip_end : PySem.W.takesIn K (.ref p_Strip_end) = some true) (r_Strip_end : PySem.W.recIn K p_Strip_end "property" = some (.ref f_Strip_end :: rest_Strip_end))
    (l_Strip_end : K.lookup f_Strip_end = some ⟨oc_Strip_end, od_Strip_end, .func (PySem.W.fnOf "end" "Strip.end" (defArgs s_Strip_end) (defBody s_Strip_end) (defScope s_Strip_end) .none kV_Strip_end dc_Strip_end pm_Strip_end an_Strip_end cd_Strip_end ct_Strip_end), sl_Strip_end⟩) (c_Strip_end : PySem.W.codeIn K cd_Strip_end "Strip.end" = true) (k_Strip_end : PySem.W.keepIn K (.ref f_Strip_end) = true)
    (a_Strip_least : PySem.W.findIn K (.ref CS) "least" = some (some (.ref p_Strip_least))) (g_Strip_least : PySem.W.specialIn K (.ref p_Strip_least) "__get__" = some (some (.builtin "property.__get__"))) (t_Strip_least : PySem.W.takesIn K (.ref p_Strip_least) = some true) (r_Strip_least : PySem.W.recIn K p_Strip_least "property" = some (.ref f_Strip_least :: rest_Strip_least))
    (l_Strip_least : K.lookup f_Strip_least = some ⟨oc_Strip_least, od_Strip_least, .func (PySem.W.fnOf "least" "Strip.least" (defArgs s_Strip_least) (defBody s_Strip_least) (defScope s_Strip_least) .none kV_Strip_least dc_Strip_least pm_Strip_least an_Strip_least cd_Strip_least ct_Strip_least), sl_Strip_least⟩) (c_Strip_least : PySem.W.codeIn K cd_Strip_least "Strip.least" = true) (k_Strip_least : PySem.W.keepIn K (.ref f_Strip_least) = true)
    (pgCS : PySem.W.plainGet K CS Str.empty = true) (hdCS : PySem.W.hasDictIn K CS = true) (poCS : PySem.W.plainOver K CS = true) (saCS : PySem.W.findIn K (.ref CS) "__setattr__" = some (some (.builtin "object.__setattr__"))) (mkCS : PySem.W.makesIn K CS = true) (kcCS : PySem.W.keepIn K (.ref CS) = true)
    (n_Strip_wide : PySem.W.findIn K (.ref CS) "wide" = some none)
    (n_Strip_first_rows : PySem.W.findIn K (.ref CS) "first_rows" = some none)
    (n_Strip_round_rows : PySem.W.findIn K (.ref CS) "round_rows" = some none)
    (n_Strip_last_rows : PySem.W.findIn K (.ref CS) "last_rows" = some none)
    (pgCC : PySem.W.plainGet K CC Str.empty = true) (hdCC : PySem.W.hasDictIn K CC = true) (poCC : PySem.W.plainOver K CC = true) (saCC : PySem.W.findIn K (.ref CC) "__setattr__" = some (some (.builtin "object.__setattr__"))) (mkCC : PySem.W.makesIn K CC = true) (kcCC : PySem.W.keepIn K (.ref CC) = true)
    (n_Course_start : PySem.W.findIn K (.ref CC) "start" = some none)
    (n_Course_told : PySem.W.findIn K (.ref CC) "told" = some none)
    (n_Course_period : PySem.W.findIn K (.ref CC) "period" = some none)
    (n_Course_rise : PySem.W.findIn K (.ref CC) "rise" = some none)
    (z_len : PySem.W.nsIn K mainGlobals "len" = some none)
    (z_range : PySem.W.nsIn K mainGlobals "range" = some none)
    (z_enumerate : PySem.W.nsIn K mainGlobals "enumerate" = some none)
    (z_list : PySem.W.nsIn K mainGlobals "list" = some none)
    (z_tuple : PySem.W.nsIn K mainGlobals "tuple" = some none)
    (z_max : PySem.W.nsIn K mainGlobals "max" = some none)
    (z_divmod : PySem.W.nsIn K mainGlobals "divmod" = some none)
    (z_isinstance : PySem.W.nsIn K mainGlobals "isinstance" = some none)
    (z_int : PySem.W.nsIn K mainGlobals "int" = some none)
    (z_all : PySem.W.nsIn K mainGlobals "all" = some none)
    (z_bool : PySem.W.nsIn K mainGlobals "bool" = some none)
    (z_str : PySem.W.nsIn K mainGlobals "str" = some none)
    (z_chars : PySem.W.nsIn K mainGlobals "CHARACTERS" = some (some (.str ".-|" tkC))) :
    ∃ fd : FuncData, (∀ (s : Shared) (v : Value), BindsTo s fd ⟨[v], []⟩ [("_law_script", v)]) ∧ ∀ base : Heap, K.In base → base.Ns mainGlobals mg → FnOk l.prog w K mg base CX0 8 fa fd ["_law_script"] (spLaw K) := by
  have e := hfa.symm.trans (PySem.W.mg_of X G a_law)
  cases e
  have T : Glob mg := ⟨PySem.W.mg_none_of X G z_len, PySem.W.mg_none_of X G z_range, PySem.W.mg_none_of X G z_enumerate, PySem.W.mg_none_of X G z_list, PySem.W.mg_none_of X G z_tuple, PySem.W.mg_none_of X G z_max, PySem.W.mg_none_of X G z_divmod, PySem.W.mg_none_of X G z_isinstance, PySem.W.mg_none_of X G z_int, PySem.W.mg_none_of X G z_all, PySem.W.mg_none_of X G z_bool, PySem.W.mg_none_of X G z_str, ⟨_, PySem.W.mg_of X G z_chars⟩⟩
  have S : StripT K CS := ⟨⟨pgCS, hdCS, poCS, saCS⟩, n_Strip_wide, n_Strip_first_rows, n_Strip_round_rows, n_Strip_last_rows⟩
  have SC : CourseT K CC := ⟨⟨pgCC, hdCC, poCC, saCC⟩, n_Course_start, n_Course_told, n_Course_period, n_Course_rise⟩
  have F_past_point := fun_mk (st := s_past_point) l_past_point c_past_point k_past_point
  have F_past_level := fun_mk (st := s_past_level) l_past_level c_past_level k_past_level
  have F_past_rows := fun_mk (st := s_past_rows) l_past_rows c_past_rows k_past_rows
  have F_rim_ends := fun_mk (st := s_rim_ends) l_rim_ends c_rim_ends k_rim_ends
  have F_finished := fun_mk (st := s_finished) l_finished c_finished k_finished
  have F_check_rows := fun_mk (st := s_check_rows) l_check_rows c_check_rows k_check_rows
  have F_tail_number := fun_mk (st := s_tail_number) l_tail_number c_tail_number k_tail_number
  have F_least_every := fun_mk (st := s_least_every) l_least_every c_least_every k_least_every
  have F_fewest_numbers := fun_mk (st := s_fewest_numbers) l_fewest_numbers c_fewest_numbers k_fewest_numbers
  have F_head_length := fun_mk (st := s_head_length) l_head_length c_head_length k_head_length
  have F_head_row := fun_mk (st := s_head_row) l_head_row c_head_row k_head_row
  have F_last_rows := fun_mk (st := s_last_rows) l_last_rows c_last_rows k_last_rows
  have F_strip_course := fun_mk (st := s_strip_course) l_strip_course c_strip_course k_strip_course
  have F_count_at := fun_mk (st := s_count_at) l_count_at c_count_at k_count_at
  have F_ends_after := fun_mk (st := s_ends_after) l_ends_after c_ends_after k_ends_after
  have F_cut_ends := fun_mk (st := s_cut_ends) l_cut_ends c_cut_ends k_cut_ends
  have F_course_paper := fun_mk (st := s_course_paper) l_course_paper c_course_paper k_course_paper
  have F__law_well := fun_mk (st := s__law_well) l__law_well c__law_well k__law_well
  have F__law_pick := fun_mk (st := s__law_pick) l__law_pick c__law_pick k__law_pick
  have F__law_same := fun_mk (st := s__law_same) l__law_same c__law_same k__law_same
  have F__law_rows := fun_mk (st := s__law_rows) l__law_rows c__law_rows k__law_rows
  have F__law_parts := fun_mk (st := s__law_parts) l__law_parts c__law_parts k__law_parts
  have F__law_point := fun_mk (st := s__law_point) l__law_point c__law_point k__law_point
  have F__law_links := fun_mk (st := s__law_links) l__law_links c__law_links k__law_links
  have F__law_along := fun_mk (st := s__law_along) l__law_along c__law_along k__law_along
  have F__law_behind := fun_mk (st := s__law_behind) l__law_behind c__law_behind k__law_behind
  have F__law_rim := fun_mk (st := s__law_rim) l__law_rim c__law_rim k__law_rim
  have F__law_closed := fun_mk (st := s__law_closed) l__law_closed c__law_closed k__law_closed
  have F__law_entry := fun_mk (st := s__law_entry) l__law_entry c__law_entry k__law_entry
  have F__law_due := fun_mk (st := s__law_due) l__law_due c__law_due k__law_due
  have F__law_is_paper := fun_mk (st := s__law_is_paper) l__law_is_paper c__law_is_paper k__law_is_paper
  have F_law := fun_mk (st := s_law) l_law c_law k_law
  have F_Strip___init__ := fun_mk (st := s_Strip___init__) l_Strip___init__ c_Strip___init__ k_Strip___init__
  have F_Course___init__ := fun_mk (st := s_Course___init__) l_Course___init__ c_Course___init__ k_Course___init__
  have F_Course_at := fun_mk (st := s_Course_at) l_Course_at c_Course_at k_Course_at
  have F_Strip_width := fun_mk (st := s_Strip_width) l_Strip_width c_Strip_width k_Strip_width
  have F_Strip_ahead := fun_mk (st := s_Strip_ahead) l_Strip_ahead c_Strip_ahead k_Strip_ahead
  have F_Strip_cycle := fun_mk (st := s_Strip_cycle) l_Strip_cycle c_Strip_cycle k_Strip_cycle
  have F_Strip_end := fun_mk (st := s_Strip_end) l_Strip_end c_Strip_end k_Strip_end
  have F_Strip_least := fun_mk (st := s_Strip_least) l_Strip_least c_Strip_least k_Strip_least
  have b_past_point := F_past_point.binds (ps := ["ends", "left", "char"]) fun _ _ _ _ _ _ us hl => match us, hl with | [_, _, _], _ => rfl
  have b_past_level := F_past_level.binds (ps := ["ends", "left", "text"]) fun _ _ _ _ _ _ us hl => match us, hl with | [_, _, _], _ => rfl
  have b_past_rows := F_past_rows.binds (ps := ["ends", "closed", "rows"]) fun _ _ _ _ _ _ us hl => match us, hl with | [_, _, _], _ => rfl
  have b_rim_ends := F_rim_ends.binds (ps := ["width"]) fun _ _ _ _ _ _ us hl => match us, hl with | [_], _ => rfl
  have b_finished := F_finished.binds (ps := ["ends", "closed", "rows"]) fun _ _ _ _ _ _ us hl => match us, hl with | [_, _, _], _ => rfl
  have b_check_rows := F_check_rows.binds (ps := ["width", "rows"]) fun _ _ _ _ _ _ us hl => match us, hl with | [_, _], _ => rfl
  have b_tail_number := F_tail_number.binds (ps := ["tail", "more", "k"]) fun _ _ _ _ _ _ us hl => match us, hl with | [_, _, _], _ => rfl
  have b_least_every := F_least_every.binds (ps := ["tail", "more"]) fun _ _ _ _ _ _ us hl => match us, hl with | [_, _], _ => rfl
  have b_fewest_numbers := F_fewest_numbers.binds (ps := ["numbers", "every", "more"]) fun _ _ _ _ _ _ us hl => match us, hl with | [_, _, _], _ => rfl
  have b_head_length := F_head_length.binds (ps := ["strip", "n"]) fun _ _ _ _ _ _ us hl => match us, hl with | [_, _], _ => rfl
  have b_head_row := F_head_row.binds (ps := ["strip", "r"]) fun _ _ _ _ _ _ us hl => match us, hl with | [_, _], _ => rfl
  have b_last_rows := F_last_rows.binds (ps := ["strip", "n"]) fun _ _ _ _ _ _ us hl => match us, hl with | [_, _], _ => rfl
  have b_strip_course := F_strip_course.binds (ps := ["strip"]) fun _ _ _ _ _ _ us hl => match us, hl with | [_], _ => rfl
  have b_count_at := F_count_at.binds (ps := ["strip", "n"]) fun _ _ _ _ _ _ us hl => match us, hl with | [_, _], _ => rfl
  have b_ends_after := F_ends_after.binds (ps := ["strip", "length"]) fun _ _ _ _ _ _ us hl => match us, hl with | [_, _], _ => rfl
  have b_cut_ends := F_cut_ends.binds (ps := ["strip", "n"]) fun _ _ _ _ _ _ us hl => match us, hl with | [_, _], _ => rfl
  have b_course_paper := F_course_paper.binds (ps := ["strip"]) fun _ _ _ _ _ _ us hl => match us, hl with | [_], _ => rfl
  have b__law_well := F__law_well.binds (ps := ["_law_cell", "_law_salt"]) fun _ _ _ _ _ _ us hl => match us, hl with | [_, _], _ => rfl
  have b__law_pick := F__law_pick.binds (ps := ["_law_well_here", "_law_many"]) fun _ _ _ _ _ _ us hl => match us, hl with | [_, _], _ => rfl
  have b__law_same := F__law_same.binds (ps := ["_law_found", "_law_due_here"]) fun _ _ _ _ _ _ us hl => match us, hl with | [_, _], _ => rfl
  have b__law_rows := F__law_rows.binds (ps := ["_law_well_here", "_law_wide", "_law_many"]) fun _ _ _ _ _ _ us hl => match us, hl with | [_, _, _], _ => rfl
  have b__law_parts := F__law_parts.binds (ps := ["_law_well_here"]) fun _ _ _ _ _ _ us hl => match us, hl with | [_], _ => rfl
  have b__law_point := F__law_point.binds (ps := ["_law_links_here", "_law_x", "_law_y", "_law_char"]) fun _ _ _ _ _ _ us hl => match us, hl with | [_, _, _, _], _ => rfl
  have b__law_links := F__law_links.binds (ps := ["_law_top", "_law_rows_here"]) fun _ _ _ _ _ _ us hl => match us, hl with | [_, _], _ => rfl
  have b__law_along := F__law_along.binds (ps := ["_law_links_here", "_law_square", "_law_seen"]) fun _ _ _ _ _ _ us hl => match us, hl with | [_, _, _], _ => rfl
  have b__law_behind := F__law_behind.binds (ps := ["_law_top", "_law_rows_here"]) fun _ _ _ _ _ _ us hl => match us, hl with | [_, _], _ => rfl
  have b__law_rim := F__law_rim.binds (ps := ["_law_wide"]) fun _ _ _ _ _ _ us hl => match us, hl with | [_], _ => rfl
  have b__law_closed := F__law_closed.binds (ps := ["_law_top", "_law_rows_here"]) fun _ _ _ _ _ _ us hl => match us, hl with | [_, _], _ => rfl
  have b__law_entry := F__law_entry.binds (ps := ["_law_told", "_law_rounds"]) fun _ _ _ _ _ _ us hl => match us, hl with | [_, _], _ => rfl
  have b__law_due := F__law_due.binds (ps := ["_law_told", "_law_wide", "_law_lists", "_law_size"]) fun _ _ _ _ _ _ us hl => match us, hl with | [_, _, _, _], _ => rfl
  have b__law_is_paper := F__law_is_paper.binds (ps := ["_law_told", "_law_wide", "_law_lists"]) fun _ _ _ _ _ _ us hl => match us, hl with | [_, _, _], _ => rfl
  have b_Strip___init__ := F_Strip___init__.binds (ps := ["self", "width", "ahead", "cycle", "end"]) fun _ _ _ _ _ _ us hl => match us, hl with | [_, _, _, _, _], _ => rfl
  have b_Course___init__ := F_Course___init__.binds (ps := ["self", "least", "numbers", "every", "more"]) fun _ _ _ _ _ _ us hl => match us, hl with | [_, _, _, _, _], _ => rfl
  have b_Course_at := F_Course_at.binds (ps := ["self", "n"]) fun _ _ _ _ _ _ us hl => match us, hl with | [_, _], _ => rfl
  have b_Strip_width := F_Strip_width.binds (ps := ["self"]) fun _ _ _ _ _ _ us hl => match us, hl with | [_], _ => rfl
  have b_Strip_ahead := F_Strip_ahead.binds (ps := ["self"]) fun _ _ _ _ _ _ us hl => match us, hl with | [_], _ => rfl
  have b_Strip_cycle := F_Strip_cycle.binds (ps := ["self"]) fun _ _ _ _ _ _ us hl => match us, hl with | [_], _ => rfl
  have b_Strip_end := F_Strip_end.binds (ps := ["self"]) fun _ _ _ _ _ _ us hl => match us, hl with | [_], _ => rfl
  have b_Strip_least := F_Strip_least.binds (ps := ["self"]) fun _ _ _ _ _ _ us hl => match us, hl with | [_], _ => rfl
  have C_past_point : Cal K mg "past_point" _ _ ["ends", "left", "char"] := ⟨PySem.W.mg_of X G a_past_point, k_past_point, b_past_point⟩
  have C_past_level : Cal K mg "past_level" _ _ ["ends", "left", "text"] := ⟨PySem.W.mg_of X G a_past_level, k_past_level, b_past_level⟩
  have C_past_rows : Cal K mg "past_rows" _ _ ["ends", "closed", "rows"] := ⟨PySem.W.mg_of X G a_past_rows, k_past_rows, b_past_rows⟩
  have C_rim_ends : Cal K mg "rim_ends" _ _ ["width"] := ⟨PySem.W.mg_of X G a_rim_ends, k_rim_ends, b_rim_ends⟩
  have C_finished : Cal K mg "finished" _ _ ["ends", "closed", "rows"] := ⟨PySem.W.mg_of X G a_finished, k_finished, b_finished⟩
  have C_check_rows : Cal K mg "check_rows" _ _ ["width", "rows"] := ⟨PySem.W.mg_of X G a_check_rows, k_check_rows, b_check_rows⟩
  have C_tail_number : Cal K mg "tail_number" _ _ ["tail", "more", "k"] := ⟨PySem.W.mg_of X G a_tail_number, k_tail_number, b_tail_number⟩
  have C_least_every : Cal K mg "least_every" _ _ ["tail", "more"] := ⟨PySem.W.mg_of X G a_least_every, k_least_every, b_least_every⟩
  have C_fewest_numbers : Cal K mg "fewest_numbers" _ _ ["numbers", "every", "more"] := ⟨PySem.W.mg_of X G a_fewest_numbers, k_fewest_numbers, b_fewest_numbers⟩
  have C_head_length : Cal K mg "head_length" _ _ ["strip", "n"] := ⟨PySem.W.mg_of X G a_head_length, k_head_length, b_head_length⟩
  have C_head_row : Cal K mg "head_row" _ _ ["strip", "r"] := ⟨PySem.W.mg_of X G a_head_row, k_head_row, b_head_row⟩
  have C_last_rows : Cal K mg "last_rows" _ _ ["strip", "n"] := ⟨PySem.W.mg_of X G a_last_rows, k_last_rows, b_last_rows⟩
  have C_strip_course : Cal K mg "strip_course" _ _ ["strip"] := ⟨PySem.W.mg_of X G a_strip_course, k_strip_course, b_strip_course⟩
  have C_count_at : Cal K mg "count_at" _ _ ["strip", "n"] := ⟨PySem.W.mg_of X G a_count_at, k_count_at, b_count_at⟩
  have C_ends_after : Cal K mg "ends_after" _ _ ["strip", "length"] := ⟨PySem.W.mg_of X G a_ends_after, k_ends_after, b_ends_after⟩
  have C_cut_ends : Cal K mg "cut_ends" _ _ ["strip", "n"] := ⟨PySem.W.mg_of X G a_cut_ends, k_cut_ends, b_cut_ends⟩
  have C_course_paper : Cal K mg "course_paper" _ _ ["strip"] := ⟨PySem.W.mg_of X G a_course_paper, k_course_paper, b_course_paper⟩
  have C__law_well : Cal K mg "_law_well" _ _ ["_law_cell", "_law_salt"] := ⟨PySem.W.mg_of X G a__law_well, k__law_well, b__law_well⟩
  have C__law_pick : Cal K mg "_law_pick" _ _ ["_law_well_here", "_law_many"] := ⟨PySem.W.mg_of X G a__law_pick, k__law_pick, b__law_pick⟩
  have C__law_same : Cal K mg "_law_same" _ _ ["_law_found", "_law_due_here"] := ⟨PySem.W.mg_of X G a__law_same, k__law_same, b__law_same⟩
  have C__law_rows : Cal K mg "_law_rows" _ _ ["_law_well_here", "_law_wide", "_law_many"] := ⟨PySem.W.mg_of X G a__law_rows, k__law_rows, b__law_rows⟩
  have C__law_parts : Cal K mg "_law_parts" _ _ ["_law_well_here"] := ⟨PySem.W.mg_of X G a__law_parts, k__law_parts, b__law_parts⟩
  have C__law_point : Cal K mg "_law_point" _ _ ["_law_links_here", "_law_x", "_law_y", "_law_char"] := ⟨PySem.W.mg_of X G a__law_point, k__law_point, b__law_point⟩
  have C__law_links : Cal K mg "_law_links" _ _ ["_law_top", "_law_rows_here"] := ⟨PySem.W.mg_of X G a__law_links, k__law_links, b__law_links⟩
  have C__law_along : Cal K mg "_law_along" _ _ ["_law_links_here", "_law_square", "_law_seen"] := ⟨PySem.W.mg_of X G a__law_along, k__law_along, b__law_along⟩
  have C__law_behind : Cal K mg "_law_behind" _ _ ["_law_top", "_law_rows_here"] := ⟨PySem.W.mg_of X G a__law_behind, k__law_behind, b__law_behind⟩
  have C__law_rim : Cal K mg "_law_rim" _ _ ["_law_wide"] := ⟨PySem.W.mg_of X G a__law_rim, k__law_rim, b__law_rim⟩
  have C__law_closed : Cal K mg "_law_closed" _ _ ["_law_top", "_law_rows_here"] := ⟨PySem.W.mg_of X G a__law_closed, k__law_closed, b__law_closed⟩
  have C__law_entry : Cal K mg "_law_entry" _ _ ["_law_told", "_law_rounds"] := ⟨PySem.W.mg_of X G a__law_entry, k__law_entry, b__law_entry⟩
  have C__law_due : Cal K mg "_law_due" _ _ ["_law_told", "_law_wide", "_law_lists", "_law_size"] := ⟨PySem.W.mg_of X G a__law_due, k__law_due, b__law_due⟩
  have C__law_is_paper : Cal K mg "_law_is_paper" _ _ ["_law_told", "_law_wide", "_law_lists"] := ⟨PySem.W.mg_of X G a__law_is_paper, k__law_is_paper, b__law_is_paper⟩
  have C_Strip_width : PCal K CS "width" _ _ _ := ⟨⟨a_Strip_width, g_Strip_width, t_Strip_width, ⟨_, r_Strip_width⟩⟩, b_Strip_width⟩
  have C_Strip_ahead : PCal K CS "ahead" _ _ _ := ⟨⟨a_Strip_ahead, g_Strip_ahead, t_Strip_ahead, ⟨_, r_Strip_ahead⟩⟩, b_Strip_ahead⟩
  have C_Strip_cycle : PCal K CS "cycle" _ _ _ := ⟨⟨a_Strip_cycle, g_Strip_cycle, t_Strip_cycle, ⟨_, r_Strip_cycle⟩⟩, b_Strip_cycle⟩
  have C_Strip_end : PCal K CS "end" _ _ _ := ⟨⟨a_Strip_end, g_Strip_end, t_Strip_end, ⟨_, r_Strip_end⟩⟩, b_Strip_end⟩
  have C_Strip_least : PCal K CS "least" _ _ _ := ⟨⟨a_Strip_least, g_Strip_least, t_Strip_least, ⟨_, r_Strip_least⟩⟩, b_Strip_least⟩
  have C_Strip : MCal K mg "Strip" CS _ _ ["self", "width", "ahead", "cycle", "end"] := ⟨⟨mkCS, a_Strip___init__, i_Strip___init__, kcCS⟩, PySem.W.mg_of X G a_Strip, b_Strip___init__⟩
  have C_Course : MCal K mg "Course" CC _ _ ["self", "least", "numbers", "every", "more"] := ⟨⟨mkCC, a_Course___init__, i_Course___init__, kcCC⟩, PySem.W.mg_of X G a_Course, b_Course___init__⟩
  have C_at : TCal K CC "at" _ _ ["self", "n"] := ⟨⟨a_Course_at, i_Course_at, k_Course_at⟩, b_Course_at⟩
  refine ⟨PySem.W.fnOf "law" "law" (defArgs s_law) (defBody s_law) (defScope s_law) .none kV_law dc_law pm_law an_law cd_law ct_law, fun s v => .of_eq rfl, fun base _ _ => ?_⟩
  have G_past_point : FnOk l.prog w K mg base CX0 1 _ _ ["ends", "left", "char"] (spPoint K) := ok_past_point F_past_point T
  have G_past_level : FnOk l.prog w K mg base CX0 2 _ _ ["ends", "left", "text"] (spLevel K) := ok_past_level F_past_level T C_past_point G_past_point
  have G_past_rows : FnOk l.prog w K mg base CX0 3 _ _ ["ends", "closed", "rows"] (spRows K) := ok_past_rows F_past_rows T C_past_level G_past_level
  have G_rim_ends : FnOk l.prog w K mg base CX0 1 _ _ ["width"] (spRim K) := ok_rim_ends F_rim_ends T
  have G_finished : FnOk l.prog w K mg base CX0 4 _ _ ["ends", "closed", "rows"] (spFin K) := ok_finished F_finished T C_past_level G_past_level C_past_rows G_past_rows
  have G_check_rows : FnOk l.prog w K mg base CX0 1 _ _ ["width", "rows"] (spCheck K) := ok_check_rows F_check_rows T
  have G_Strip : FnOk l.prog w K mg base CX0 2 _ _ ["self", "width", "ahead", "cycle", "end"] (spInit K CS) := ok_strip_init F_Strip___init__ T S C_check_rows G_check_rows
  have G_Strip_width : FnOk l.prog w K mg base CX0 1 _ _ ["self"] (spWidth K CS) := ok_width F_Strip_width S
  have G_Strip_ahead : FnOk l.prog w K mg base CX0 1 _ _ ["self"] (spAhead K CS) := ok_ahead F_Strip_ahead T S
  have G_Strip_cycle : FnOk l.prog w K mg base CX0 1 _ _ ["self"] (spCycle K CS) := ok_cycle F_Strip_cycle T S
  have G_Strip_end : FnOk l.prog w K mg base CX0 1 _ _ ["self"] (spEnd K CS) := ok_end F_Strip_end T S
  have G_Strip_least : FnOk l.prog w K mg base CX0 1 _ _ ["self"] (spLeast K CS) := ok_least F_Strip_least T S
  have G_tail_number : FnOk l.prog w K mg base CX0 1 _ _ ["tail", "more", "k"] (spTail K) := ok_tail_number F_tail_number T
  have G_least_every : FnOk l.prog w K mg base CX0 2 _ _ ["tail", "more"] (spLeast_every K) := ok_least_every F_least_every T C_tail_number G_tail_number
  have G_fewest_numbers : FnOk l.prog w K mg base CX0 1 _ _ ["numbers", "every", "more"] (spFewest K) := ok_fewest_numbers F_fewest_numbers T
  have G_Course : FnOk l.prog w K mg base CX0 3 _ _ ["self", "least", "numbers", "every", "more"] (spCInit K CC) := ok_course_init F_Course___init__ T SC C_least_every G_least_every C_fewest_numbers G_fewest_numbers
  have G_at : FnOk l.prog w K mg base CX0 2 _ _ ["self", "n"] (spAt K CC) := ok_at F_Course_at T SC C_tail_number G_tail_number
  have G_head_length : FnOk l.prog w K mg base CX0 3 _ _ ["strip", "n"] (spHeadLen K CS) := ok_head_length F_head_length T S C_Strip_end G_Strip_end
  have G_head_row : FnOk l.prog w K mg base CX0 3 _ _ ["strip", "r"] (spHeadRow K CS) := ok_head_row F_head_row T S C_Strip_ahead G_Strip_ahead C_Strip_cycle G_Strip_cycle
  have G_last_rows : FnOk l.prog w K mg base CX0 4 _ _ ["strip", "n"] (spLastRows K CS) := ok_last_rows F_last_rows T S C_Strip_end G_Strip_end C_head_row G_head_row
  have G_strip_course : FnOk l.prog w K mg base CX0 6 _ _ ["strip"] (spCourse K CS CC) := ok_strip_course F_strip_course T S C_Strip_ahead G_Strip_ahead C_Strip_cycle G_Strip_cycle C_Strip_width G_Strip_width C_Strip_least G_Strip_least C_head_length G_head_length C_head_row G_head_row C_past_rows G_past_rows C_rim_ends G_rim_ends C_finished G_finished C_last_rows G_last_rows C_Course G_Course
  have G_count_at : FnOk l.prog w K mg base CX0 7 _ _ ["strip", "n"] (spCount K CS) := ok_count_at F_count_at T S C_Strip_least G_Strip_least C_strip_course G_strip_course C_at G_at SC
  have G_ends_after : FnOk l.prog w K mg base CX0 4 _ _ ["strip", "length"] (spEndsAfter K CS) := ok_ends_after F_ends_after T S C_Strip_ahead G_Strip_ahead C_Strip_cycle G_Strip_cycle C_Strip_width G_Strip_width C_head_row G_head_row C_past_rows G_past_rows C_rim_ends G_rim_ends
  have G_cut_ends : FnOk l.prog w K mg base CX0 5 _ _ ["strip", "n"] (spCutEnds K CS) := ok_cut_ends F_cut_ends T S C_Strip_least G_Strip_least C_head_length G_head_length C_ends_after G_ends_after C_last_rows G_last_rows C_past_rows G_past_rows C_past_level G_past_level
  have G_course_paper : FnOk l.prog w K mg base CX0 4 _ _ ["strip"] (spPaper K CS) := ok_course_paper F_course_paper T S C_Strip_ahead G_Strip_ahead C_Strip_cycle G_Strip_cycle C_Strip_width G_Strip_width C_past_rows G_past_rows C_rim_ends G_rim_ends
  have G__law_well : FnOk l.prog w K mg base CX0 1 _ _ ["_law_cell", "_law_salt"] spWell := ok_law_well F__law_well T
  have G__law_pick : FnOk l.prog w K mg base CX0 1 _ _ ["_law_well_here", "_law_many"] spPick := ok_law_pick F__law_pick T
  have G__law_same : FnOk l.prog w K mg base CX0 3 _ _ ["_law_found", "_law_due_here"] (spSame 3) := ok_law_same F__law_same T C__law_same 3
  have G__law_rows : FnOk l.prog w K mg base CX0 2 _ _ ["_law_well_here", "_law_wide", "_law_many"] (spLawRows K) := ok_law_rows F__law_rows T C__law_pick G__law_pick
  have G__law_parts : FnOk l.prog w K mg base CX0 3 _ _ ["_law_well_here"] (spLawParts K) := ok_law_parts F__law_parts T C__law_pick G__law_pick C__law_rows G__law_rows
  have G__law_point : FnOk l.prog w K mg base CX0 1 _ _ ["_law_links_here", "_law_x", "_law_y", "_law_char"] spLawPoint := ok_law_point F__law_point T
  have G__law_links : FnOk l.prog w K mg base CX0 2 _ _ ["_law_top", "_law_rows_here"] (spLinks K) := ok_law_links F__law_links T C__law_point G__law_point
  have G__law_along : FnOk l.prog w K mg base CX0 1 _ _ ["_law_links_here", "_law_square", "_law_seen"] spAlong := ok_law_along F__law_along T
  have G__law_behind : FnOk l.prog w K mg base CX0 3 _ _ ["_law_top", "_law_rows_here"] (spBehind K) := ok_law_behind F__law_behind T C__law_links G__law_links C__law_along G__law_along
  have G__law_rim : FnOk l.prog w K mg base CX0 1 _ _ ["_law_wide"] spLawRim := ok_law_rim F__law_rim T
  have G__law_closed : FnOk l.prog w K mg base CX0 4 _ _ ["_law_top", "_law_rows_here"] (spLawClosed K) := ok_law_closed F__law_closed T C__law_behind G__law_behind
  have G__law_entry : FnOk l.prog w K mg base CX0 1 _ _ ["_law_told", "_law_rounds"] spEntry := ok_law_entry F__law_entry T
  have G__law_due : FnOk l.prog w K mg base CX0 5 _ _ ["_law_told", "_law_wide", "_law_lists", "_law_size"] (spDue K) := ok_law_due F__law_due T C__law_rim G__law_rim C__law_entry G__law_entry C__law_behind G__law_behind C__law_closed G__law_closed
  have G__law_is_paper : FnOk l.prog w K mg base CX0 4 _ _ ["_law_told", "_law_wide", "_law_lists"] (spIsPaper K) := ok_law_is_paper F__law_is_paper T C__law_rim G__law_rim C__law_behind G__law_behind C__law_same G__law_same
  exact ok_law F_law T S SC C__law_well G__law_well C__law_pick G__law_pick C__law_parts G__law_parts C_Strip G_Strip C_course_paper G_course_paper C__law_is_paper G__law_is_paper C_strip_course G_strip_course C__law_due G__law_due C__law_same G__law_same C_count_at G_count_at C_at G_at C_cut_ends G_cut_ends
theorem walk {l : PySem.W.OpenLaw} {q : Program} {loose : List Str} {XP : (Str → Option Value) → Heap → Prop} {YP : World → Heap → Prop} {d : DefRec} {K : Params → PySem.W.Frag} (hn : l.most = some 63) (hdf : d.params.defaults = [])
    (hY : ∀ (w : World) (h : Heap), YP w h → (K w.params).In h)
    (F : ∀ (w : World) (mg : Str → Option Value) (fa : Addr) (h : Heap), (K w.params).In h → h.Ns mainGlobals mg → mg d.name = some (.ref fa) →
      ∃ fd : FuncData, (∀ (s : Shared) (u : Value), BindsTo s fd ⟨[u], []⟩ [("_law_script", u)]) ∧ ∀ base : Heap, (K w.params).In base → base.Ns mainGlobals mg → FnOk l.prog w (K w.params) mg base CX0 8 fa fd ["_law_script"] (spLaw (K w.params))) :
    PySem.W.WalkO q loose XP YP l.row.toRowW d [] (fun f vs => PySem.call f vs) :=
  L2.walk_of (n := 63) (k := 8) (x := "_law_script") (CX := fun _ => CX0) (sp := fun w => spLaw (K w.params)) hn (by decide) hdf ⟨rfl, by decide, by decide⟩ hY F (fun _ _ a ns _ _ hS => ⟨a, ns, rfl, hS, fun _ => rfl⟩) fun _ _ _ _ _ z => z
end Sand

open PySem PySem.W PyProof.Rows in
set_option maxRecDepth 100000 in
set_option maxHeartbeats 0 in
theorem PySem.Challenge.cw_sandthreads_k93_whole_every_length_holds : PySem.Challenge.rw_sandthreads_k93_whole_every_length.Holds := by
  w_on; o_law; k_head; (case hw => w_witness2)
  k_fill
  refine Sand.walk (l := PySem.Challenge.rw_sandthreads_k93_whole_every_length) rfl rfl (fun w h Y => PySem.W.kIn_of Y) ?F
  case F =>
    intro w mg fa h KX G hmg
    refine' Sand.all_mk KX G hmg ?a_Strip ?a_Course ?a_past_point ?l_past_point ?c_past_point ?k_past_point ?a_past_level ?l_past_level ?c_past_level ?k_past_level ?a_past_rows ?l_past_rows ?c_past_rows ?k_past_rows ?a_rim_ends ?l_rim_ends ?c_rim_ends ?k_rim_ends ?a_finished ?l_finished ?c_finished ?k_finished ?a_check_rows ?l_check_rows ?c_check_rows ?k_check_rows ?a_tail_number ?l_tail_number ?c_tail_number ?k_tail_number ?a_least_every ?l_least_every ?c_least_every ?k_least_every ?a_fewest_numbers ?l_fewest_numbers ?c_fewest_numbers ?k_fewest_numbers ?a_head_length ?l_head_length ?c_head_length ?k_head_length ?a_head_row ?l_head_row ?c_head_row ?k_head_row ?a_last_rows ?l_last_rows ?c_last_rows ?k_last_rows ?a_strip_course ?l_strip_course ?c_strip_course ?k_strip_course ?a_count_at ?l_count_at ?c_count_at ?k_count_at ?a_ends_after ?l_ends_after ?c_ends_after ?k_ends_after ?a_cut_ends ?l_cut_ends ?c_cut_ends ?k_cut_ends ?a_course_paper ?l_course_paper ?c_course_paper ?k_course_paper ?a__law_well ?l__law_well ?c__law_well ?k__law_well ?a__law_pick ?l__law_pick ?c__law_pick ?k__law_pick ?a__law_same ?l__law_same ?c__law_same ?k__law_same ?a__law_rows ?l__law_rows ?c__law_rows ?k__law_rows ?a__law_parts ?l__law_parts ?c__law_parts ?k__law_parts ?a__law_point ?l__law_point ?c__law_point ?k__law_point ?a__law_links ?l__law_links ?c__law_links ?k__law_links ?a__law_along ?l__law_along ?c__law_along ?k__law_along ?a__law_behind ?l__law_behind ?c__law_behind ?k__law_behind ?a__law_rim ?l__law_rim ?c__law_rim ?k__law_rim ?a__law_closed ?l__law_closed ?c__law_closed ?k__law_closed ?a__law_entry ?l__law_entry ?c__law_entry ?k__law_entry ?a__law_due ?l__law_due ?c__law_due ?k__law_due ?a__law_is_paper ?l__law_is_paper ?c__law_is_paper ?k__law_is_paper ?a_law ?l_law ?c_law ?k_law ?a_Strip___init__ ?i_Strip___init__ ?l_Strip___init__ ?c_Strip___init__ ?k_Strip___init__ ?a_Course___init__ ?i_Course___init__ ?l_Course___init__ ?c_Course___init__ ?k_Course___init__ ?a_Course_at ?i_Course_at ?l_Course_at ?c_Course_at ?k_Course_at ?a_Strip_width ?g_Strip_width ?t_Strip_width ?r_Strip_width ?l_Strip_width ?c_Strip_width ?k_Strip_width ?a_Strip_ahead ?g_Strip_ahead ?t_Strip_ahead ?r_Strip_ahead ?l_Strip_ahead ?c_Strip_ahead ?k_Strip_ahead ?a_Strip_cycle ?g_Strip_cycle ?t_Strip_cycle ?r_Strip_cycle ?l_Strip_cycle ?c_Strip_cycle ?k_Strip_cycle ?a_Strip_end ?g_Strip_end ?t_Strip_end ?r_Strip_end ?l_Strip_end ?c_Strip_end ?k_Strip_end ?a_Strip_least ?g_Strip_least ?t_Strip_least ?r_Strip_least ?l_Strip_least ?c_Strip_least ?k_Strip_least ?pgCS ?hdCS ?poCS ?saCS ?mkCS ?kcCS ?n_Strip_wide ?n_Strip_first_rows ?n_Strip_round_rows ?n_Strip_last_rows ?pgCC ?hdCC ?poCC ?saCC ?mkCC ?kcCC ?n_Course_start ?n_Course_told ?n_Course_period ?n_Course_rise ?z_len ?z_range ?z_enumerate ?z_list ?z_tuple ?z_max ?z_divmod ?z_isinstance ?z_int ?z_all ?z_bool ?z_str ?z_chars
    (case a_Strip => k_is)
    (case a_Course => k_is)
    (case a_past_point => k_is)
    (case l_past_point => k_is)
    (case c_past_point => k_is)
    (case k_past_point => k_is)
    (case a_past_level => k_is)
    (case l_past_level => k_is)
    (case c_past_level => k_is)
    (case k_past_level => k_is)
    (case a_past_rows => k_is)
    (case l_past_rows => k_is)
    (case c_past_rows => k_is)
    (case k_past_rows => k_is)
    (case a_rim_ends => k_is)
    (case l_rim_ends => k_is)
    (case c_rim_ends => k_is)
    (case k_rim_ends => k_is)
    (case a_finished => k_is)
    (case l_finished => k_is)
    (case c_finished => k_is)
    (case k_finished => k_is)
    (case a_check_rows => k_is)
    (case l_check_rows => k_is)
    (case c_check_rows => k_is)
    (case k_check_rows => k_is)
    (case a_tail_number => k_is)
    (case l_tail_number => k_is)
    (case c_tail_number => k_is)
    (case k_tail_number => k_is)
    (case a_least_every => k_is)
    (case l_least_every => k_is)
    (case c_least_every => k_is)
    (case k_least_every => k_is)
    (case a_fewest_numbers => k_is)
    (case l_fewest_numbers => k_is)
    (case c_fewest_numbers => k_is)
    (case k_fewest_numbers => k_is)
    (case a_head_length => k_is)
    (case l_head_length => k_is)
    (case c_head_length => k_is)
    (case k_head_length => k_is)
    (case a_head_row => k_is)
    (case l_head_row => k_is)
    (case c_head_row => k_is)
    (case k_head_row => k_is)
    (case a_last_rows => k_is)
    (case l_last_rows => k_is)
    (case c_last_rows => k_is)
    (case k_last_rows => k_is)
    (case a_strip_course => k_is)
    (case l_strip_course => k_is)
    (case c_strip_course => k_is)
    (case k_strip_course => k_is)
    (case a_count_at => k_is)
    (case l_count_at => k_is)
    (case c_count_at => k_is)
    (case k_count_at => k_is)
    (case a_ends_after => k_is)
    (case l_ends_after => k_is)
    (case c_ends_after => k_is)
    (case k_ends_after => k_is)
    (case a_cut_ends => k_is)
    (case l_cut_ends => k_is)
    (case c_cut_ends => k_is)
    (case k_cut_ends => k_is)
    (case a_course_paper => k_is)
    (case l_course_paper => k_is)
    (case c_course_paper => k_is)
    (case k_course_paper => k_is)
    (case a__law_well => k_is)
    (case l__law_well => k_is)
    (case c__law_well => k_is)
    (case k__law_well => k_is)
    (case a__law_pick => k_is)
    (case l__law_pick => k_is)
    (case c__law_pick => k_is)
    (case k__law_pick => k_is)
    (case a__law_same => k_is)
    (case l__law_same => k_is)
    (case c__law_same => k_is)
    (case k__law_same => k_is)
    (case a__law_rows => k_is)
    (case l__law_rows => k_is)
    (case c__law_rows => k_is)
    (case k__law_rows => k_is)
    (case a__law_parts => k_is)
    (case l__law_parts => k_is)
    (case c__law_parts => k_is)
    (case k__law_parts => k_is)
    (case a__law_point => k_is)
    (case l__law_point => k_is)
    (case c__law_point => k_is)
    (case k__law_point => k_is)
    (case a__law_links => k_is)
    (case l__law_links => k_is)
    (case c__law_links => k_is)
    (case k__law_links => k_is)
    (case a__law_along => k_is)
    (case l__law_along => k_is)
    (case c__law_along => k_is)
    (case k__law_along => k_is)
    (case a__law_behind => k_is)
    (case l__law_behind => k_is)
    (case c__law_behind => k_is)
    (case k__law_behind => k_is)
    (case a__law_rim => k_is)
    (case l__law_rim => k_is)
    (case c__law_rim => k_is)
    (case k__law_rim => k_is)
    (case a__law_closed => k_is)
    (case l__law_closed => k_is)
    (case c__law_closed => k_is)
    (case k__law_closed => k_is)
    (case a__law_entry => k_is)
    (case l__law_entry => k_is)
    (case c__law_entry => k_is)
    (case k__law_entry => k_is)
    (case a__law_due => k_is)
    (case l__law_due => k_is)
    (case c__law_due => k_is)
    (case k__law_due => k_is)
    (case a__law_is_paper => k_is)
    (case l__law_is_paper => k_is)
    (case c__law_is_paper => k_is)
    (case k__law_is_paper => k_is)
    (case a_law => k_is)
    (case l_law => k_is)
    (case c_law => k_is)
    (case k_law => k_is)
    (case a_Strip___init__ => k_is)
    (case i_Strip___init__ => k_is)
    (case l_Strip___init__ => k_is)
    (case c_Strip___init__ => k_is)
    (case k_Strip___init__ => k_is)
    (case a_Course___init__ => k_is)
    (case i_Course___init__ => k_is)
    (case l_Course___init__ => k_is)
    (case c_Course___init__ => k_is)
    (case k_Course___init__ => k_is)
    (case a_Course_at => k_is)
    (case i_Course_at => k_is)
    (case l_Course_at => k_is)
    (case c_Course_at => k_is)
    (case k_Course_at => k_is)
    (case a_Strip_width => k_is)
    (case g_Strip_width => k_is)
    (case t_Strip_width => k_is)
    (case r_Strip_width => k_is)
    (case l_Strip_width => k_is)
    (case c_Strip_width => k_is)
    (case k_Strip_width => k_is)
    (case a_Strip_ahead => k_is)
    (case g_Strip_ahead => k_is)
    (case t_Strip_ahead => k_is)
    (case r_Strip_ahead => k_is)
    (case l_Strip_ahead => k_is)
    (case c_Strip_ahead => k_is)
    (case k_Strip_ahead => k_is)
    (case a_Strip_cycle => k_is)
    (case g_Strip_cycle => k_is)
    (case t_Strip_cycle => k_is)
    (case r_Strip_cycle => k_is)
    (case l_Strip_cycle => k_is)
    (case c_Strip_cycle => k_is)
    (case k_Strip_cycle => k_is)
    (case a_Strip_end => k_is)
    (case g_Strip_end => k_is)
    (case t_Strip_end => k_is)
    (case r_Strip_end => k_is)
    (case l_Strip_end => k_is)
    (case c_Strip_end => k_is)
    (case k_Strip_end => k_is)
    (case a_Strip_least => k_is)
    (case g_Strip_least => k_is)
    (case t_Strip_least => k_is)
    (case r_Strip_least => k_is)
    (case l_Strip_least => k_is)
    (case c_Strip_least => k_is)
    (case k_Strip_least => k_is)
    (case pgCS => k_is)
    (case hdCS => k_is)
    (case poCS => k_is)
    (case saCS => k_is)
    (case mkCS => k_is)
    (case kcCS => k_is)
    (case n_Strip_wide => k_is)
    (case n_Strip_first_rows => k_is)
    (case n_Strip_round_rows => k_is)
    (case n_Strip_last_rows => k_is)
    (case pgCC => k_is)
    (case hdCC => k_is)
    (case poCC => k_is)
    (case saCC => k_is)
    (case mkCC => k_is)
    (case kcCC => k_is)
    (case n_Course_start => k_is)
    (case n_Course_told => k_is)
    (case n_Course_period => k_is)
    (case n_Course_rise => k_is)
    (case z_len => k_is)
    (case z_range => k_is)
    (case z_enumerate => k_is)
    (case z_list => k_is)
    (case z_tuple => k_is)
    (case z_max => k_is)
    (case z_divmod => k_is)
    (case z_isinstance => k_is)
    (case z_int => k_is)
    (case z_all => k_is)
    (case z_bool => k_is)
    (case z_str => k_is)
    (case z_chars => k_is)
