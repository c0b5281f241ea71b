import PyProof.Rows.All
import Wide.All
import OpenK.AllK
import Wide.FinOn
import HandS.ForMost
import HandS.TupAny
import HandS.IsInst
import HandS.Conv
import HandS.DictComp
import HandS.NoneIn
import HandS.Zip
import HandS.More
import HandS.Flow
import HandS.Walk
import HandS.Lambda
import HandS.EndTab
import KE.SortKeyHeap
import HandS.Steps
import PySem.Challenge.RW_allbide_k51_whole_shortest_rows
import KE.GoesNew
import HandS.Nested
import HandS.SortInts
import HandS.Style
set_option Elab.async false
set_option linter.all false
set_option maxRecDepth 100000
set_option maxHeartbeats 4000000
set_option autoImplicit false
namespace Al51
/-- a step: whether it raises, its event, its time -/
abbrev Stp := Bool × Int × Int
abbrev s0 : Stp := (false, 0, 0)
abbrev Row := List (Int × Int)

def stepsIn : Row → List Stp
  | [] => []
  | p :: r => (true, p.1, p.2) :: (false, p.1, p.2) :: stepsIn r

def commute (a b : Stp) : Bool :=
  if a.1 = b.1 then true
  else if a.1 = true then decide (a.2.1 = b.2.1) && decide (a.2.2 ≤ b.2.2)
  else decide (b.2.1 = a.2.1) && decide (b.2.2 ≤ a.2.2)

def stronger (a b : Stp) : Bool := if a.1 = true then decide (b.2.2 < a.2.2) else decide (a.2.2 < b.2.2)

/-- is the step at i idle by the one at b -/
def makesIdle (L : List Stp) (i b : Nat) : Bool :=
  if i = b ∨ ¬ ((L.getD i s0).1 = (L.getD b s0).1 ∧ (L.getD i s0).2.1 = (L.getD b s0).2.1) then false
  else if i < b then !stronger (L.getD i s0) (L.getD b s0)
  else stronger (L.getD b s0) (L.getD i s0) && ((L.drop (b + 1)).take (i - (b + 1))).all (commute (L.getD i s0))

def whyIdle (L : List Stp) (i : Nat) : Option Nat := (List.range L.length).find? (makesIdle L i)
def firstIdle (L : List Stp) : Option (Nat × Nat) := (List.range L.length).findSome? fun i => (whyIdle L i).map fun b => (i, b)

def redN (S : Nat → Stp) : Nat → List Nat → List Nat
  | 0, l => l
  | n + 1, l => match firstIdle (l.map S) with
    | none => l
    | some pq => redN S n (l.eraseIdx pq.1)

def at_ (L : List Stp) (k : Nat) : Stp := L.getD k s0
/-- the indexes of the steps that are left -/
def leftOf (L : List Stp) : List Nat := redN (at_ L) L.length (List.range L.length)
def remOf (L : List Stp) : List Stp := (leftOf L).map (at_ L)
/-- the pieces of a row of which a step is left -/
def keptIdx (row : Row) : List Nat := (List.range row.length).filter fun i => (leftOf (stepsIn row)).any fun a => a / 2 == i
def shortestOf (row : Row) : Row := (keptIdx row).map fun i => row.getD i (0, 0)

/-! ### values with a sign -/
def val (s : Stp) : Int := if s.1 = true then s.2.2 else - s.2.2
def Com (a b : Stp) : Prop := a.1 = b.1 ∨ (a.2.1 = b.2.1 ∧ val a + val b ≤ 0)
theorem commute_iff (a b : Stp) : commute a b = true ↔ Com a b := by
  obtain ⟨ka, ea, ta⟩ := a
  obtain ⟨kb, eb, tb⟩ := b
  cases ka <;> cases kb <;> simp [commute, Com, val] <;> omega
theorem stronger_iff {a b : Stp} (h : a.1 = b.1) : stronger a b = true ↔ val b < val a := by
  obtain ⟨ka, ea, ta⟩ := a
  obtain ⟨kb, eb, tb⟩ := b
  have h' : ka = kb := h
  subst h'
  cases ka <;> simp [stronger, val]

/-- the step i is idle by the step o among those in X -/
def By (S : Nat → Stp) (X : Nat → Prop) (i o : Nat) : Prop :=
  X i ∧ X o ∧ ((S i).1 = (S o).1 ∧ (S i).2.1 = (S o).2.1) ∧
  ((i < o ∧ val (S i) ≤ val (S o)) ∨ (o < i ∧ val (S i) < val (S o) ∧ ∀ j, X j → o < j → j < i → Com (S i) (S j)))

section
variable {S : Nat → Stp} {X Y : Nat → Prop} {i o p : Nat}
theorem By.mono (h : By S X i o) (hi : Y i) (ho : Y o) (hs : ∀ j, Y j → X j ∨ (S j).1 = (S i).1) : By S Y i o := by
  obtain ⟨_, _, e, h⟩ := h
  refine ⟨hi, ho, e, ?_⟩
  rcases h with h | ⟨h1, h2, h3⟩
  · exact .inl h
  · refine .inr ⟨h1, h2, fun j hj a b => ?_⟩
    rcases hs j hj with q | q
    · exact h3 j q a b
    · exact .inl q.symm
theorem By.trans (h : By S X i o) (k : By S X o p) : By S X i p := by
  obtain ⟨xi, xo, ⟨e1, e2⟩, h⟩ := h
  obtain ⟨_, xp, ⟨f1, f2⟩, k⟩ := k
  refine ⟨xi, xp, ⟨e1.trans f1, e2.trans f2⟩, ?_⟩
  rcases h with ⟨a1, a2⟩ | ⟨a1, a2, a3⟩
  · rcases k with ⟨b1, b2⟩ | ⟨b1, b2, b3⟩
    · exact .inl ⟨by omega, by omega⟩
    · by_cases c : i < p
      · exact .inl ⟨c, by omega⟩
      · have ne : p ≠ i := fun z => by subst z; omega
        refine .inr ⟨by omega, by omega, fun j hj j1 j2 => ?_⟩
        rcases b3 j hj j1 (by omega) with q | ⟨q1, q2⟩
        · exact .inl (e1.trans q)
        · exact .inr ⟨e2.trans q1, by omega⟩
  · rcases k with ⟨b1, b2⟩ | ⟨b1, b2, b3⟩
    · by_cases c : i < p
      · exact .inl ⟨c, by omega⟩
      · have ne : p ≠ i := fun z => by subst z; omega
        refine .inr ⟨by omega, by omega, fun j hj j1 j2 => a3 j hj (by omega) j2⟩
    · refine .inr ⟨by omega, by omega, fun j hj j1 j2 => ?_⟩
      by_cases c : o < j
      · exact a3 j hj c j2
      · by_cases c2 : j = o
        · subst c2
          exact .inl e1
        · rcases b3 j hj j1 (by omega) with q | ⟨q1, q2⟩
          · exact .inl (e1.trans q)
          · exact .inr ⟨e2.trans q1, by omega⟩
end

/-- what the end R of a reduction of X has: no step of R is idle, each other one is idle by one of R -/
structure Done (S : Nat → Stp) (X R : Nat → Prop) : Prop where
  sub : ∀ x, R x → X x
  irr : ∀ i o, ¬ By S R i o
  out : ∀ x, X x → ¬ R x → ∃ r, R r ∧ By S (fun j => R j ∨ j = x) x r

section
variable {S : Nat → Stp} {X T R R' : Nat → Prop}
/-- of equal steps only the last one remains -/
theorem Done.last (d : Done S X R) {i j : Nat} (hi : R i) (hij : i < j) (hj : X j) (e : S j = S i) : False := by
  by_cases c : R j
  · exact d.irr i j ⟨hi, c, ⟨by rw [e], by rw [e]⟩, .inl ⟨hij, by rw [e]; exact Int.le_refl _⟩⟩
  · obtain ⟨r, hr, h⟩ := d.out j hj c
    have h1 : By S (fun k => R k ∨ k = j) i j := ⟨.inl hi, .inr rfl, ⟨by rw [e], by rw [e]⟩, .inl ⟨hij, by rw [e]; exact Int.le_refl _⟩⟩
    exact d.irr i r ((h1.trans h).mono hi hr fun k hk => .inl (.inl hk))
/-- what lies between the end and the whole has the same end -/
theorem Done.keep (d : Done S X R) (hRT : ∀ x, R x → T x) (hTX : ∀ x, T x → X x) {i o : Nat} (hi : R i) : ¬ By S T i o := fun h => by
  have ho : T o := h.2.1
  by_cases c : R o
  · exact d.irr i o (h.mono hi c fun k hk => .inl (hRT k hk))
  · obtain ⟨r, hr, h2⟩ := d.out o (hTX o ho) c
    have h1 : By S (fun k => R k ∨ k = o) i o := h.mono (.inl hi) (.inr rfl) fun k hk => by
      rcases hk with q | q
      · exact .inl (hRT k q)
      · rw [q]
        exact .inl ho
    exact d.irr i r ((h1.trans h2).mono hi hr fun k hk => .inl (.inl hk))
theorem Done.same (d : Done S X R) (hR : ∀ x, R x → R' x) (hX : ∀ x, R' x → X x) (irr : ∀ i o, ¬ By S R' i o) : ∀ x, R' x → R x := by
  intro x hx
  apply Classical.byContradiction
  intro nx
  -- every further step has its own stronger one of R ahead of it
  have ahead : ∀ y, R' y → ¬ R y → ∃ r, R r ∧ r < y ∧ ((S y).1 = (S r).1 ∧ (S y).2.1 = (S r).2.1) ∧ val (S y) < val (S r) ∧ ∀ j, R j → r < j → j < y → Com (S y) (S j) := by
    intro y hy ny
    obtain ⟨r, hr, _, _, e, h⟩ := d.out y (hX y hy) ny
    rcases h with ⟨h1, h2⟩ | ⟨h1, h2, h3⟩
    · exact absurd ⟨hy, hR r hr, e, .inl ⟨h1, h2⟩⟩ (irr y r)
    · exact ⟨r, hr, h1, e, h2, fun j hj => h3 j (.inl hj)⟩
  obtain ⟨p, hp, p1, ⟨pe1, pe2⟩, pv, pc⟩ := ahead x hx nx
  -- so x would be idle
  refine irr x p ⟨hx, hR p hp, ⟨pe1, pe2⟩, .inr ⟨p1, pv, fun j hj j1 j2 => ?_⟩⟩
  by_cases cj : R j
  · exact pc j cj j1 j2
  · obtain ⟨q, hq, q1, ⟨qe1, qe2⟩, qv, qc⟩ := ahead j hj cj
    apply Classical.byContradiction
    intro nc
    have k1 : (S x).1 ≠ (S j).1 := fun z => nc (.inl z)
    have k2 : ¬ ((S x).2.1 = (S j).2.1 ∧ val (S x) + val (S j) ≤ 0) := fun z => nc (.inr z)
    have npq : p ≠ q := fun z => by
      subst z
      exact k1 (pe1.trans qe1.symm)
    by_cases c : p < q
    · rcases pc q hq c (by omega) with z | ⟨z1, z2⟩
      · exact k1 (z.trans qe1.symm)
      · exact k2 ⟨z1.trans qe2.symm, by omega⟩
    · rcases qc p hp (by omega) j1 with z | ⟨z1, z2⟩
      · exact k1 (pe1.trans z.symm)
      · exact k2 ⟨pe2.trans z1.symm, by omega⟩
end

/-! ### lists -/
inductive Chain (S : Nat → Stp) : List Nat → List Nat → Prop
  | refl (l : List Nat) : Chain S l l
  | step {l r : List Nat} {p q : Nat} : p < l.length → q < l.length → makesIdle (l.map S) p q = true → Chain S (l.eraseIdx p) r → Chain S l r

theorem firstIdle_some {L : List Stp} {pq : Nat × Nat} (h : firstIdle L = some pq) : pq.1 < L.length ∧ pq.2 < L.length ∧ makesIdle L pq.1 pq.2 = true := by
  unfold firstIdle at h
  obtain ⟨i, hi, e⟩ := List.exists_of_findSome?_eq_some h
  obtain ⟨b, hb, e2⟩ := Option.map_eq_some_iff.mp e
  subst e2
  exact ⟨List.mem_range.mp hi, List.mem_range.mp (List.mem_of_find?_eq_some hb), List.find?_some hb⟩
theorem firstIdle_none {L : List Stp} (h : firstIdle L = none) : ∀ p q, p < L.length → q < L.length → makesIdle L p q = false := by
  intro p q hp hq
  unfold firstIdle at h
  have h1 := List.findSome?_eq_none_iff.mp h p (List.mem_range.mpr hp)
  have h2 : whyIdle L p = none := by simpa using h1
  have h3 := List.find?_eq_none.mp h2 q (List.mem_range.mpr hq)
  simpa using h3

theorem redN_chain (S : Nat → Stp) : ∀ (n : Nat) (l : List Nat), Chain S l (redN S n l)
  | 0, l => .refl l
  | n + 1, l => by
    unfold redN
    cases h : firstIdle (l.map S) with
    | none => exact .refl l
    | some pq =>
      obtain ⟨h1, h2, h3⟩ := firstIdle_some h
      rw [List.length_map] at h1 h2
      exact .step h1 h2 h3 (redN_chain S n _)
theorem redN_end (S : Nat → Stp) : ∀ (n : Nat) (l : List Nat), l.length ≤ n → firstIdle ((redN S n l).map S) = none
  | 0, l, hl => by
    have e : l = [] := List.length_eq_zero_iff.mp (by omega)
    subst e
    rfl
  | n + 1, l, hl => by
    unfold redN
    cases h : firstIdle (l.map S) with
    | none => exact h
    | some pq =>
      obtain ⟨h1, h2, h3⟩ := firstIdle_some h
      rw [List.length_map] at h1 h2
      exact redN_end S n _ (by rw [List.length_eraseIdx_of_lt h1]; omega)
theorem redN_more (S : Nat → Stp) : ∀ (n : Nat) (l : List Nat), firstIdle ((redN S n l).map S) = none → redN S (n + 1) l = redN S n l
  | 0, l, h => by
    have h' : firstIdle (l.map S) = none := h
    show (match firstIdle (l.map S) with | none => l | some pq => redN S 0 (l.eraseIdx pq.1)) = l
    rw [h']
  | n + 1, l, h => by
    have e : redN S (n + 1) l = (match firstIdle (l.map S) with | none => l | some pq => redN S n (l.eraseIdx pq.1)) := rfl
    have e2 : redN S (n + 2) l = (match firstIdle (l.map S) with | none => l | some pq => redN S (n + 1) (l.eraseIdx pq.1)) := rfl
    rw [e] at h ⊢
    rw [e2]
    cases c : firstIdle (l.map S) with
    | none => rfl
    | some pq =>
      rw [c] at h
      exact redN_more S n _ h
/-- a step more than n turns from the outside -/
theorem redN_snoc (S : Nat → Stp) : ∀ (n : Nat) (l : List Nat), redN S (n + 1) l = (match firstIdle ((redN S n l).map S) with | none => redN S n l | some pq => (redN S n l).eraseIdx pq.1)
  | 0, l => rfl
  | n + 1, l => by
    have e : ∀ m, redN S (m + 1) l = (match firstIdle (l.map S) with | none => l | some pq => redN S m (l.eraseIdx pq.1)) := fun _ => rfl
    rw [e (n + 1), e n]
    cases c : firstIdle (l.map S) with
    | none =>
      show l = (match firstIdle (l.map S) with | none => l | some pq => l.eraseIdx pq.1)
      rw [c]
    | some pq => exact redN_snoc S n _

theorem getD_map {l : List Nat} {S : Nat → Stp} {p : Nat} (h : p < l.length) : (l.map S).getD p s0 = S l[p] := by
  rw [List.getD_eq_getElem?_getD, List.getElem?_map, List.getElem?_eq_getElem h]
  rfl
abbrev Asc (l : List Nat) : Prop := l.Pairwise (· < ·)
theorem Asc.lt {l : List Nat} (h : Asc l) {p q : Nat} (hp : p < l.length) (hq : q < l.length) : l[p] < l[q] ↔ p < q := by
  constructor
  · intro a
    apply Classical.byContradiction
    intro c
    by_cases e : p = q
    · subst e
      omega
    · have := List.pairwise_iff_getElem.mp h q p hq hp (by omega)
      omega
  · intro a
    exact List.pairwise_iff_getElem.mp h p q hp hq a
theorem Asc.eq {l : List Nat} (h : Asc l) {p q : Nat} (hp : p < l.length) (hq : q < l.length) (e : l[p] = l[q]) : p = q := by
  have h1 := h.lt hp hq
  have h2 := h.lt hq hp
  omega

/-- idle in the list is idle among its members -/
theorem makesIdle_iff {S : Nat → Stp} {l : List Nat} (hl : Asc l) {p q : Nat} (hp : p < l.length) (hq : q < l.length) :
    makesIdle (l.map S) p q = true ↔ By S (· ∈ l) l[p] l[q] := by
  unfold makesIdle By
  rw [getD_map hp, getD_map hq]
  have mp : l[p] ∈ l := List.getElem_mem hp
  have mq : l[q] ∈ l := List.getElem_mem hq
  by_cases e : (S l[p]).1 = (S l[q]).1 ∧ (S l[p]).2.1 = (S l[q]).2.1
  · by_cases hpq : p = q
    · subst hpq
      rw [if_pos (.inl rfl)]
      constructor
      · intro h
        cases h
      · rintro ⟨_, _, _, h⟩
        rcases h with h | h <;> omega
    · rw [if_neg (fun z => z.elim hpq fun z => z e)]
      by_cases c : p < q
      · rw [if_pos c]
        have c' := (hl.lt hp hq).mpr c
        have e1 := stronger_iff (a := S l[p]) (b := S l[q]) e.1
        constructor
        · intro h
          refine ⟨mp, mq, e, .inl ⟨c', ?_⟩⟩
          have h' : ¬ stronger (S l[p]) (S l[q]) = true := by simpa using h
          have h2 := mt e1.mpr h'
          omega
        · rintro ⟨_, _, _, h⟩
          have h2 : ¬ stronger (S l[p]) (S l[q]) = true := fun z => by
            have := e1.mp z
            rcases h with h | h <;> omega
          simpa using h2
      · rw [if_neg c]
        have c2 : q < p := by omega
        have c' := (hl.lt hq hp).mpr c2
        have e1 := stronger_iff (a := S l[q]) (b := S l[p]) e.1.symm
        rw [Bool.and_eq_true, List.all_eq_true, e1]
        constructor
        · rintro ⟨h1, h2⟩
          refine ⟨mp, mq, e, .inr ⟨c', h1, fun j hj j1 j2 => ?_⟩⟩
          obtain ⟨k, hk, ek⟩ := List.getElem_of_mem hj
          subst ek
          have k1 := (hl.lt hq hk).mp j1
          have k2 := (hl.lt hk hp).mp j2
          refine (commute_iff _ _).mp (h2 (S l[k]) ?_)
          refine List.mem_iff_getElem?.mpr ⟨k - (q + 1), ?_⟩
          rw [List.getElem?_take, if_pos (by omega), List.getElem?_drop, show q + 1 + (k - (q + 1)) = k by omega, List.getElem?_map, List.getElem?_eq_getElem hk]
          rfl
        · rintro ⟨_, _, _, h⟩
          rcases h with h | ⟨h1, h2, h3⟩
          · omega
          · refine ⟨h2, fun s hs => (commute_iff _ _).mpr ?_⟩
            obtain ⟨k, hk⟩ := List.mem_iff_getElem?.mp hs
            have k3 : k < p - (q + 1) := by
              apply Classical.byContradiction
              intro z
              rw [List.getElem?_take, if_neg z] at hk
              cases hk
            rw [List.getElem?_take, if_pos k3, List.getElem?_drop, List.getElem?_map] at hk
            have kl : q + 1 + k < l.length := by omega
            rw [List.getElem?_eq_getElem kl] at hk
            have e3 : S l[q + 1 + k] = s := Option.some.inj hk
            rw [← e3]
            exact h3 _ (List.getElem_mem kl) ((hl.lt hq kl).mpr (by omega)) ((hl.lt kl hp).mpr (by omega))
  · rw [if_pos (.inr e)]
    constructor
    · intro h
      cases h
    · rintro ⟨_, _, z, _⟩
      exact absurd z e

theorem Chain.sub {S : Nat → Stp} {l r : List Nat} (c : Chain S l r) : r.Sublist l := by
  induction c with
  | refl l => exact List.Sublist.refl l
  | step _ _ _ _ ih => exact ih.trans (List.eraseIdx_sublist _ _)
theorem mem_erase {l : List Nat} (h : Asc l) {p : Nat} (hp : p < l.length) {x : Nat} : x ∈ l.eraseIdx p ↔ x ∈ l ∧ x ≠ l[p] := by
  constructor
  · intro hx
    refine ⟨(List.eraseIdx_sublist _ _).mem hx, fun e => ?_⟩
    obtain ⟨k, hk⟩ := List.mem_iff_getElem?.mp hx
    rw [List.getElem?_eraseIdx] at hk
    split at hk
    · rename_i c
      have kl : k < l.length := by omega
      rw [List.getElem?_eq_getElem kl] at hk
      have := h.eq kl hp ((Option.some.inj hk).trans e)
      omega
    · rename_i c
      by_cases kl : k + 1 < l.length
      · rw [List.getElem?_eq_getElem kl] at hk
        have := h.eq kl hp ((Option.some.inj hk).trans e)
        omega
      · rw [List.getElem?_eq_none (by omega)] at hk
        cases hk
  · rintro ⟨hx, ne⟩
    obtain ⟨k, hk, e⟩ := List.getElem_of_mem hx
    subst e
    have nk : k ≠ p := fun z => by
      subst z
      exact ne rfl
    by_cases c : k < p
    · exact List.mem_iff_getElem?.mpr ⟨k, by rw [List.getElem?_eraseIdx, if_pos c, List.getElem?_eq_getElem hk]⟩
    · refine List.mem_iff_getElem?.mpr ⟨k - 1, ?_⟩
      rw [List.getElem?_eraseIdx, if_neg (by omega), show k - 1 + 1 = k by omega, List.getElem?_eq_getElem hk]

theorem Chain.out {S : Nat → Stp} {l r : List Nat} (c : Chain S l r) (hl : Asc l) : ∀ x, x ∈ l → x ∉ r → ∃ o, o ∈ r ∧ By S (fun j => j ∈ r ∨ j = x) x o := by
  induction c with
  | refl l => exact fun x h n => absurd h n
  | @step l r p q hp hq hi c ih =>
    have hl' : Asc (l.eraseIdx p) := hl.sublist (List.eraseIdx_sublist _ _)
    intro x hx nx
    have B := (makesIdle_iff hl hp hq).mp hi
    by_cases e : x = l[p]
    · subst e
      have ne : l[q] ≠ l[p] := fun z => by
        obtain ⟨_, _, _, h⟩ := B
        rcases h with h | h <;> omega
      have mo : l[q] ∈ l.eraseIdx p := (mem_erase hl hp).mpr ⟨List.getElem_mem hq, ne⟩
      by_cases ho : l[q] ∈ r
      · exact ⟨l[q], ho, B.mono (.inr rfl) (.inl ho) fun j hj => by
          rcases hj with z | z
          · exact .inl ((List.eraseIdx_sublist _ _).mem (c.sub.mem z))
          · rw [z]
            exact .inl (List.getElem_mem hp)⟩
      · obtain ⟨o, h1, h2⟩ := ih hl' _ mo ho
        refine ⟨o, h1, ?_⟩
        have b1 : By S (fun j => j ∈ r ∨ j = l[q] ∨ j = l[p]) l[p] l[q] := B.mono (.inr (.inr rfl)) (.inr (.inl rfl)) fun j hj => by
          rcases hj with z | z | z
          · exact .inl ((List.eraseIdx_sublist _ _).mem (c.sub.mem z))
          · rw [z]
            exact .inl (List.getElem_mem hq)
          · rw [z]
            exact .inl (List.getElem_mem hp)
        have b2 : By S (fun j => j ∈ r ∨ j = l[q] ∨ j = l[p]) l[q] o := h2.mono (.inr (.inl rfl)) (.inl h1) fun j hj => by
          rcases hj with z | z | z
          · exact .inl (.inl z)
          · exact .inl (.inr z)
          · refine .inr ?_
            rw [z]
            exact B.2.2.1.1
        exact (b1.trans b2).mono (.inr rfl) (.inl h1) fun j hj => by
          rcases hj with z | z
          · exact .inl (.inl z)
          · exact .inl (.inr (.inr z))
    · have hx' : x ∈ l.eraseIdx p := (mem_erase hl hp).mpr ⟨hx, e⟩
      exact ih hl' x hx' nx

theorem done_of {S : Nat → Stp} {l r : List Nat} (hl : Asc l) (c : Chain S l r) (e : firstIdle (r.map S) = none) : Done S (· ∈ l) (· ∈ r) where
  sub := fun x hx => c.sub.mem hx
  out := c.out hl
  irr := fun i o h => by
    have hr : Asc r := hl.sublist c.sub
    obtain ⟨p, hp, e1⟩ := List.getElem_of_mem h.1
    obtain ⟨q, hq, e2⟩ := List.getElem_of_mem h.2.1
    subst e1
    subst e2
    have h2 := firstIdle_none e p q (by rw [List.length_map]; exact hp) (by rw [List.length_map]; exact hq)
    rw [(makesIdle_iff hr hp hq).mpr h] at h2
    cases h2

theorem asc_range (n : Nat) : Asc (List.range n) := List.pairwise_lt_range
theorem asc_eq : ∀ {l r : List Nat}, Asc l → Asc r → (∀ x, x ∈ l ↔ x ∈ r) → l = r
  | [], [], _, _, _ => rfl
  | [], b :: r, _, _, h => absurd ((h b).mpr (.head _)) (by simp)
  | a :: l, [], _, _, h => absurd ((h a).mp (.head _)) (by simp)
  | a :: l, b :: r, ha, hb, h => by
    have ha' := List.pairwise_cons.mp ha
    have hb' := List.pairwise_cons.mp hb
    have e : a = b := by
      rcases List.mem_cons.mp ((h a).mp (.head _)) with z | z
      · exact z
      · rcases List.mem_cons.mp ((h b).mpr (.head _)) with y | y
        · exact y.symm
        · have := hb'.1 a z
          have := ha'.1 b y
          omega
    subst e
    rw [asc_eq ha'.2 hb'.2 fun x => ?_]
    constructor
    · intro hx
      rcases List.mem_cons.mp ((h x).mp (.tail _ hx)) with z | z
      · subst z
        have := ha'.1 x hx
        omega
      · exact z
    · intro hx
      rcases List.mem_cons.mp ((h x).mpr (.tail _ hx)) with z | z
      · subst z
        have := hb'.1 x hx
        omega
      · exact z

theorem left_done (L : List Stp) : Done (at_ L) (· ∈ List.range L.length) (· ∈ leftOf L) :=
  done_of (asc_range _) (redN_chain _ _ _) (redN_end _ _ _ (by rw [List.length_range]; exact Nat.le_refl _))
theorem left_asc (L : List Stp) : Asc (leftOf L) := (asc_range _).sublist (redN_chain (at_ L) L.length _).sub
theorem left_lt {L : List Stp} {x : Nat} (h : x ∈ leftOf L) : x < L.length := List.mem_range.mp ((redN_chain (at_ L) L.length _).sub.mem h)
/-- a list between the remaining steps and all of them is reduced to the same -/
theorem red_between {L : List Stp} {T : List Nat} {n : Nat} (hT : Asc T) (h1 : ∀ x ∈ leftOf L, x ∈ T) (h2 : ∀ x ∈ T, x < L.length) (hn : T.length ≤ n) : redN (at_ L) n T = leftOf L := by
  have c := redN_chain (at_ L) n T
  have e := redN_end (at_ L) n T hn
  have d := left_done L
  have dT := done_of hT c e
  have keep : ∀ {l r : List Nat}, Chain (at_ L) l r → Asc l → (∀ x ∈ leftOf L, x ∈ l) → (∀ x ∈ l, x < L.length) → ∀ x ∈ leftOf L, x ∈ r := by
    intro l r c
    induction c with
    | refl l => exact fun _ h _ => h
    | @step l r p q hp hq hi c ih =>
      intro hl a1 a2
      have B := (makesIdle_iff hl hp hq).mp hi
      refine ih (hl.sublist (List.eraseIdx_sublist _ _)) (fun x hx => (mem_erase hl hp).mpr ⟨a1 x hx, fun z => ?_⟩) fun x hx => a2 x ((List.eraseIdx_sublist _ _).mem hx)
      subst z
      exact d.keep (T := (· ∈ l)) (fun x hx => a1 x hx) (fun x hx => List.mem_range.mpr (a2 x hx)) hx B
  have hk := keep c hT h1 h2
  refine asc_eq (hT.sublist c.sub) (left_asc L) fun x => ⟨?_, hk x⟩
  exact d.same (R' := (· ∈ redN (at_ L) n T)) (fun x hx => hk x hx) (fun x hx => List.mem_range.mpr (h2 x (c.sub.mem hx))) dT.irr x

/-! ### the reduction does not ask what the indexes are -/
theorem erase_map {α β : Type} (g : α → β) : ∀ (l : List α) (p : Nat), (l.eraseIdx p).map g = (l.map g).eraseIdx p
  | [], _ => rfl
  | _ :: _, 0 => rfl
  | a :: l, p + 1 => by
    show g a :: (l.eraseIdx p).map g = g a :: (l.map g).eraseIdx p
    rw [erase_map g l p]
theorem redN_nat (S : Nat → Stp) (g : Nat → Nat) : ∀ (n : Nat) (l : List Nat), (redN (fun k => S (g k)) n l).map g = redN S n (l.map g)
  | 0, _ => rfl
  | n + 1, l => by
    unfold redN
    rw [List.map_map]
    show (match firstIdle (l.map fun k => S (g k)) with | none => l | some pq => redN (fun k => S (g k)) n (l.eraseIdx pq.1)).map g = _
    have e : l.map (S ∘ g) = l.map fun k => S (g k) := rfl
    rw [e]
    cases firstIdle (l.map fun k => S (g k)) with
    | none => rfl
    | some pq =>
      show (redN (fun k => S (g k)) n (l.eraseIdx pq.1)).map g = redN S n ((l.map g).eraseIdx pq.1)
      rw [redN_nat S g n, erase_map]
theorem redN_congr {S S' : Nat → Stp} : ∀ (n : Nat) (l : List Nat), (∀ x ∈ l, S x = S' x) → redN S n l = redN S' n l
  | 0, _, _ => rfl
  | n + 1, l, h => by
    unfold redN
    rw [List.map_congr_left h]
    cases firstIdle (l.map S') with
    | none => rfl
    | some pq => exact redN_congr n _ fun x hx => h x ((List.eraseIdx_sublist _ _).mem hx)

/-! ### steps of rows -/
theorem steps_len : ∀ row : Row, (stepsIn row).length = 2 * row.length
  | [] => rfl
  | p :: r => by
    show (stepsIn r).length + 1 + 1 = 2 * (r.length + 1)
    rw [steps_len r]
    omega
theorem steps_even : ∀ (row : Row) (i : Nat), at_ (stepsIn row) (2 * i) = if i < row.length then (true, row.getD i (0, 0)) else s0
  | [], i => by
    show ([] : List Stp).getD (2 * i) s0 = _
    simp
  | p :: r, 0 => by simp [stepsIn, at_]
  | p :: r, i + 1 => by
    show ((true, p.1, p.2) :: (false, p.1, p.2) :: stepsIn r).getD (2 * i + 1 + 1) s0 = _
    have ih := steps_even r i
    unfold at_ at ih
    rw [List.getD_cons_succ, List.getD_cons_succ, ih, List.length_cons, List.getD_cons_succ]
    by_cases c : i < r.length
    · rw [if_pos c, if_pos (by omega)]
    · rw [if_neg c, if_neg (by omega)]
theorem steps_odd : ∀ (row : Row) (i : Nat), at_ (stepsIn row) (2 * i + 1) = if i < row.length then (false, row.getD i (0, 0)) else s0
  | [], i => by
    show ([] : List Stp).getD (2 * i + 1) s0 = _
    simp
  | p :: r, 0 => by simp [stepsIn, at_]
  | p :: r, i + 1 => by
    show ((true, p.1, p.2) :: (false, p.1, p.2) :: stepsIn r).getD (2 * i + 1 + 1 + 1) s0 = _
    have ih := steps_odd r i
    unfold at_ at ih
    rw [List.getD_cons_succ, List.getD_cons_succ, ih, List.length_cons, List.getD_cons_succ]
    by_cases c : i < r.length
    · rw [if_pos c, if_pos (by omega)]
    · rw [if_neg c, if_neg (by omega)]
theorem steps_at {row : Row} {k : Nat} (h : k < (stepsIn row).length) : at_ (stepsIn row) k = (decide (k % 2 = 0), row.getD (k / 2) (0, 0)) := by
  rw [steps_len] at h
  rcases Nat.mod_two_eq_zero_or_one k with e | e
  · have ek : k = 2 * (k / 2) := by omega
    have := steps_even row (k / 2)
    rw [← ek, if_pos (by omega)] at this
    rw [this, decide_eq_true e]
  · have ek : k = 2 * (k / 2) + 1 := by omega
    have := steps_odd row (k / 2)
    rw [← ek, if_pos (by omega)] at this
    rw [this, decide_eq_false (by omega)]
theorem mem_steps {row : Row} {k : Bool} {p : Int × Int} (h : (k, p) ∈ stepsIn row) : p ∈ row := by
  induction row with
  | nil => cases h
  | cons q r ih =>
    rcases List.mem_cons.mp h with e | h
    · cases e
      exact .head _
    · rcases List.mem_cons.mp h with e | h
      · cases e
        exact .head _
      · exact .tail _ (ih h)

theorem mem_kept {row : Row} {i : Nat} : i ∈ keptIdx row ↔ i < row.length ∧ ∃ a ∈ leftOf (stepsIn row), a / 2 = i := by
  unfold keptIdx
  rw [List.mem_filter, List.mem_range, List.any_eq_true]
  simp
theorem kept_asc (row : Row) : Asc (keptIdx row) := (asc_range _).filter _
theorem kept_lt {row : Row} {i : Nat} (h : i ∈ keptIdx row) : i < row.length := (mem_kept.mp h).1

/-- kept pieces are the last ones of their kind, and so different -/
theorem kept_last {row : Row} {i j : Nat} (hi : i ∈ keptIdx row) (hij : i < j) (hj : j < row.length) : row.getD j (0, 0) ≠ row.getD i (0, 0) := fun e => by
  obtain ⟨_, a, ha, ea⟩ := mem_kept.mp hi
  have la := left_lt ha
  have len := steps_len row
  refine (left_done (stepsIn row)).last (i := a) (j := a + 2 * (j - i)) ha (by omega) (List.mem_range.mpr (by omega)) ?_
  rw [steps_at (by omega), steps_at la, show (a + 2 * (j - i)) % 2 = a % 2 by omega, show (a + 2 * (j - i)) / 2 = j by omega, ea, e]
theorem shortest_len (row : Row) : (shortestOf row).length = (keptIdx row).length := List.length_map ..
theorem shortest_nodup (row : Row) : (shortestOf row).Nodup := by
  unfold shortestOf
  rw [List.nodup_iff_pairwise_ne, List.pairwise_map]
  have h := kept_asc row
  refine List.Pairwise.imp_of_mem ?_ h
  intro i j hi hj hij e
  exact kept_last hi hij (kept_lt hj) e.symm

theorem nodup_le {α : Type} [DecidableEq α] : ∀ {l r : List α}, l.Nodup → (∀ x ∈ l, x ∈ r) → l.length ≤ r.length
  | [], _, _, _ => Nat.zero_le _
  | a :: l, r, h, s => by
    have h' := List.nodup_cons.mp h
    have ha : a ∈ r := s a (.head _)
    have ih := nodup_le (l := l) (r := r.erase a) h'.2 fun x hx => by
      have ne : x ≠ a := fun z => by
        subst z
        exact h'.1 hx
      exact (List.mem_erase_of_ne ne).mpr (s x (.tail _ hx))
    rw [List.length_erase_of_mem ha] at ih
    have : 0 < r.length := List.length_pos_of_mem ha
    show l.length + 1 ≤ r.length
    omega

/-- M1: a row with the same remaining steps has no fewer pieces than the shortest one -/
theorem shortest_least {row row' : Row} (h : ∀ s, s ∈ remOf (stepsIn row) → s ∈ remOf (stepsIn row')) : (shortestOf row).length ≤ row'.length := by
  refine nodup_le (shortest_nodup row) fun p hp => ?_
  obtain ⟨i, hi, e⟩ := List.mem_map.mp hp
  obtain ⟨_, a, ha, ea⟩ := mem_kept.mp hi
  have la := left_lt ha
  have m : at_ (stepsIn row) a ∈ remOf (stepsIn row) := List.mem_map.mpr ⟨a, ha, rfl⟩
  rw [steps_at la, ea, e] at m
  obtain ⟨b, hb, eb⟩ := List.mem_map.mp (h _ m)
  have lb := left_lt hb
  rw [steps_at lb] at eb
  obtain ⟨_, e2⟩ := Prod.mk.inj eb
  rw [← e2]
  rw [steps_len] at lb
  have hb2 : b / 2 < row'.length := by omega
  rw [List.getD_eq_getElem?_getD, List.getElem?_eq_getElem hb2]
  exact List.getElem_mem hb2

/-- the indexes of the steps of the kept pieces -/
def keptSteps (row : Row) : List Nat := (keptIdx row).flatMap fun i => [2 * i, 2 * i + 1]
theorem mem_keptSteps {row : Row} {x : Nat} : x ∈ keptSteps row ↔ x / 2 ∈ keptIdx row := by
  unfold keptSteps
  rw [List.mem_flatMap]
  constructor
  · rintro ⟨i, hi, h⟩
    have e : x / 2 = i := by
      rcases List.mem_cons.mp h with z | z
      · omega
      · have := List.mem_singleton.mp z
        omega
    rw [e]
    exact hi
  · intro h
    refine ⟨_, h, ?_⟩
    rcases Nat.mod_two_eq_zero_or_one x with e | e
    · rw [show 2 * (x / 2) = x by omega]
      exact .head _
    · rw [show 2 * (x / 2) + 1 = x by omega]
      exact .tail _ (.head _)
theorem flat_len : ∀ l : List Nat, (l.flatMap fun i => [2 * i, 2 * i + 1]).length = 2 * l.length
  | [] => rfl
  | a :: l => by
    rw [List.flatMap_cons, List.length_append, flat_len l]
    show 2 + 2 * l.length = 2 * (l.length + 1)
    omega
theorem flat_asc : ∀ {l : List Nat}, Asc l → Asc (l.flatMap fun i => [2 * i, 2 * i + 1])
  | [], _ => List.Pairwise.nil
  | a :: l, h => by
    have h' := List.pairwise_cons.mp h
    rw [List.flatMap_cons]
    have mem : ∀ x, x ∈ (l.flatMap fun i => [2 * i, 2 * i + 1]) → 2 * a + 1 < x := fun x hx => by
      obtain ⟨i, hi, z⟩ := List.mem_flatMap.mp hx
      have := h'.1 i hi
      rcases List.mem_cons.mp z with z | z
      · omega
      · have := List.mem_singleton.mp z
        omega
    refine List.pairwise_cons.mpr ⟨fun x hx => ?_, List.pairwise_cons.mpr ⟨fun x hx => mem x hx, flat_asc h'.2⟩⟩
    rcases List.mem_cons.mp hx with z | z
    · omega
    · have := mem x z
      omega
theorem keptSteps_asc (row : Row) : Asc (keptSteps row) := flat_asc (kept_asc row)
theorem flat_at : ∀ (l : List Nat) (k : Nat), k < 2 * l.length → (l.flatMap fun i => [2 * i, 2 * i + 1]).getD k 0 = 2 * l.getD (k / 2) 0 + k % 2
  | [], k, h => absurd h (by simp)
  | a :: l, 0, _ => rfl
  | a :: l, 1, _ => rfl
  | a :: l, k + 2, h => by
    rw [List.flatMap_cons]
    show (2 * a :: (2 * a + 1) :: (l.flatMap fun i => [2 * i, 2 * i + 1])).getD (k + 1 + 1) 0 = _
    rw [List.length_cons] at h
    rw [List.getD_cons_succ, List.getD_cons_succ, flat_at l k (by omega), show (k + 2) / 2 = k / 2 + 1 by omega, show (k + 2) % 2 = k % 2 by omega, List.getD_cons_succ]
theorem left_in_kept {row : Row} {a : Nat} (h : a ∈ leftOf (stepsIn row)) : a ∈ keptSteps row := by
  have la := left_lt h
  rw [steps_len] at la
  exact mem_keptSteps.mpr (mem_kept.mpr ⟨by omega, a, h, rfl⟩)
theorem keptSteps_lt {row : Row} {x : Nat} (h : x ∈ keptSteps row) : x < (stepsIn row).length := by
  have := kept_lt (mem_keptSteps.mp h)
  rw [steps_len]
  omega
/-- the steps of the shortest row, by their indexes in the whole -/
theorem at_short {row : Row} {k : Nat} (h : k < (stepsIn (shortestOf row)).length) : at_ (stepsIn (shortestOf row)) k = at_ (stepsIn row) ((keptSteps row).getD k 0) := by
  have h2 := h
  rw [steps_len, shortest_len] at h2
  have hk : k / 2 < (keptIdx row).length := by omega
  have e1 : (keptSteps row).getD k 0 = 2 * (keptIdx row).getD (k / 2) 0 + k % 2 := flat_at _ _ h2
  have e2 : (keptIdx row).getD (k / 2) 0 = (keptIdx row)[k / 2] := by rw [List.getD_eq_getElem?_getD, List.getElem?_eq_getElem hk]; rfl
  have hm : (keptIdx row)[k / 2] < row.length := kept_lt (List.getElem_mem hk)
  rw [steps_at h, e1, e2, steps_at (by rw [steps_len]; omega), show (2 * (keptIdx row)[k / 2] + k % 2) % 2 = k % 2 by omega, show (2 * (keptIdx row)[k / 2] + k % 2) / 2 = (keptIdx row)[k / 2] by omega]
  have e3 : (shortestOf row).getD (k / 2) (0, 0) = row.getD (keptIdx row)[k / 2] (0, 0) := by
    unfold shortestOf
    rw [List.getD_eq_getElem?_getD, List.getElem?_map, List.getElem?_eq_getElem hk]
    rfl
  rw [e3]
theorem range_getD (T : List Nat) : (List.range T.length).map (fun k => T.getD k 0) = T := by
  apply List.ext_getElem
  · rw [List.length_map, List.length_range]
  · intro i h1 h2
    rw [List.getElem_map, List.getElem_range, List.getD_eq_getElem?_getD, List.getElem?_eq_getElem h2]
    rfl
/-- M2: the shortest row keeps the very steps -/
theorem left_short (row : Row) : (leftOf (stepsIn (shortestOf row))).map (fun k => (keptSteps row).getD k 0) = leftOf (stepsIn row) := by
  have len : (stepsIn (shortestOf row)).length = (keptSteps row).length := by
    rw [steps_len, shortest_len]
    exact (flat_len _).symm
  unfold leftOf
  rw [redN_congr (S' := fun k => at_ (stepsIn row) ((keptSteps row).getD k 0)) _ _ fun x hx => at_short (List.mem_range.mp hx)]
  rw [redN_nat (at_ (stepsIn row)) (fun k => (keptSteps row).getD k 0), len, range_getD]
  exact red_between (keptSteps_asc row) (fun x hx => left_in_kept hx) (fun x hx => keptSteps_lt hx) (Nat.le_refl _)
theorem kept_short (row : Row) : keptIdx (shortestOf row) = List.range (shortestOf row).length := by
  unfold keptIdx
  rw [List.filter_eq_self]
  intro i hi
  have hi' := List.mem_range.mp hi
  rw [shortest_len] at hi'
  rw [List.any_eq_true]
  obtain ⟨_, a, ha, ea⟩ := mem_kept.mp (List.getElem_mem hi')
  have ha2 := ha
  rw [← left_short row] at ha2
  obtain ⟨k, hk, ek⟩ := List.mem_map.mp ha2
  refine ⟨k, hk, ?_⟩
  have lk := left_lt hk
  rw [steps_len, shortest_len] at lk
  have e1 : (keptSteps row).getD k 0 = 2 * (keptIdx row).getD (k / 2) 0 + k % 2 := flat_at _ _ lk
  have hk2 : k / 2 < (keptIdx row).length := by omega
  have e2 : (keptIdx row).getD (k / 2) 0 = (keptIdx row)[k / 2] := by rw [List.getD_eq_getElem?_getD, List.getElem?_eq_getElem hk2]; rfl
  have ek' : (keptSteps row).getD k 0 = a := ek
  rw [e1, e2] at ek'
  have e3 : (keptIdx row)[k / 2] = (keptIdx row)[i] := by omega
  have e4 := (kept_asc row).eq hk2 hi' e3
  rw [e4, beq_self_eq_true]
theorem map_getD_range (row : Row) : (List.range row.length).map (fun i => row.getD i (0, 0)) = row := by
  apply List.ext_getElem
  · rw [List.length_map, List.length_range]
  · intro i h1 h2
    rw [List.getElem_map, List.getElem_range, List.getD_eq_getElem?_getD, List.getElem?_eq_getElem h2]
    rfl
theorem short_short (row : Row) : shortestOf (shortestOf row) = shortestOf row := by
  have e : shortestOf (shortestOf row) = (keptIdx (shortestOf row)).map fun i => (shortestOf row).getD i (0, 0) := rfl
  rw [e, kept_short, map_getD_range]

/-! ### M3: places -/
abbrev Side := Option (Int × Int)
def act (u l : Side) (h : Int) (s : Stp) : Int :=
  if s.1 = true then (match u with | none => h | some a => if a.1 = s.2.1 then max h (s.2.2 - a.2) else h)
  else (match l with | none => h | some a => if a.1 = s.2.1 then min h (s.2.2 + a.2) else h)
def CanBe (u l : Side) : Prop := ∀ a b, u = some a → l = some b → a.1 = b.1 → 0 ≤ a.2 + b.2
section
variable {u l : Side}
theorem act_mono {h k : Int} (e : h ≤ k) (s : Stp) : act u l h s ≤ act u l k s := by
  unfold act
  cases u <;> cases l <;> simp only <;> (repeat' split) <;> omega
theorem fold_mono : ∀ (B : List Stp) {h k : Int}, h ≤ k → B.foldl (act u l) h ≤ B.foldl (act u l) k
  | [], _, _, e => e
  | s :: B, _, _, e => fold_mono B (act_mono e s)
theorem act_max (h c : Int) (s : Stp) : act u l (max h c) s ≤ max (act u l h s) c := by
  unfold act
  cases u <;> cases l <;> simp only <;> (repeat' split) <;> omega
theorem fold_max : ∀ (B : List Stp) (h c : Int), B.foldl (act u l) (max h c) ≤ max (B.foldl (act u l) h) c
  | [], _, _ => Int.le_refl _
  | s :: B, h, c => Int.le_trans (fold_mono B (act_max h c s)) (fold_max B _ c)
theorem act_min (h c : Int) (s : Stp) : min (act u l h s) c ≤ act u l (min h c) s := by
  unfold act
  cases u <;> cases l <;> simp only <;> (repeat' split) <;> omega
theorem fold_min : ∀ (B : List Stp) (h c : Int), min (B.foldl (act u l) h) c ≤ B.foldl (act u l) (min h c)
  | [], _, _ => Int.le_refl _
  | s :: B, h, c => Int.le_trans (fold_min B _ c) (fold_mono B (act_min h c s))
/-- a step behind which a step as strong stands -/
theorem act_later {s o : Stp} {B : List Stp} {h : Int} (e : s.1 = o.1 ∧ s.2.1 = o.2.1) (v : val s ≤ val o) : act u l (B.foldl (act u l) (act u l h s)) o = act u l (B.foldl (act u l) h) o := by
  obtain ⟨ks, es, ts⟩ := s
  obtain ⟨ko, eo, to⟩ := o
  obtain ⟨e1, e2⟩ := e
  have e1 : ks = ko := e1
  have e2 : es = eo := e2
  subst e1
  subst e2
  cases ks with
  | true =>
    have v : ts ≤ to := by simpa [val] using v
    cases u with
    | none => rfl
    | some a =>
      by_cases c : a.1 = es
      · have e1 : ∀ x t, act (some a) l x (true, es, t) = max x (t - a.2) := fun x t => by simp [act, c]
        rw [e1, e1, e1]
        have h1 := fold_max (u := some a) (l := l) B h (ts - a.2)
        have h2 := fold_mono (u := some a) (l := l) B (show h ≤ max h (ts - a.2) by omega)
        omega
      · have e1 : ∀ x t, act (some a) l x (true, es, t) = x := fun x t => by simp [act, c]
        rw [e1, e1, e1]
  | false =>
    have v : to ≤ ts := by
      have v' : -ts ≤ -to := by simpa [val] using v
      omega
    cases l with
    | none => rfl
    | some a =>
      by_cases c : a.1 = es
      · have e1 : ∀ x t, act u (some a) x (false, es, t) = min x (t + a.2) := fun x t => by simp [act, c]
        rw [e1, e1, e1]
        have h1 := fold_min (u := u) (l := some a) B h (ts + a.2)
        have h2 := fold_mono (u := u) (l := some a) B (show min h (ts + a.2) ≤ h by omega)
        omega
      · have e1 : ∀ x t, act u (some a) x (false, es, t) = x := fun x t => by simp [act, c]
        rw [e1, e1, e1]
/-- steps that commute with s keep what s asks -/
theorem fold_ge (can : CanBe u l) {s : Stp} : ∀ (B : List Stp) (h : Int), (∀ x ∈ B, Com s x) → act u l h s = h → act u l (B.foldl (act u l) h) s = B.foldl (act u l) h
  | [], _, _, e => e
  | x :: B, h, hc, e => by
    refine fold_ge can B _ (fun y hy => hc y (.tail _ hy)) ?_
    have c := hc x (.head _)
    obtain ⟨ks, es, ts⟩ := s
    obtain ⟨kx, ex, tx⟩ := x
    cases u with
    | none =>
      cases l with
      | none => simp [act]
      | some b =>
        cases ks <;> cases kx <;> simp [act] at e ⊢ <;> (repeat' split) <;> (try split at e) <;> omega
    | some a =>
      cases l with
      | none =>
        cases ks <;> cases kx <;> simp [act] at e ⊢ <;> (repeat' split) <;> (try split at e) <;> omega
      | some b =>
        have k := can a b rfl rfl
        cases ks <;> cases kx <;> simp [act, Com, val] at e c ⊢ <;> (repeat' split) <;> (try split at e) <;> omega
theorem act_after {o s : Stp} (e : s.1 = o.1 ∧ s.2.1 = o.2.1) (v : val s ≤ val o) (h : Int) : act u l (act u l h o) s = act u l h o := by
  obtain ⟨ks, es, ts⟩ := s
  obtain ⟨ko, eo, to⟩ := o
  obtain ⟨e1, e2⟩ := e
  have e1 : ks = ko := e1
  have e2 : es = eo := e2
  subst e1
  subst e2
  cases ks <;> cases u <;> cases l <;> simp [act, val] at v ⊢ <;> (repeat' split) <;> omega
end
theorem foldl_split {α β : Type} (f : β → α → β) (h : β) (L : List α) {p : Nat} (hp : p < L.length) : L.foldl f h = (L.drop (p + 1)).foldl f (f ((L.take p).foldl f h) L[p]) := by
  have e : L = L.take p ++ L[p] :: L.drop (p + 1) := by rw [← List.drop_eq_getElem_cons hp, List.take_append_drop]
  have e2 := congrArg (fun l => List.foldl f h l) e
  simp only [List.foldl_append, List.foldl_cons] at e2
  exact e2
theorem foldl_erase {α β : Type} (f : β → α → β) (h : β) (L : List α) (p : Nat) : (L.eraseIdx p).foldl f h = (L.drop (p + 1)).foldl f ((L.take p).foldl f h) := by
  rw [List.eraseIdx_eq_take_drop_succ, List.foldl_append]
/-- leaving out an idle step changes nothing at a possible place -/
theorem idle_fold {u l : Side} (can : CanBe u l) {L : List Stp} {p q : Nat} (hp : p < L.length) (hq : q < L.length) (hi : makesIdle L p q = true) (h : Int) : L.foldl (act u l) h = (L.eraseIdx p).foldl (act u l) h := by
  rw [foldl_split _ _ _ hp, foldl_erase]
  have g : ∀ k (hk : k < L.length), L.getD k s0 = L[k] := fun k hk => by
    rw [List.getD_eq_getElem?_getD, List.getElem?_eq_getElem hk]
    rfl
  unfold makesIdle at hi
  rw [g p hp, g q hq] at hi
  by_cases e : L[p].1 = L[q].1 ∧ L[p].2.1 = L[q].2.1
  · by_cases hpq : p = q
    · rw [if_pos (.inl hpq)] at hi
      cases hi
    · rw [if_neg (fun z => z.elim hpq fun z => z e)] at hi
      by_cases c : p < q
      · rw [if_pos c] at hi
        have v : val L[p] ≤ val L[q] := by
          have h' : ¬ stronger L[p] L[q] = true := by simpa using hi
          have := mt (stronger_iff e.1).mpr h'
          omega
        have hq' : q - (p + 1) < (L.drop (p + 1)).length := by
          rw [List.length_drop]
          omega
        have eq : (L.drop (p + 1))[q - (p + 1)] = L[q] := by
          rw [List.getElem_drop]
          congr 1
          omega
        rw [foldl_split _ _ (L.drop (p + 1)) hq', foldl_split _ ((L.take p).foldl (act u l) h) (L.drop (p + 1)) hq', eq]
        rw [act_later e v]
      · rw [if_neg c] at hi
        have c2 : q < p := by omega
        rw [Bool.and_eq_true, List.all_eq_true] at hi
        obtain ⟨h1, h2⟩ := hi
        have v := (stronger_iff e.1.symm).mp h1
        congr 1
        have hq' : q < (L.take p).length := by
          rw [List.length_take]
          omega
        have eq : (L.take p)[q] = L[q] := List.getElem_take
        have ed : (L.take p).drop (q + 1) = (L.drop (q + 1)).take (p - (q + 1)) := by rw [List.drop_take]
        rw [foldl_split _ _ (L.take p) hq', eq, ed]
        exact fold_ge can _ _ (fun x hx => (commute_iff _ _).mp (h2 x hx)) (act_after e (by omega) _)
  · rw [if_pos (.inr e)] at hi
    cases hi
theorem chain_fold {u l : Side} (can : CanBe u l) {S : Nat → Stp} {a b : List Nat} (c : Chain S a b) (h : Int) : (a.map S).foldl (act u l) h = (b.map S).foldl (act u l) h := by
  induction c with
  | refl l => rfl
  | @step a b p q hp hq hi c ih =>
    rw [idle_fold can (by rw [List.length_map]; exact hp) (by rw [List.length_map]; exact hq) hi h, ← erase_map]
    exact ih
theorem map_at (L : List Stp) : (List.range L.length).map (at_ L) = L := by
  apply List.ext_getElem
  · rw [List.length_map, List.length_range]
  · intro i h1 h2
    rw [List.getElem_map, List.getElem_range]
    unfold at_
    rw [List.getD_eq_getElem?_getD, List.getElem?_eq_getElem h2]
    rfl
theorem rem_fold {u l : Side} (can : CanBe u l) (L : List Stp) (h : Int) : L.foldl (act u l) h = (remOf L).foldl (act u l) h := by
  have e := chain_fold can (redN_chain (at_ L) L.length (List.range L.length)) h
  rw [map_at] at e
  exact e
theorem rem_short (row : Row) : remOf (stepsIn (shortestOf row)) = remOf (stepsIn row) := by
  unfold remOf
  rw [← left_short row, List.map_map]
  refine List.map_congr_left fun k hk => ?_
  exact at_short (left_lt hk)
/-- the time to which a row leads -/
def timeAt (u l : Side) : Row → Int → Int
  | [], h => h
  | p :: r, h => timeAt u l r (act u l (act u l h (true, p.1, p.2)) (false, p.1, p.2))
theorem timeAt_fold (u l : Side) : ∀ (row : Row) (h : Int), timeAt u l row h = (stepsIn row).foldl (act u l) h
  | [], _ => rfl
  | p :: r, h => by
    show timeAt u l r _ = (stepsIn r).foldl (act u l) _
    rw [timeAt_fold u l r]
/-- M3 -/
theorem short_time {u l : Side} (can : CanBe u l) (row : Row) (h : Int) : timeAt u l (shortestOf row) h = timeAt u l row h := by
  rw [timeAt_fold, timeAt_fold, rem_fold can, rem_fold can (stepsIn row), rem_short]
end Al51
namespace Al51
open PySem PySem.Spec PyProof.Rows L2

/-! ## the framework: data, environments, what evaluates to what -/
/-- what is fixed around: the written part, the code tables, the stream's list (if there is one) with the list of the script's numbers -/
structure Wd where
  K : PySem.W.Frag
  T : List (Addr × Str)
  p : Option Addr
  a : Addr
  ns : List Int

def Kp (W : Wd) (a : Addr) (o : HO) : Prop := (∃ xs, o = .tup xs) ∨ (W.p ≠ some a ∧ ∀ ps, o ≠ .tbl ps)
/-- all stands but the stream's list and the tables; nothing is forgotten -/
structure Sx (W : Wd) (H H' : Hp) : Prop where
  kp : ∀ a o, H a = some o → Kp W a o → H' a = some o
  fr : ∀ a, H' a = none → H a = none
/-- the stream is one, the tables are tables -/
structure Am (W : Wd) (H : Hp) : Prop where
  tab : LamX.Tabs W.T H
  str : ∀ q, W.p = some q → W.a ≠ q ∧ H W.a = some (.lst (W.ns.map V.int)) ∧ ∃ h k : Int, H q = some (.lst [.ref W.a, .int h, .int k]) ∧ 0 ≤ h ∧ 0 ≤ k

theorem Sx.refl (W : Wd) (H : Hp) : Sx W H H := ⟨fun _ _ h _ => h, fun _ h => h⟩
theorem Sx.trans {W : Wd} {H H1 H2 : Hp} (a : Sx W H H1) (b : Sx W H1 H2) : Sx W H H2 := ⟨fun c o h k => b.kp c o (a.kp c o h k) k, fun c h => a.fr c (b.fr c h)⟩
theorem Sx.of {W : Wd} {H H' : Hp} (h : ∀ a o, H a = some o → H' a = some o) : Sx W H H' := ⟨fun a o e _ => h a o e, fun a e => by
  cases q : H a with
  | none => rfl
  | some o =>
    rw [h a o q] at e
    cases e⟩
theorem same_new {H : Hp} {p : Addr} {o : HO} (h : H p = none) : ∀ a u, H a = some u → upd H p o a = some u := fun a u e => by
  rw [upd_ne (ne_of_none e h)]
  exact e
theorem Sx.new {W : Wd} {H : Hp} {p : Addr} {o : HO} (h : H p = none) : Sx W H (upd H p o) := Sx.of (same_new h)
theorem upd_some {H : Hp} {p a : Addr} {o : HO} (h : upd H p o a = none) : a ≠ p ∧ H a = none := by
  have ne : a ≠ p := fun e => by
    rw [e, upd_same] at h
    cases h
  exact ⟨ne, by rw [upd_ne ne] at h; exact h⟩
/-- an object that H does not know may change -/
theorem Sx.mut {W : Wd} {H H' : Hp} {p : Addr} {o : HO} (e : Sx W H H') (h : H p = none) : Sx W H (upd H' p o) := ⟨fun a u ha k => by
  rw [upd_ne (ne_of_none ha h)]
  exact e.kp a u ha k, fun a ha => e.fr a (upd_some ha).2⟩
theorem Am.same {W : Wd} {H H' : Hp} (am : Am W H) (h : ∀ a o, H a = some o → H' a = some o) : Am W H' := ⟨am.tab.ext h, fun q e => by
  obtain ⟨h1, h2, hh, k, h3, h4⟩ := am.str q e
  exact ⟨h1, h _ _ h2, hh, k, h _ _ h3, h4⟩⟩
theorem Am.new {W : Wd} {H : Hp} {p : Addr} {o : HO} (am : Am W H) (h : H p = none) : Am W (upd H p o) := am.same (same_new h)
/-- a list of one's own changes -/
theorem Am.mut {W : Wd} {H0 H : Hp} {l : Addr} {xs ys : List V} (a0 : Am W H0) (am : Am W H) (h0 : H0 l = none) (hl : H l = some (.lst xs)) : Am W (upd H l (.lst ys)) := by
  refine ⟨fun p hp => ?_, fun q e => ?_⟩
  · obtain ⟨ps, h1, h2, h3⟩ := am.tab p hp
    have ne : p.1 ≠ l := fun z => by
      rw [z, hl] at h1
      cases h1
    refine ⟨ps, by rw [upd_ne ne]; exact h1, h2, fun pos cv hc => ?_⟩
    obtain ⟨c, e1, e2⟩ := h3 pos cv hc
    have nc : c ≠ l := fun z => by
      rw [z, hl] at e2
      cases e2
    exact ⟨c, e1, by rw [upd_ne nc]; exact e2⟩
  · obtain ⟨_, b2, _, _, b3, _⟩ := a0.str q e
    obtain ⟨h1, h2, hh, k, h3, h4⟩ := am.str q e
    have n1 : q ≠ l := ne_of_none b3 h0
    have n2 : W.a ≠ l := ne_of_none b2 h0
    exact ⟨h1, by rw [upd_ne n2]; exact h2, hh, k, by rw [upd_ne n1]; exact h3, h4⟩

mutual
/-- v is the data d in the heap; the stream is told as the empty dict -/
inductive Dt (W : Wd) (H : Hp) : V → PyData → Prop
  | non : Dt W H .non .none
  | bl (b : Bool) : Dt W H (.bl b) (.bool b)
  | int (i : Int) : Dt W H (.int i) (.int i)
  | str (x : Str) : Dt W H (.str x) (.str x)
  | lst {a : Addr} {xs : List V} {ds : List PyData} : W.p ≠ some a → H a = some (.lst xs) → DtAll W H xs ds → Dt W H (.ref a) (.list ds)
  | tup {a : Addr} {xs : List V} {ds : List PyData} : H a = some (.tup xs) → DtAll W H xs ds → Dt W H (.ref a) (.tuple ds)
  | strm {q : Addr} : W.p = some q → Dt W H (.ref q) (.dict [])
inductive DtAll (W : Wd) (H : Hp) : List V → List PyData → Prop
  | nil : DtAll W H [] []
  | cons {v : V} {vs : List V} {d : PyData} {ds : List PyData} : Dt W H v d → DtAll W H vs ds → DtAll W H (v :: vs) (d :: ds)
end

section
variable {W : Wd} {H H' : Hp}
mutual
theorem Dt.mono (e : Sx W H H') : ∀ (d : PyData) (v : V), Dt W H v d → Dt W H' v d
  | .none, _, h => by cases h; exact .non
  | .bool _, _, h => by cases h; exact .bl _
  | .int _, _, h => by cases h; exact .int _
  | .str _, _, h => by cases h; exact .str _
  | .list ds, _, h => by
    cases h with
    | lst h1 h2 h3 => exact .lst h1 (e.kp _ _ h2 (.inr ⟨h1, fun ps z => by cases z⟩)) (DtAll.mono e ds _ h3)
  | .tuple ds, _, h => by
    cases h with
    | tup h2 h3 => exact .tup (e.kp _ _ h2 (.inl ⟨_, rfl⟩)) (DtAll.mono e ds _ h3)
  | .dict _, _, h => by
    cases h with
    | strm h => exact .strm h
theorem DtAll.mono (e : Sx W H H') : ∀ (ds : List PyData) (vs : List V), DtAll W H vs ds → DtAll W H' vs ds
  | [], _, h => by cases h; exact .nil
  | d :: ds, _, h => by
    cases h with
    | cons h1 h2 => exact .cons (Dt.mono e d _ h1) (DtAll.mono e ds _ h2)
end
theorem Dt.up {v : V} {d : PyData} (h : Dt W H v d) (e : Sx W H H') : Dt W H' v d := Dt.mono e d v h
theorem DtAll.up {vs : List V} {ds : List PyData} (h : DtAll W H vs ds) (e : Sx W H H') : DtAll W H' vs ds := DtAll.mono e ds vs h
end

mutual
/-- no list within -/
def lf : PyData → Bool
  | .list _ => false
  | .dict _ => false
  | .tuple xs => lfAll xs
  | .none => true
  | .bool _ => true
  | .int _ => true
  | .str _ => true
def lfAll : List PyData → Bool
  | [] => true
  | x :: xs => lf x && lfAll xs
end
section
variable {W : Wd} {H : Hp} {l : Addr} {xs ys : List V}
mutual
/-- data without lists do not mind a list that changes -/
theorem Dt.mut (hl : H l = some (.lst xs)) : ∀ (d : PyData) (v : V), lf d = true → Dt W H v d → Dt W (upd H l (.lst ys)) v d
  | .none, _, _, h => by cases h; exact .non
  | .bool _, _, _, h => by cases h; exact .bl _
  | .int _, _, _, h => by cases h; exact .int _
  | .str _, _, _, h => by cases h; exact .str _
  | .list ds, _, n, h => by
    rw [lf] at n
    cases n
  | .tuple ds, _, n, h => by
    rw [lf] at n
    cases h with
    | tup h2 h3 =>
      refine .tup ?_ (DtAll.mut hl ds _ n h3)
      rw [upd_ne (ne_of h2 hl (by intro z; cases z))]
      exact h2
  | .dict _, _, n, h => by
    rw [lf] at n
    cases n
theorem DtAll.mut (hl : H l = some (.lst xs)) : ∀ (ds : List PyData) (vs : List V), lfAll ds = true → DtAll W H vs ds → DtAll W (upd H l (.lst ys)) vs ds
  | [], _, _, h => by cases h; exact .nil
  | d :: ds, _, n, h => by
    rw [lfAll, Bool.and_eq_true] at n
    cases h with
    | cons h1 h2 => exact .cons (Dt.mut hl d _ n.1 h1) (DtAll.mut hl ds _ n.2 h2)
end
end
theorem lfAll_iff : ∀ {ds : List PyData}, lfAll ds = true ↔ ∀ d ∈ ds, lf d = true
  | [] => by simp [lfAll]
  | d :: ds => by rw [lfAll, Bool.and_eq_true, lfAll_iff]; simp
theorem lfAll_map {α : Type} (f : α → PyData) (h : ∀ x, lf (f x) = true) (xs : List α) : lfAll (xs.map f) = true := lfAll_iff.mpr fun d hd => by
  obtain ⟨x, _, e⟩ := List.mem_map.mp hd
  rw [← e]
  exact h x
theorem lfAll_append {ds es : List PyData} (h : lfAll ds = true) (k : lfAll es = true) : lfAll (ds ++ es) = true := lfAll_iff.mpr fun d hd => by
  rcases List.mem_append.mp hd with z | z
  · exact lfAll_iff.mp h d z
  · exact lfAll_iff.mp k d z

section
variable {W : Wd} {H : Hp}
theorem DtAll.length : ∀ {vs : List V} {ds : List PyData}, DtAll W H vs ds → vs.length = ds.length
  | _, [], h => by cases h; rfl
  | _, d :: ds, h => by
    cases h with
    | cons h1 h2 =>
      show _ + 1 = _ + 1
      rw [DtAll.length h2]
theorem DtAll.get : ∀ {vs : List V} {ds : List PyData} {i : Nat} {d : PyData}, DtAll W H vs ds → ds[i]? = some d → ∃ v, vs[i]? = some v ∧ Dt W H v d
  | _, [], _, _, _, e => by simp at e
  | _, x :: ds, 0, d, h, e => by
    cases h with
    | cons h1 h2 =>
      have e' : x = d := Option.some.inj e
      subst e'
      exact ⟨_, rfl, h1⟩
  | _, x :: ds, i + 1, d, h, e => by
    cases h with
    | cons h1 h2 => exact DtAll.get (i := i) h2 e
theorem DtAll.get' : ∀ {vs : List V} {ds : List PyData} {i : Nat} {v : V}, DtAll W H vs ds → vs[i]? = some v → ∃ d, ds[i]? = some d ∧ Dt W H v d
  | _, [], _, _, h, e => by cases h; simp at e
  | _, x :: ds, 0, v, h, e => by
    cases h with
    | cons h1 h2 =>
      have e' := Option.some.inj e
      subst e'
      exact ⟨_, rfl, h1⟩
  | _, x :: ds, i + 1, d, h, e => by
    cases h with
    | cons h1 h2 => exact DtAll.get' (i := i) h2 e
theorem DtAll.append : ∀ {vs : List V} {ds : List PyData} {ws : List V} {es : List PyData}, DtAll W H vs ds → DtAll W H ws es → DtAll W H (vs ++ ws) (ds ++ es)
  | _, [], _, _, h, k => by cases h; exact k
  | _, d :: ds, _, _, h, k => by
    cases h with
    | cons h1 h2 => exact .cons h1 (DtAll.append h2 k)
theorem DtAll.snoc {vs : List V} {ds : List PyData} {v : V} {d : PyData} (h : DtAll W H vs ds) (k : Dt W H v d) : DtAll W H (vs ++ [v]) (ds ++ [d]) := h.append (.cons k .nil)
theorem DtAll.take : ∀ {vs : List V} {ds : List PyData} (n : Nat), DtAll W H vs ds → DtAll W H (vs.take n) (ds.take n)
  | _, _, 0, _ => .nil
  | _, [], n + 1, h => by cases h; exact .nil
  | _, d :: ds, n + 1, h => by
    cases h with
    | cons h1 h2 => exact .cons h1 (DtAll.take n h2)
theorem DtAll.drop : ∀ {vs : List V} {ds : List PyData} (n : Nat), DtAll W H vs ds → DtAll W H (vs.drop n) (ds.drop n)
  | _, _, 0, h => h
  | _, [], n + 1, h => by cases h; exact .nil
  | _, d :: ds, n + 1, h => by
    cases h with
    | cons h1 h2 => exact DtAll.drop n h2
theorem DtAll.eraseIdx : ∀ {vs : List V} {ds : List PyData} (n : Nat), DtAll W H vs ds → DtAll W H (vs.eraseIdx n) (ds.eraseIdx n)
  | _, [], _, h => by cases h; exact .nil
  | _, d :: ds, 0, h => by
    cases h with
    | cons h1 h2 => exact h2
  | _, d :: ds, n + 1, h => by
    cases h with
    | cons h1 h2 => exact .cons h1 (DtAll.eraseIdx n h2)
theorem DtAll.set : ∀ {vs : List V} {ds : List PyData} (n : Nat) {v : V} {d : PyData}, DtAll W H vs ds → Dt W H v d → DtAll W H (vs.set n v) (ds.set n d)
  | _, [], _, _, _, h, _ => by cases h; exact .nil
  | _, e :: ds, 0, _, _, h, k => by
    cases h with
    | cons h1 h2 => exact .cons k h2
  | _, e :: ds, n + 1, _, _, h, k => by
    cases h with
    | cons h1 h2 => exact .cons h1 (DtAll.set n h2 k)
theorem dt_ints : ∀ ns : List Int, DtAll W H (ns.map V.int) (ns.map PyData.int)
  | [] => .nil
  | n :: ns => .cons (.int n) (dt_ints ns)
theorem ints_dt : ∀ {ns : List Int} {vs : List V}, DtAll W H vs (ns.map PyData.int) → vs = ns.map V.int
  | [], _, h => by cases h; rfl
  | n :: ns, _, h => by
    cases h with
    | cons h1 h2 =>
      cases h1
      rw [ints_dt h2]
      rfl
theorem dt_bls : ∀ {ns : List Bool} {vs : List V}, DtAll W H vs (ns.map PyData.bool) → vs = ns.map V.bl
  | [], _, h => by cases h; rfl
  | n :: ns, _, h => by
    cases h with
    | cons h1 h2 =>
      cases h1
      rw [dt_bls h2]
      rfl
mutual
theorem Dt.dp : ∀ (d : PyData) (v : V), d.canLay0 = true → Dt W H v d → Dp W.K H v d
  | .none, _, _, h => by cases h; exact .non
  | .bool _, _, _, h => by cases h; exact .bl _
  | .int _, _, _, h => by cases h; exact .int _
  | .str _, _, _, h => by cases h; exact .str _
  | .list ds, _, n, h => by
    cases h with
    | lst h1 h2 h3 => exact .lst (SqL.of h2) (DtAll.dp ds _ (by simpa [PyData.canLay0] using n) h3)
  | .tuple ds, _, n, h => by
    cases h with
    | tup h2 h3 => exact .tup (SqT.of h2) (DtAll.dp ds _ (by simpa [PyData.canLay0] using n) h3)
  | .dict _, _, n, h => by simp [PyData.canLay0] at n
theorem DtAll.dp : ∀ (ds : List PyData) (vs : List V), PyData.canLayAll0 ds = true → DtAll W H vs ds → DpAll W.K H vs ds
  | [], _, _, h => by cases h; exact .nil
  | d :: ds, _, n, h => by
    simp only [PyData.canLayAll0, Bool.and_eq_true] at n
    cases h with
    | cons h1 h2 => exact .cons (Dt.dp d _ n.1 h1) (DtAll.dp ds _ n.2 h2)
end
end

/-! ### environments -/
abbrev Gm := List (Option PyData)
structure Env (W : Wd) (Γ : Gm) (σ : L2.St) (H : Hp) : Prop where
  len : Γ.length = σ.length
  get : ∀ (i : Nat) (d : PyData), Γ[i]? = some (some d) → ∃ v, σ[i]? = some (some v) ∧ Dt W H v d
section
variable {W : Wd} {Γ : Gm} {σ : L2.St} {H H' : Hp}
theorem Env.up (h : Env W Γ σ H) (e : Sx W H H') : Env W Γ σ H' := ⟨h.len, fun i d hd => by
  obtain ⟨v, h1, h2⟩ := h.get i d hd
  exact ⟨v, h1, h2.up e⟩⟩
theorem Env.set (h : Env W Γ σ H) {i : Nat} {v : V} {d : PyData} (k : Dt W H v d) : Env W (Γ.set i (some d)) (σ.set i (some v)) H := ⟨by rw [List.length_set, List.length_set, h.len], fun j e hj => by
  by_cases c : j = i
  · subst c
    have hl : j < Γ.length := by
      apply Classical.byContradiction
      intro z
      rw [List.getElem?_eq_none (by rw [List.length_set]; omega)] at hj
      cases hj
    rw [List.getElem?_set_self hl] at hj
    cases hj
    exact ⟨v, List.getElem?_set_self (by rw [← h.len]; exact hl), k⟩
  · rw [List.getElem?_set_ne (fun z => c z.symm)] at hj
    obtain ⟨w, h1, h2⟩ := h.get j e hj
    exact ⟨w, by rw [List.getElem?_set_ne (fun z => c z.symm)]; exact h1, h2⟩⟩
/-- forgetting -/
theorem Env.weak {Δ : Gm} (h : Env W Γ σ H) (l : Δ.length = Γ.length) (w : ∀ (i : Nat) d, Δ[i]? = some (some d) → Γ[i]? = some (some d)) : Env W Δ σ H := ⟨l.trans h.len, fun i d e => h.get i d (w i d e)⟩
def wG (Γ : Gm) : List Nat → Gm
  | [] => Γ
  | v :: vs => (wG Γ vs).set v none
theorem Env.wipe (h : Env W Γ σ H) : ∀ vs : List Nat, Env W (wG Γ vs) (wipe σ vs) H
  | [] => h
  | v :: vs => by
    have ih := Env.wipe h vs
    unfold wG
    unfold L2.wipe
    refine ⟨by rw [List.length_set, List.length_set, ih.len], fun i d e => ?_⟩
    by_cases c : i = v
    · subst c
      by_cases hl : i < (wG Γ vs).length
      · rw [List.getElem?_set_self hl] at e
        cases e
      · rw [List.getElem?_eq_none (by rw [List.length_set]; omega)] at e
        cases e
    · rw [List.getElem?_set_ne (fun z => c z.symm)] at e
      obtain ⟨w, h1, h2⟩ := ih.get i d e
      exact ⟨w, by rw [List.getElem?_set_ne (fun z => c z.symm)]; exact h1, h2⟩
end

/-! ### judgements -/
def Ev (W : Wd) (te : TE) (Γ : Gm) (P : PyData → Prop) : Prop := ∀ σ H, Env W Γ σ H → Am W H → ∀ Q : VK, (∀ v d H2, Sx W H H2 → Am W H2 → Dt W H2 v d → P d → Q v H2) → te σ H Q
/-- a new list -/
def EvL (W : Wd) (te : TE) (Γ : Gm) (P : List PyData → Prop) : Prop := ∀ σ H, Env W Γ σ H → Am W H → ∀ Q : VK, (∀ p xs ds H2, Sx W H H2 → Am W H2 → H p = none → H2 p = some (.lst xs) → DtAll W H2 xs ds → P ds → Q (.ref p) H2) → te σ H Q
def EvT (W : Wd) (tt : TT) (Γ : Gm) (P : Bool → Prop) : Prop := ∀ σ H, Env W Γ σ H → Am W H → ∀ Q : Bool → Hp → Prop, (∀ b H2, Sx W H H2 → Am W H2 → P b → Q b H2) → tt σ H Q
def EvA (W : Wd) (ta : TA) (Γ : Gm) (P : List PyData → Prop) : Prop := ∀ σ H, Env W Γ σ H → Am W H → ∀ Q : List V → Hp → Prop, (∀ vs ds H2, Sx W H H2 → Am W H2 → DtAll W H2 vs ds → P ds → Q vs H2) → ta σ H Q
def EvO (W : Wd) (to : TO) (Γ : Gm) (P : Option Int → Prop) : Prop := ∀ σ H, Env W Γ σ H → Am W H → ∀ Q : Option Int → Hp → Prop, (∀ o H2, Sx W H H2 → Am W H2 → P o → Q o H2) → to σ H Q
/-- operations on values -/
def RO (W : Wd) (r : R2) (x y : PyData) (P : PyData → Prop) : Prop := ∀ vx vy H, Dt W H vx x → Dt W H vy y → Am W H → ∀ Q : VK, (∀ v d H2, Sx W H H2 → Am W H2 → Dt W H2 v d → P d → Q v H2) → r vx vy H Q
def ROL (W : Wd) (r : R2) (x y : PyData) (P : List PyData → Prop) : Prop := ∀ vx vy H, Dt W H vx x → Dt W H vy y → Am W H → ∀ Q : VK, (∀ p xs ds H2, Sx W H H2 → Am W H2 → H p = none → H2 p = some (.lst xs) → DtAll W H2 xs ds → P ds → Q (.ref p) H2) → r vx vy H Q
def RU (W : Wd) (r : V → Hp → VK → Prop) (x : PyData) (P : PyData → Prop) : Prop := ∀ vx H, Dt W H vx x → Am W H → ∀ Q : VK, (∀ v d H2, Sx W H H2 → Am W H2 → Dt W H2 v d → P d → Q v H2) → r vx H Q
def RC (W : Wd) (r : List V → Hp → VK → Prop) (xs : List PyData) (P : PyData → Prop) : Prop := ∀ vs H, DtAll W H vs xs → Am W H → ∀ Q : VK, (∀ v d H2, Sx W H H2 → Am W H2 → Dt W H2 v d → P d → Q v H2) → r vs H Q
def RCL (W : Wd) (r : List V → Hp → VK → Prop) (xs : List PyData) (P : List PyData → Prop) : Prop := ∀ vs H, DtAll W H vs xs → Am W H → ∀ Q : VK, (∀ p xs ds H2, Sx W H H2 → Am W H2 → H p = none → H2 p = some (.lst xs) → DtAll W H2 xs ds → P ds → Q (.ref p) H2) → r vs H Q

section
variable {W : Wd} {Γ : Gm} {te ta tb tc : TE} {tt tu : TT} {P : PyData → Prop} {PL : List PyData → Prop} {PB : Bool → Prop} {r r' : R2}
theorem Ev.imp {P' : PyData → Prop} (h : Ev W te Γ P) (k : ∀ d, P d → P' d) : Ev W te Γ P' := fun σ H e am Q q => h σ H e am Q fun v d H2 s a t p => q v d H2 s a t (k d p)
theorem EvL.imp {P' : List PyData → Prop} (h : EvL W te Γ PL) (k : ∀ d, PL d → P' d) : EvL W te Γ P' := fun σ H e am Q q => h σ H e am Q fun v xs d H2 s a f t u p => q v xs d H2 s a f t u (k d p)
theorem EvT.imp {P' : Bool → Prop} (h : EvT W tt Γ PB) (k : ∀ d, PB d → P' d) : EvT W tt Γ P' := fun σ H e am Q q => h σ H e am Q fun b H2 s a p => q b H2 s a (k b p)
theorem fresh_p {H H2 : Hp} {p : Addr} (am : Am W H) (h : H p = none) : W.p ≠ some p := fun e => by
  obtain ⟨_, _, _, _, h3, _⟩ := am.str p e
  rw [h] at h3
  cases h3
theorem EvL.ev (h : EvL W te Γ (fun ds => P (.list ds))) : Ev W te Γ P := fun σ H e am Q q => h σ H e am Q fun p xs ds H2 s a hp h2 hd hP => q (.ref p) (.list ds) H2 s a (.lst (fresh_p (H2 := H2) am hp) h2 hd) hP
theorem ev_var {i : Nat} {d : PyData} (hi : Γ[i]? = some (some d)) (h : P d) : Ev W (tVar i) Γ P := fun σ H e am Q q => by
  obtain ⟨v, h1, h2⟩ := e.get i d hi
  exact ⟨v, h1, q v d H (Sx.refl W H) am h2 h⟩
theorem ev_int {i : Int} (h : P (.int i)) : Ev W (tC (.int i)) Γ P := fun σ H e am Q q => q _ _ H (Sx.refl W H) am (.int i) h
theorem ev_str {x : Str} (h : P (.str x)) : Ev W (tC (.str x)) Γ P := fun σ H e am Q q => q _ _ H (Sx.refl W H) am (.str x) h
theorem ev_bl {b : Bool} (h : P (.bool b)) : Ev W (tC (.bl b)) Γ P := fun σ H e am Q q => q _ _ H (Sx.refl W H) am (.bl b) h
theorem ev_non (h : P .none) : Ev W (tC .non) Γ P := fun σ H e am Q q => q _ _ H (Sx.refl W H) am .non h
theorem ev_op (h : Ev W ta Γ fun x => Ev W tb Γ fun y => RO W r x y P) : Ev W (tOp r ta tb) Γ P := fun σ H e am Q q =>
  h σ H e am _ fun vx x H1 s1 a1 d1 h1 => h1 σ H1 (e.up s1) a1 _ fun vy y H2 s2 a2 d2 h2 => h2 vx vy H2 (d1.up s2) d2 a2 Q fun v d H3 s3 a3 d3 p => q v d H3 ((s1.trans s2).trans s3) a3 d3 p
theorem ev_opL (h : Ev W ta Γ fun x => Ev W tb Γ fun y => ROL W r x y PL) : EvL W (tOp r ta tb) Γ PL := fun σ H e am Q q =>
  h σ H e am _ fun vx x H1 s1 a1 d1 h1 => h1 σ H1 (e.up s1) a1 _ fun vy y H2 s2 a2 d2 h2 => h2 vx vy H2 (d1.up s2) d2 a2 Q fun p xs ds H3 s3 a3 f3 l3 d3 k => q p xs ds H3 ((s1.trans s2).trans s3) a3 ((s1.trans s2).fr _ f3) l3 d3 k
theorem ev_un {r : V → Hp → VK → Prop} (h : Ev W ta Γ fun x => RU W r x P) : Ev W (tUn r ta) Γ P := fun σ H e am Q q =>
  h σ H e am _ fun vx x H1 s1 a1 d1 h1 => h1 vx H1 d1 a1 Q fun v d H3 s3 a3 d3 p => q v d H3 (s1.trans s3) a3 d3 p
theorem ev_if (h : EvT W tt Γ fun b => (b = true → Ev W ta Γ P) ∧ (b = false → Ev W tb Γ P)) : Ev W (tIf tt ta tb) Γ P := fun σ H e am Q q =>
  h σ H e am _ fun b H1 s1 a1 h1 => by
    cases b with
    | true => exact h1.1 rfl σ H1 (e.up s1) a1 Q fun v d H2 s2 a2 d2 p => q v d H2 (s1.trans s2) a2 d2 p
    | false => exact h1.2 rfl σ H1 (e.up s1) a1 Q fun v d H2 s2 a2 d2 p => q v d H2 (s1.trans s2) a2 d2 p
theorem ev_and (h : Ev W ta Γ fun x => ∃ c, x = .bool c ∧ (c = true → Ev W tb Γ P) ∧ (c = false → P (.bool false))) : Ev W (tAndV ta tb) Γ P := fun σ H e am Q q =>
  h σ H e am _ fun vx x H1 s1 a1 d1 h1 => by
    obtain ⟨c, rfl, h2, h3⟩ := h1
    cases d1
    cases c with
    | true => exact ⟨true, rfl, h2 rfl σ H1 (e.up s1) a1 Q fun v d H2 s2 a2 d2 p => q v d H2 (s1.trans s2) a2 d2 p⟩
    | false => exact ⟨false, rfl, q _ _ H1 s1 a1 (.bl false) (h3 rfl)⟩
theorem ev_or (h : Ev W ta Γ fun x => ∃ c, x = .bool c ∧ (c = false → Ev W tb Γ P) ∧ (c = true → P (.bool true))) : Ev W (tOrV ta tb) Γ P := fun σ H e am Q q =>
  h σ H e am _ fun vx x H1 s1 a1 d1 h1 => by
    obtain ⟨c, rfl, h2, h3⟩ := h1
    cases d1
    cases c with
    | false => exact ⟨false, rfl, h2 rfl σ H1 (e.up s1) a1 Q fun v d H2 s2 a2 d2 p => q v d H2 (s1.trans s2) a2 d2 p⟩
    | true => exact ⟨true, rfl, q _ _ H1 s1 a1 (.bl true) (h3 rfl)⟩
theorem ev_not (h : Ev W ta Γ fun x => ∃ c, x = .bool c ∧ P (.bool (!c))) : Ev W (tNotV ta) Γ P := fun σ H e am Q q =>
  h σ H e am _ fun vx x H1 s1 a1 d1 h1 => by
    obtain ⟨c, rfl, h2⟩ := h1
    cases d1
    exact ⟨c, rfl, q _ _ H1 s1 a1 (.bl _) h2⟩
theorem ev_chain (h : Ev W ta Γ fun x => Ev W tb Γ fun y => RO W r x y fun z => ∃ k, z = .bool k ∧ (k = true → Ev W tc Γ fun w => RO W r' y w P) ∧ (k = false → P (.bool false))) : Ev W (tChain r r' ta tb tc) Γ P := fun σ H e am Q q =>
  h σ H e am _ fun vx x H1 s1 a1 d1 h1 => h1 σ H1 (e.up s1) a1 _ fun vy y H2 s2 a2 d2 h2 => h2 vx vy H2 (d1.up s2) d2 a2 _ fun vz z H3 s3 a3 d3 h3 => by
    obtain ⟨k, rfl, h4, h5⟩ := h3
    cases d3
    refine ⟨k, rfl, ?_⟩
    cases k with
    | true => exact iteT (h4 rfl σ H3 (e.up ((s1.trans s2).trans s3)) a3 _ fun vw w H4 s4 a4 d4 h6 => h6 vy vw H4 ((d2.up s3).up s4) d4 a4 Q fun v d H5 s5 a5 d5 p => q v d H5 ((((s1.trans s2).trans s3).trans s4).trans s5) a5 d5 p)
    | false => exact iteF (q _ _ H3 ((s1.trans s2).trans s3) a3 (.bl false) (h5 rfl))
/-! arguments, displays -/
theorem ea_nil (h : PL []) : EvA W tNil Γ PL := fun σ H e am Q q => q [] [] H (Sx.refl W H) am .nil h
theorem ea_cons {tr : TA} (h : Ev W ta Γ fun x => EvA W tr Γ fun xs => PL (x :: xs)) : EvA W (tCons ta tr) Γ PL := fun σ H e am Q q =>
  h σ H e am _ fun vx x H1 s1 a1 d1 h1 => h1 σ H1 (e.up s1) a1 _ fun vs ds H2 s2 a2 d2 h2 => q (vx :: vs) (x :: ds) H2 (s1.trans s2) a2 (.cons (d1.up s2) d2) h2
theorem ev_tup {tr : TA} (h : EvA W tr Γ fun ds => ds.length ≤ 100000 ∧ P (.tuple ds)) : Ev W (tTup tr) Γ P := fun σ H e am Q q =>
  h σ H e am _ fun vs ds H1 s1 a1 d1 h1 => ⟨Nat.le_trans (Nat.le_trans (Nat.le_of_eq d1.length) h1.1) (by decide), fun p hp => q (.ref p) (.tuple ds) _ (s1.trans (Sx.new hp)) (a1.new hp) (.tup upd_same (d1.up (Sx.new hp))) h1.2⟩
theorem el_lst {tr : TA} (h : EvA W tr Γ fun ds => ds.length ≤ 100000 ∧ PL ds) : EvL W (tLst tr) Γ PL := fun σ H e am Q q =>
  h σ H e am _ fun vs ds H1 s1 a1 d1 h1 => ⟨Nat.le_trans (Nat.le_trans (Nat.le_of_eq d1.length) h1.1) (by decide), fun p hp => q p vs ds _ (s1.trans (Sx.new hp)) (a1.new hp) (s1.fr _ hp) upd_same (d1.up (Sx.new hp)) h1.2⟩
theorem ev_cb {rc : List V → Hp → VK → Prop} {tr : TA} (h : EvA W tr Γ fun ds => RC W rc ds P) : Ev W (tCB rc tr) Γ P := fun σ H e am Q q =>
  h σ H e am _ fun vs ds H1 s1 a1 d1 h1 => h1 vs H1 d1 a1 Q fun v d H3 s3 a3 d3 p => q v d H3 (s1.trans s3) a3 d3 p
theorem el_cb {rc : List V → Hp → VK → Prop} {tr : TA} (h : EvA W tr Γ fun ds => RCL W rc ds PL) : EvL W (tCB rc tr) Γ PL := fun σ H e am Q q =>
  h σ H e am _ fun vs ds H1 s1 a1 d1 h1 => h1 vs H1 d1 a1 Q fun p xs d H3 s3 a3 f3 l3 d3 k => q p xs d H3 (s1.trans s3) a3 (s1.fr _ f3) l3 d3 k
theorem RCL.rc {rc : List V → Hp → VK → Prop} {ds : List PyData} (h : RCL W rc ds fun es => P (.list es)) : RC W rc ds P := fun vs H d am Q q => h vs H d am Q fun p xs es H2 s a f l k hP => q _ _ H2 s a (.lst (fresh_p (H2 := H2) am f) l k) hP
/-! tests -/
theorem et_test (h : Ev W te Γ fun x => ∃ c, x = .bool c ∧ PB c) : EvT W (tTest te) Γ PB := fun σ H e am Q q =>
  h σ H e am _ fun vx x H1 s1 a1 d1 h1 => by
    obtain ⟨c, rfl, h2⟩ := h1
    cases d1
    exact ⟨c, rfl, q c H1 s1 a1 h2⟩
theorem et_B (h : Ev W te Γ fun x => ∃ c, x = .bool c ∧ PB c) : EvT W (tB te) Γ PB := fun σ H e am Q q =>
  h σ H e am _ fun vx x H1 s1 a1 d1 h1 => by
    obtain ⟨c, rfl, h2⟩ := h1
    cases d1
    exact ⟨c, rfl, q c H1 s1 a1 h2⟩
theorem et_and (h : EvT W tt Γ fun b => (b = true → EvT W tu Γ PB) ∧ (b = false → PB false)) : EvT W (tAnd tt tu) Γ PB := fun σ H e am Q q =>
  h σ H e am _ fun b H1 s1 a1 h1 => by
    cases b with
    | true => exact iteT (h1.1 rfl σ H1 (e.up s1) a1 Q fun b H2 s2 a2 p => q b H2 (s1.trans s2) a2 p)
    | false => exact iteF (q false H1 s1 a1 (h1.2 rfl))
theorem et_or (h : EvT W tt Γ fun b => (b = false → EvT W tu Γ PB) ∧ (b = true → PB true)) : EvT W (tOr tt tu) Γ PB := fun σ H e am Q q =>
  h σ H e am _ fun b H1 s1 a1 h1 => by
    cases b with
    | false => exact iteF (h1.1 rfl σ H1 (e.up s1) a1 Q fun b H2 s2 a2 p => q b H2 (s1.trans s2) a2 p)
    | true => exact iteT (q true H1 s1 a1 (h1.2 rfl))
theorem et_not (h : EvT W tt Γ fun b => PB (!b)) : EvT W (tNot tt) Γ PB := fun σ H e am Q q => h σ H e am _ fun b H1 s1 a1 h1 => q (!b) H1 s1 a1 h1
/-! operations -/
theorem ro_int {f : Int → Int → Int} {i j : Int} (h : P (.int (f i j))) : RO W (rI0 fun i j => .int (f i j)) (.int i) (.int j) P := fun vx vy H d1 d2 am Q q => by
  cases d1
  cases d2
  exact ⟨i, j, rfl, rfl, q _ _ H (Sx.refl W H) am (.int _) h⟩
theorem ro_intC {C : Int → Int → Prop} {f : Int → Int → Int} {i j : Int} (hc : C i j) (h : P (.int (f i j))) : RO W (rI C fun i j => .int (f i j)) (.int i) (.int j) P := fun vx vy H d1 d2 am Q q => by
  cases d1
  cases d2
  exact ⟨i, j, rfl, rfl, hc, q _ _ H (Sx.refl W H) am (.int _) h⟩
theorem ro_cmp {f : Int → Int → Bool} {i j : Int} (h : P (.bool (f i j))) : RO W (rI0 fun i j => .bl (f i j)) (.int i) (.int j) P := fun vx vy H d1 d2 am Q q => by
  cases d1
  cases d2
  exact ⟨i, j, rfl, rfl, q _ _ H (Sx.refl W H) am (.bl _) h⟩
theorem ru_int {f : Int → Int} {i : Int} (h : P (.int (f i))) : RU W (rU fun i => .int (f i)) (.int i) P := fun vx H d1 am Q q => by
  cases d1
  exact ⟨i, rfl, q _ _ H (Sx.refl W H) am (.int _) h⟩
theorem dec_V {i j : Int} : decide (V.int i = V.int j) = decide (i = j) := by
  by_cases c : i = j
  · rw [decide_eq_true c, c, decide_eq_true rfl]
  · rw [decide_eq_false c, decide_eq_false fun z => c (V.int.inj z)]
theorem dec_S {i j : Str} : decide (V.str i = V.str j) = decide (i = j) := by
  by_cases c : i = j
  · rw [decide_eq_true c, c, decide_eq_true rfl]
  · rw [decide_eq_false c, decide_eq_false fun z => c (V.str.inj z)]
theorem ro_eqI {i j : Int} (h : P (.bool (decide (i = j)))) : RO W rEq (.int i) (.int j) P := fun vx vy H d1 d2 am Q q => by
  cases d1
  cases d2
  refine ⟨rfl, ?_⟩
  rw [dec_V]
  exact q _ _ H (Sx.refl W H) am (.bl _) h
theorem ro_neI {i j : Int} (h : P (.bool (!decide (i = j)))) : RO W rNe (.int i) (.int j) P := fun vx vy H d1 d2 am Q q => by
  cases d1
  cases d2
  refine ⟨rfl, ?_⟩
  rw [dec_V]
  exact q _ _ H (Sx.refl W H) am (.bl _) h
theorem ro_eqS {i j : Str} (h : P (.bool (decide (i = j)))) : RO W rEq (.str i) (.str j) P := fun vx vy H d1 d2 am Q q => by
  cases d1
  cases d2
  refine ⟨rfl, ?_⟩
  rw [dec_S]
  exact q _ _ H (Sx.refl W H) am (.bl _) h
theorem ro_neS {i j : Str} (h : P (.bool (!decide (i = j)))) : RO W rNe (.str i) (.str j) P := fun vx vy H d1 d2 am Q q => by
  cases d1
  cases d2
  refine ⟨rfl, ?_⟩
  rw [dec_S]
  exact q _ _ H (Sx.refl W H) am (.bl _) h
theorem ro_eqD {x y : PyData} (hx : SeqAt.shaped x = true) (hy : SeqAt.shaped y = true) (h : P (.bool (PyData.eqv x y))) : RO W (rEqD W.K) x y P := fun vx vy H d1 d2 am Q q =>
  ⟨x, y, d1.dp _ _ (SeqAt.canLay_of_shaped hx), d2.dp _ _ (SeqAt.canLay_of_shaped hy), hx, hy, q _ _ H (Sx.refl W H) am (.bl _) h⟩
theorem ro_neD {x y : PyData} (hx : SeqAt.shaped x = true) (hy : SeqAt.shaped y = true) (h : P (.bool (!PyData.eqv x y))) : RO W (rNeD W.K) x y P := fun vx vy H d1 d2 am Q q =>
  ⟨x, y, d1.dp _ _ (SeqAt.canLay_of_shaped hx), d2.dp _ _ (SeqAt.canLay_of_shaped hy), hx, hy, q _ _ H (Sx.refl W H) am (.bl _) h⟩
theorem isN_of {H : Hp} {v : V} {d : PyData} (h : Dt W H v d) : decide (v = .non) = (match d with | .none => true | _ => false) := by
  cases h <;> rfl
def isNone : PyData → Bool | .none => true | _ => false
theorem ro_isN {x : PyData} (h : P (.bool (isNone x))) : RO W (fun x y H Q => y = .non ∧ Q (.bl (decide (x = .non))) H) x .none P := fun vx vy H d1 d2 am Q q => by
  cases d2
  refine ⟨rfl, ?_⟩
  have e : decide (vx = .non) = isNone x := by cases d1 <;> rfl
  rw [e]
  exact q _ _ H (Sx.refl W H) am (.bl _) h
theorem ro_notN {x : PyData} (h : P (.bool (!isNone x))) : RO W (fun x y H Q => y = .non ∧ Q (.bl (!decide (x = .non))) H) x .none P := fun vx vy H d1 d2 am Q q => by
  cases d2
  refine ⟨rfl, ?_⟩
  have e : decide (vx = .non) = isNone x := by cases d1 <;> rfl
  rw [e]
  exact q _ _ H (Sx.refl W H) am (.bl _) h
theorem atI_dt {H : Hp} {xs : List V} {ds : List PyData} {i : Int} {d : PyData} (h : DtAll W H xs ds) (e : atI ds i = some d) : ∃ v, atI xs i = some v ∧ Dt W H v d := by
  unfold atI at e ⊢
  rw [h.length]
  cases c : ixN ds.length i with
  | none =>
    rw [c] at e
    cases e
  | some j =>
    rw [c] at e
    exact h.get e
theorem ro_ixT {ds : List PyData} {i : Int} {d : PyData} (e : atI ds i = some d) (h : P d) : RO W (rIxT W.K) (.tuple ds) (.int i) P := fun vx vy H d1 d2 am Q q => by
  cases d2
  cases d1 with
  | tup h1 h2 =>
    obtain ⟨v, e1, e2⟩ := atI_dt h2 e
    exact ⟨_, _, i, v, rfl, rfl, SqT.of h1, e1, q v d H (Sx.refl W H) am e2 h⟩
theorem ro_ixL {ds : List PyData} {i : Int} {d : PyData} (e : atI ds i = some d) (h : P d) : RO W (rIxL W.K) (.list ds) (.int i) P := fun vx vy H d1 d2 am Q q => by
  cases d2
  cases d1 with
  | lst _ h1 h2 =>
    obtain ⟨v, e1, e2⟩ := atI_dt h2 e
    exact ⟨_, _, i, v, rfl, rfl, SqL.of h1, e1, q v d H (Sx.refl W H) am e2 h⟩
theorem inV_ints {i : Int} : ∀ ns : List Int, inV (.int i) (ns.map V.int) = decide (i ∈ ns)
  | [] => by simp [inV]
  | n :: ns => by
    have ih := inV_ints (i := i) ns
    unfold inV at ih ⊢
    rw [List.map_cons, List.any_cons, ih]
    show (n == i || decide (i ∈ ns)) = decide (i ∈ n :: ns)
    by_cases c : n = i
    · subst c
      simp
    · have c2 : ¬ i = n := fun z => c z.symm
      simp [c, c2]
theorem flat_ints (ns : List Int) : (ns.map V.int).all flatV = true := List.all_eq_true.mpr fun v hv => by
  obtain ⟨n, _, e⟩ := List.mem_map.mp hv
  rw [← e]
  rfl
theorem ro_in {i : Int} {ns : List Int} (h : P (.bool (decide (i ∈ ns)))) : RO W (rIn W.K false) (.int i) (.list (ns.map PyData.int)) P := fun vx vy H d1 d2 am Q q => by
  cases d1
  cases d2 with
  | lst _ h1 h2 =>
    have e := ints_dt h2
    subst e
    refine ⟨_, _, rfl, .inl (SqL.of h1), rfl, flat_ints ns, ?_⟩
    rw [inV_ints]
    exact q _ _ H (Sx.refl W H) am (.bl _) h
theorem ro_notIn {i : Int} {ns : List Int} (h : P (.bool (!decide (i ∈ ns)))) : RO W (rIn W.K true) (.int i) (.list (ns.map PyData.int)) P := fun vx vy H d1 d2 am Q q => by
  cases d1
  cases d2 with
  | lst _ h1 h2 =>
    have e := ints_dt h2
    subst e
    refine ⟨_, _, rfl, .inl (SqL.of h1), rfl, flat_ints ns, ?_⟩
    rw [inV_ints]
    exact q _ _ H (Sx.refl W H) am (.bl _) h
theorem ro_cat {ds es : List PyData} (hz : ds.length + es.length ≤ 100000) (h : PL (ds ++ es)) : ROL W rCat (.list ds) (.list es) PL := fun vx vy H d1 d2 am Q q => by
  cases d1 with
  | lst _ h1 h2 =>
    cases d2 with
    | lst _ k1 k2 => exact ⟨_, _, _, _, rfl, rfl, h1, k1, by rw [h2.length, k2.length]; exact Nat.le_trans hz (by decide), fun p hp => q p _ _ _ (Sx.new hp) (am.new hp) hp upd_same ((h2.append k2).up (Sx.new hp)) h⟩
theorem ro_catT {ds es : List PyData} (hz : ds.length + es.length ≤ 100000) (h : P (.tuple (ds ++ es))) : RO W (rCatA W.K) (.tuple ds) (.tuple es) P := fun vx vy H d1 d2 am Q q => by
  cases d1 with
  | tup h1 h2 =>
    cases d2 with
    | tup k1 k2 =>
      have l1 := h2.length
      have l2 := k2.length
      refine ⟨_, _, _, _, rfl, rfl, SqT.of h1, SqT.of k1, by rw [l1, l2]; exact Nat.le_trans hz (by decide), ?_⟩
      refine ⟨fun z => ?_, fun _ z => ?_, fun _ _ p hp => q _ _ _ (Sx.new hp) (am.new hp) (.tup upd_same ((h2.append k2).up (Sx.new hp))) h⟩
      · subst z
        cases h2
        exact q _ _ H (Sx.refl W H) am (.tup k1 k2) h
      · subst z
        cases k2
        rw [List.append_nil] at h
        exact q _ _ H (Sx.refl W H) am (.tup h1 h2) h
end

/-! ## the framework, second part -/
def cutD {α : Type} (xs : List α) (lo hi : Option Int) : List α := (xs.drop (HT.sIx xs.length 0 lo)).take (HT.sIx xs.length xs.length hi - HT.sIx xs.length 0 lo)
section
variable {W : Wd} {Γ : Gm} {te ta tb tc : TE} {tt tu : TT} {P : PyData → Prop} {PL : List PyData → Prop} {PB : Bool → Prop} {r r' : R2}
theorem cut_dt {H : Hp} {xs : List V} {ds : List PyData} (h : DtAll W H xs ds) (lo hi : Option Int) : DtAll W H (cutV xs lo hi) (cutD ds lo hi) := by
  unfold cutV cutD
  rw [h.length]
  exact (h.drop _).take _
theorem cutD_len {α : Type} (xs : List α) (lo hi : Option Int) : (cutD xs lo hi).length ≤ xs.length := by
  unfold cutD
  rw [List.length_take, List.length_drop]
  omega
theorem eo_none {PO : Option Int → Prop} (h : PO none) : EvO W tNoPart Γ PO := fun σ H e am Q q => q none H (Sx.refl W H) am h
theorem eo_some {PO : Option Int → Prop} (h : Ev W te Γ fun x => ∃ i, x = .int i ∧ PO (some i)) : EvO W (tPart te) Γ PO := fun σ H e am Q q =>
  h σ H e am _ fun vx x H1 s1 a1 d1 h1 => by
    obtain ⟨i, rfl, h2⟩ := h1
    cases d1
    exact ⟨i, rfl, q (some i) H1 s1 a1 h2⟩
/-- xs[lo:hi] -/
theorem el_slL {tl th : TO} (h : Ev W te Γ fun x => ∃ ds, x = .list ds ∧ EvO W tl Γ fun lo => EvO W th Γ fun hi => PL (cutD ds lo hi)) : EvL W (tSl (rSlL W.K) te tl th) Γ PL := fun σ H e am Q q =>
  h σ H e am _ fun vx x H1 s1 a1 d1 h1 => by
    obtain ⟨ds, rfl, h2⟩ := h1
    refine h2 σ H1 (e.up s1) a1 _ fun lo H2 s2 a2 h3 => h3 σ H2 (e.up (s1.trans s2)) a2 _ fun hi H3 s3 a3 h4 => ?_
    cases d1.up (s2.trans s3) with
    | lst n1 h1 h2 =>
      have s4 := (s1.trans s2).trans s3
      exact ⟨_, _, rfl, SqL.of h1, fun p hp => q p _ _ _ (s4.trans (Sx.new hp)) (a3.new hp) (s4.fr _ hp) upd_same ((cut_dt h2 lo hi).up (Sx.new hp)) h4⟩
theorem cut_whole {α : Type} {xs : List α} {lo hi : Option Int} (h : HT.sIx xs.length 0 lo = 0 ∧ HT.sIx xs.length xs.length hi = xs.length) : cutD xs lo hi = xs := by
  unfold cutD
  rw [h.1, h.2, List.drop_zero, Nat.sub_zero, List.take_length]
/-- t[lo:hi] -/
theorem ev_slT {tl th : TO} (h : Ev W te Γ fun x => ∃ ds, x = .tuple ds ∧ EvO W tl Γ fun lo => EvO W th Γ fun hi => P (.tuple (cutD ds lo hi))) : Ev W (tSl (rSlA W.K) te tl th) Γ P := fun σ H e am Q q =>
  h σ H e am _ fun vx x H1 s1 a1 d1 h1 => by
    obtain ⟨ds, rfl, h2⟩ := h1
    refine h2 σ H1 (e.up s1) a1 _ fun lo H2 s2 a2 h3 => h3 σ H2 (e.up (s1.trans s2)) a2 _ fun hi H3 s3 a3 h4 => ?_
    have d3 := d1.up (s2.trans s3)
    cases d3 with
    | tup h1 h2 =>
      have s4 := (s1.trans s2).trans s3
      refine ⟨_, _, rfl, SqT.of h1, fun z => ?_, fun z p hp => ?_⟩
      · rw [h2.length] at z
        have h4 : P (.tuple (cutD ds lo hi)) := h4
        rw [cut_whole z] at h4
        exact q _ _ _ s4 a3 (.tup h1 h2) h4
      · exact q _ _ _ (s4.trans (Sx.new hp)) (a3.new hp) (.tup upd_same ((cut_dt h2 lo hi).up (Sx.new hp))) h4

/-! calls of what is built in -/
theorem rc_lenL {ds : List PyData} (h : P (.int (ds.length : Int))) : RC W (fun xs H Q => ∃ p ys, xs = [.ref p] ∧ (SqL W.K H p ys ∨ SqT W.K H p ys) ∧ Q (.int ys.length) H) [.list ds] P := fun vs H hd am Q q => by
  cases hd with
  | cons h1 h2 =>
    cases h2
    cases h1 with
    | lst _ k1 k2 => exact ⟨_, _, rfl, .inl (SqL.of k1), by rw [k2.length]; exact q _ _ H (Sx.refl W H) am (.int _) h⟩
theorem rc_lenT {ds : List PyData} (h : P (.int (ds.length : Int))) : RC W (fun xs H Q => ∃ p ys, xs = [.ref p] ∧ (SqL W.K H p ys ∨ SqT W.K H p ys) ∧ Q (.int ys.length) H) [.tuple ds] P := fun vs H hd am Q q => by
  cases hd with
  | cons h1 h2 =>
    cases h2
    cases h1 with
    | tup k1 k2 => exact ⟨_, _, rfl, .inr (SqT.of k1), by rw [k2.length]; exact q _ _ H (Sx.refl W H) am (.int _) h⟩
theorem rc_int {i : Int} (h : P (.int i)) : RC W (fun xs H Q => (∃ i, xs = [.int i] ∧ Q (.int i) H) ∨ ∃ k, xs = [.bl k] ∧ Q (.int (if k then 1 else 0)) H) [.int i] P := fun vs H hd am Q q => by
  cases hd with
  | cons h1 h2 =>
    cases h2
    cases h1
    exact .inl ⟨i, rfl, q _ _ H (Sx.refl W H) am (.int _) h⟩
theorem rc_abs {i : Int} (h : P (.int (if i < 0 then -i else i))) : RC W (fun xs H Q => ∃ i, xs = [.int i] ∧ Q (.int (if i < 0 then -i else i)) H) [.int i] P := fun vs H hd am Q q => by
  cases hd with
  | cons h1 h2 =>
    cases h2
    cases h1
    exact ⟨i, rfl, q _ _ H (Sx.refl W H) am (.int _) h⟩
theorem rc_max2 {i j : Int} (h : P (.int (max i j))) : RC W (fun xs H Q => ∃ i j, xs = [.int i, .int j] ∧ Q (.int (if j > i then j else i)) H) [.int i, .int j] P := fun vs H hd am Q q => by
  cases hd with
  | cons h1 h2 =>
    cases h2 with
    | cons h2 h3 =>
      cases h3
      cases h1
      cases h2
      refine ⟨i, j, rfl, ?_⟩
      rw [show (if j > i then j else i) = max i j by split <;> omega]
      exact q _ _ H (Sx.refl W H) am (.int _) h
theorem rc_min2 {i j : Int} (h : P (.int (min i j))) : RC W (fun xs H Q => ∃ i j, xs = [.int i, .int j] ∧ Q (.int (if j < i then j else i)) H) [.int i, .int j] P := fun vs H hd am Q q => by
  cases hd with
  | cons h1 h2 =>
    cases h2 with
    | cons h2 h3 =>
      cases h3
      cases h1
      cases h2
      refine ⟨i, j, rfl, ?_⟩
      rw [show (if j < i then j else i) = min i j by split <;> omega]
      exact q _ _ H (Sx.refl W H) am (.int _) h
theorem rc_max {ns : List Int} (h0 : 0 < ns.length) (h : ∀ m, m ∈ ns → (∀ y, y ∈ ns → y ≤ m) → P (.int m)) : RC W (rMax W.K) [.list (ns.map .int)] P := fun vs H hd am Q q => by
  cases hd with
  | cons h1 h2 =>
    cases h2
    cases h1 with
    | lst _ k1 k2 =>
      have e := ints_dt k2
      subst e
      exact ⟨_, ns, rfl, SqL.of k1, h0, fun m m1 m2 => q _ _ H (Sx.refl W H) am (.int _) (h m m1 m2)⟩
theorem rc_all {bs : List Bool} (h : P (.bool (bs.all id))) : RC W (rAll W.K) [.list (bs.map .bool)] P := fun vs H hd am Q q => by
  cases hd with
  | cons h1 h2 =>
    cases h2
    cases h1 with
    | lst _ k1 k2 =>
      have e := dt_bls k2
      subst e
      exact ⟨_, bs, rfl, SqL.of k1, q _ _ H (Sx.refl W H) am (.bl _) h⟩
theorem rcl_sorted {ns : List Int} (h0 : ns.length < 64) (h : ∀ ns' : List Int, ns'.Perm ns → ns'.Pairwise (· ≤ ·) → PL (ns'.map .int)) : RCL W (rSorted W.K) [.list (ns.map .int)] PL := fun vs H hd am Q q => by
  cases hd with
  | cons h1 h2 =>
    cases h2
    cases h1 with
    | lst _ k1 k2 =>
      have e := ints_dt k2
      subst e
      exact ⟨_, ns, rfl, SqL.of k1, h0, fun ns' p h1 h2 hp => q p _ _ _ (Sx.new hp) (am.new hp) hp upd_same (dt_ints ns') (h ns' h1 h2)⟩
theorem rcl_listL {ds : List PyData} (h : PL ds) : RCL W (fun xs H Q => ∃ p ys, xs = [.ref p] ∧ (SqL W.K H p ys ∨ SqT W.K H p ys) ∧ ∀ l, H l = none → Q (.ref l) (upd H l (.lst ys))) [.list ds] PL := fun vs H hd am Q q => by
  cases hd with
  | cons h1 h2 =>
    cases h2
    cases h1 with
    | lst _ k1 k2 => exact ⟨_, _, rfl, .inl (SqL.of k1), fun p hp => q p _ _ _ (Sx.new hp) (am.new hp) hp upd_same (k2.up (Sx.new hp)) h⟩
theorem rcl_listT {ds : List PyData} (h : PL ds) : RCL W (fun xs H Q => ∃ p ys, xs = [.ref p] ∧ (SqL W.K H p ys ∨ SqT W.K H p ys) ∧ ∀ l, H l = none → Q (.ref l) (upd H l (.lst ys))) [.tuple ds] PL := fun vs H hd am Q q => by
  cases hd with
  | cons h1 h2 =>
    cases h2
    cases h1 with
    | tup k1 k2 => exact ⟨_, _, rfl, .inr (SqT.of k1), fun p hp => q p _ _ _ (Sx.new hp) (am.new hp) hp upd_same (k2.up (Sx.new hp)) h⟩
theorem rc_tupleL {ds : List PyData} (h : P (.tuple ds)) : RC W (fun xs H Q => ∃ p ys, xs = [.ref p] ∧ ((SqL W.K H p ys ∧ ∀ l, H l = none → Q (.ref l) (upd H l (.tup ys))) ∨ (SqT W.K H p ys ∧ Q (.ref p) H))) [.list ds] P := fun vs H hd am Q q => by
  cases hd with
  | cons h1 h2 =>
    cases h2
    cases h1 with
    | lst _ k1 k2 => exact ⟨_, _, rfl, .inl ⟨SqL.of k1, fun p hp => q _ _ _ (Sx.new hp) (am.new hp) (.tup upd_same (k2.up (Sx.new hp))) h⟩⟩
/-- range as data -/
def rgD (lo : Int) (n : Nat) : List PyData := (List.range n).map fun i => PyData.int (lo + (i : Nat))
theorem rgD_len (lo : Int) (n : Nat) : (rgD lo n).length = n := by
  unfold rgD
  rw [List.length_map, List.length_range]
theorem rgD_get {lo : Int} {n i : Nat} {d : PyData} (h : (rgD lo n)[i]? = some d) : i < n ∧ d = .int (lo + (i : Nat)) := by
  unfold rgD at h
  rw [List.getElem?_map] at h
  by_cases c : i < n
  · rw [List.getElem?_range c] at h
    exact ⟨c, (Option.some.inj h).symm⟩
  · rw [List.getElem?_eq_none (by rw [List.length_range]; omega)] at h
    cases h
theorem rgD_at {lo : Int} {n i : Nat} (h : i < n) : (rgD lo n)[i]? = some (.int (lo + (i : Nat))) := by
  unfold rgD
  rw [List.getElem?_map, List.getElem?_range h]
  rfl
theorem rgV_dt {H : Hp} (lo hi : Int) : DtAll W H (rgV lo hi) (rgD lo (hi - lo).toNat) := by
  have e1 : rgV lo hi = ((List.range (hi - lo).toNat).map fun i => lo + ((i : Nat) : Int)).map V.int := by
    unfold rgV
    rw [List.map_map]
    rfl
  have e2 : rgD lo (hi - lo).toNat = ((List.range (hi - lo).toNat).map fun i => lo + ((i : Nat) : Int)).map PyData.int := by
    unfold rgD
    rw [List.map_map]
    rfl
  rw [e1, e2]
  exact dt_ints _
/-- list(range(n)) -/
theorem el_listRg (h : Ev W te Γ fun x => ∃ n : Int, x = .int n ∧ 0 ≤ n ∧ n ≤ 100000 ∧ PL (rgD 0 n.toNat)) : EvL W (tLstRg (tRg1 te)) Γ PL := fun σ H e am Q q =>
  h σ H e am _ fun vx x H1 s1 a1 d1 h1 => by
    obtain ⟨n, rfl, b1, b2, h2⟩ := h1
    cases d1
    refine ⟨n, rfl, RgOk.of_le (Int.le_refl 0) (by omega) (by omega) b1, fun p hp => q p _ _ _ (s1.trans (Sx.new hp)) (a1.new hp) (s1.fr _ hp) upd_same ((rgV_dt 0 n).up (Sx.new hp)) ?_⟩
    rw [Int.sub_zero]
    exact h2
/-- isinstance(x, T) -/
def tyD : PyData → String
  | .none => "NoneType"
  | .bool _ => "bool"
  | .int _ => "int"
  | .str _ => "str"
  | .list _ => "list"
  | .tuple _ => "tuple"
  | .dict _ => "list"
theorem ty_of {H : Hp} {v : V} {d : PyData} (am : Am W H) (h : Dt W H v d) : TyX W.K H v (.type (tyD d)) := by
  cases h with
  | non => exact .base .non
  | bl b => exact .base (.bl b)
  | int i => exact .base (.int i)
  | str x => exact .base (.str x)
  | lst _ h _ => exact .base (.lst h)
  | tup h _ => exact .base (.tup h)
  | strm e =>
    obtain ⟨_, _, _, _, h3, _⟩ := am.str _ e
    exact .base (.lst h3)
theorem ev_isi {n : String} (h : Ev W ta Γ fun x => ∃ b, kitB (tyD x) n = some b ∧ P (.bool b)) : Ev W (tCB (rIsi W.K) (tCons ta (tCons (tC (.ty n)) tNil))) Γ P := fun σ H e am Q q =>
  h σ H e am _ fun vx x H1 s1 a1 d1 h1 => by
    obtain ⟨b, h2, h3⟩ := h1
    exact ⟨vx, .ty n, _, _, b, rfl, .ty n, ty_of a1 d1, kit_ty h2, q _ _ H1 s1 a1 (.bl b) h3⟩

/-! ### walks -/
def WalkD (W : Wd) (J : It) (ds : List PyData) (H1 : Hp) : Prop := Walk J ds.length (fun H' => Sx W H1 H' ∧ Am W H') fun i H' x H'' => Sx W H' H'' ∧ Am W H'' ∧ ∃ d, ds[i]? = some d ∧ Dt W H'' x d
def EvI (W : Wd) (wi : TI) (Γ : Gm) (P : List PyData → Prop) : Prop := ∀ σ H, Env W Γ σ H → Am W H → ∀ R : It → Hp → Prop, (∀ J H1 ds, Sx W H H1 → Am W H1 → WalkD W J ds H1 → P ds → R J H1) → wi σ H R
theorem walkD_list {a : Addr} {xs : List V} {ds : List PyData} {H1 : Hp} (n1 : W.p ≠ some a) (h1 : H1 a = some (.lst xs)) (h2 : DtAll W H1 xs ds) : WalkD W (Itl W.K a) ds H1 := by
  unfold WalkD
  rw [← h2.length]
  refine (walk_list (K := W.K) (a := a) (xs := xs)).mono (fun H ⟨s, _⟩ => SqL.of (s.kp _ _ h1 (.inr ⟨n1, fun ps z => by cases z⟩))) fun i H x H' hi ⟨s, am⟩ ⟨e, hx⟩ => ?_
  subst e
  obtain ⟨d, hd, k⟩ := (h2.up s).get' hx
  exact ⟨Sx.refl W _, am, d, hd, k⟩
theorem walkD_tup {a : Addr} {xs : List V} {ds : List PyData} {H1 : Hp} (h1 : H1 a = some (.tup xs)) (h2 : DtAll W H1 xs ds) : WalkD W (Itt W.K a) ds H1 := by
  unfold WalkD
  rw [← h2.length]
  refine (walk_tup (K := W.K) (a := a) (xs := xs)).mono (fun H ⟨s, _⟩ => SqT.of (s.kp _ _ h1 (.inl ⟨_, rfl⟩))) fun i H x H' hi ⟨s, am⟩ ⟨e, hx⟩ => ?_
  subst e
  obtain ⟨d, hd, k⟩ := (h2.up s).get' hx
  exact ⟨Sx.refl W _, am, d, hd, k⟩
theorem walkD_range {lo : Int} {n : Nat} {H1 : Hp} : WalkD W (Itr lo n) (rgD lo n) H1 := by
  unfold WalkD
  rw [rgD_len]
  refine (walk_range (lo := lo) (n := n)).mono (fun H _ => trivial) fun i H x H' hi ⟨s, am⟩ ⟨e, hx⟩ => ?_
  subst e
  subst hx
  exact ⟨Sx.refl W _, am, _, rgD_at hi, .int _⟩
theorem ei_list (h : Ev W te Γ fun x => ∃ ds, x = .list ds ∧ PL ds) : EvI W (iList W.K te) Γ PL := fun σ H e am R q =>
  h σ H e am _ fun vx x H1 s1 a1 d1 h1 => by
    obtain ⟨ds, rfl, h2⟩ := h1
    cases d1 with
    | lst n1 k1 k2 => exact ⟨_, rfl, ⟨_, SqL.of k1⟩, q _ H1 ds s1 a1 (walkD_list n1 k1 k2) h2⟩
theorem ei_tup (h : Ev W te Γ fun x => ∃ ds, x = .tuple ds ∧ PL ds) : EvI W (iTup W.K te) Γ PL := fun σ H e am R q =>
  h σ H e am _ fun vx x H1 s1 a1 d1 h1 => by
    obtain ⟨ds, rfl, h2⟩ := h1
    cases d1 with
    | tup k1 k2 => exact ⟨_, rfl, ⟨_, SqT.of k1⟩, q _ H1 ds s1 a1 (walkD_tup k1 k2) h2⟩
theorem ei_rng1 {tr : TA} (h : EvA W tr Γ fun as => ∃ n : Int, as = [.int n] ∧ -(2 ^ 62) ≤ n ∧ n < 2 ^ 62 ∧ PL (rgD 0 n.toNat)) : EvI W (iRng1 tr) Γ PL := fun σ H e am R q =>
  h σ H e am _ fun vs ds H1 s1 a1 d1 h1 => by
    obtain ⟨n, rfl, b1, b2, h2⟩ := h1
    cases d1 with
    | cons k1 k2 =>
      cases k1
      cases k2
      exact ⟨n, rfl, b1, b2, q _ H1 _ s1 a1 walkD_range h2⟩
theorem ei_rng2 {tr : TA} (h : EvA W tr Γ fun as => ∃ m n : Int, as = [.int m, .int n] ∧ (-(2 ^ 62) ≤ m ∧ m < 2 ^ 62 ∧ -(2 ^ 62) ≤ n ∧ n < 2 ^ 62) ∧ PL (rgD m (n - m).toNat)) : EvI W (iRng2 tr) Γ PL := fun σ H e am R q =>
  h σ H e am _ fun vs ds H1 s1 a1 d1 h1 => by
    obtain ⟨m, n, rfl, b, h2⟩ := h1
    cases d1 with
    | cons k1 k2 =>
      cases k2 with
      | cons k2 k3 =>
        cases k1
        cases k2
        cases k3
        exact ⟨m, n, rfl, b, q _ H1 _ s1 a1 walkD_range h2⟩

/-! ### targets -/
def EvG (W : Wd) (vs : List Nat) (g : TG) (d : PyData) (Γ : Gm) (N : Gm → Prop) : Prop := ∀ v σ H, Dt W H v d → Env W Γ σ H → Am W H → ∀ k : L2.St → Hp → Prop, (∀ σ' Γ', wipe σ' vs = wipe σ vs → Env W Γ' σ' H → N Γ' → k σ' H) → g v σ H k
def EvGs (W : Wd) (vs : List Nat) (g : TGs) (ds : List PyData) (Γ : Gm) (N : Gm → Prop) : Prop := ∀ us σ H, DtAll W H us ds → Env W Γ σ H → Am W H → ∀ k : L2.St → Hp → Prop, (∀ σ' Γ', wipe σ' vs = wipe σ vs → Env W Γ' σ' H → N Γ' → k σ' H) → g us σ H k
theorem wipe_get {σ : L2.St} : ∀ {vs : List Nat} {i : Nat}, i ∈ vs → (wipe σ vs)[i]? = (if i < σ.length then some none else none)
  | v :: vs, i, h => by
    unfold L2.wipe
    by_cases c : i = v
    · subst c
      by_cases l : i < σ.length
      · rw [List.getElem?_set_self (by rw [wipe_length]; exact l), if_pos l]
      · rw [List.getElem?_eq_none (by rw [List.length_set, wipe_length]; omega), if_neg l]
    · rw [List.getElem?_set_ne (fun z => c z.symm)]
      exact wipe_get ((List.mem_cons.mp h).resolve_left c)
theorem wipe_set {σ : L2.St} {j : Nat} {x : Option V} {vs : List Nat} (h : j ∈ vs) : wipe (σ.set j x) vs = wipe σ vs := by
  apply List.ext_getElem?
  intro i
  by_cases c : i ∈ vs
  · rw [wipe_get c, wipe_get c, List.length_set]
  · rw [wipe_out c, wipe_out c, List.getElem?_set_ne]
    intro z
    subst z
    exact c h
theorem wipe_wipe {σ : L2.St} {vs : List Nat} : wipe (wipe σ vs) vs = wipe σ vs := by
  apply List.ext_getElem?
  intro i
  by_cases c : i ∈ vs
  · rw [wipe_get c, wipe_get c, wipe_length]
  · rw [wipe_out c]
theorem eg_name {vs : List Nat} {j : Nat} {d : PyData} {N : Gm → Prop} (hj : j ∈ vs) (h : N (Γ.set j (some d))) : EvG W vs (gName j) d Γ N := fun v σ H hd e am k q => q _ _ (wipe_set hj) (e.set hd) h
theorem egs_nil {vs : List Nat} {N : Gm → Prop} (h : N Γ) : EvGs W vs gNil [] Γ N := fun us σ H hd e am k q => by
  cases hd
  exact ⟨rfl, q _ _ rfl e h⟩
theorem egs_cons {vs : List Nat} {g : TG} {gs : TGs} {d : PyData} {ds : List PyData} {N : Gm → Prop} (h : EvG W vs g d Γ fun Γ' => EvGs W vs gs ds Γ' N) : EvGs W vs (gCons g gs) (d :: ds) Γ N := fun us σ H hd e am k q => by
  cases hd with
  | cons h1 h2 =>
    refine ⟨_, _, rfl, h _ σ H h1 e am _ fun σ' Γ' w e' h3 => ?_⟩
    exact h3 _ σ' H h2 e' am k fun σ2 Γ2 w2 e2 h4 => q σ2 Γ2 (w2.trans w) e2 h4
theorem eg_tup {vs : List Nat} {n : Nat} {gs : TGs} {ds : List PyData} {N : Gm → Prop} (hn : ds.length = n) (h : EvGs W vs gs ds Γ N) : EvG W vs (gTup W.K n gs) (.tuple ds) Γ N := fun v σ H hd e am k q => by
  cases hd with
  | tup h1 h2 => exact ⟨_, _, rfl, SqT.of h1, h2.length.trans hn, h _ σ H h2 e am k q⟩
theorem eg_unl {vs : List Nat} {n : Nat} {gs : TGs} {ds : List PyData} {N : Gm → Prop} (hn : ds.length = n) (h : EvGs W vs gs ds Γ N) : EvG W vs (gUnl W.K n gs) (.list ds) Γ N := fun v σ H hd e am k q => by
  cases hd with
  | lst _ h1 h2 => exact ⟨_, _, rfl, SqL.of h1, h2.length.trans hn, h _ σ H h2 e am k q⟩

/-! ### comprehensions -/
theorem el_lc {wi : TI} {g : TG} {vs : List Nat} (h : EvI W wi Γ fun ds => ∃ Iv : Nat → List PyData → Prop, Iv 0 [] ∧ ds.length ≤ 100000 ∧
      (∀ i d acc, ds[i]? = some d → Iv i acc → EvG W vs g d (wG Γ vs) fun Γ2 => EvT W tt Γ2 fun b => (b = true → Ev W te Γ2 fun y => lf y = true ∧ Iv (i + 1) (acc ++ [y])) ∧ (b = false → Iv (i + 1) acc)) ∧ ∀ acc, Iv ds.length acc → PL acc) :
    EvL W (tLc wi g tt te vs) Γ PL := fun σ H e am Q q => by
  refine h σ H e am _ fun J H1 ds s1 a1 wd ⟨Iv, i0, hz, step, fin⟩ => ?_
  intro D hD
  have e1 := (e.up s1).wipe vs
  refine lc_it wd (fun i H' => Sx W H1 H' ∧ Am W H' ∧ ∃ xs acc, H' D = some (.lst xs) ∧ DtAll W H' xs acc ∧ lfAll acc = true ∧ acc.length ≤ i ∧ Iv i acc) ⟨Sx.new hD, a1.new hD, [], [], upd_same, .nil, rfl, Nat.le_refl _, i0⟩ (fun i H' _ p => ⟨p.1, p.2.1⟩) ?_ ?_
  · rintro i x H' H'' hi ⟨s2, a2, xs, acc, hx, hd, hlf, hl, hI⟩ ⟨s3, a3, d, hdi, dx⟩
    refine step i d acc hdi hI x _ H'' dx (e1.up (s2.trans s3)) a3 _ fun σ2 Γ2 w2 e2 ht => ?_
    refine ⟨w2.trans wipe_wipe, ht σ2 H'' e2 a3 _ fun b H3 s4 a4 hb => ?_⟩
    have hx3 : H3 D = some (.lst xs) := (s3.trans s4).kp _ _ hx (.inr ⟨fresh_p (H2 := H1) a1 hD, fun ps z => by cases z⟩)
    have s13 := (s2.trans s3).trans s4
    cases b with
    | true =>
      refine iteT (hb.1 rfl σ2 H3 (e2.up s4) a4 _ fun y dy H4 s5 a5 ddy ⟨ly, hI2⟩ => ?_)
      have hx4 : H4 D = some (.lst xs) := s5.kp _ _ hx3 (.inr ⟨fresh_p (H2 := H1) a1 hD, fun ps z => by cases z⟩)
      refine ⟨xs, hx4, ?_, (s13.trans s5).mut hD, Am.mut a1 a5 hD hx4, _, acc ++ [dy], upd_same, ?_, lfAll_append hlf (by rw [lfAll, ly]; rfl), by rw [List.length_append, List.length_singleton]; omega, hI2⟩
      · rw [hd.length]
        exact Nat.lt_of_lt_of_le (Nat.lt_of_le_of_lt hl hi) (Nat.le_trans hz (by decide))
      · exact DtAll.mut hx4 _ _ (lfAll_append hlf (by rw [lfAll, ly]; rfl)) ((hd.up ((s3.trans s4).trans s5)).snoc ddy)
    | false =>
      exact iteF ⟨s13, a4, xs, acc, hx3, hd.up (s3.trans s4), hlf, Nat.le_succ_of_le hl, hb.2 rfl⟩
  · rintro H' ⟨s2, a2, xs, acc, hx, hd, _, hl, hI⟩
    exact q D xs acc H' (s1.trans s2) a2 (s1.fr _ hD) hx hd (fin acc hI)
theorem et_yes (h : PB true) : EvT W tYes Γ PB := fun σ H e am Q q => q true H (Sx.refl W H) am h

/-! ### statements -/
def Ss (W : Wd) (ts : TS) (Γ : Gm) (N : Gm → Prop) (R : PyData → Prop) : Prop := ∀ σ H, Env W Γ σ H → Am W H → ∀ D : Ends, (∀ σ' H' Γ', Sx W H H' → Am W H' → Env W Γ' σ' H' → N Γ' → D.nx σ' H') → (∀ v d H', Sx W H H' → Am W H' → Dt W H' v d → R d → D.rt v H') → ts D σ H
variable {ts tv : TS} {N : Gm → Prop} {R : PyData → Prop}
theorem ss_seq (h : Ss W ts Γ (fun Γ' => Ss W tv Γ' N R) R) : Ss W (tSeq ts tv) Γ N R := fun σ H e am D hn hr =>
  h σ H e am { D with nx := tv D } (fun σ' H' Γ' s a e' h2 => h2 σ' H' e' a D (fun σ2 H2 Γ2 s2 a2 e2 h3 => hn σ2 H2 Γ2 (s.trans s2) a2 e2 h3) fun v d H2 s2 a2 d2 h3 => hr v d H2 (s.trans s2) a2 d2 h3) hr
theorem ss_asg {i : Nat} (h : Ev W te Γ fun d => N (Γ.set i (some d))) : Ss W (tAsg te (gName i)) Γ N R := fun σ H e am D hn hr =>
  h σ H e am _ fun v d H1 s1 a1 d1 h1 => hn _ H1 _ s1 a1 ((e.up s1).set d1) h1
theorem ss_asgG {g : TG} (vs : List Nat) (h : Ev W te Γ fun d => EvG W vs g d Γ N) : Ss W (tAsg te g) Γ N R := fun σ H e am D hn hr =>
  h σ H e am _ fun v d H1 s1 a1 d1 h1 => h1 v σ H1 d1 (e.up s1) a1 _ fun σ' Γ' _ e' h2 => hn σ' H1 Γ' s1 a1 e' h2
theorem ss_drop (h : Ev W te Γ fun d => N Γ) : Ss W (tDrop te) Γ N R := fun σ H e am D hn hr =>
  h σ H e am _ fun v d H1 s1 a1 d1 h1 => hn _ H1 _ s1 a1 (e.up s1) h1
theorem ss_ret (h : Ev W te Γ R) : Ss W (tRet te) Γ N R := fun σ H e am D hn hr => h σ H e am _ fun v d H1 s1 a1 d1 h1 => hr v d H1 s1 a1 d1 h1
theorem ss_if {tx ty : TS} (h : EvT W tt Γ fun b => (b = true → Ss W tx Γ N R) ∧ (b = false → Ss W ty Γ N R)) : Ss W (tIfS tt tx ty) Γ N R := fun σ H e am D hn hr =>
  h σ H e am _ fun b H1 s1 a1 h1 => by
    cases b with
    | true => exact iteT (h1.1 rfl σ H1 (e.up s1) a1 D (fun σ2 H2 Γ2 s2 a2 e2 h3 => hn σ2 H2 Γ2 (s1.trans s2) a2 e2 h3) fun v d H2 s2 a2 d2 h3 => hr v d H2 (s1.trans s2) a2 d2 h3)
    | false => exact iteF (h1.2 rfl σ H1 (e.up s1) a1 D (fun σ2 H2 Γ2 s2 a2 e2 h3 => hn σ2 H2 Γ2 (s1.trans s2) a2 e2 h3) fun v d H2 s2 a2 d2 h3 => hr v d H2 (s1.trans s2) a2 d2 h3)
theorem ss_next (h : N Γ) : Ss W tNext Γ N R := fun σ H e am D hn hr => hn σ H Γ (Sx.refl W H) am e h
theorem ss_for {wi : TI} {g : TG} {tb : TS} (vs : List Nat) (h : EvI W wi Γ fun ds => ∃ Iv : Nat → Gm → Prop, Iv 0 Γ ∧ (∀ i d Γ', ds[i]? = some d → Iv i Γ' → EvG W vs g d Γ' fun Γ2 => Ss W tb Γ2 (Iv (i + 1)) R) ∧ ∀ Γ', Iv ds.length Γ' → N Γ') :
    Ss W (tFor wi g tb) Γ N R := fun σ H e am D hn hr => by
  refine h σ H e am _ fun J H1 ds s1 a1 wd ⟨Iv, i0, step, fin⟩ => ?_
  refine for_it wd (fun i σ' H' => Sx W H1 H' ∧ Am W H' ∧ ∃ Γ', Env W Γ' σ' H' ∧ Iv i Γ') ⟨Sx.refl W H1, a1, Γ, e.up s1, i0⟩ (fun i σ' H' _ p => ⟨p.1, p.2.1⟩) ?_ ?_
  · rintro i x σ1 H' H'' hi ⟨s2, a2, Γ', e2, hI⟩ ⟨s3, a3, d, hdi, dx⟩
    refine step i d Γ' hdi hI x σ1 H'' dx (e2.up s3) a3 _ fun σ2 Γ2 _ e3 hb => ?_
    refine hb σ2 H'' e3 a3 _ (fun σ3 H3 Γ3 s4 a4 e4 h4 => ⟨(s2.trans s3).trans s4, a4, Γ3, e4, h4⟩) fun v d H3 s4 a4 d4 h4 => hr v d H3 (((s1.trans s2).trans s3).trans s4) a4 d4 h4
  · rintro σ1 H' ⟨s2, a2, Γ', e2, hI⟩
    exact hn σ1 H' Γ' (s1.trans s2) a2 e2 (fin Γ' hI)
end

/-! ### defs -/
/-- a promise by data: C tells what is wanted of the answer -/
def spC (K : PySem.W.Frag) (T : List (Addr × Str)) (C : List PyData → (PyData → Prop) → Prop) : Sp := fun vs H Q _ => ∃ (W : Wd) (ds : List PyData) (P : PyData → Prop), W.K = K ∧ W.T = T ∧ Am W H ∧ DtAll W H vs ds ∧ C ds P ∧ ∀ v d H', Sx W H H' → Am W H' → Dt W H' v d → P d → Q v H'
/-- .. the answer a new list -/
def spL (K : PySem.W.Frag) (T : List (Addr × Str)) (C : List PyData → (List PyData → Prop) → Prop) : Sp := fun vs H Q _ => ∃ (W : Wd) (ds : List PyData) (P : List PyData → Prop), W.K = K ∧ W.T = T ∧ Am W H ∧ DtAll W H vs ds ∧ C ds P ∧ ∀ p xs es H', Sx W H H' → Am W H' → H p = none → H' p = some (.lst xs) → DtAll W H' xs es → P es → Q (.ref p) H'
section
variable {W : Wd} {Γ : Gm} {P : PyData → Prop} {PL : List PyData → Prop} {tr : TA} {E : XK}
theorem ev_call {C : List PyData → (PyData → Prop) → Prop} (h : EvA W tr Γ fun ds => C ds P) : Ev W (tCall (spC W.K W.T C) [] E tr) Γ P := fun σ H e am Q q =>
  h σ H e am _ fun vs ds H1 s1 a1 d1 h1 => by
    rw [List.append_nil]
    exact ⟨W, ds, P, rfl, rfl, a1, d1, h1, fun v d H' s2 a2 d2 p => q v d H' (s1.trans s2) a2 d2 p⟩
theorem el_call {C : List PyData → (List PyData → Prop) → Prop} (h : EvA W tr Γ fun ds => C ds PL) : EvL W (tCall (spL W.K W.T C) [] E tr) Γ PL := fun σ H e am Q q =>
  h σ H e am _ fun vs ds H1 s1 a1 d1 h1 => by
    rw [List.append_nil]
    exact ⟨W, ds, PL, rfl, rfl, a1, d1, h1, fun p xs es H' s2 a2 f2 l2 d2 k => q p xs es H' (s1.trans s2) a2 (s1.fr _ f2) l2 d2 k⟩
def startG (n : Nat) (ds : List PyData) : Gm := ds.map some ++ List.replicate (n - ds.length) none
theorem env_start {N : List Str} {vs : List V} {ds : List PyData} {H : Hp} (h : DtAll W H vs ds) : Env W (startG N.length ds) (L2.start N vs) H := by
  refine ⟨?_, fun i d e => ?_⟩
  · unfold startG L2.start
    rw [List.length_append, List.length_append, List.length_map, List.length_map, List.length_replicate, List.length_replicate, h.length]
  · unfold startG at e
    by_cases c : i < (ds.map some).length
    · rw [List.getElem?_append_left c] at e
      rw [List.length_map] at c
      rw [List.getElem?_map] at e
      cases q : ds[i]? with
      | none =>
        rw [q] at e
        cases e
      | some d' =>
        rw [q] at e
        cases e
        obtain ⟨v, h1, h2⟩ := h.get q
        refine ⟨v, ?_, h2⟩
        unfold L2.start
        rw [List.getElem?_append_left (by rw [List.length_map, h.length]; exact c), List.getElem?_map, h1]
        rfl
    · rw [List.getElem?_append_right (by omega), List.getElem?_replicate] at e
      split at e <;> cases e
end
section
variable {P : Program} {w : World} {K : PySem.W.Frag} {mg : Str → Option Value} {base : Heap}
/-- a def keeps its promise by data -/
theorem okC {x qual : Str} {st : Stmt} {f : Addr} {fd : FuncData} {N ps : List Str} {k : Nat} {T : List (Addr × Str)} {C : List PyData → (PyData → Prop) → Prop} (F : Fun K x qual st f fd) (S : FnScope N ps (defScope st)) (len : ∀ ds P, C ds P → ds.length = ps.length)
    (hbody : ∀ (W : Wd), W.K = K → W.T = T → ∀ (cdv : Value) (A : Around) (outer : List PySem.Env) (s : Shared) (H : Hp) (E : XK), Room k (A.deeper (envOfC qual (defScope st) s.heap.objs.size f cdv)) →
      ∃ t, PSs (cxOf CX0 P w K mg base N qual (defScope st) f cdv A outer s H E).nox (defBody st) t ∧ ∀ ds P, C ds P → Ss W t (startG N.length ds) (fun _ => P .none) P) : FnOk P w K mg base CX0 (k + 1) f fd ps (spC K T C) := by
  refine F.ok S (fun vs H Q E h => ?_) (fun cdv A outer s H vs Q E hr h => ?_)
  · obtain ⟨W, ds, P, _, _, _, hd, hc, _⟩ := h
    rw [hd.length]
    exact len ds P hc
  · obtain ⟨W, ds, P, eK, eT, am, hd, hc, q⟩ := h
    obtain ⟨t, h1, h2⟩ := hbody W eK eT cdv A outer s H E hr
    exact ⟨t, h1, h2 ds P hc _ H (env_start hd) am _ (fun σ' H' Γ' s2 a2 _ p => q .non .none H' s2 a2 .non p) fun v d H' s2 a2 d2 p => q v d H' s2 a2 d2 p⟩
end

/-! ## the operations by names, and what they give on data -/
def RAdd : R2 := rI0 fun i j => .int (i + j)
def RSub : R2 := rI0 fun i j => .int (i - j)
def RMul : R2 := rI CMul fun i j => .int (i * j)
def RMod : R2 := rI (fun _ j => 0 < j) fun i j => .int (i % j)
def RDiv : R2 := rI CDiv fun i j => .int (i / j)
def RPow : R2 := rI CPow fun i j => .int (i ^ j.toNat)
def RNeg : V → Hp → VK → Prop := rU fun i => .int (-i)
def RLt : R2 := rI0 fun i j => .bl (decide (i < j))
def RLe : R2 := rI0 fun i j => .bl (decide (i ≤ j))
def RGt : R2 := rI0 fun i j => .bl (decide (j < i))
def RGe : R2 := rI0 fun i j => .bl (decide (j ≤ i))
def RIsN : R2 := fun x y H Q => y = .non ∧ Q (.bl (decide (x = .non))) H
def RNotN : R2 := fun x y H Q => y = .non ∧ Q (.bl (!decide (x = .non))) H
def RLen (K : PySem.W.Frag) : List V → Hp → VK → Prop := fun xs H Q => ∃ p ys, xs = [.ref p] ∧ (SqL K H p ys ∨ SqT K H p ys) ∧ Q (.int ys.length) H
def RInt : List V → Hp → VK → Prop := fun xs H Q => (∃ i, xs = [.int i] ∧ Q (.int i) H) ∨ ∃ k, xs = [.bl k] ∧ Q (.int (if k then 1 else 0)) H
def RAbs : List V → Hp → VK → Prop := fun xs H Q => ∃ i, xs = [.int i] ∧ Q (.int (if i < 0 then -i else i)) H
def RMax2 : List V → Hp → VK → Prop := fun xs H Q => ∃ i j, xs = [.int i, .int j] ∧ Q (.int (if j > i then j else i)) H
def RMin2 : List V → Hp → VK → Prop := fun xs H Q => ∃ i j, xs = [.int i, .int j] ∧ Q (.int (if j < i then j else i)) H
def RList (K : PySem.W.Frag) : List V → Hp → VK → Prop := fun xs H Q => ∃ p ys, xs = [.ref p] ∧ (SqL K H p ys ∨ SqT K H p ys) ∧ ∀ l, H l = none → Q (.ref l) (upd H l (.lst ys))
def RTuple (K : PySem.W.Frag) : List V → Hp → VK → Prop := fun xs H Q => ∃ p ys, xs = [.ref p] ∧ ((SqL K H p ys ∧ ∀ l, H l = none → Q (.ref l) (upd H l (.tup ys))) ∨ (SqT K H p ys ∧ Q (.ref p) H))
def RInsert : V → List V → Hp → VK → Prop := fun x vs H Q => ∃ (l : Addr) (xs : List V) (i : Int) (y : V), x = .ref l ∧ vs = [.int i, y] ∧ H l = some (.lst xs) ∧ xs.length < sizeLine ∧ 0 ≤ i ∧ i < 2 ^ 63 ∧
    Q .non (upd H l (.lst (xs.take i.toNat ++ [y] ++ xs.drop i.toNat)))

section
variable {W : Wd} {Γ : Gm} {ta : TE} {P : PyData → Prop} {PL : List PyData → Prop} {PB : Bool → Prop} {i j : Int}
theorem ro_add (h : P (.int (i + j))) : RO W RAdd (.int i) (.int j) P := ro_int (f := fun i j => i + j) h
theorem ro_sub (h : P (.int (i - j))) : RO W RSub (.int i) (.int j) P := ro_int (f := fun i j => i - j) h
theorem ro_mul (hc : CMul i j) (h : P (.int (i * j))) : RO W RMul (.int i) (.int j) P := ro_intC (f := fun i j => i * j) hc h
theorem ro_mod (hc : 0 < j) (h : P (.int (i % j))) : RO W RMod (.int i) (.int j) P := ro_intC (f := fun i j => i % j) hc h
theorem ro_div (hc : 0 < j ∧ j < 1073741824) (h : P (.int (i / j))) : RO W RDiv (.int i) (.int j) P := ro_intC (f := fun i j => i / j) hc h
theorem ro_pow (hc : CPow i j) (h : P (.int (i ^ j.toNat))) : RO W RPow (.int i) (.int j) P := ro_intC (f := fun i j => i ^ j.toNat) hc h
theorem ru_neg (h : P (.int (-i))) : RU W RNeg (.int i) P := ru_int (f := fun i => -i) h
theorem ro_lt (h : P (.bool (decide (i < j)))) : RO W RLt (.int i) (.int j) P := ro_cmp (f := fun i j => decide (i < j)) h
theorem ro_le (h : P (.bool (decide (i ≤ j)))) : RO W RLe (.int i) (.int j) P := ro_cmp (f := fun i j => decide (i ≤ j)) h
theorem ro_gt (h : P (.bool (decide (j < i)))) : RO W RGt (.int i) (.int j) P := ro_cmp (f := fun i j => decide (j < i)) h
theorem ro_ge (h : P (.bool (decide (j ≤ i)))) : RO W RGe (.int i) (.int j) P := ro_cmp (f := fun i j => decide (j ≤ i)) h
theorem ro_is {x : PyData} (h : P (.bool (isNone x))) : RO W RIsN x .none P := ro_isN h
theorem ro_isnot {x : PyData} (h : P (.bool (!isNone x))) : RO W RNotN x .none P := ro_notN h
theorem rc_LenL {ds : List PyData} (h : P (.int (ds.length : Int))) : RC W (RLen W.K) [.list ds] P := rc_lenL h
theorem rc_LenT {ds : List PyData} (h : P (.int (ds.length : Int))) : RC W (RLen W.K) [.tuple ds] P := rc_lenT h
theorem rc_Int (h : P (.int i)) : RC W RInt [.int i] P := rc_int h
theorem rc_Abs (h : P (.int (if i < 0 then -i else i))) : RC W RAbs [.int i] P := rc_abs h
theorem rc_Max2 (h : P (.int (max i j))) : RC W RMax2 [.int i, .int j] P := rc_max2 h
theorem rc_Min2 (h : P (.int (min i j))) : RC W RMin2 [.int i, .int j] P := rc_min2 h
theorem rcl_ListL {ds : List PyData} (h : PL ds) : RCL W (RList W.K) [.list ds] PL := rcl_listL h
theorem rcl_ListT {ds : List PyData} (h : PL ds) : RCL W (RList W.K) [.tuple ds] PL := rcl_listT h
theorem rc_TupleL {ds : List PyData} (h : P (.tuple ds)) : RC W (RTuple W.K) [.list ds] P := rc_tupleL h
/-- the truth of a list, of a tuple -/
theorem et_truL {ds : List PyData} (h : Ev W ta Γ fun x => x = .list ds ∧ PB (!ds.isEmpty)) : EvT W (tTru W.K ta) Γ PB := fun σ H e am Q q =>
  h σ H e am _ fun vx x H1 s1 a1 d1 h1 => by
    obtain ⟨rfl, h2⟩ := h1
    cases d1 with
    | lst _ k1 k2 =>
      refine ⟨!ds.isEmpty, ?_, q _ H1 s1 a1 h2⟩
      refine .inl ⟨_, SqL.of k1, ?_⟩
      have := k2.length
      cases ds <;> cases ‹List V› <;> simp at this ⊢
theorem et_truT {ds : List PyData} (h : Ev W ta Γ fun x => x = .tuple ds ∧ PB (!ds.isEmpty)) : EvT W (tTru W.K ta) Γ PB := fun σ H e am Q q =>
  h σ H e am _ fun vx x H1 s1 a1 d1 h1 => by
    obtain ⟨rfl, h2⟩ := h1
    cases d1 with
    | tup k1 k2 =>
      refine ⟨!ds.isEmpty, ?_, q _ H1 s1 a1 h2⟩
      refine .inr (.inl ⟨_, SqT.of k1, ?_⟩)
      have := k2.length
      cases ds <;> cases ‹List V› <;> simp at this ⊢
end

/-! ### the text -/
def topS (i : Nat) : Stmt := PySem.Challenge.pw_allbide_k51_whole_shortest_rows.main.body.getD i (.Pass ⟨0, 0, 0, 0⟩)
/-- the built-in names that the text calls are built in still; its constants -/
structure Bi (mg : Str → Option Value) : Prop where
  len : mg "len" = none
  int : mg "int" = none
  bool : mg "bool" = none
  abs : mg "abs" = none
  max : mg "max" = none
  min : mg "min" = none
  all : mg "all" = none
  sorted : mg "sorted" = none
  list : mg "list" = none
  tuple : mg "tuple" = none
  isinstance : mg "isinstance" = none
  range : mg "range" = none
  enumerate : mg "enumerate" = none
  zip : mg "zip" = none
  MOST_EVENT : ∃ t, mg "MOST_EVENT" = some (.int 5 t)
  MOST_TIME : ∃ t, mg "MOST_TIME" = some (.int 500 t)
  MOST_NEWS : ∃ t, mg "MOST_NEWS" = some (.int 8 t)
/-- a def of the text that keeps its promise -/
def Cal (P : Program) (w : World) (K : PySem.W.Frag) (mg : Str → Option Value) (base : Heap) (name : Str) (ps : List Str) (k : Nat) (sp : Sp) : Prop :=
  ∃ (f : Addr) (fd : FuncData), FnOk P w K mg base CX0 k f fd ps sp ∧ Binds K fd ps [] ∧ mg name = some (.ref f) ∧ PySem.W.keepIn K (.ref f) = true

theorem andT {A B : Prop} (h : A) : (true = true → A) ∧ (true = false → B) := ⟨fun _ => h, fun z => Bool.noConfusion z⟩
theorem andF {A B : Prop} (h : B) : (false = true → A) ∧ (false = false → B) := ⟨fun z => Bool.noConfusion z, fun _ => h⟩
theorem orT {A B : Prop} (h : B) : (true = false → A) ∧ (true = true → B) := ⟨fun z => Bool.noConfusion z, fun _ => h⟩
theorem orF {A B : Prop} (h : A) : (false = false → A) ∧ (false = true → B) := ⟨fun _ => h, fun z => Bool.noConfusion z⟩
theorem kit_int_int : kitB "int" "int" = some true := by decide +kernel
theorem kit_int_bool : kitB "int" "bool" = some false := by decide +kernel
theorem kit_tup_tup : kitB "tuple" "tuple" = some true := by decide +kernel
theorem get_map_some {α : Type} {f : α → PyData} {l : List α} {i : Nat} {d : PyData} (h : (l.map f)[i]? = some d) : ∃ x, l[i]? = some x ∧ d = f x := by
  rw [List.getElem?_map] at h
  cases q : l[i]? with
  | none =>
    rw [q] at h
    cases h
  | some x =>
    rw [q] at h
    exact ⟨x, rfl, (Option.some.inj h).symm⟩
/-! ### the data -/
def kd (b : Bool) : Str := if b = true then "raise" else "lower"
abbrev dS (s : Stp) : PyData := .tuple [.str (kd s.1), .int s.2.1, .int s.2.2]
abbrev dP (p : Int × Int) : PyData := .tuple [.int p.1, .int p.2]
def dSs (L : List Stp) : List PyData := L.map dS
def dRow (r : Row) : PyData := .tuple (r.map dP)
theorem kd_ne : ¬ (("raise" : Str) = "lower") := by decide +kernel
theorem kd_inj {a b : Bool} : kd a = kd b ↔ a = b := by
  have h := kd_ne
  have h' : ¬ (("lower" : Str) = "raise") := fun z => h z.symm
  cases a <;> cases b <;> simp [kd, h, h']
theorem lf_dS (s : Stp) : lf (dS s) = true := by simp [dS, lf, lfAll]
theorem lf_dP (s : Int × Int) : lf (dP s) = true := by simp [dP, lf, lfAll]
theorem lf_int (i : Int) : lf (.int i) = true := by simp [lf]
theorem lf_bool (i : Bool) : lf (.bool i) = true := by simp [lf]

/-! ## lists of one's own that change -/
abbrev Ow := List (Nat × List PyData)
def mix (Γ : Gm) : Ow → Gm
  | [] => Γ
  | p :: O => (mix Γ O).set p.1 (some (.list p.2))
/-- B: the heap at the entry; O: the slots that hold lists of one's own with what they hold; as: where these stand -/
structure EnvO (W : Wd) (B : Hp) (Γ : Gm) (O : Ow) (as : List Addr) (σ : L2.St) (H : Hp) : Prop where
  sx : Sx W B H
  ab : Am W B
  am : Am W H
  len : as.length = O.length
  nd : as.Nodup
  fr : ∀ a ∈ as, B a = none
  own : ∀ (k : Nat) (i : Nat) (ds : List PyData), O[k]? = some (i, ds) → ∃ a xs, as[k]? = some a ∧ σ[i]? = some (some (.ref a)) ∧ H a = some (.lst xs) ∧ DtAll W H xs ds ∧ lfAll ds = true
  gl : Γ.length = σ.length
  get : ∀ (i : Nat) (d : PyData), Γ[i]? = some (some d) → ∃ v, σ[i]? = some (some v) ∧ Dt W H v d ∧ (lf d = true ∨ Dt W B v d)
section
variable {W : Wd} {B : Hp} {Γ : Gm} {O : Ow} {as : List Addr} {σ : L2.St} {H H' : Hp}
theorem EnvO.env0 (e : EnvO W B Γ O as σ H) : Env W Γ σ H := ⟨e.gl, fun i d h => by
  obtain ⟨v, h1, h2, _⟩ := e.get i d h
  exact ⟨v, h1, h2⟩⟩
theorem mix_env {Γ : Gm} {σ : L2.St} {H : Hp} (e0 : Env W Γ σ H) : ∀ O : Ow, (∀ i ds, (i, ds) ∈ O → ∃ a xs, σ[i]? = some (some (.ref a)) ∧ H a = some (.lst xs) ∧ DtAll W H xs ds ∧ W.p ≠ some a) → Env W (mix Γ O) σ H
  | [], _ => e0
  | p :: O, h => by
    have ih := mix_env e0 O fun i ds hm => h i ds (.tail _ hm)
    obtain ⟨a, xs, h1, h2, h3, h4⟩ := h p.1 p.2 (.head _)
    have e := ih.set (i := p.1) (v := .ref a) (d := .list p.2) (.lst h4 h2 h3)
    have es : σ.set p.1 (some (.ref a)) = σ := by
      apply List.ext_getElem?
      intro j
      by_cases c : p.1 = j
      · subst c
        rw [h1]
        exact List.getElem?_set_self (List.getElem?_eq_some_iff.mp h1).1
      · rw [List.getElem?_set_ne c]
    rw [es] at e
    exact e
theorem EnvO.env (e : EnvO W B Γ O as σ H) : Env W (mix Γ O) σ H := mix_env e.env0 O fun i ds hm => by
  obtain ⟨k, hk⟩ := List.mem_iff_getElem?.mp hm
  obtain ⟨a, xs, h1, h2, h3, h4, _⟩ := e.own k i ds hk
  exact ⟨a, xs, h2, h3, h4, fresh_p (H2 := H) e.ab (e.fr a (List.mem_of_getElem? h1))⟩
/-- all goes on -/
theorem EnvO.up (e : EnvO W B Γ O as σ H) (s : Sx W H H') (am : Am W H') : EnvO W B Γ O as σ H' where
  sx := e.sx.trans s
  ab := e.ab
  am := am
  len := e.len
  nd := e.nd
  fr := e.fr
  own := fun k i ds h => by
    obtain ⟨a, xs, h1, h2, h3, h4, h5⟩ := e.own k i ds h
    exact ⟨a, xs, h1, h2, s.kp _ _ h3 (.inr ⟨fresh_p (H2 := H) e.ab (e.fr a (List.mem_of_getElem? h1)), fun ps z => by cases z⟩), h4.up s, h5⟩
  gl := e.gl
  get := fun i d h => by
    obtain ⟨v, h1, h2, h3⟩ := e.get i d h
    exact ⟨v, h1, h2.up s, h3⟩
/-- a name is stored that holds no list of one's own -/
theorem EnvO.set (e : EnvO W B Γ O as σ H) {i : Nat} {v : V} {d : PyData} (hi : (O.all fun p => p.1 != i) = true) (hd : Dt W H v d) (hl : lf d = true) : EnvO W B (Γ.set i (some d)) O as (σ.set i (some v)) H where
  sx := e.sx
  ab := e.ab
  am := e.am
  len := e.len
  nd := e.nd
  fr := e.fr
  own := fun k j ds h => by
    obtain ⟨a, xs, h1, h2, h3, h4, h5⟩ := e.own k j ds h
    have nj : i ≠ j := fun z => by
      have q := List.all_eq_true.mp hi _ (List.mem_of_getElem? h)
      subst z
      simp at q
    exact ⟨a, xs, h1, by rw [List.getElem?_set_ne nj]; exact h2, h3, h4, h5⟩
  gl := by rw [List.length_set, List.length_set]; exact e.gl
  get := fun j d' h => by
    by_cases c : i = j
    · subst c
      have hlt : i < Γ.length := by
        apply Classical.byContradiction
        intro z
        rw [List.getElem?_eq_none (by rw [List.length_set]; omega)] at h
        cases h
      rw [List.getElem?_set_self hlt] at h
      cases h
      exact ⟨v, List.getElem?_set_self (by rw [← e.gl]; exact hlt), hd, .inl hl⟩
    · rw [List.getElem?_set_ne c] at h
      obtain ⟨w, h1, h2, h3⟩ := e.get j d' h
      exact ⟨w, by rw [List.getElem?_set_ne c]; exact h1, h2, h3⟩
/-- a new list of one's own -/
theorem EnvO.new (e : EnvO W B Γ O as σ H) {i : Nat} {p : Addr} {xs : List V} {ds : List PyData} (hi : (O.all fun p => p.1 != i) = true) (hb : i < Γ.length) (s : Sx W H H') (am : Am W H') (hp : H p = none) (hx : H' p = some (.lst xs)) (hd : DtAll W H' xs ds) (hl : lfAll ds = true) :
    EnvO W B (Γ.set i none) ((i, ds) :: O) (p :: as) (σ.set i (some (.ref p))) H' := by
  have e' := e.up s am
  refine ⟨e'.sx, e.ab, am, by rw [List.length_cons, List.length_cons, e.len], List.nodup_cons.mpr ⟨fun hm => ?_, e.nd⟩, fun a ha => ?_, fun k j es h => ?_, by rw [List.length_set, List.length_set]; exact e.gl, fun j d' h => ?_⟩
  · obtain ⟨k, hk⟩ := List.mem_iff_getElem?.mp hm
    have hk2 : k < O.length := by
      rw [← e.len]
      exact (List.getElem?_eq_some_iff.mp hk).1
    obtain ⟨a, ys, h1, _, h3, _⟩ := e.own k _ _ (show O[k]? = some (O[k].1, O[k].2) from List.getElem?_eq_getElem hk2)
    rw [hk] at h1
    cases h1
    rw [hp] at h3
    cases h3
  · rcases List.mem_cons.mp ha with z | z
    · rw [z]
      exact e.sx.fr _ hp
    · exact e.fr a z
  · cases k with
    | zero =>
      cases h
      exact ⟨p, xs, rfl, List.getElem?_set_self (by rw [← e.gl]; exact hb), hx, hd, hl⟩
    | succ k =>
      obtain ⟨a, ys, h1, h2, h3, h4, h5⟩ := e'.own k j es h
      have nj : i ≠ j := fun z => by
        have q := List.all_eq_true.mp hi _ (List.mem_of_getElem? (show O[k]? = some (j, es) from h))
        subst z
        simp at q
      exact ⟨a, ys, h1, by rw [List.getElem?_set_ne nj]; exact h2, h3, h4, h5⟩
  · by_cases c : i = j
    · subst c
      by_cases hlt : i < Γ.length
      · rw [List.getElem?_set_self hlt] at h
        cases h
      · rw [List.getElem?_eq_none (by rw [List.length_set]; omega)] at h
        cases h
    · rw [List.getElem?_set_ne c] at h
      obtain ⟨w, h1, h2, h3⟩ := e'.get j d' h
      exact ⟨w, by rw [List.getElem?_set_ne c]; exact h1, h2, h3⟩
/-- a list of one's own changes -/
theorem EnvO.mut (e : EnvO W B Γ O as σ H) {k i : Nat} {a : Addr} {ds es : List PyData} {xs ys : List V} (hk : O[k]? = some (i, ds)) (ha : as[k]? = some a) (hx : H a = some (.lst xs)) (hy : DtAll W H ys es) (hl : lfAll es = true) : EnvO W B Γ (O.set k (i, es)) as σ (upd H a (.lst ys)) where
  sx := e.sx.mut (e.fr a (List.mem_of_getElem? ha))
  ab := e.ab
  am := Am.mut e.ab e.am (e.fr a (List.mem_of_getElem? ha)) hx
  len := by rw [List.length_set]; exact e.len
  nd := e.nd
  fr := e.fr
  own := fun j i' fs h => by
    have kl := (List.getElem?_eq_some_iff.mp hk).1
    by_cases c : k = j
    · subst c
      rw [List.getElem?_set_self kl] at h
      cases h
      obtain ⟨a', zs, h1, h2, h3, h4, h5⟩ := e.own k _ ds hk
      rw [ha] at h1
      cases h1
      exact ⟨a, ys, ha, h2, upd_same, DtAll.mut hx _ _ hl hy, hl⟩
    · rw [List.getElem?_set_ne c] at h
      obtain ⟨a', zs, h1, h2, h3, h4, h5⟩ := e.own j i' fs h
      have na : a' ≠ a := fun z => by
        subst z
        exact c (nd_ix e.nd ha h1)
      exact ⟨a', zs, h1, h2, by rw [upd_ne na]; exact h3, DtAll.mut hx _ _ h5 h4, h5⟩
  gl := e.gl
  get := fun j d h => by
    obtain ⟨v, h1, h2, h3⟩ := e.get j d h
    refine ⟨v, h1, ?_, h3⟩
    rcases h3 with z | z
    · exact Dt.mut hx d v z h2
    · exact z.up (e.sx.mut (e.fr a (List.mem_of_getElem? ha)))
/-- a list is given up -/
theorem EnvO.drop (e : EnvO W B Γ O as σ H) (k : Nat) : EnvO W B Γ (O.eraseIdx k) (as.eraseIdx k) σ H where
  sx := e.sx
  ab := e.ab
  am := e.am
  len := by
    have h := e.len
    rw [List.length_eraseIdx, List.length_eraseIdx, h]
  nd := e.nd.sublist (List.eraseIdx_sublist _ _)
  fr := fun a ha => e.fr a ((List.eraseIdx_sublist _ _).mem ha)
  own := fun j i ds h => by
    rw [List.getElem?_eraseIdx] at h ⊢
    split at h
    · rename_i c
      rw [if_pos c]
      exact e.own j i ds h
    · rename_i c
      rw [if_neg c]
      exact e.own (j + 1) i ds h
  gl := e.gl
  get := e.get
/-- forgetting names -/
theorem EnvO.weak {Δ : Gm} (e : EnvO W B Γ O as σ H) (l : Δ.length = Γ.length) (w : ∀ (i : Nat) d, Δ[i]? = some (some d) → Γ[i]? = some (some d)) : EnvO W B Δ O as σ H :=
  ⟨e.sx, e.ab, e.am, e.len, e.nd, e.fr, e.own, l.trans e.gl, fun i d h => e.get i d (w i d h)⟩
end

def Tx (H H' : Hp) : Prop := ∀ a xs, H a = some (.tup xs) → H' a = some (.tup xs)
theorem Sx.tx {W : Wd} {H H' : Hp} (s : Sx W H H') : Tx H H' := fun a xs h => s.kp a _ h (.inl ⟨_, rfl⟩)
theorem Tx.trans {H H1 H2 : Hp} (a : Tx H H1) (b : Tx H1 H2) : Tx H H2 := fun p xs h => b p xs (a p xs h)
section
variable {W : Wd}
mutual
theorem Dt.tx {H H' : Hp} (e : Tx H H') : ∀ (d : PyData) (v : V), lf d = true → Dt W H v d → Dt W H' v d
  | .none, _, _, h => by cases h; exact .non
  | .bool _, _, _, h => by cases h; exact .bl _
  | .int _, _, _, h => by cases h; exact .int _
  | .str _, _, _, h => by cases h; exact .str _
  | .list ds, _, n, h => by
    rw [lf] at n
    cases n
  | .tuple ds, _, n, h => by
    rw [lf] at n
    cases h with
    | tup h2 h3 => exact .tup (e _ _ h2) (DtAll.tx e ds _ n h3)
  | .dict _, _, n, h => by
    rw [lf] at n
    cases n
theorem DtAll.tx {H H' : Hp} (e : Tx H H') : ∀ (ds : List PyData) (vs : List V), lfAll ds = true → DtAll W H vs ds → DtAll W H' vs ds
  | [], _, _, h => by cases h; exact .nil
  | d :: ds, _, n, h => by
    rw [lfAll, Bool.and_eq_true] at n
    cases h with
    | cons h1 h2 => exact .cons (Dt.tx e d _ n.1 h1) (DtAll.tx e ds _ n.2 h2)
end
end
theorem Tx.refl (H : Hp) : Tx H H := fun _ _ h => h
theorem Tx.mut {H : Hp} {a : Addr} {xs ys : List V} (h : H a = some (.lst xs)) : Tx H (upd H a (.lst ys)) := fun b zs e => by
  rw [upd_ne (ne_of e h (by intro z; cases z))]
  exact e

/-! ### statements -/
def So (W : Wd) (B : Hp) (ts : TS) (Γ : Gm) (O : Ow) (N : Gm → Ow → Prop) (R : PyData → Prop) : Prop := ∀ as σ H, EnvO W B Γ O as σ H → ∀ D : Ends, (∀ as' σ' H' Γ' O', EnvO W B Γ' O' as' σ' H' → Tx H H' → N Γ' O' → D.nx σ' H') → (∀ v d H', Sx W B H' → Am W H' → Dt W H' v d → R d → D.rt v H') → ts D σ H
section
variable {W : Wd} {B : Hp} {Γ : Gm} {O : Ow} {te ta : TE} {tt : TT} {ts tv : TS} {N : Gm → Ow → Prop} {R : PyData → Prop}
theorem So.ss {N : Gm → Prop} (h : ∀ B, So W B ts Γ [] (fun Γ' _ => N Γ') R) : Ss W ts Γ N R := fun σ H e am D hn hr =>
  h H [] σ H ⟨Sx.refl W H, am, am, rfl, List.nodup_nil, fun a ha => absurd ha (by simp), fun k i ds hk => by simp at hk, e.len, fun i d hd => by
    obtain ⟨v, h1, h2⟩ := e.get i d hd
    exact ⟨v, h1, h2, .inr h2⟩⟩ D (fun as' σ' H' Γ' O' e' _ hN => hn σ' H' Γ' e'.sx e'.am e'.env0 hN) hr
theorem So.imp {N' : Gm → Ow → Prop} (h : So W B ts Γ O N R) (k : ∀ Γ O, N Γ O → N' Γ O) : So W B ts Γ O N' R := fun as σ H e D hn hr => h as σ H e D (fun as' σ' H' Γ' O' e' t hN => hn as' σ' H' Γ' O' e' t (k _ _ hN)) hr
theorem so_seq (h : So W B ts Γ O (fun Γ' O' => So W B tv Γ' O' N R) R) : So W B (tSeq ts tv) Γ O N R := fun as σ H e D hn hr =>
  h as σ H e { D with nx := tv D } (fun as' σ' H' Γ' O' e' t h2 => h2 as' σ' H' e' D (fun as2 σ2 H2 Γ2 O2 e2 t2 h3 => hn as2 σ2 H2 Γ2 O2 e2 (t.trans t2) h3) hr) hr
theorem so_next (h : N Γ O) : So W B tNext Γ O N R := fun as σ H e D hn hr => hn as σ H Γ O e (Tx.refl H) h
theorem so_ret (h : Ev W te (mix Γ O) R) : So W B (tRet te) Γ O N R := fun as σ H e D hn hr => h σ H e.env e.am _ fun v d H1 s1 a1 d1 h1 => hr v d H1 (e.sx.trans s1) a1 d1 h1
theorem so_asg {i : Nat} (hi : (O.all fun p => p.1 != i) = true) (h : Ev W te (mix Γ O) fun d => lf d = true ∧ N (Γ.set i (some d)) O) : So W B (tAsg te (gName i)) Γ O N R := fun as σ H e D hn hr =>
  h σ H e.env e.am _ fun v d H1 s1 a1 d1 ⟨hl, h1⟩ => hn as _ H1 _ _ ((e.up s1 a1).set hi d1 hl) s1.tx h1
theorem so_new {i : Nat} (hi : (O.all fun p => p.1 != i) = true) (hb : Nat.blt i Γ.length = true) (h : EvL W te (mix Γ O) fun ds => lfAll ds = true ∧ N (Γ.set i none) ((i, ds) :: O)) : So W B (tAsg te (gName i)) Γ O N R := fun as σ H e D hn hr =>
  h σ H e.env e.am _ fun p xs ds H1 s1 a1 f1 l1 d1 ⟨hl, h1⟩ => hn (p :: as) _ H1 _ _ (e.new hi (Nat.le_of_ble_eq_true hb) s1 a1 f1 l1 d1 hl) s1.tx h1
theorem so_drop (k : Nat) (h : So W B ts Γ (O.eraseIdx k) N R) : So W B ts Γ O N R := fun as σ H e D hn hr => h _ σ H (e.drop k) D hn hr
theorem so_weak (Δ : Gm) (l : Δ.length = Γ.length) (w : ∀ (i : Nat) d, Δ[i]? = some (some d) → Γ[i]? = some (some d)) (h : So W B ts Δ O N R) : So W B ts Γ O N R := fun as σ H e D hn hr => h as σ H (e.weak l w) D hn hr
theorem so_if {tx ty : TS} (h : EvT W tt (mix Γ O) fun b => (b = true → So W B tx Γ O N R) ∧ (b = false → So W B ty Γ O N R)) : So W B (tIfS tt tx ty) Γ O N R := fun as σ H e D hn hr =>
  h σ H e.env e.am _ fun b H1 s1 a1 h1 => by
    cases b with
    | true => exact iteT (h1.1 rfl as σ H1 (e.up s1 a1) D (fun as2 σ2 H2 Γ2 O2 e2 t2 h3 => hn as2 σ2 H2 Γ2 O2 e2 (s1.tx.trans t2) h3) hr)
    | false => exact iteF (h1.2 rfl as σ H1 (e.up s1 a1) D (fun as2 σ2 H2 Γ2 O2 e2 t2 h3 => hn as2 σ2 H2 Γ2 O2 e2 (s1.tx.trans t2) h3) hr)
theorem so_expr (h : Ev W te (mix Γ O) fun _ => N Γ O) : So W B (tDrop te) Γ O N R := fun as σ H e D hn hr =>
  h σ H e.env e.am _ fun v d H1 s1 a1 d1 h1 => hn as _ H1 _ _ (e.up s1 a1) s1.tx h1
/-- targets that are names (none of one's own lists') -/
def EvGO (W : Wd) (B : Hp) (g : TG) (d : PyData) (Γ : Gm) (O : Ow) (N : Gm → Prop) : Prop := ∀ v as σ H, Dt W H v d → EnvO W B Γ O as σ H → ∀ k : L2.St → Hp → Prop, (∀ σ' Γ', EnvO W B Γ' O as σ' H → N Γ' → k σ' H) → g v σ H k
def EvGsO (W : Wd) (B : Hp) (g : TGs) (ds : List PyData) (Γ : Gm) (O : Ow) (N : Gm → Prop) : Prop := ∀ us as σ H, DtAll W H us ds → EnvO W B Γ O as σ H → ∀ k : L2.St → Hp → Prop, (∀ σ' Γ', EnvO W B Γ' O as σ' H → N Γ' → k σ' H) → g us σ H k
theorem ego_name {j : Nat} {d : PyData} {N : Gm → Prop} (hj : (O.all fun p => p.1 != j) = true) (hl : lf d = true) (h : N (Γ.set j (some d))) : EvGO W B (gName j) d Γ O N := fun v as σ H hd e k q => q _ _ (e.set hj hd hl) h
theorem egso_nil {N : Gm → Prop} (h : N Γ) : EvGsO W B gNil [] Γ O N := fun us as σ H hd e k q => by
  cases hd
  exact ⟨rfl, q _ _ e h⟩
theorem egso_cons {g : TG} {gs : TGs} {d : PyData} {ds : List PyData} {N : Gm → Prop} (h : EvGO W B g d Γ O fun Γ' => EvGsO W B gs ds Γ' O N) : EvGsO W B (gCons g gs) (d :: ds) Γ O N := fun us as σ H hd e k q => by
  cases hd with
  | cons h1 h2 => exact ⟨_, _, rfl, h _ as σ H h1 e _ fun σ' Γ' e' h3 => h3 _ as σ' H h2 e' k q⟩
theorem ego_tup {n : Nat} {gs : TGs} {ds : List PyData} {N : Gm → Prop} (hn : ds.length = n) (h : EvGsO W B gs ds Γ O N) : EvGO W B (gTup W.K n gs) (.tuple ds) Γ O N := fun v as σ H hd e k q => by
  cases hd with
  | tup h1 h2 => exact ⟨_, _, rfl, SqT.of h1, h2.length.trans hn, h _ as σ H h2 e k q⟩
theorem so_asgG {g : TG} (h : Ev W te (mix Γ O) fun d => EvGO W B g d Γ O fun Γ' => N Γ' O) : So W B (tAsg te g) Γ O N R := fun as σ H e D hn hr =>
  h σ H e.env e.am _ fun v d H1 s1 a1 d1 h1 => h1 v as σ H1 d1 (e.up s1 a1) _ fun σ' Γ' e' h2 => hn as σ' H1 Γ' O e' s1.tx h2
/-! the lists' methods: k, the place of the list among one's own -/
theorem so_append {k i : Nat} {ds : List PyData} (hk : O[k]? = some (i, ds)) (hz : ds.length ≤ 100000) (h : Ev W te (mix Γ O) fun d => lf d = true ∧ N Γ (O.set k (i, ds ++ [d]))) : So W B (tDrop (tBM W.K "list" rAppend (tVar i) (tCons te tNil))) Γ O N R := fun as σ H e D hn hr => by
  obtain ⟨a, xs, h1, h2, h3, h4, h5⟩ := e.own k i ds hk
  refine ⟨.ref a, h2, .inl ⟨rfl, _, SqL.of h3⟩, h σ H e.env e.am _ fun v d H1 s1 a1 d1 ⟨hl, hN⟩ => ?_⟩
  have e1 := e.up s1 a1
  obtain ⟨a', xs', k1, k2, k3, k4, k5⟩ := e1.own k i ds hk
  rw [h1] at k1
  cases k1
  exact ⟨a, xs', v, rfl, rfl, k3, by rw [k4.length]; exact Nat.lt_of_le_of_lt hz (by decide), hn as σ _ _ _ (e1.mut hk h1 k3 (k4.snoc d1) (lfAll_append k5 (by rw [lfAll, hl]; rfl))) (s1.tx.trans (Tx.mut k3)) hN⟩
theorem so_extend {k i : Nat} {ds : List PyData} (hk : O[k]? = some (i, ds)) (h : EvL W te (mix Γ O) fun es => ds.length + es.length ≤ 100000 ∧ lfAll es = true ∧ N Γ (O.set k (i, ds ++ es))) : So W B (tDrop (tBM W.K "list" rExtend (tVar i) (tCons te tNil))) Γ O N R := fun as σ H e D hn hr => by
  obtain ⟨a, xs, h1, h2, h3, h4, h5⟩ := e.own k i ds hk
  refine ⟨.ref a, h2, .inl ⟨rfl, _, SqL.of h3⟩, h σ H e.env e.am _ fun p ys es H1 s1 a1 f1 l1 d1 ⟨hz, hl, hN⟩ => ?_⟩
  have e1 := e.up s1 a1
  obtain ⟨a', xs', k1, k2, k3, k4, k5⟩ := e1.own k i ds hk
  rw [h1] at k1
  cases k1
  exact ⟨a, p, xs', ys, rfl, rfl, k3, l1, by rw [k4.length, d1.length]; exact Nat.le_trans hz (by decide), hn as σ _ _ _ (e1.mut hk h1 k3 (k4.append d1) (lfAll_append k5 hl)) (s1.tx.trans (Tx.mut k3)) hN⟩
theorem lfAll_erase {ds : List PyData} (h : lfAll ds = true) (j : Nat) : lfAll (ds.eraseIdx j) = true := lfAll_iff.mpr fun d hd => lfAll_iff.mp h d ((List.eraseIdx_sublist _ _).mem hd)
theorem seq_nat {j n : Nat} (h : j < n) : seqIndex? (j : Int) n = some j := (ixN_seq (show ixN n (j : Int) = some j by
  unfold ixN
  rw [if_pos (by omega), if_pos (by omega)]
  simp)).1
theorem so_pop {k i : Nat} {ds : List PyData} (hk : O[k]? = some (i, ds)) (h : Ev W te (mix Γ O) fun d => ∃ j : Nat, d = .int (j : Int) ∧ j < ds.length ∧ ds.length ≤ 100000 ∧ N Γ (O.set k (i, ds.eraseIdx j))) : So W B (tDrop (tBM W.K "list" rPopAt (tVar i) (tCons te tNil))) Γ O N R := fun as σ H e D hn hr => by
  obtain ⟨a, xs, h1, h2, h3, h4, h5⟩ := e.own k i ds hk
  refine ⟨.ref a, h2, .inl ⟨rfl, _, SqL.of h3⟩, h σ H e.env e.am _ fun v d H1 s1 a1 d1 hj => ?_⟩
  obtain ⟨j, rfl, hj, hz, hN⟩ := hj
  cases d1
  have e1 := e.up s1 a1
  obtain ⟨a', xs', k1, k2, k3, k4, k5⟩ := e1.own k i ds hk
  rw [h1] at k1
  cases k1
  have hj' : j < xs'.length := by
    rw [k4.length]
    exact hj
  exact ⟨a, xs', (j : Int), j, xs'[j], rfl, rfl, k3, by omega, by omega, seq_nat hj', List.getElem?_eq_getElem hj', hn as σ _ _ _ (e1.mut hk h1 k3 (k4.eraseIdx j) (lfAll_erase k5 j)) (s1.tx.trans (Tx.mut k3)) hN⟩
def insD (ds : List PyData) (j : Nat) (d : PyData) : List PyData := ds.take j ++ [d] ++ ds.drop j
theorem so_insert {k i : Nat} {ds : List PyData} {tj : TE} (hk : O[k]? = some (i, ds)) (h : Ev W tj (mix Γ O) fun dj => ∃ j : Nat, dj = .int (j : Int) ∧ j ≤ 100000 ∧ ds.length ≤ 100000 ∧ Ev W te (mix Γ O) fun d => lf d = true ∧ N Γ (O.set k (i, insD ds j d))) : So W B (tDrop (tBM W.K "list" RInsert (tVar i) (tCons tj (tCons te tNil)))) Γ O N R := fun as σ H e D hn hr => by
  obtain ⟨a, xs, h1, h2, h3, h4, h5⟩ := e.own k i ds hk
  refine ⟨.ref a, h2, .inl ⟨rfl, _, SqL.of h3⟩, h σ H e.env e.am _ fun v d H1 s1 a1 d1 hj => ?_⟩
  obtain ⟨j, rfl, hj, hz, hd⟩ := hj
  cases d1
  have e1 := e.up s1 a1
  refine hd σ H1 e1.env a1 _ fun w d H2 s2 a2 d2 ⟨hl, hN⟩ => ?_
  have e2 := e1.up s2 a2
  obtain ⟨a', xs', k1, k2, k3, k4, k5⟩ := e2.own k i ds hk
  rw [h1] at k1
  cases k1
  refine ⟨a, xs', (j : Int), w, rfl, rfl, k3, by rw [k4.length]; exact Nat.lt_of_le_of_lt hz (by decide), by omega, by omega, ?_⟩
  rw [Int.toNat_natCast]
  refine hn as σ _ _ _ (e2.mut hk h1 k3 (((k4.take j).append (.cons d2 .nil)).append (k4.drop j)) ?_) ((s1.tx.trans s2.tx).trans (Tx.mut k3)) hN
  show lfAll (ds.take j ++ [d] ++ ds.drop j) = true
  refine lfAll_iff.mpr fun x hx => ?_
  rcases List.mem_append.mp hx with z | z
  · rcases List.mem_append.mp z with z | z
    · exact lfAll_iff.mp k5 x (List.mem_of_mem_take z)
    · rw [List.mem_singleton.mp z]
      exact hl
  · exact lfAll_iff.mp k5 x (List.mem_of_mem_drop z)

/-! ### loops: what is walked does not change -/
def WalkT (W : Wd) (J : It) (ds : List PyData) (H1 : Hp) : Prop := Walk J ds.length (fun H' => Tx H1 H' ∧ Am W H') fun i H' x H'' => Sx W H' H'' ∧ Am W H'' ∧ ∃ d, ds[i]? = some d ∧ lf d = true ∧ Dt W H'' x d
def EvIT (W : Wd) (wi : TI) (Γ : Gm) (P : List PyData → Prop) : Prop := ∀ σ H, Env W Γ σ H → Am W H → ∀ Q : It → Hp → Prop, (∀ J H1 ds, Sx W H H1 → Am W H1 → WalkT W J ds H1 → P ds → Q J H1) → wi σ H Q
variable {PL : List PyData → Prop}
theorem walkT_tup {a : Addr} {xs : List V} {ds : List PyData} {H1 : Hp} (h1 : H1 a = some (.tup xs)) (h2 : DtAll W H1 xs ds) (hl : lfAll ds = true) : WalkT W (Itt W.K a) ds H1 := by
  unfold WalkT
  rw [← h2.length]
  refine (walk_tup (K := W.K) (a := a) (xs := xs)).mono (fun H ⟨s, _⟩ => SqT.of (s _ _ h1)) fun i H x H' hi ⟨s, am⟩ ⟨e, hx⟩ => ?_
  subst e
  obtain ⟨d, hd, k⟩ := (DtAll.tx s _ _ hl h2).get' hx
  exact ⟨Sx.refl W _, am, d, hd, lfAll_iff.mp hl d (List.mem_of_getElem? hd), k⟩
theorem walkT_range {lo : Int} {n : Nat} {H1 : Hp} : WalkT W (Itr lo n) (rgD lo n) H1 := by
  unfold WalkT
  rw [rgD_len]
  refine (walk_range (lo := lo) (n := n)).mono (fun H _ => trivial) fun i H x H' hi ⟨s, am⟩ ⟨e, hx⟩ => ?_
  subst e
  subst hx
  exact ⟨Sx.refl W _, am, _, rgD_at hi, lf_int _, .int _⟩
theorem eit_tup (h : Ev W te Γ fun x => ∃ ds, x = .tuple ds ∧ lfAll ds = true ∧ PL ds) : EvIT W (iTup W.K te) Γ PL := fun σ H e am Q q =>
  h σ H e am _ fun vx x H1 s1 a1 d1 h1 => by
    obtain ⟨ds, rfl, hl, h2⟩ := h1
    cases d1 with
    | tup k1 k2 => exact ⟨_, rfl, ⟨_, SqT.of k1⟩, q _ H1 ds s1 a1 (walkT_tup k1 k2 hl) h2⟩
theorem eit_rng1 {tr : TA} (h : EvA W tr Γ fun as => ∃ n : Int, as = [.int n] ∧ -(2 ^ 62) ≤ n ∧ n < 2 ^ 62 ∧ PL (rgD 0 n.toNat)) : EvIT W (iRng1 tr) Γ PL := fun σ H e am Q q =>
  h σ H e am _ fun vs ds H1 s1 a1 d1 h1 => by
    obtain ⟨n, rfl, b1, b2, h2⟩ := h1
    cases d1 with
    | cons k1 k2 =>
      cases k1
      cases k2
      exact ⟨n, rfl, b1, b2, q _ H1 _ s1 a1 walkT_range h2⟩
theorem so_for {wi : TI} {g : TG} {tb : TS} (h : EvIT W wi (mix Γ O) fun ds => ∃ Iv : Nat → Gm → Ow → Prop, Iv 0 Γ O ∧ (∀ i d Γ' O', ds[i]? = some d → Iv i Γ' O' → EvGO W B g d Γ' O' fun Γ2 => So W B tb Γ2 O' (Iv (i + 1)) R) ∧ ∀ Γ' O', Iv ds.length Γ' O' → N Γ' O') :
    So W B (tFor wi g tb) Γ O N R := fun as σ H e D hn hr => by
  refine h σ H e.env e.am _ fun J H1 ds s1 a1 wd ⟨Iv, i0, step, fin⟩ => ?_
  refine for_it wd (fun i σ' H' => Tx H1 H' ∧ ∃ as' Γ' O', EnvO W B Γ' O' as' σ' H' ∧ Iv i Γ' O') ⟨fun _ _ h => h, as, Γ, O, e.up s1 a1, i0⟩ (fun i σ' H' _ ⟨p, as', Γ', O', e', _⟩ => ⟨p, e'.am⟩) ?_ ?_
  · rintro i x σ1 H' H'' hi ⟨t2, as2, Γ2, O2, e2, hI⟩ ⟨s3, a3, d, hdi, hlf, dx⟩
    refine step i d Γ2 O2 hdi hI x as2 σ1 H'' dx (e2.up s3 a3) _ fun σ2 Γ3 e3 hb => ?_
    exact hb as2 σ2 H'' e3 _ (fun as4 σ4 H4 Γ4 O4 e4 t4 hI4 => ⟨(t2.trans s3.tx).trans t4, as4, Γ4, O4, e4, hI4⟩) hr
  · rintro σ1 H' ⟨t2, as2, Γ2, O2, e2, hI⟩
    exact hn as2 σ1 H' Γ2 O2 e2 (s1.tx.trans t2) (fin Γ2 O2 hI)
/-- while: a measure that falls -/
theorem so_while {tc : TT} {tb : TS} (Iv : Nat → Gm → Ow → Prop) (h0 : ∃ m, Iv m Γ O)
    (hs : ∀ m Γ' O', Iv m Γ' O' → EvT W tc (mix Γ' O') fun b => (b = true → So W B tb Γ' O' (fun Γ2 O2 => ∃ m', m' < m ∧ Iv m' Γ2 O2) R) ∧ (b = false → N Γ' O')) : So W B (tWhile tc tb) Γ O N R := fun as σ H e D hn hr => by
  obtain ⟨m0, i0⟩ := h0
  refine ⟨fun m σ' H' => Tx H H' ∧ ∃ as' Γ' O', EnvO W B Γ' O' as' σ' H' ∧ Iv m Γ' O', ⟨m0, Tx.refl H, as, Γ, O, e, i0⟩, ?_⟩
  rintro m σ1 H1 ⟨t1, as1, Γ1, O1, e1, hI⟩
  refine hs m Γ1 O1 hI σ1 H1 e1.env e1.am _ fun b H2 s2 a2 hb => ?_
  cases b with
  | true =>
    refine iteT ⟨fun σ' H' => ∃ m', m' < m ∧ (Tx H H' ∧ ∃ as' Γ' O', EnvO W B Γ' O' as' σ' H' ∧ Iv m' Γ' O'), fun σ' H' ⟨m', h1, h2⟩ => ⟨m', h1, h2⟩, ?_⟩
    exact hb.1 rfl as1 σ1 H2 (e1.up s2 a2) _ (fun as4 σ4 H4 Γ4 O4 e4 t4 ⟨m', h5, h6⟩ => ⟨m', h5, (t1.trans s2.tx).trans t4, as4, Γ4, O4, e4, h6⟩) hr
  | false => exact iteF (hn as1 σ1 H2 Γ1 O1 (e1.up s2 a2) (t1.trans s2.tx) (hb.2 rfl))
end

/-! ## sorted of a dict comprehension over ints -/
def RSortD : List V → Hp → VK → Prop := fun xs H Q => ∃ (a : Addr) (kvs : List (Key × V)) (ks : List Int), xs = [.ref a] ∧ Rd H a (.dK kvs) ∧ kvs.map (·.1) = ks.map Sum.inl ∧ ks.length < 64 ∧
    ∀ (ys : List Int) (p : Addr), ys.Perm ks → ys.Pairwise (· ≤ ·) → H p = none → Q (.ref p) (upd H p (.lst (ys.map V.int)))
theorem Am.mutD {W : Wd} {H0 H : Hp} {l : Addr} {xs ys : List (Key × V)} (a0 : Am W H0) (am : Am W H) (h0 : H0 l = none) (hl : H l = some (.dK xs)) : Am W (upd H l (.dK ys)) := by
  refine ⟨fun p hp => ?_, fun q e => ?_⟩
  · obtain ⟨ps, h1, h2, h3⟩ := am.tab p hp
    have ne : p.1 ≠ l := fun z => by
      rw [z, hl] at h1
      cases h1
    refine ⟨ps, by rw [upd_ne ne]; exact h1, h2, fun pos cv hc => ?_⟩
    obtain ⟨c, e1, e2⟩ := h3 pos cv hc
    have nc : c ≠ l := fun z => by
      rw [z, hl] at e2
      cases e2
    exact ⟨c, e1, by rw [upd_ne nc]; exact e2⟩
  · obtain ⟨_, b2, _, _, b3, _⟩ := a0.str q e
    obtain ⟨h1, h2, hh, k, h3, h4⟩ := am.str q e
    have n1 : q ≠ l := ne_of_none b3 h0
    have n2 : W.a ≠ l := ne_of_none b2 h0
    exact ⟨h1, by rw [upd_ne n2]; exact h2, hh, k, by rw [upd_ne n1]; exact h3, h4⟩
theorem keys_put (kvs : List (Key × V)) (ks : List Int) (i : Int) (v : V) (h : kvs.map (·.1) = ks.map Sum.inl) : (putK kvs (.inl i) v).map (·.1) = (if i ∈ ks then ks else ks ++ [i]).map Sum.inl := by
  unfold putK
  have e : (kvs.any fun kv => decide (kv.1 = Sum.inl i)) = decide (i ∈ ks) := by
    have e1 : (kvs.any fun kv => decide (kv.1 = Sum.inl i)) = (kvs.map (·.1)).any fun k => decide (k = Sum.inl i) := by
      rw [List.any_map]
      rfl
    rw [e1, h, List.any_map]
    by_cases c : i ∈ ks
    · rw [decide_eq_true c, List.any_eq_true]
      exact ⟨i, c, by simp⟩
    · rw [decide_eq_false c, List.any_eq_false]
      intro x hx
      have : x ≠ i := fun z => c (z ▸ hx)
      simp [this]
  rw [e]
  by_cases c : i ∈ ks
  · rw [if_pos (decide_eq_true c), if_pos c, List.map_map, ← h]
    apply List.map_congr_left
    intro kv _
    show (if kv.1 = Sum.inl i then (kv.1, v) else kv).1 = kv.1
    split <;> rfl
  · rw [if_neg (by rw [decide_eq_false c]; decide), if_neg c, List.map_append, List.map_append, h]
    rfl
section
variable {W : Wd} {Γ : Gm} {P : PyData → Prop} {tk : TE}
theorem ev_sortDc {wi : TI} {g : TG} {vs : List Nat} (h : EvI W wi Γ fun ds => ds.length < 64 ∧ ∃ key : PyData → Int, (∀ (i : Nat) (d : PyData), ds[i]? = some d → EvG W vs g d (wG Γ vs) fun Γ2 => Ev W tk Γ2 fun y => y = .int (key d)) ∧
      ∀ ys : List Int, ys.Nodup → ys.Pairwise (· ≤ ·) → (∀ z, z ∈ ys ↔ z ∈ ds.map key) → P (.list (ys.map .int))) : Ev W (tCB RSortD (tCons (tDc wi g tYes tk (tC (.bl true)) vs) tNil)) Γ P := fun σ H e am Q q => by
  refine h σ H e am _ fun J H1 ds s1 a1 wd ⟨hz, key, step, fin⟩ => ?_
  intro D hD
  have e1 := (e.up s1).wipe vs
  have pD : W.p ≠ some D := fresh_p (H2 := H1) a1 hD
  refine ⟨fun i m H' => m = ds.length - i ∧ i ≤ ds.length ∧ Sx W H1 H' ∧ Am W H' ∧ ∃ (kvs : List (Key × V)) (ks : List Int), H' D = some (.dK kvs) ∧ kvs.map (·.1) = ks.map Sum.inl ∧ ks.Nodup ∧ (∀ z, z ∈ ks ↔ z ∈ (ds.take i).map key) ∧ ks.length ≤ i,
    ⟨ds.length, by omega, Nat.zero_le _, Sx.new hD, a1.new hD, [], [], upd_same, rfl, List.nodup_nil, fun z => by simp, Nat.le_refl _⟩, ?_⟩
  rintro i m H' ⟨rfl, hi, s2, a2, kvs, ks, hx, hk, hnd, hmem, hl⟩
  by_cases hlt : i < ds.length
  · refine .inr ⟨wd.goes i H' hlt ⟨s2, a2⟩, fun H3 => i + 1 ≤ ds.length ∧ Sx W H1 H3 ∧ Am W H3 ∧ ∃ (kvs : List (Key × V)) (ks : List Int), H3 D = some (.dK kvs) ∧ kvs.map (·.1) = ks.map Sum.inl ∧ ks.Nodup ∧ (∀ z, z ∈ ks ↔ z ∈ (ds.take (i + 1)).map key) ∧ ks.length ≤ i + 1,
      fun H3 p => ⟨ds.length - (i + 1), by omega, rfl, p⟩, fun x H'' hy => ?_⟩
    obtain ⟨s3, a3, d, hdi, dx⟩ := wd.yields i H' x H'' hlt ⟨s2, a2⟩ hy
    refine step i d hdi x _ H'' dx (e1.up (s2.trans s3)) a3 _ fun σ2 Γ2 w2 e2 ht => ?_
    refine ⟨w2.trans wipe_wipe, ?_⟩
    have hh : EvT W tYes Γ2 (fun b => b = true) := et_yes rfl
    refine hh σ2 H'' e2 a3 _ fun b H3 s4 a4 hb => ?_
    subst hb
    refine iteT (ht σ2 H3 (e2.up s4) a4 _ fun y dy H4 s5 a5 ddy hy2 => ?_)
    subst hy2
    cases ddy
    have hx4 : H4 D = some (.dK kvs) := ((s3.trans s4).trans s5).kp _ _ hx (.inr ⟨pD, fun ps z => by cases z⟩)
    refine ⟨kvs, .inl (key d), rfl, hx4, ?_, by omega, (((s2.trans s3).trans s4).trans s5).mut hD, Am.mutD a1 a5 hD hx4, _, (if key d ∈ ks then ks else ks ++ [key d]), upd_same, keys_put kvs ks (key d) _ hk, ?_, fun z => ?_, ?_⟩
    · have hlen : kvs.length = ks.length := by
        have := congrArg List.length hk
        rw [List.length_map, List.length_map] at this
        exact this
      exact Nat.lt_of_le_of_lt (show kvs.length ≤ 100000 by omega) (by decide)
    · split
      · exact hnd
      · rename_i c
        rw [List.nodup_append]
        exact ⟨hnd, by simp, fun a ha b hb z => by
          rw [List.mem_singleton.mp hb] at z
          exact c (z ▸ ha)⟩
    · rw [List.take_add_one, hdi, List.map_append]
      show _ ↔ z ∈ (ds.take i).map key ++ [key d]
      rw [List.mem_append, ← hmem z, List.mem_singleton]
      split
      · rename_i c
        constructor
        · exact .inl
        · rintro (z1 | z1)
          · exact z1
          · rw [z1]
            exact c
      · rw [List.mem_append, List.mem_singleton]
    · split
      · omega
      · rw [List.length_append, List.length_singleton]
        omega
  · have ei : i = ds.length := by omega
    subst ei
    refine .inl ⟨wd.stops H' ⟨s2, a2⟩, ?_⟩
    refine ⟨D, kvs, ks, rfl, .inl hx, hk, by omega, fun ys p hp hs hn => ?_⟩
    rw [List.take_length] at hmem
    exact q _ _ _ ((s1.trans s2).trans (Sx.new hn)) (a2.new hn) (.lst (fresh_p (H2 := H') a2 hn) upd_same (dt_ints ys)) (fin ys (hp.nodup_iff.mpr hnd) hs fun z => by rw [hp.mem_iff]; exact hmem z)
end
theorem ascI_eq : ∀ {l r : List Int}, l.Pairwise (· < ·) → r.Pairwise (· < ·) → (∀ x, x ∈ l ↔ x ∈ r) → l = r
  | [], [], _, _, _ => rfl
  | [], b :: r, _, _, h => absurd ((h b).mpr (.head _)) (by simp)
  | a :: l, [], _, _, h => absurd ((h a).mp (.head _)) (by simp)
  | a :: l, b :: r, ha, hb, h => by
    have ha' := List.pairwise_cons.mp ha
    have hb' := List.pairwise_cons.mp hb
    have e : a = b := by
      rcases List.mem_cons.mp ((h a).mp (.head _)) with z | z
      · exact z
      · rcases List.mem_cons.mp ((h b).mpr (.head _)) with y | y
        · exact y.symm
        · have := hb'.1 a z
          have := ha'.1 b y
          omega
    subst e
    rw [ascI_eq ha'.2 hb'.2 fun x => ?_]
    constructor
    · intro hx
      rcases List.mem_cons.mp ((h x).mp (.tail _ hx)) with z | z
      · subst z
        have := ha'.1 x hx
        omega
      · exact z
    · intro hx
      rcases List.mem_cons.mp ((h x).mpr (.tail _ hx)) with z | z
      · subst z
        have := hb'.1 x hx
        omega
      · exact z
theorem strict_of {l : List Int} (h : l.Nodup) (k : l.Pairwise (· ≤ ·)) : l.Pairwise (· < ·) := by
  have h2 : l.Pairwise (fun a b => a ≠ b) := h
  refine List.Pairwise.imp ?_ (List.Pairwise.and k h2)
  rintro a b ⟨h1, h2⟩
  omega

/-! ## enumerate of a tuple; zip of a tuple and a list -/
section
variable {X : Cx} {pins : List (Addr × Obj)} {σ : L2.St} {H : Hp} {s : Shared}
theorem lt_of_obj {h : Heap} {fp : List Addr} (x : ∀ b ∈ fp, ∃ o, h.get? b = some o ∧ ∀ v, o.data ≠ .cell v) : ∀ b ∈ fp, b < h.objs.size := fun b hb => by
  have ⟨_, y, _⟩ := x b hb
  exact Heap.lt_size y
/-- an iterator turned, writing to wr alone, and handed out a new pair at T -/
theorem pair_new {fp wr : List Addr} {T : Addr} {g : Heap} {n : Nat} {x y : V} {u v : Value} (I : Inv X pins σ H s) (hf : ∀ b ∈ fp, FpOk X pins H b) (sub : ∀ b ∈ wr, b ∈ fp) (lt : ∀ b ∈ fp, b < s.heap.objs.size) (hT : s.heap.objs.size ≤ T)
    (ht : g.IsTuple T #[u, v]) (rx : RelV x u) (ry : RelV y v) (kp : ∀ b o, b ∉ wr → s.heap.get? b = some o → g.get? b = some o) :
    Inv X pins σ (upd H T (.tup [x, y])) { s with heap := g, toks := n } ∧ H T = none ∧ ∀ b ∈ fp, upd H T (.tup [x, y]) b = none := by
  have two : 2 ≤ sizeLine := by decide
  refine ⟨I.turnedNew kp (fun b hb => hf b (sub b hb)) hT ⟨two, [u, v], .cons rx (.cons ry .nil), ht⟩, I.hok.fresh hT, fun b hb => ?_⟩
  have : b ≠ T := Nat.ne_of_lt (Nat.lt_of_lt_of_le (lt b hb) hT)
  rw [upd_ne this]
  have := hf b hb
  exact this.1
end
/-- the tuple at a, each item in a new pair with its place -/
def IteT (K : PySem.W.Frag) (a : Addr) : It where
  go i H := ∃ (xs : List V) (x : V), SqT K H a xs ∧ xs[i]? = some x
  yld i H v H' := ∃ T x, v = .ref T ∧ H T = none ∧ H' = upd H T (.tup [.int (i : Nat), x]) ∧ ∀ xs, SqT K H a xs → xs[i]? = some x
  stop i H := ∃ xs : List V, SqT K H a xs ∧ xs.length = i
/-- where enumerate stands -/
def EnAt (a e it : Addr) (i : Nat) (h : Heap) : Prop := (∃ old, IsEnum h e it (0 + (i : Int)) old) ∧ h.IsTupleIter it a i
theorem en_obj {a e it : Addr} {i : Nat} {h : Heap} (st : EnAt a e it i h) : ∀ b ∈ [e, it], ∃ o, h.get? b = some o ∧ ∀ v, o.data ≠ .cell v := fun b hb => by
  obtain ⟨⟨_, x⟩, o, y, _, d⟩ := st
  rcases List.mem_cons.mp hb with rfl | hb
  · exact ⟨_, x, fun v q => by cases q⟩
  · cases List.mem_singleton.mp hb
    refine ⟨o, y, fun v q => ?_⟩
    rw [d] at q
    cases q
theorem turn_enumT {P : Program} {w : World} {K : PySem.W.Frag} {elts : List Expr} {kk : Nat} {tpos : Pos} {a e it : Addr} (h1 : a ≠ it) (h2 : a ≠ e) (h3 : e ≠ it) : Turn P w K (.Tuple elts kk tpos) (IteT K a) [e, it] e (EnAt a e it) where
  mem := List.mem_cons_self ..
  obj _ _ st := en_obj st
  keep i h h' st k := by
    obtain ⟨⟨old, x⟩, y⟩ := st
    exact ⟨⟨old, k e (.head _) _ x⟩, y.at fun o q => k it (.tail _ (.head _)) o q⟩
  item X eP ew eK calm i pins s σ H E I hf st hg := by
    subst eP ew eK
    obtain ⟨xs, x, qx, ex⟩ := hg
    obtain ⟨its, r, p, _⟩ := I.tuple qx
    obtain ⟨u, eu, ru⟩ := r.get ex
    have eu' : its.toArray[i]? = some u := by simpa using eu
    have G := GoesN.enumFrom (elts := elts) (x1 := kk) (pos := tpos) 0 (Draws.tuple (prog := X.prog) (w := X.w) (A := X.A.in1) (I.ok.hd calm) it a h1 its.toArray) e h3 (by simp [h3, Ne.symm h2]) (.head _)
    refine G.goes i s (fun u s2 => ∃ x H', Inv X pins σ H' s2 ∧ RelV x u ∧ (IteT X.K a).yld i H x H' ∧ EnAt a e it (i + 1) s2.heap ∧ ∀ b ∈ [e, it], H' b = none) E (Array.getElem?_eq_some_iff.mp eu').1 ⟨st.1, st.2, p⟩ fun v g n ⟨T, t, z, ev, hT, hz, ht⟩ st' kp _ => ?_
    cases Option.some.inj (eu'.symm.trans hz)
    subst ev
    obtain ⟨J, fT, fr⟩ := pair_new (n := n) (x := .int (i : Nat)) (y := x) I hf (fun _ hb => hb) (lt_of_obj (en_obj st)) hT ht ⟨t, by rw [Int.zero_add]⟩ ru kp
    exact ⟨.ref T, _, J, rfl, ⟨T, x, rfl, fT, rfl, fun ys hy => I.tuple_inj hy qx ▸ ex⟩, ⟨st'.1, st'.2.1⟩, fr⟩
  done X eP ew eK calm i pins s σ H E I hf st hg := by
    subst eP ew eK
    obtain ⟨xs, qx, rfl⟩ := hg
    obtain ⟨its, r, p, _⟩ := I.tuple qx
    have G := GoesN.enumFrom (elts := elts) (x1 := kk) (pos := tpos) 0 (Draws.tuple (prog := X.prog) (w := X.w) (A := X.A.in1) (I.ok.hd calm) it a h1 its.toArray) e h3 (by simp [h3, Ne.symm h2]) (.head _)
    have ez : its.toArray.size = xs.length := by rw [r.length, List.size_toArray]
    refine G.stops s (fun s1 => Inv X pins σ H s1) E ?_ fun g n kp _ => I.turnedL (t' := n) kp hf
    rw [ez]
    exact ⟨st.1, st.2, p⟩
  self A i s Q E st h := by
    obtain ⟨⟨_, x⟩, _⟩ := st
    exact wpAny_pyIter_enum x h

/-- what enumerate(v) makes, v begun as B tells -/
def enHp (h : Heap) (o : Obj) : Heap := (h.push o).push { cls := .type "enumerate", data := .fields #[.none, .bool false, .ref h.objs.size, rawInt 0, .none, .none] }
theorem meets_en {v : Value} {o : Obj} {G : Heap → Prop} (B : Begins v o G) : Meets (Builtin.«enumerate.__new__» ⟨[.type "enumerate", v], []⟩) (fun _ R s => G s.heap ∧ R (.ok (.ret (.ref (s.heap.push o).objs.size))) { s with heap := enHp s.heap o }) := by
  refine Meets.of_wp fun prog w A R s => ?_
  rintro ⟨g1, fin⟩
  cases s with
  | mk hp g d tk os =>
    have hsub := sub_enumerate
    have it1 : ∀ {A1 : Around} {E1 : Value → Shared → Prop} {Q1 : Value → Shared → Prop}, Q1 (.ref hp.objs.size) ⟨hp.push o, g, d, tk, os⟩ → wpAny (model prog w) A1 (pyIter v) Q1 E1 ⟨hp, g, d, tk, os⟩ := fun {A1 E1 Q1} z => B.iter prog w A1 E1 ⟨hp, g, d, tk, os⟩ Q1 g1 z
    wp_walk using it1
    apply wpAny_stack_any
    intro st
    apply wpAny_pure
    split
    · rename_i c _ _ _ _ _
      cases c == Value.type "enumerate" <;> (wp_walk using it1; exact ⟨_, rfl, fin⟩)
    · wp_walk using it1
      exact ⟨_, rfl, fin⟩
theorem call_en {prog : Program} {w : World} {A : Around} {E : Value → Shared → Prop} {s : Shared} {v : Value} {o : Obj} {G : Heap → Prop} {Q : Value → Shared → Prop} (B : Begins v o G) (g1 : G s.heap)
    (q : IsEnum (enHp s.heap o) (s.heap.objs.size + 1) s.heap.objs.size 0 .none → (enHp s.heap o).get? s.heap.objs.size = some o → Q (.ref (s.heap.objs.size + 1)) { s with heap := enHp s.heap o }) : wpAny (model prog w) A (call (.type "enumerate") [v]) Q E s := by
  have sz : (s.heap.push o).objs.size = s.heap.objs.size + 1 := Heap.size_push ..
  have top := Heap.get?_push_size (s.heap.push o) (o := { cls := .type "enumerate", data := .fields #[.none, .bool false, .ref s.heap.objs.size, rawInt 0, .none, .none] }) rfl
  rw [sz] at top
  refine callType_new F.called_enumerate (by decide) (F.typeCall_enumerate_1 v) (F.newCall_enumerate_1 v) (fun x => F.args_object_init_2 x v) F.entry_enumerate_new (meets_en B) ⟨g1, ?_⟩
  show _ ∧ _
  rw [sz]
  exact ⟨⟨_, top, rfl⟩, q top (Heap.get?_push_of_some _ (Heap.get?_push_size _ B.free))⟩
theorem enHp_old {h : Heap} {o : Obj} : ∀ b u, h.get? b = some u → (enHp h o).get? b = some u := fun b u e => Heap.get?_push_of_some _ (Heap.get?_push_of_some _ e)

def iEnumT (K : PySem.W.Frag) (ta : TA) : TI := fun σ H R => ta σ H fun vs H1 => ∃ a xs, vs = [.ref a] ∧ SqT K H1 a xs ∧ R (IteT K a) H1
theorem pi_enumT {X : Cx} {e : Expr} {ta : TA} {p pos tpos : Pos} {elts : List Expr} {kk : Nat} (hg : Gl X "enumerate") (hm : X.mg "enumerate" = none) (ha : PA X [e] ta) (hs : starEach [e] X.env = [(false, eval e X.env)] := by rfl) :
    PI X (.Tuple elts kk tpos) (.Call (.Name "enumerate" p) [e] [] pos) (iEnumT X.K ta) where
  run pins s σ H R I h := by
    have args := ha.run pos pins s σ H _ I h
    refine Call_ (ld_blt I hg hm boot_enumerate (callWith_type1 (thn args fun us s1 k => ?_) hs rfl))
    obtain ⟨_, H1, I1, r1, a, xs, rfl, hq, q⟩ := k
    cases r1 with
    | cons r0 r2 =>
      cases r0
      cases r2
      obtain ⟨its, _, pt, _⟩ := I1.tuple hq
      have la : a < s1.heap.objs.size := pt.lt
      refine call_en (begins_tuple a its.toArray) pt fun t1 t2 => wpAny_pyIter_enum t1 ?_
      have fresh : ∀ b ∈ [s1.heap.objs.size + 1, s1.heap.objs.size], FpOk X pins H1 b := fun b hb => by
        have le : s1.heap.objs.size ≤ b := by
          rcases List.mem_cons.mp hb with z | z
          · exact z ▸ Nat.le_succ _
          · exact Nat.le_of_eq (List.mem_singleton.mp z).symm
        exact I1.fpOk le (I1.hok.fresh le)
      exact ⟨_, _, _, _, H1, rfl, I1.kept (t' := s1.toks) enHp_old, turn_enumT (Nat.ne_of_lt la) (Nat.ne_of_lt (Nat.lt_succ_of_lt la)) (Nat.succ_ne_self _), ⟨⟨_, t1⟩, _, t2, rfl, rfl⟩, fresh, q⟩

/-- the tuple at a and the list at b, of one length, the items in new pairs -/
def ItzM (K : PySem.W.Frag) (a b : Addr) : It where
  go i H := ∃ (xs ys : List V) (x y : V), SqT K H a xs ∧ SqL K H b ys ∧ xs[i]? = some x ∧ ys[i]? = some y
  yld i H v H' := ∃ T x y, v = .ref T ∧ H T = none ∧ H' = upd H T (.tup [x, y]) ∧ (∀ xs, SqT K H a xs → xs[i]? = some x) ∧ ∀ ys, SqL K H b ys → ys[i]? = some y
  stop i H := ∃ xs ys : List V, SqT K H a xs ∧ SqL K H b ys ∧ xs.length = i ∧ ys.length = i
/-- where zip stands -/
def ZpAt (z TI TO i1 i2 a b : Addr) (i : Nat) (h : Heap) : Prop := IsZip h z TI TO .none ∧ IsTupOf2 h TI (.ref i1) (.ref i2) ∧ (∃ x y, IsTupOf2 h TO x y) ∧ h.IsTupleIter i1 a i ∧ h.IsListIter i2 b i
theorem zp_obj {z TI TO i1 i2 a b : Addr} {i : Nat} {h : Heap} (st : ZpAt z TI TO i1 i2 a b i h) : ∀ c ∈ [z, TI, TO, i1, i2], ∃ o, h.get? c = some o ∧ ∀ v, o.data ≠ .cell v := by
  obtain ⟨g1, g2, ⟨_, _, g3⟩, ⟨o4, g4, _, d4⟩, o5, g5, _, d5⟩ := st
  have e4 : ∀ v, o4.data ≠ .cell v := fun v q => by rw [d4] at q; cases q
  have e5 : ∀ v, o5.data ≠ .cell v := fun v q => by rw [d5] at q; cases q
  have all : ∀ {Pc : Addr → Prop}, Pc z → Pc TI → Pc TO → Pc i1 → Pc i2 → ∀ c ∈ [z, TI, TO, i1, i2], Pc c := fun x1 x2 x3 x4 x5 c hc => by
    simp only [List.mem_cons, List.not_mem_nil, or_false] at hc
    rcases hc with rfl | rfl | rfl | rfl | rfl <;> assumption
  exact all ⟨_, g1, fun v q => by cases q⟩ ⟨_, g2, fun v q => by cases q⟩ ⟨_, g3, fun v q => by cases q⟩ ⟨_, g4, e4⟩ ⟨_, g5, e5⟩
theorem turn_zipM {P : Program} {w : World} {K : PySem.W.Frag} {elts : List Expr} {kk : Nat} {tpos : Pos} {a b z TI TO i1 i2 : Addr} (S : ZipSep2 z TI TO i1 i2 [i1, a] [i2, b]) (na : a ≠ i1) (nb : b ≠ i2) :
    Turn P w K (.Tuple elts kk tpos) (ItzM K a b) [z, TI, TO, i1, i2] z (ZpAt z TI TO i1 i2 a b) where
  mem := List.mem_cons_self ..
  obj _ _ st := zp_obj st
  keep i h h' st k := by
    obtain ⟨g1, g2, ⟨x, y, g3⟩, g4, g5⟩ := st
    exact ⟨k _ (.head _) _ g1, k _ (.tail _ (.head _)) _ g2, ⟨x, y, k _ (by simp) _ g3⟩, g4.at fun o => k _ (by simp) o, g5.at fun o => k _ (by simp) o⟩
  item X eP ew eK calm i pins s σ H E I hf st hg := by
    subst eP ew eK
    obtain ⟨xs, ys, x, y, qx, qy, ex, ey⟩ := hg
    obtain ⟨its, r, p, _⟩ := I.tuple qx
    obtain ⟨jts, r', p', _⟩ := I.list qy
    obtain ⟨u, eu, ru⟩ := r.get ex
    obtain ⟨v, ev, rv⟩ := r'.get ey
    have hu : its.toArray[i]? = some u := by simpa using eu
    have hv : jts.toArray[i]? = some v := by simpa using ev
    have lu := (Array.getElem?_eq_some_iff.mp hu).1
    have lv := (Array.getElem?_eq_some_iff.mp hv).1
    have G := GoesN.zip2 (elts := elts) (x1 := kk) (pos := tpos) S (Draws.tuple (prog := X.prog) (w := X.w) (A := X.A.in1) (I.ok.hd calm) i1 a na its.toArray) (Draws.list (prog := X.prog) (w := X.w) (A := X.A.in1) (I.ok.hd calm) i2 b nb jts.toArray)
    obtain ⟨g1, g2, g3, g4, g5⟩ := id st
    refine G.goes i s (fun u s2 => ∃ x H', Inv X pins σ H' s2 ∧ RelV x u ∧ (ItzM X.K a b).yld i H x H' ∧ ZpAt z TI TO i1 i2 a b (i + 1) s2.heap ∧ ∀ c ∈ [z, TI, TO, i1, i2], H' c = none) E (Nat.lt_min.mpr ⟨lu, lv⟩) ⟨g1, g2, g3, ⟨g4, p⟩, g5, p'.isList⟩ fun wv g n ⟨T, c, d, ew, hT, hc, hd, ht⟩ st' kp _ => ?_
    cases Option.some.inj (hu.symm.trans hc)
    cases Option.some.inj (hv.symm.trans hd)
    subst ew
    obtain ⟨J, fT, fr⟩ := pair_new (n := n) (x := x) (y := y) I hf (wr := [z, TO, i1, i2]) (fun c hc => by simp only [List.mem_cons, List.not_mem_nil, or_false] at hc ⊢; rcases hc with h | h | h | h <;> simp [h]) (lt_of_obj (zp_obj st)) hT ht ru rv kp
    exact ⟨.ref T, _, J, rfl, ⟨T, x, y, rfl, fT, rfl, fun l hl => I.tuple_inj hl qx ▸ ex, fun l hl => I.list_inj hl qy ▸ ey⟩, ⟨st'.1, st'.2.1, st'.2.2.1, st'.2.2.2.1.1, st'.2.2.2.2.1⟩, fr⟩
  done X eP ew eK calm i pins s σ H E I hf st hg := by
    subst eP ew eK
    obtain ⟨xs, ys, qx, qy, l1, l2⟩ := hg
    obtain ⟨its, r, p, _⟩ := I.tuple qx
    obtain ⟨jts, r', p', _⟩ := I.list qy
    have G := GoesN.zip2 (elts := elts) (x1 := kk) (pos := tpos) S (Draws.tuple (prog := X.prog) (w := X.w) (A := X.A.in1) (I.ok.hd calm) i1 a na its.toArray) (Draws.list (prog := X.prog) (w := X.w) (A := X.A.in1) (I.ok.hd calm) i2 b nb jts.toArray)
    have ez : min its.toArray.size jts.toArray.size = i := by
      rw [List.size_toArray, List.size_toArray, ← r.length, ← r'.length, l1, l2, Nat.min_self]
    obtain ⟨g1, g2, g3, g4, g5⟩ := st
    refine G.stops s (fun s1 => Inv X pins σ H s1) E ?_ fun g n kp _ => I.turnedL (t' := n) (ch := [z, TI, TO, i1, i2]) (fun c o hc => kp c o fun hm => hc ?_) hf
    · rw [ez]
      exact ⟨g1, g2, g3, ⟨g4, p⟩, g5, p'.isList⟩
    · simp only [List.mem_cons, List.not_mem_nil, or_false] at hm ⊢
      rcases hm with h | h | h | h <;> simp [h]
  self A i s Q E st h := wpAny_pyIter_zip st.1 h

def iZipM (K : PySem.W.Frag) (ta : TA) : TI := fun σ H R => ta σ H fun vs H1 => ∃ a b xs ys, vs = [.ref a, .ref b] ∧ SqT K H1 a xs ∧ SqL K H1 b ys ∧ R (ItzM K a b) H1
theorem pi_zipM {X : Cx} {e e2 : Expr} {ta : TA} {p pos tpos : Pos} {elts : List Expr} {kk : Nat} (hg : Gl X "zip") (hm : X.mg "zip" = none) (ha : PA X [e, e2] ta)
    (s1 : starEach [e, e2] X.env = (false, eval e X.env) :: starEach [e2] X.env := by rfl) (s2 : (backTo pos (starEach [e2] X.env)).any (·.1) = false := by rfl) :
    PI X (.Tuple elts kk tpos) (.Call (.Name "zip" p) [e, e2] [] pos) (iZipM X.K ta) where
  run pins s σ H R I h := by
    have args := ha.run pos pins s σ H _ I h
    refine Call_ (ld_blt I hg hm PyProof.Rows.boot_zip (callWith_type1 (thn args fun us t k => ?_) s1 s2))
    obtain ⟨_, H1, I1, r1, a, b, xs, ys, rfl, qx, qy, q⟩ := k
    cases r1 with
    | cons ra r2 =>
      cases r2 with
      | cons rb r3 =>
        cases ra
        cases rb
        cases r3
        obtain ⟨its, _, pt, _⟩ := I1.tuple qx
        obtain ⟨jts, _, pl, _⟩ := I1.list qy
        have la : a < t.heap.objs.size := pt.lt
        have lb : b < t.heap.objs.size := pl.lt
        have one : ∀ {c d : Addr}, c < t.heap.objs.size → d ∈ [c] → d < t.heap.objs.size := fun hc hd => by
          rw [List.mem_singleton.mp hd]
          exact hc
        have fresh : ∀ c ∈ [t.heap.objs.size + 4, t.heap.objs.size + 2, t.heap.objs.size + 3, t.heap.objs.size, t.heap.objs.size + 1], FpOk X pins H1 c := fun c hc => by
          have le : t.heap.objs.size ≤ c := by
            simp only [List.mem_cons, List.not_mem_nil, or_false] at hc
            rcases hc with h | h | h | h | h <;> rw [h] <;> first | exact Nat.le_add_right _ _ | exact Nat.le_refl _
          exact I1.fpOk le (I1.hok.fresh le)
        refine zip_begins2 (begins_tuple a its.toArray) (begins_list b jts.toArray) pt pl.isList fun g hz hTI hTO c1 c2 _ kp => wpAny_pyIter_zip hz ?_
        exact ⟨_, _, _, _, H1, rfl, I1.kept (t' := t.toks) kp, turn_zipM (zip_sep2 (fun c => one la) fun c => one lb) (Nat.ne_of_lt la) (Nat.ne_of_lt (Nat.lt_succ_of_lt lb)), ⟨hz, hTI, ⟨_, _, hTO⟩, ⟨_, c1, rfl, rfl⟩, _, c2, rfl, rfl⟩, fresh, q⟩

section
open PySem.W (KeyPure EachIs sorted_key_data AllAlike Sortable alike alikeAll dataLe)

/-! ## sorted(l, key=lambda step: (step[0] == 'lower', step[1], step[2])) -/
theorem lower_ne : ¬ (("lower" : Str) = "raise") := by decide +kernel
theorem kd_lower (b : Bool) : (kd b == ("lower" : Str)) = !b := by cases b <;> decide +kernel
theorem readsB {h : Heap} {a b : Bool} (e : a = b) : Reads h (.bool a) (.bool b) [] := by
  rw [e]
  exact .bool b
/-- the key of a step -/
def kyD (st : Stp) : PyData := .tuple [.bool (!st.1), .int st.2.1, .int st.2.2]
section
variable {prog : Program} {w : World} {A : Around} {s : Shared}
theorem lam_eval {E : Value → Shared → Prop} {env : PySem.Env} {m : Str → Option Value} {t : Addr} {st : Stp} {t1 t2 t3 : Tok} {p1 p2 p3 p4 p5 p6 p7 p8 p9 p10 p11 p12 : Pos} {j1 j2 j3 j4 x1 : Nat} (hk : env.scope.kind = .function) (hl : env.kindOf ("step" : Str) = some .local) (hn : s.heap.Ns env.locals m) (hv : m ("step" : Str) = some (.ref t))
    (ht : IsTup s.heap t #[.str (kd st.1) t1, .int st.2.1 t2, .int st.2.2 t3]) :
    wpAny (model prog w) A (eval (.Tuple [.Compare (.Subscript (.Name ("step" : Str) p1) (.Constant (.int 0) j1 p2) p3) [.Eq] [.Constant (.str "lower") j2 p4] p5, .Subscript (.Name ("step" : Str) p6) (.Constant (.int 1) j3 p7) p8, .Subscript (.Name ("step" : Str) p9) (.Constant (.int 2) j4 p10) p11] x1 p12) env)
      (KeyPure (kyD st) s) E s := by
  refine wpAny_Tuple_spliced ?_
  have step : ∀ {s1 : Shared} {p pp ps : Pos} {i : Int} {j jj : Nat} {x : Value} {Q : Value → Shared → Prop}, s1.heap = s.heap → 0 ≤ i → i < 2 ^ 62 → seqIndex? i 3 = some jj → (#[Value.str (kd st.1) t1, .int st.2.1 t2, .int st.2.2 t3] : Array Value)[jj]? = some x → (∀ tk, Q x { s1 with toks := tk }) →
      wpAny (model prog w) A (eval (.Subscript (.Name ("step" : Str) p) (.Constant (.int i) j pp) ps) env) Q E s1 := fun {s1 p pp ps i j jj x Q} e h0 h1 hj hx hq =>
    Subscript_ (wpAny_Name (wpAny_loadName_local hk hl (by rw [e]; exact hn) hv (wpAny_Constant_int (item_tuple (j := jj) (items := #[Value.str (kd st.1) t1, .int st.2.1 t2, .int st.2.2 t3]) (s := { s1 with toks := s1.toks + 1 }) (by show IsTup s1.heap _ _; rw [e]; exact ht) (by omega) (by omega) hj hx (hq _)))))
  show wpAny _ _ (spliced ((false, eval (.Compare (.Subscript (.Name ("step" : Str) p1) (.Constant (.int 0) j1 p2) p3) [.Eq] [.Constant (.str "lower") j2 p4] p5) env) :: (false, eval (.Subscript (.Name ("step" : Str) p6) (.Constant (.int 1) j3 p7) p8) env) :: (false, eval (.Subscript (.Name ("step" : Str) p9) (.Constant (.int 2) j4 p10) p11) env) :: [])) _ _ s
  refine Calls.spliced_cons (wpAny_Compare1 (step (i := 0) (jj := 0) (x := .str (kd st.1) t1) rfl (by omega) (by omega) rfl rfl fun tk => Calls.Constant_str (eq_str ?_)) (nomark _))
  refine Calls.spliced_cons (step (i := 1) (jj := 1) (x := .int st.2.1 t2) rfl (by omega) (by omega) rfl rfl fun tk => ?_)
  refine Calls.spliced_cons (step (i := 2) (jj := 2) (x := .int st.2.2 t3) rfl (by omega) (by omega) rfl rfl fun tk => ?_)
  refine Calls.spliced_nil ⟨by show 3 ≤ sizeLine; decide, _, _, rfl, fun b o e => Heap.get?_push_of_some _ e, ?_⟩
  refine @Reads.tuple _ _ _ _ _ _ _ (Heap.get?_push_size _ rfl) rfl rfl ?_
  show ReadsAll _ [.bool (kd st.1 == ("lower" : Str)), .int st.2.1 t2, .int st.2.2 t3] _ []
  exact (.cons (readsB (kd_lower st.1)) (.cons (.int _ _) (.cons (.int _ _) .nil)))
theorem lam_key {name qual : Str} {params : Arguments} {body : Expr} {scope : Scope} {cl : List (Str × Addr)} {pm ctv : Value} {f c' t : Addr} {st : Stp} {t1 t2 t3 : Tok} (hroom : A.depth < recursionLimit)
    (hf : s.heap.get? f = some (PySem.W.kla_obj name qual params body scope cl pm c' ctv)) (hcr : s.heap.CodeRec (.ref c') qual) (lim : s.heap.NoLimit)
    (ht : IsTup s.heap t #[.str (kd st.1) t1, .int st.2.1 t2, .int st.2.2 t3])
    (hbind : bindArgs (PySem.W.kla_fn name qual params body scope cl pm (.ref c') ctv) ⟨[.ref t], []⟩ = pure [(("step" : Str), .ref t)]) (hcell : ∀ y ∈ scope.names, y.2 ≠ .cell) (hl : scope.names.lookup ("step" : Str) = some .local) (hk : scope.kind = .function) (hco : scope.isCoroutine = false) (hgen : scope.isGenerator = false)
    (hb : ∃ (p1 p2 p3 p4 p5 p6 p7 p8 p9 p10 p11 p12 : Pos) (j1 j2 j3 j4 x1 : Nat), body = .Tuple [.Compare (.Subscript (.Name ("step" : Str) p1) (.Constant (.int 0) j1 p2) p3) [.Eq] [.Constant (.str "lower") j2 p4] p5, .Subscript (.Name ("step" : Str) p6) (.Constant (.int 1) j3 p7) p8, .Subscript (.Name ("step" : Str) p9) (.Constant (.int 2) j4 p10) p11] x1 p12) :
    wpAny (model prog w) A (call (.ref f) [.ref t]) (KeyPure (kyD st) s) (fun _ _ => False) s := by
  obtain ⟨p1, p2, p3, p4, p5, p6, p7, p8, p9, p10, p11, p12, j1, j2, j3, j4, x1, rfl⟩ := hb
  refine wpAny_call (PySem.W.kla_callFunE hroom hf rfl hco hgen rfl hcr ?_)
  rw [hbind]
  refine wpAny_pure (wpAny_newFunctionEnv hcell (fun y hy => by rw [List.mem_singleton.mp hy]; exact hl) (fun h₁ hns hsb => ⟨lim.fresh _ hsb, ?_⟩) hk)
  have kp : ∀ b o, s.heap.get? b = some o → h₁.get? b = some o := fun b o e => hsb.extBut b o (Nat.ne_of_lt (Heap.lt_size e)) (Heap.get?_push_of_some _ e)
  have ht' : IsTup h₁ t #[.str (kd st.1) t1, .int st.2.1 t2, .int st.2.2 t3] := (show Heap.IsTuple s.heap t _ from ht).at fun o e => kp t o e
  show codeAny _ _ (.expr _ (PySem.W.envX qual scope s.heap.objs.size f (.ref c') cl)) _ _
  refine PySem.W.kla_codeExpr (wpAny_mono (lam_eval (E := fun _ _ => False) (st := st) (t1 := t1) (t2 := t2) (t3 := t3) (s := { s with heap := h₁, toks := s.toks + [(("step" : Str), Value.ref t)].length }) (m := fun x => [(("step" : Str), Value.ref t)].reverse.lookup x) hk hl hns rfl ht') (fun v s' hq => ?_) fun _ _ h => False.elim h)
  obtain ⟨h', tk, rfl, h2, h3⟩ := hq
  exact ⟨h', tk, rfl, fun b o e => h2 b o (kp b o e), h3⟩
end
/-- a table with one more code object: what is told of the heap then -/
theorem tbl_more {T : List (Addr × Str)} {H : Hp} {P c : Addr} {q : Str} {ps : Array Value} (pos : Pos) (hT : LamX.Tabs T H) (hP : H P = some (.tbl ps)) (nc : H c = none) (tr : TriplesOk ps.toList) (only : ∀ p ∈ T, p.1 = P → p.2 = q) (mine : (P, q) ∈ T) :
    ∃ H1 : Hp, H1 = upd (upd H P (.tbl (ps ++ #[rawInt pos.line, rawInt pos.col, .ref c]))) c (LamX.CodeO c q) ∧ LamX.ExtN H H1 ∧ (∀ b, H1 b = none → H b = none) ∧ LamX.Tabs T H1 := by
  have nPc : P ≠ c := ne_of_none hP nc
  have old : ∀ b, b ≠ P → H b ≠ none → upd (upd H P (.tbl (ps ++ #[rawInt pos.line, rawInt pos.col, .ref c]))) c (LamX.CodeO c q) b = H b := fun b bP bn => by
    have bc : b ≠ c := fun z => bn (z ▸ nc)
    rw [upd_ne bc, upd_ne bP]
  have ext : LamX.ExtN H (upd (upd H P (.tbl (ps ++ #[rawInt pos.line, rawInt pos.col, .ref c]))) c (LamX.CodeO c q)) := fun b o e plain => by
    have bP : b ≠ P := fun z => plain ps (by rw [z, hP] at e; exact (Option.some.inj e).symm)
    exact (old b bP fun z => by rw [z] at e; cases e).trans e
  refine ⟨_, rfl, ext, fun b e => NdefX.upd_none (NdefX.upd_none e), fun p hp => ?_⟩
  by_cases eq : p.1 = P
  · rw [eq, only p hp eq]
    have here : upd (upd H P (.tbl (ps ++ #[rawInt pos.line, rawInt pos.col, .ref c]))) c (LamX.CodeO c q) P = some (.tbl (ps ++ #[rawInt pos.line, rawInt pos.col, .ref c])) := (upd_ne nPc).trans upd_same
    have asL : (ps ++ #[rawInt pos.line, rawInt pos.col, Value.ref c]).toList = ps.toList ++ [rawInt pos.line, rawInt pos.col, .ref c] := by simp
    obtain ⟨ps0, k0, _, k2⟩ := hT _ mine
    cases Option.some.inj (hP.symm.trans k0)
    refine ⟨_, here, ?_, fun at_ cv found => ?_⟩
    · rw [asL]
      exact TriplesOk_snoc _ _ _ _ tr
    · rw [asL] at found
      cases LamX.among_app _ tr found with
      | inl z =>
        have ⟨c0, z1, z2⟩ := k2 at_ cv z
        exact ⟨c0, z1, ext _ _ z2 LamX.codeO_ne⟩
      | inr z => exact ⟨c, z, upd_same⟩
  · have ⟨ps0, k0, k1, k2⟩ := hT p hp
    refine ⟨ps0, (old _ eq fun z => by rw [z] at k0; cases k0).trans k0, k1, fun at_ cv found => ?_⟩
    have ⟨c0, z1, z2⟩ := k2 at_ cv found
    exact ⟨c0, z1, ext _ _ z2 LamX.codeO_ne⟩
section
variable {X : Cx} {pins : List (Addr × Obj)} {σ : L2.St} {H : Hp} {s : Shared} {T : List (Addr × Str)} {c P : Addr} {params : Arguments} {body : Expr} {scope : Scope}
/-- what stands when the lambda is made: its object at f, its code object's record, and nothing gone -/
def Made (X : Cx) (pins : List (Addr × Obj)) (σ : L2.St) (H : Hp) (T : List (Addr × Str)) (params : Arguments) (body : Expr) (scope : Scope) (f : Addr) (s' : Shared) : Prop :=
  ∃ (c' : Addr) (pm ctv : Value) (H1 : Hp), Inv X pins σ H1 s' ∧ LamX.ExtN H H1 ∧ (∀ b, H1 b = none → H b = none) ∧ LamX.Tabs T H1 ∧ s'.heap.CodeRec (.ref c') (X.env.qual ++ "<lambda>") ∧
    s'.heap.get? f = some (PySem.W.kla_obj "<lambda>" (X.env.qual ++ "<lambda>") params body scope (cloFrom X.env.cells scope.names []) pm c' ctv)
theorem lam_makeM {pos : Pos} {E : Value → Shared → Prop} {Q : Value → Shared → Prop} (I : Inv X pins σ H s) (TB : LamX.TabB X.base X.mg c P) (hcode : X.env.code = .ref c)
    (mine : (P, X.env.qual ++ "<lambda>") ∈ T) (only : ∀ p ∈ T, p.1 = P → p.2 = X.env.qual ++ "<lambda>") (hT : LamX.Tabs T H) (hdef : defaultsOf params X.env = ([], [])) (hfree : ∀ y ∈ scope.names, y.2 = .free → ∃ c, X.env.cells.lookup y.1 = some c)
    (h : ∀ f s', Made X pins σ H T params body scope f s' → Q (.ref f) s') : wpAny (model X.prog X.w) X.A (eval (.Lambda params body scope pos) X.env) Q E s := by
  have ⟨ps, tP, tr, tell⟩ := hT _ mine
  have laid : s.heap.get? P = some (PySem.W.tabObj ps) := I.hok P _ tP
  have glob := I.mod.glob.keeps I.bk
  have head := TB.code.keeps I.bk
  have blt := TB.bm.keeps I.bk
  apply PySem.W.kla_eval hdef
  cases found : codeAmong pos ps.toList with
  | some cv =>
    have ⟨c', ec, known⟩ := tell pos cv found
    subst ec
    apply PySem.W.kla_makeFunctionHit (closure_ok hfree) I.ok.glob glob hcode head laid tr found blt
    intro ctv g n kp _
    have J : Inv X pins σ H { s with heap := g.push (PySem.W.kla_obj "<lambda>" (X.env.qual ++ "<lambda>") params body scope (cloFrom X.env.cells scope.names []) ((X.mg "__name__").getD .none) c' ctv), toks := n } := I.kept (t' := n) fun b o e => Heap.get?_push_of_some _ (kp b o e)
    exact h _ _ ⟨c', _, ctv, H, J, LamX.ExtN.refl H, fun _ e => e, hT, NdefX.codeO_at J.hok known, Heap.get?_push_size _ rfl⟩
  | none =>
    apply PySem.W.kla_makeFunction (closure_ok hfree) I.ok.glob glob hcode head laid tr found TB.gP blt
    intro c' ctv g n kp ge _ rec tab
    obtain ⟨_, oc, vs, t, e0, g1, g2, g3⟩ := rec
    cases e0
    obtain ⟨H1, e1, k1, k2, k3⟩ := tbl_more pos hT tP (I.hok.fresh ge) tr only mine
    have J := LamX.inv_table (h' := g.push (PySem.W.kla_obj "<lambda>" (X.env.qual ++ "<lambda>") params body scope (cloFrom X.env.cells scope.names []) ((X.mg "__name__").getD .none) c' ctv)) (t' := n) (q := X.env.qual ++ "<lambda>") (c := c') I tP
      (fun b o ne e => Heap.get?_push_of_some _ (kp b o ne e)) (Heap.get?_push_of_some _ tab) ge ⟨oc, vs, t, Heap.get?_push_of_some _ g1, g2, g3⟩
    rw [← e1] at J
    exact h _ _ ⟨c', _, ctv, H1, J, k1, k2, k3, ⟨c', oc, vs, t, rfl, Heap.get?_push_of_some _ g1, g2, g3⟩, Heap.get?_push_size _ rfl⟩
end
/-- x is the step st -/
def StO (H : Hp) (x : V) (st : Stp) : Prop := ∃ t, x = .ref t ∧ H t = some (.tup [.str (kd st.1), .int st.2.1, .int st.2.2])
def tSortLam (T : List (Addr × Str)) (ta : TE) : TE := fun σ H Q => ta σ H fun x H1 => ∃ (l : Addr) (zs : List (V × Stp)), x = .ref l ∧ H1 l = some (.lst (zs.map Prod.fst)) ∧ (∀ z ∈ zs, StO H1 z.1 z.2) ∧ LamX.Tabs T H1 ∧ zs.length ≤ 100000 ∧
  ∀ (H2 : Hp) (zs' : List (V × Stp)) (p : Addr), LamX.ExtN H1 H2 → (∀ b, H2 b = none → H1 b = none) → LamX.Tabs T H2 → zs'.Perm zs → H2 p = none → Q (.ref p) (upd H2 p (.lst (zs'.map Prod.fst)))
theorem each_zip {zs : List (V × Stp)} : ∀ {vs : List Value}, Vals (zs.map Prod.fst) vs → EachIs (fun v (z : V × Stp) => RelV z.1 v) vs zs := by
  induction zs with
  | nil =>
    intro vs h
    cases h
    exact .nil
  | cons z zs ih =>
    intro vs h
    cases h with
    | cons h1 h2 => exact .cons h1 (ih h2)
theorem zip_each {zs : List (V × Stp)} : ∀ {vs : List Value}, EachIs (fun v (z : V × Stp) => RelV z.1 v) vs zs → Vals (zs.map Prod.fst) vs := by
  induction zs with
  | nil =>
    intro vs h
    cases h
    exact .nil
  | cons z zs ih =>
    intro vs h
    cases h with
    | cons h1 h2 => exact .cons h1 (ih h2)
theorem pe_sortLam {X : Cx} {T : List (Addr × Str)} {c P : Addr} {e : Expr} {ta : TE} {p pos lpos kpos : Pos} {params : Arguments} {body : Expr} {scope : Scope} {k : Nat} (hr : Room k X.A) (hcalm : X.calm = true) (TB : LamX.TabB X.base X.mg c P) (hcode : X.env.code = .ref c)
    (hm : (P, X.env.qual ++ "<lambda>") ∈ T) (hu : ∀ p ∈ T, p.1 = P → p.2 = X.env.qual ++ "<lambda>") (hdef : defaultsOf params X.env = ([], []))
    (hg : Gl X "sorted") (hmg : X.mg "sorted" = none) (ha : PE X e ta)
    (hbind : ∀ (t : Addr) (cl : List (Str × Addr)) (pm cv ctv : Value), bindArgs (PySem.W.kla_fn "<lambda>" (X.env.qual ++ "<lambda>") params body scope cl pm cv ctv) ⟨[.ref t], []⟩ = pure [(("step" : Str), .ref t)])
    (hcell : ∀ y ∈ scope.names, y.2 ≠ .cell ∧ y.2 ≠ .free) (hl : scope.names.lookup ("step" : Str) = some .local) (hk : scope.kind = .function) (hco : scope.isCoroutine = false) (hgen : scope.isGenerator = false)
    (hb : ∃ (p1 p2 p3 p4 p5 p6 p7 p8 p9 p10 p11 p12 : Pos) (j1 j2 j3 j4 x1 : Nat), body = .Tuple [.Compare (.Subscript (.Name ("step" : Str) p1) (.Constant (.int 0) j1 p2) p3) [.Eq] [.Constant (.str "lower") j2 p4] p5, .Subscript (.Name ("step" : Str) p6) (.Constant (.int 1) j3 p7) p8, .Subscript (.Name ("step" : Str) p9) (.Constant (.int 2) j4 p10) p11] x1 p12)
    (he : backTo pos (starEach [e] X.env) = (false, eval e X.env) :: backTo pos (starEach [] X.env) := by rfl) (hpl : (backTo pos (starEach [e] X.env)).any (·.1) = false := by rfl) :
    PE X (.Call (.Name "sorted" p) [e] [⟨some "key", .Lambda params body scope lpos, kpos⟩] pos) (tSortLam T ta) := by
  refine ⟨fun pins s σ H Q I h => ?_⟩
  refine wpAny_Call_Name_kw (ld_blt I hg hmg (u := .builtin "sorted") (by decide +kernel) ?_)
  refine PyProof.Rows.callWith_kw (e := e) (rest := []) ?_ he hpl (by rfl) (by rfl)
  rw [he]
  refine Calls.spliced_cons (thn (ha.run pins s σ H _ I h) fun u s1 ⟨x, H1, I1, r1, q1⟩ => Calls.spliced_nil ?_)
  obtain ⟨l, zs, rfl, hx, hz, hT, hlen, q⟩ := q1
  obtain rfl : u = Value.ref l := r1
  show wpAny _ _ (evalAll [do let v ← eval (.Lambda params body scope lpos) X.env; standAt pos; pure v]) _ _ s1
  refine wpAny_evalAll_cons (wpAny_bind (lam_makeM I1 TB hcode hm hu hT hdef (fun y hy z => absurd z (hcell y hy).2) fun f s2 made => ?_))
  obtain ⟨c', pm, ctv, H2, I2, eN, nn, T2, hrec, hf⟩ := made
  refine wpAny_bind (wpAny_standAt (wpAny_pure (wpAny_evalAll_nil ?_)))
  show wpAny _ _ (call (.builtin "sorted") [.ref l] [(Str.ofString "key", .ref f)]) _ _ s2
  have hx2 : H2 l = some (.lst (zs.map Prod.fst)) := eN _ _ hx fun ps z => by cases z
  obtain ⟨its, rv, pl, hsz⟩ := I2.list (SqL.of (K := X.K) hx2)
  have hroom := hr.depth
  have hun := hr.units
  have hlz : zs.length ≤ sizeLine := Nat.le_trans hlen (by decide)
  refine sorted_key_data (b := false) (vs := its) (bs := zs) (R := fun v (z : V × Stp) => RelV z.1 v) (fun z : V × Stp => kyD z.2) pl.isList (each_zip rv)
    (AllAlike.of fun _ _ => by simp [alike, alikeAll, kyD]) (Sortable.tuples fun _ => ⟨_, _, rfl⟩) hlz (fun z _ => ?_) (ksk_s1 _ _) (fun _ => ksk_l1 _ _) (fun _ => ksk_t1 _ _)
    (fun v z hrv hzm h' tk kp => ?_) fun out n h' tk kp _ hD hlo eo => ?_
  · have hd : (kyD z.2).depth = 1 := by simp [kyD, PyData.depth, PyData.depthAll]
    omega
  · obtain ⟨t, e1, e2⟩ := hz z hzm
    rw [e1] at hrv
    obtain rfl : v = Value.ref t := hrv
    obtain ⟨ts, rt, pt, _⟩ := I2.tuple (SqT.of (K := X.K) (eN _ _ e2 fun ps z => by cases z))
    cases rt with
    | cons r1 rt =>
      cases rt with
      | cons r2 rt =>
        cases rt with
        | cons r3 rt =>
          cases rt
          obtain ⟨t1, rfl⟩ := r1
          obtain ⟨t2, rfl⟩ := r2
          obtain ⟨t3, rfl⟩ := r3
          obtain ⟨c2, oc, vs, tq, g1, g2, g3, g4⟩ := hrec
          exact lam_key (s := { s2 with heap := h', toks := tk }) (st := z.2) (t1 := t1) (t2 := t2) (t3 := t3) (A := X.A.in1.in1) hroom (kp _ _ hf) ⟨c2, oc, vs, tq, g1, kp _ _ g2, g3, g4⟩ (I2.nolimit.keeps kp)
            ((show Heap.IsTuple s2.heap t _ from pt).at fun o e => kp t o e) (hbind t _ _ _ _) (fun y hy => (hcell y hy).1) hl hk hco hgen hb
  · have hperm : (zs.mergeSort (dataLe false fun z : V × Stp => kyD z.2)).Perm zs := List.mergeSort_perm _ _
    have hfr : H2 (s2.heap.objs.size + 1) = none := I2.hok.fresh (Nat.le_succ _)
    refine ⟨.ref (s2.heap.objs.size + 1), _, I2.laid (t' := tk) (o := .lst ((zs.mergeSort (dataLe false fun z : V × Stp => kyD z.2)).map Prod.fst)) kp (Nat.le_succ _) ?_, rfl, q H2 _ _ eN nn T2 hperm hfr⟩
    refine ⟨?_, out, n, zip_each eo, hD⟩
    rw [List.length_map, hperm.length_eq]
    exact hlz
end

/-! ## enumerate, zip, sorted with the lambda: on data -/
def enD (ds : List PyData) : List PyData := ds.mapIdx fun i d => .tuple [.int (i : Nat), d]
def zpD (ds es : List PyData) : List PyData := List.zipWith (fun d e => .tuple [d, e]) ds es
theorem enD_len (ds : List PyData) : (enD ds).length = ds.length := List.length_mapIdx
theorem enD_get {ds : List PyData} {i : Nat} {d : PyData} (h : (enD ds)[i]? = some d) : ∃ e, ds[i]? = some e ∧ d = .tuple [.int (i : Nat), e] := by
  unfold enD at h
  rw [List.getElem?_mapIdx] at h
  cases q : ds[i]? with
  | none =>
    rw [q] at h
    cases h
  | some e =>
    rw [q] at h
    exact ⟨e, rfl, (Option.some.inj h).symm⟩
theorem zpD_get {ds es : List PyData} {i : Nat} {d : PyData} (h : (zpD ds es)[i]? = some d) : ∃ x y, ds[i]? = some x ∧ es[i]? = some y ∧ d = .tuple [x, y] := by
  unfold zpD at h
  rw [List.getElem?_zipWith] at h
  cases q : ds[i]? with
  | none =>
    rw [q] at h
    simp at h
  | some x =>
    cases q2 : es[i]? with
    | none =>
      rw [q, q2] at h
      simp at h
    | some y =>
      rw [q, q2] at h
      exact ⟨x, y, rfl, rfl, (Option.some.inj h).symm⟩
section
variable {W : Wd} {Γ : Gm} {P : PyData → Prop} {PL : List PyData → Prop}
theorem eit_enumT {tr : TA} (h : EvA W tr Γ fun as => ∃ ds, as = [.tuple ds] ∧ lfAll ds = true ∧ PL (enD ds)) : EvIT W (iEnumT W.K tr) Γ PL := fun σ H e am Q q =>
  h σ H e am _ fun vs as H1 s1 a1 d1 h1 => by
    obtain ⟨ds, rfl, hl, h2⟩ := h1
    cases d1 with
    | cons k1 k2 =>
      cases k2
      cases k1 with
      | tup k1 k2 =>
        refine ⟨_, _, rfl, SqT.of k1, q _ H1 _ s1 a1 ?_ h2⟩
        unfold WalkT
        rw [enD_len, ← k2.length]
        refine ⟨fun i H' hi g => ⟨_, _, SqT.of (g.1 _ _ k1), List.getElem?_eq_getElem hi⟩, fun H' g => ⟨_, SqT.of (g.1 _ _ k1), rfl⟩, fun i H' v H'' hi g y => ?_⟩
        obtain ⟨T, x, rfl, hT, rfl, hx⟩ := y
        obtain ⟨d, hd, kx⟩ := (DtAll.tx g.1 _ _ hl k2).get' (hx _ (SqT.of (g.1 _ _ k1)))
        have ld := lfAll_iff.mp hl d (List.mem_of_getElem? hd)
        refine ⟨Sx.new hT, g.2.new hT, .tuple [.int (i : Nat), d], ?_, by simp [lf, lfAll, ld], .tup upd_same (.cons (.int _) (.cons (kx.up (Sx.new hT)) .nil))⟩
        unfold enD
        rw [List.getElem?_mapIdx, hd]
        rfl
theorem ei_zipM {tr : TA} (h : EvA W tr Γ fun as => ∃ ds es, as = [.tuple ds, .list es] ∧ ds.length = es.length ∧ PL (zpD ds es)) : EvI W (iZipM W.K tr) Γ PL := fun σ H e am R q =>
  h σ H e am _ fun vs as H1 s1 a1 d1 h1 => by
    obtain ⟨ds, es, rfl, hl, h2⟩ := h1
    cases d1 with
    | cons k1 k2 =>
      cases k2 with
      | cons j1 j2 =>
        cases j2
        cases k1 with
        | tup k1 k2 =>
          cases j1 with
          | lst n1 j1 j2 =>
            refine ⟨_, _, _, _, rfl, SqT.of k1, SqL.of j1, q _ H1 _ s1 a1 ?_ h2⟩
            have kT : ∀ {H'}, Sx W H1 H' → SqT W.K H' _ _ := fun s => SqT.of (s.kp _ _ k1 (.inl ⟨_, rfl⟩))
            have kL : ∀ {H'}, Sx W H1 H' → SqL W.K H' _ _ := fun s => SqL.of (s.kp _ _ j1 (.inr ⟨n1, fun ps z => by cases z⟩))
            have e1 := k2.length
            have e2 := j2.length
            have ez : (zpD ds es).length = ds.length := by
              unfold zpD
              rw [List.length_zipWith]
              omega
            unfold WalkD
            rw [ez]
            refine ⟨fun i H' hi g => ⟨_, _, _, _, kT g.1, kL g.1, List.getElem?_eq_getElem (show i < _ by omega), List.getElem?_eq_getElem (show i < _ by omega)⟩, fun H' g => ⟨_, _, kT g.1, kL g.1, e1, by omega⟩, fun i H' v H'' hi g y => ?_⟩
            obtain ⟨T, x, z, rfl, hT, rfl, hx, hz⟩ := y
            obtain ⟨d, hd, kx⟩ := (k2.up g.1).get' (hx _ (kT g.1))
            obtain ⟨d', hd', kz⟩ := (j2.up g.1).get' (hz _ (kL g.1))
            refine ⟨Sx.new hT, g.2.new hT, .tuple [d, d'], ?_, .tup upd_same (.cons (kx.up (Sx.new hT)) (.cons (kz.up (Sx.new hT)) .nil))⟩
            unfold zpD
            rw [List.getElem?_zipWith, hd, hd']
theorem stO_of {H : Hp} {v : V} {st : Stp} (h : Dt W H v (dS st)) : StO H v st := by
  cases h with
  | tup h1 h2 =>
    cases h2 with
    | cons a1 h2 =>
      cases h2 with
      | cons a2 h2 =>
        cases h2 with
        | cons a3 h2 =>
          cases h2
          cases a1
          cases a2
          cases a3
          exact ⟨_, rfl, h1⟩
theorem stO_zip {H : Hp} : ∀ {xs : List V} {L : List Stp}, DtAll W H xs (dSs L) → ∀ z ∈ xs.zip L, StO H z.1 z.2
  | [], _, _, z, hz => by simp at hz
  | x :: xs, [], h, z, hz => by simp at hz
  | x :: xs, st :: L, h, z, hz => by
    cases h with
    | cons h1 h2 =>
      rcases List.mem_cons.mp hz with e | hz
      · rw [e]
        exact stO_of h1
      · exact stO_zip h2 z hz
theorem dt_stO {H : Hp} : ∀ {zs : List (V × Stp)}, (∀ z ∈ zs, StO H z.1 z.2) → DtAll W H (zs.map Prod.fst) (dSs (zs.map Prod.snd))
  | [], _ => .nil
  | z :: zs, h => by
    obtain ⟨t, e1, e2⟩ := h z (.head _)
    refine .cons ?_ (dt_stO fun y hy => h y (.tail _ hy))
    rw [e1]
    exact .tup e2 (.cons (.str _) (.cons (.int _) (.cons (.int _) .nil)))
theorem el_sortLam {ta : TE} (h : Ev W ta Γ fun x => ∃ L : List Stp, x = .list (dSs L) ∧ L.length ≤ 100000 ∧ ∀ L' : List Stp, L'.Perm L → PL (dSs L')) : EvL W (tSortLam W.T ta) Γ PL := fun σ H e am Q q =>
  h σ H e am _ fun vx x H1 s1 a1 d1 h1 => by
    obtain ⟨L, rfl, hlen, h2⟩ := h1
    cases d1 with
    | @lst a xs _ n1 k1 k2 =>
      have e1 : xs.length = L.length := by
        rw [k2.length]
        exact List.length_map ..
      have ef : (xs.zip L).map Prod.fst = xs := List.map_fst_zip (by omega)
      have es : (xs.zip L).map Prod.snd = L := List.map_snd_zip (by omega)
      refine ⟨a, xs.zip L, rfl, by rw [ef]; exact k1, stO_zip k2, a1.tab, by rw [List.length_zip]; omega, fun H2 zs' p eN nn T2 hp hn => ?_⟩
      have s2 : Sx W H1 H2 := ⟨fun b o hb kp => eN b o hb fun ps z => by
        rcases kp with ⟨ys, z2⟩ | ⟨_, z2⟩
        · rw [z2] at z
          cases z
        · exact z2 ps z, nn⟩
      have a2 : Am W H2 := ⟨T2, fun r er => by
        obtain ⟨b1, b2, hh, k, b3, b4⟩ := a1.str r er
        exact ⟨b1, (eN _ _ b2 fun ps z => by cases z), hh, k, (eN _ _ b3 fun ps z => by cases z), b4⟩⟩
      have pe : (zs'.map Prod.snd).Perm L := by
        rw [← es]
        exact hp.map _
      have dz : DtAll W H2 (zs'.map Prod.fst) (dSs (zs'.map Prod.snd)) := dt_stO fun z hz => by
        obtain ⟨t, z1, z2⟩ := stO_zip k2 z (hp.mem_iff.mp hz)
        exact ⟨t, z1, eN _ _ z2 fun ps z => by cases z⟩
      exact q p _ _ _ ((s1.trans s2).trans (Sx.new hn)) (a2.new hn) ((s1.trans s2).fr _ hn) upd_same (dz.up (Sx.new hn)) (h2 _ pe)
end
theorem ro_catL {W : Wd} {P : PyData → Prop} {ds es : List PyData} (hz : ds.length + es.length ≤ 100000) (h : P (.list (ds ++ es))) : RO W rCat (.list ds) (.list es) P := fun vx vy H d1 d2 am Q q =>
  ro_cat (PL := fun ds => P (.list ds)) hz h vx vy H d1 d2 am Q fun p xs es H2 s a f l k hP => q _ _ H2 s a (.lst (fresh_p (H2 := H2) am f) l k) hP
theorem so_dropN {W : Wd} {B : Hp} {ts : TS} {Γ : Gm} {O : Ow} {N : Gm → Ow → Prop} {R : PyData → Prop} (k : Nat) (h : So W B ts Γ O (fun Γ' O' => N Γ' (O'.eraseIdx k)) R) : So W B ts Γ O N R := fun as σ H e D hn hr => h as σ H e D (fun as' σ' H' Γ' O' e' t hN => hn (as'.eraseIdx k) σ' H' Γ' (O'.eraseIdx k) (e'.drop k) t hN) hr
/-! a def whose code object is known -/
structure FunC (K : PySem.W.Frag) (x qual : Str) (st : Stmt) (f : Addr) (fd : FuncData) (c : Addr) : Prop where
  ex : ∃ (oc : Value) (od : Option Addr) (kV doc pm : Value) (an : Option Addr) (ct : Value) (osl : Array (Option Value)),
    fd = PySem.W.fnOf x qual (defArgs st) (defBody st) (defScope st) .none kV doc pm an (.ref c) ct ∧ K.lookup f = some ⟨oc, od, .func fd, osl⟩ ∧ PySem.W.codeIn K (.ref c) qual = true
  kp : PySem.W.keepIn K (.ref f) = true
theorem okCc {P : Program} {w : World} {K : PySem.W.Frag} {mg : Str → Option Value} {base : Heap} {x qual : Str} {st : Stmt} {f c : Addr} {fd : FuncData} {N ps : List Str} {k : Nat} {T : List (Addr × Str)} {C : List PyData → (PyData → Prop) → Prop} (F : FunC K x qual st f fd c) (S : FnScope N ps (defScope st)) (len : ∀ ds P, C ds P → ds.length = ps.length)
    (hbody : ∀ (W : Wd), W.K = K → W.T = T → ∀ (A : Around) (outer : List PySem.Env) (s : Shared) (H : Hp) (E : XK), Room k (A.deeper (envOfC qual (defScope st) s.heap.objs.size f (.ref c))) →
      ∃ t, PSs (cxOf CX0 P w K mg base N qual (defScope st) f (.ref c) A outer s H E).nox (defBody st) t ∧ ∀ ds P, C ds P → Ss W t (startG N.length ds) (fun _ => P .none) P) : FnOk P w K mg base CX0 (k + 1) f fd ps (spC K T C) := by
  obtain ⟨oc, od, kV, doc, pm, an, ct, osl, rfl, lk, hcd⟩ := F.ex
  refine fn_of lk hcd S (fun vs H Q E h => ?_) fun A outer s H vs Q E hr h => ?_
  · obtain ⟨W, ds, P, _, _, _, hd, hc, _⟩ := h
    rw [hd.length]
    exact len ds P hc
  · obtain ⟨W, ds, P, eK, eT, am, hd, hc, q⟩ := h
    obtain ⟨t, h1, h2⟩ := hbody W eK eT A outer s H E hr
    exact ⟨t, h1.nox, h2 ds P hc _ H (env_start hd) am _ (fun σ' H' Γ' s2 a2 _ p => q .non .none H' s2 a2 .non p) fun v d H' s2 a2 d2 p => q v d H' s2 a2 d2 p⟩

/-! ## for the law's own defs -/
/-- a list or a tuple is walked -/
def iTL (K : PySem.W.Frag) (te : TE) : TI := fun σ H R => iList K te σ H R ∨ iTup K te σ H R
theorem pi_TL {X : Cx} {tg l : Expr} {tl : TE} (hl : PE X l tl) : PI X tg l (iTL X.K tl) := ⟨fun pins s σ H R I h => h.elim (fun h => (pi_list hl).run pins s σ H R I h) fun h => (pi_tup hl).run pins s σ H R I h⟩
section
variable {W : Wd} {Γ : Gm} {te : TE} {P : PyData → Prop} {PL : List PyData → Prop}
theorem ei_TLl (h : Ev W te Γ fun x => ∃ ds, x = .list ds ∧ PL ds) : EvI W (iTL W.K te) Γ PL := fun σ H e am R q => .inl (ei_list h σ H e am R q)
theorem ei_TLt (h : Ev W te Γ fun x => ∃ ds, x = .tuple ds ∧ PL ds) : EvI W (iTL W.K te) Γ PL := fun σ H e am R q => .inr (ei_tup h σ H e am R q)
theorem ev_lstL {tr : TA} (h : EvA W tr Γ fun ds => ds.length ≤ 100000 ∧ P (.list ds)) : Ev W (tLst tr) Γ P := EvL.ev (el_lst h)
theorem ev_cbL {rc : List V → Hp → VK → Prop} {tr : TA} (h : EvA W tr Γ fun ds => RCL W rc ds fun es => P (.list es)) : Ev W (tCB rc tr) Γ P := EvL.ev (el_cb h)
theorem ev_slL {tl th : TO} (h : Ev W te Γ fun x => ∃ ds, x = .list ds ∧ EvO W tl Γ fun lo => EvO W th Γ fun hi => P (.list (cutD ds lo hi))) : Ev W (tSl (rSlL W.K) te tl th) Γ P := EvL.ev (el_slL h)
theorem rcl_sortedI {ns : List Int} (h : ∀ ns' : List Int, ns'.Perm ns → ns'.Pairwise (· ≤ ·) → PL (ns'.map .int)) : RCL W (rSortedI W.K) [.list (ns.map .int)] PL := fun vs H hd am Q q => by
  cases hd with
  | cons h1 h2 =>
    cases h2
    cases h1 with
    | lst _ k1 k2 =>
      have e := ints_dt k2
      subst e
      exact ⟨_, ns, rfl, SqL.of k1, fun ns' p h1 h2 hp => q p _ _ _ (Sx.new hp) (am.new hp) hp upd_same (dt_ints ns') (h ns' h1 h2)⟩
end
section
variable {W : Wd} {B : Hp} {Γ : Gm} {O : Ow} {te : TE} {N : Gm → Ow → Prop} {R : PyData → Prop}
/-- a slot with a list of one's own gets a new one -/
theorem so_renew {k i : Nat} {ds : List PyData} (hk : O[k]? = some (i, ds)) (hi : ((O.eraseIdx k).all fun p => p.1 != i) = true) (hb : Nat.blt i Γ.length = true) (h : EvL W te (mix Γ O) fun es => lfAll es = true ∧ N (Γ.set i none) ((i, es) :: O.eraseIdx k)) :
    So W B (tAsg te (gName i)) Γ O N R := fun as σ H e D hn hr =>
  h σ H e.env e.am _ fun p xs es H1 s1 a1 f1 l1 d1 ⟨hl, h1⟩ => hn (p :: as.eraseIdx k) _ H1 _ _ ((e.drop k).new hi (Nat.le_of_ble_eq_true hb) s1 a1 f1 l1 d1 hl) s1.tx h1
end
/-- a def that gives a new list -/
def SsL (W : Wd) (ts : TS) (Γ : Gm) (PL : List PyData → Prop) : Prop := ∀ σ H, Env W Γ σ H → Am W H → ∀ D : Ends, (∀ p xs ds H', Sx W H H' → Am W H' → H p = none → H' p = some (.lst xs) → DtAll W H' xs ds → PL ds → D.rt (.ref p) H') → ts D σ H
theorem ssL_ret {W : Wd} {te : TE} {Γ : Gm} {PL : List PyData → Prop} (h : EvL W te Γ PL) : SsL W (tRet te) Γ PL := fun σ H e am D q => h σ H e am _ fun p xs ds H' s a f l d k => q p xs ds H' s a f l d k
section
variable {P : Program} {w : World} {K : PySem.W.Frag} {mg : Str → Option Value} {base : Heap}
theorem okL {x qual : Str} {st : Stmt} {f : Addr} {fd : FuncData} {N ps : List Str} {k : Nat} {T : List (Addr × Str)} {C : List PyData → (List PyData → Prop) → Prop} (F : Fun K x qual st f fd) (S : FnScope N ps (defScope st)) (len : ∀ ds P, C ds P → ds.length = ps.length)
    (hbody : ∀ (W : Wd), W.K = K → W.T = T → ∀ (cdv : Value) (A : Around) (outer : List PySem.Env) (s : Shared) (H : Hp) (E : XK), Room k (A.deeper (envOfC qual (defScope st) s.heap.objs.size f cdv)) →
      ∃ t, PSs (cxOf CX0 P w K mg base N qual (defScope st) f cdv A outer s H E).nox (defBody st) t ∧ ∀ ds P, C ds P → SsL W t (startG N.length ds) P) : FnOk P w K mg base CX0 (k + 1) f fd ps (spL K T C) := by
  refine F.ok S (fun vs H Q E h => ?_) (fun cdv A outer s H vs Q E hr h => ?_)
  · obtain ⟨W, ds, P, _, _, _, hd, hc, _⟩ := h
    rw [hd.length]
    exact len ds P hc
  · obtain ⟨W, ds, P, eK, eT, am, hd, hc, q⟩ := h
    obtain ⟨t, h1, h2⟩ := hbody W eK eT cdv A outer s H E hr
    exact ⟨t, h1, h2 ds P hc _ H (env_start hd) am _ fun p xs es H' s2 a2 f2 l2 d2 k => q p xs es H' s2 a2 f2 l2 d2 k⟩
end

/-! ## reversed copies, own lists written by index, two new lists at once -/
section
variable {W : Wd} {B : Hp} {Γ : Gm} {O : Ow} {as : List Addr} {σ : L2.St} {H H' : Hp} {te : TE} {P : PyData → Prop}
theorem DtAll.rev : ∀ {vs : List V} {ds : List PyData}, DtAll W H vs ds → DtAll W H vs.reverse ds.reverse
  | _, [], h => by cases h; exact .nil
  | _, d :: ds, h => by
    cases h with
    | cons h1 h2 =>
      rw [List.reverse_cons, List.reverse_cons]
      exact (DtAll.rev h2).append (.cons h1 .nil)
theorem ev_revL (h : Ev W te Γ fun x => ∃ ds, x = .list ds ∧ P (.list ds.reverse)) : Ev W (tRevL W.K te) Γ P := fun σ H e am Q q =>
  h σ H e am _ fun vx x H1 s1 a1 d1 h1 => by
    obtain ⟨ds, rfl, h2⟩ := h1
    cases d1 with
    | lst _ k1 k2 => exact ⟨_, _, rfl, SqL.of k1, fun p hp => q _ _ _ (s1.trans (Sx.new hp)) (a1.new hp) (.lst (fresh_p (H2 := H1) a1 hp) upd_same (k2.rev.up (Sx.new hp))) h2⟩
theorem EnvO.add (e : EnvO W B Γ O as σ H) {i : Nat} {p : Addr} {xs : List V} {ds : List PyData} (hi : (O.all fun p => p.1 != i) = true) (hb : i < Γ.length) (hp : p ∉ as) (hB : B p = none) (hx : H p = some (.lst xs)) (hd : DtAll W H xs ds) (hl : lfAll ds = true) :
    EnvO W B (Γ.set i none) ((i, ds) :: O) (p :: as) (σ.set i (some (.ref p))) H := by
  refine ⟨e.sx, e.ab, e.am, by rw [List.length_cons, List.length_cons, e.len], List.nodup_cons.mpr ⟨hp, e.nd⟩, fun a ha => ?_, fun k j es h => ?_, by rw [List.length_set, List.length_set]; exact e.gl, fun j d' h => ?_⟩
  · rcases List.mem_cons.mp ha with z | z
    · rw [z]
      exact hB
    · exact e.fr a z
  · cases k with
    | zero =>
      cases h
      exact ⟨p, xs, rfl, List.getElem?_set_self (by rw [← e.gl]; exact hb), hx, hd, hl⟩
    | succ k =>
      obtain ⟨a, ys, h1, h2, h3, h4, h5⟩ := e.own k j es h
      have nj : i ≠ j := fun z => by
        have q := List.all_eq_true.mp hi _ (List.mem_of_getElem? (show O[k]? = some (j, es) from h))
        subst z
        simp at q
      exact ⟨a, ys, h1, by rw [List.getElem?_set_ne nj]; exact h2, h3, h4, h5⟩
  · by_cases c : i = j
    · subst c
      by_cases hlt : i < Γ.length
      · rw [List.getElem?_set_self hlt] at h
        cases h
      · rw [List.getElem?_eq_none (by rw [List.length_set]; omega)] at h
        cases h
    · rw [List.getElem?_set_ne c] at h
      obtain ⟨w, h1, h2, h3⟩ := e.get j d' h
      exact ⟨w, by rw [List.getElem?_set_ne c]; exact h1, h2, h3⟩
/-- an address unknown is none of one's own -/
theorem EnvO.notin (e : EnvO W B Γ O as σ H) {p : Addr} (hp : H p = none) : p ∉ as := fun hm => by
  obtain ⟨k, hk⟩ := List.mem_iff_getElem?.mp hm
  have hk2 : k < O.length := by
    rw [← e.len]
    exact (List.getElem?_eq_some_iff.mp hk).1
  obtain ⟨a, ys, h1, _, h3, _⟩ := e.own k _ _ (show O[k]? = some (O[k].1, O[k].2) from List.getElem?_eq_getElem hk2)
  rw [hk] at h1
  cases h1
  rw [hp] at h3
  cases h3
end
/-- targets that write to lists of one's own -/
def EvGm (W : Wd) (B : Hp) (g : TG) (d : PyData) (Γ : Gm) (O : Ow) (N : Gm → Ow → Prop) : Prop := ∀ v as σ H, Dt W H v d → lf d = true → EnvO W B Γ O as σ H → ∀ k : L2.St → Hp → Prop, (∀ as' σ' H' Γ' O', EnvO W B Γ' O' as' σ' H' → Tx H H' → N Γ' O' → k σ' H') → g v σ H k
def EvGsm (W : Wd) (B : Hp) (g : TGs) (ds : List PyData) (Γ : Gm) (O : Ow) (N : Gm → Ow → Prop) : Prop := ∀ us as σ H, DtAll W H us ds → lfAll ds = true → EnvO W B Γ O as σ H → ∀ k : L2.St → Hp → Prop, (∀ as' σ' H' Γ' O', EnvO W B Γ' O' as' σ' H' → Tx H H' → N Γ' O' → k σ' H') → g us σ H k
section
variable {W : Wd} {B : Hp} {Γ : Gm} {O : Ow} {te ti : TE} {N : Gm → Ow → Prop} {R : PyData → Prop}
theorem egm_nil (h : N Γ O) : EvGsm W B gNil [] Γ O N := fun us as σ H hd _ e k q => by
  cases hd
  exact ⟨rfl, q _ _ _ _ _ e (Tx.refl H) h⟩
theorem egm_cons {g : TG} {gs : TGs} {d : PyData} {ds : List PyData} (h : EvGm W B g d Γ O fun Γ' O' => EvGsm W B gs ds Γ' O' N) : EvGsm W B (gCons g gs) (d :: ds) Γ O N := fun us as σ H hd hl e k q => by
  rw [lfAll, Bool.and_eq_true] at hl
  cases hd with
  | cons h1 h2 => exact ⟨_, _, rfl, h _ as σ H h1 hl.1 e _ fun as' σ' H' Γ' O' e' t h3 => h3 _ as' σ' H' (DtAll.tx t ds _ hl.2 h2) hl.2 e' k fun as2 σ2 H2 Γ2 O2 e2 t2 h4 => q as2 σ2 H2 Γ2 O2 e2 (t.trans t2) h4⟩
theorem egm_tup {n : Nat} {gs : TGs} {ds : List PyData} (hn : ds.length = n) (h : EvGsm W B gs ds Γ O N) : EvGm W B (gTup W.K n gs) (.tuple ds) Γ O N := fun v as σ H hd hl e k q => by
  rw [lf] at hl
  cases hd with
  | tup h1 h2 => exact ⟨_, _, rfl, SqT.of h1, h2.length.trans hn, h _ as σ H h2 hl e k q⟩
theorem lfAll_set {ds : List PyData} {d : PyData} (h : lfAll ds = true) (hd : lf d = true) (j : Nat) : lfAll (ds.set j d) = true := lfAll_iff.mpr fun x hx => by
  rcases List.mem_or_eq_of_mem_set hx with z | z
  · exact lfAll_iff.mp h x z
  · rw [z]
    exact hd
theorem egm_sub {k i : Nat} {ds : List PyData} {d : PyData} (hk : O[k]? = some (i, ds)) (h : Ev W ti (mix Γ O) fun dj => ∃ j : Nat, dj = .int (j : Int) ∧ j < ds.length ∧ N Γ (O.set k (i, ds.set j d))) : EvGm W B (gSub (tVar i) ti rSetL) d Γ O N := fun v as σ H hd hl e c q => by
  obtain ⟨a, xs, h1, h2, h3, h4, h5⟩ := e.own k i ds hk
  refine ⟨.ref a, h2, h σ H e.env e.am _ fun vj dj H1 s1 a1 d1 hj => ?_⟩
  obtain ⟨j, rfl, hj, hN⟩ := hj
  cases d1
  have e1 := e.up s1 a1
  obtain ⟨a', xs', k1, k2, k3, k4, k5⟩ := e1.own k i ds hk
  rw [h1] at k1
  cases k1
  refine ⟨a, xs', (j : Int), j, rfl, rfl, k3, ?_, q as σ _ _ _ (e1.mut hk h1 k3 (k4.set j (hd.up s1)) (lfAll_set k5 hl j)) (s1.tx.trans (Tx.mut k3)) hN⟩
  rw [k4.length]
  unfold ixN
  rw [if_pos (by omega), if_pos (by omega)]
  simp
theorem so_asgM {g : TG} (h : Ev W te (mix Γ O) fun d => lf d = true ∧ EvGm W B g d Γ O N) : So W B (tAsg te g) Γ O N R := fun as σ H e D hn hr =>
  h σ H e.env e.am _ fun v d H1 s1 a1 d1 ⟨hl, h1⟩ => h1 v as σ H1 d1 hl (e.up s1 a1) _ fun as' σ' H' Γ' O' e' t h2 => hn as' σ' H' Γ' O' e' (s1.tx.trans t) h2
end
/-! a row of assignments, then a return told of the heap -/
def Sz (W : Wd) (ts : TS) (Γ : Gm) (RR : Hp → V → Hp → Prop) : Prop := ∀ σ H, Env W Γ σ H → Am W H → ∀ D : Ends, (∀ v H', RR H v H' → D.rt v H') → ts D σ H
theorem sz_asg {W : Wd} {te : TE} {i : Nat} {ts : TS} {Γ : Gm} {RR : Hp → V → Hp → Prop} (mono : ∀ H H1 v H', Sx W H H1 → RR H1 v H' → RR H v H') (h : Ev W te Γ fun d => Sz W ts (Γ.set i (some d)) RR) : Sz W (tSeq (tAsg te (gName i)) ts) Γ RR := fun σ H e am D q =>
  h σ H e am _ fun v d H1 s1 a1 d1 h1 => h1 _ H1 ((e.up s1).set d1) a1 D fun v' H' r => q v' H' (mono H H1 v' H' s1 r)

local macro_rules | `(tactic| walk_at "ev") => `(tactic| first
  | ((with_reducible refine' ev_var ?h1 ?_); (case h1 => exact rfl))
  | (with_reducible refine ev_int ?_)
  | (with_reducible refine ev_str ?_)
  | (with_reducible refine ev_bl ?_)
  | (with_reducible refine ev_non ?_)
  | (with_reducible refine ev_op ?_)
  | (with_reducible refine ev_un ?_)
  | (with_reducible refine ev_isi ?_)
  | (with_reducible refine ev_cb ?_)
  | (with_reducible refine ev_call ?_)
  | (with_reducible refine ea_nil ?_)
  | (with_reducible refine ea_cons ?_)
  | (with_reducible refine ev_chain ?_)
  | (with_reducible refine ev_and ?_)
  | (with_reducible refine ev_or ?_)
  | (with_reducible refine ev_not ?_)
  | (with_reducible refine ev_if ?_)
  | (with_reducible refine ev_tup ?_)
  | (with_reducible refine ev_slT ?_)
  | (with_reducible refine el_lst ?_)
  | (with_reducible refine el_cb ?_)
  | (with_reducible refine el_slL ?_)
  | (with_reducible refine ev_opL ?_)
  | (with_reducible refine el_listRg ?_)
  | (with_reducible refine rcl_ListL ?_)
  | (with_reducible refine rcl_ListT ?_)
  | (with_reducible refine so_seq ?_)
  | (with_reducible refine so_next ?_)
  | (with_reducible refine so_ret ?_)
  | (with_reducible refine so_if ?_)
  | ((with_reducible refine' ego_name ?h1 ?h2 ?_); (case h1 => exact rfl); (case h2 => exact rfl))
  | ((with_reducible refine' ego_tup ?h1 ?_); (case h1 => exact rfl))
  | (with_reducible refine egso_cons ?_)
  | (with_reducible refine egso_nil ?_)
  | (with_reducible refine eo_none ?_)
  | (with_reducible refine eo_some ?_)
  | (with_reducible refine et_test ?_)
  | (with_reducible refine et_B ?_)
  | (with_reducible refine et_and ?_)
  | (with_reducible refine et_or ?_)
  | (with_reducible refine et_not ?_)
  | (with_reducible refine ro_add ?_)
  | (with_reducible refine ro_sub ?_)
  | (with_reducible refine ro_lt ?_)
  | (with_reducible refine ro_le ?_)
  | (with_reducible refine ro_gt ?_)
  | (with_reducible refine ro_ge ?_)
  | (with_reducible refine ro_eqI ?_)
  | (with_reducible refine ro_eqS ?_)
  | (with_reducible refine ro_neI ?_)
  | (with_reducible refine ro_neS ?_)
  | (with_reducible refine ro_is ?_)
  | (with_reducible refine ro_isnot ?_)
  | (with_reducible refine ru_neg ?_)
  | ((with_reducible refine' ro_ixT ?h1 ?_); (case h1 => exact rfl))
  | ((with_reducible refine' ro_ixL ?h1 ?_); (case h1 => exact rfl))
  | (with_reducible refine rc_LenL ?_)
  | (with_reducible refine rc_LenT ?_)
  | (with_reducible refine rc_Int ?_)
  | (with_reducible refine rc_Abs ?_)
  | (with_reducible refine rc_Max2 ?_)
  | (with_reducible refine rc_Min2 ?_)
  | (with_reducible refine rc_TupleL ?_)
  | (with_reducible refine ss_seq ?_)
  | (with_reducible refine ss_if ?_)
  | (with_reducible refine ss_ret ?_)
  | (with_reducible refine ss_asg ?_)
  | (with_reducible refine ss_next ?_)
  | ((with_reducible refine' eg_name ?h1 ?_); (case h1 => decide))
  | ((with_reducible refine' eg_tup ?h1 ?_); (case h1 => exact rfl))
  | ((with_reducible refine' eg_unl ?h1 ?_); (case h1 => exact rfl))
  | (with_reducible refine egs_cons ?_)
  | (with_reducible refine egs_nil ?_)
  | ((with_reducible show ∃ ds, PyData.tuple _ = PyData.tuple ds ∧ _); refine ⟨_, rfl, ?_⟩)
  | ((with_reducible show ∃ ds, PyData.list _ = PyData.list ds ∧ _); refine ⟨_, rfl, ?_⟩)
  | ((with_reducible show ∃ i, PyData.int _ = PyData.int i ∧ _); refine ⟨_, rfl, ?_⟩)
  | ((with_reducible show _ ≤ 100000 ∧ _); refine ⟨Nat.le_of_ble_eq_true rfl, ?_⟩))
local macro_rules | `(tactic| walk_at "evs") => `(tactic| repeat walk_at "ev")
local macro_rules | `(tactic| walk_at "ew") => `(tactic| first
  | walk_at "ev"
  | (with_reducible refine ev_lstL ?_)
  | (with_reducible refine ev_slL ?_))
local macro_rules | `(tactic| walk_at "ews") => `(tactic| repeat walk_at "ew")
/-! ## the defs' names: their statements, slots, parameters, levels -/
abbrev s_is_integer : Stmt := topS 4
abbrev N_is_integer : List Str := ["value"]
abbrev p_is_integer : List Str := ["value"]
abbrev L_is_integer : Nat := 1
abbrev M_is_integer : Nat := 0
abbrev s_is_event_time : Stmt := topS 9
abbrev N_is_event_time : List Str := ["event", "time"]
abbrev p_is_event_time : List Str := ["event", "time"]
abbrev L_is_event_time : Nat := 2
abbrev M_is_event_time : Nat := 1
abbrev s_is_free_row : Stmt := topS 10
abbrev N_is_free_row : List Str := ["value", "one"]
abbrev p_is_free_row : List Str := ["value"]
abbrev L_is_free_row : Nat := 3
abbrev M_is_free_row : Nat := 2
abbrev s_check_row : Stmt := topS 11
abbrev N_check_row : List Str := ["row", "name"]
abbrev p_check_row : List Str := ["row", "name"]
abbrev L_check_row : Nat := 4
abbrev M_check_row : Nat := 3
abbrev s_steps_in : Stmt := topS 12
abbrev N_steps_in : List Str := ["row", "found", "event", "time"]
abbrev p_steps_in : List Str := ["row"]
abbrev L_steps_in : Nat := 1
abbrev M_steps_in : Nat := 0
abbrev s_do_commute : Stmt := topS 13
abbrev N_do_commute : List Str := ["one", "other", "first", "second"]
abbrev p_do_commute : List Str := ["one", "other"]
abbrev L_do_commute : Nat := 1
abbrev M_do_commute : Nat := 0
abbrev s_layers_in : Stmt := topS 14
abbrev N_layers_in : List Str := ["steps", "levels", "at", "step", "ahead", "found", "level", "layer", "k", "own"]
abbrev p_layers_in : List Str := ["steps"]
abbrev L_layers_in : Nat := 5
abbrev M_layers_in : Nat := 4
abbrev s_is_stronger : Stmt := topS 16
abbrev N_is_stronger : List Str := ["one", "other"]
abbrev p_is_stronger : List Str := ["one", "other"]
abbrev L_is_stronger : Nat := 1
abbrev M_is_stronger : Nat := 0
abbrev s_makes_idle : Stmt := topS 17
abbrev N_makes_idle : List Str := ["steps", "index", "by", "step", "other", "between"]
abbrev p_makes_idle : List Str := ["steps", "index", "by"]
abbrev L_makes_idle : Nat := 2
abbrev M_makes_idle : Nat := 1
abbrev s_why_idle : Stmt := topS 18
abbrev N_why_idle : List Str := ["steps", "index", "by"]
abbrev p_why_idle : List Str := ["steps", "index"]
abbrev L_why_idle : Nat := 3
abbrev M_why_idle : Nat := 2
abbrev s_first_idle : Stmt := topS 19
abbrev N_first_idle : List Str := ["steps", "index", "by"]
abbrev p_first_idle : List Str := ["steps"]
abbrev L_first_idle : Nat := 4
abbrev M_first_idle : Nat := 3
abbrev s_reduction_of : Stmt := topS 20
abbrev N_reduction_of : List Str := ["steps", "left", "found", "pair", "at"]
abbrev p_reduction_of : List Str := ["steps"]
abbrev L_reduction_of : Nat := 5
abbrev M_reduction_of : Nat := 4
abbrev s_remaining_of : Stmt := topS 21
abbrev N_remaining_of : List Str := ["steps", "at"]
abbrev p_remaining_of : List Str := ["steps"]
abbrev L_remaining_of : Nat := 6
abbrev M_remaining_of : Nat := 5
abbrev s_layers_of_row : Stmt := topS 23
abbrev N_layers_of_row : List Str := ["row"]
abbrev p_layers_of_row : List Str := ["row"]
abbrev L_layers_of_row : Nat := 7
abbrev M_layers_of_row : Nat := 6
abbrev s_is_alike : Stmt := topS 24
abbrev N_is_alike : List Str := ["first", "second"]
abbrev p_is_alike : List Str := ["first", "second"]
abbrev L_is_alike : Nat := 8
abbrev M_is_alike : Nat := 7
abbrev s_check_rows : Stmt := topS 25
abbrev N_check_rows : List Str := ["first", "second"]
abbrev p_check_rows : List Str := ["first", "second"]
abbrev L_check_rows : Nat := 5
abbrev M_check_rows : Nat := 4
abbrev s_are_alike : Stmt := topS 26
abbrev N_are_alike : List Str := ["first", "second"]
abbrev p_are_alike : List Str := ["first", "second"]
abbrev L_are_alike : Nat := 9
abbrev M_are_alike : Nat := 8
abbrev s_kept_indexes : Stmt := topS 27
abbrev N_kept_indexes : List Str := ["row", "at"]
abbrev p_kept_indexes : List Str := ["row"]
abbrev L_kept_indexes : Nat := 6
abbrev M_kept_indexes : Nat := 5
abbrev s_shortest_of : Stmt := topS 28
abbrev N_shortest_of : List Str := ["row", "at"]
abbrev p_shortest_of : List Str := ["row"]
abbrev L_shortest_of : Nat := 7
abbrev M_shortest_of : Nat := 6
abbrev s_shortest : Stmt := topS 29
abbrev N_shortest : List Str := ["row"]
abbrev p_shortest : List Str := ["row"]
abbrev L_shortest : Nat := 8
abbrev M_shortest : Nat := 7
abbrev s_left_out : Stmt := topS 30
abbrev N_left_out : List Str := ["row", "kept", "at"]
abbrev p_left_out : List Str := ["row"]
abbrev L_left_out : Nat := 7
abbrev M_left_out : Nat := 6
abbrev s_law_stream : Stmt := topS 32
abbrev N_law_stream : List Str := ["_law_script"]
abbrev p_law_stream : List Str := ["_law_script"]
abbrev L_law_stream : Nat := 1
abbrev M_law_stream : Nat := 0
abbrev s_law_next : Stmt := topS 33
abbrev N_law_next : List Str := ["_law_stream_here", "_law_many", "_law_k", "_law_cell", "_law_digit"]
abbrev p_law_next : List Str := ["_law_stream_here", "_law_many"]
abbrev L_law_next : Nat := 1
abbrev M_law_next : Nat := 0
abbrev s_law_is_integer : Stmt := topS 34
abbrev N_law_is_integer : List Str := ["_law_actual"]
abbrev p_law_is_integer : List Str := ["_law_actual"]
abbrev L_law_is_integer : Nat := 1
abbrev M_law_is_integer : Nat := 0
abbrev s_law_news : Stmt := topS 35
abbrev N_law_news : List Str := ["_law_stream_here", "_law_events", "_law_most", "_law_row", "_law_k", "_law_news_here", "_law_pick"]
abbrev p_law_news : List Str := ["_law_stream_here", "_law_events", "_law_most"]
abbrev L_law_news : Nat := 2
abbrev M_law_news : Nat := 1
abbrev s_law_steps : Stmt := topS 36
abbrev N_law_steps : List Str := ["_law_row", "_law_found", "_law_event", "_law_time"]
abbrev p_law_steps : List Str := ["_law_row"]
abbrev L_law_steps : Nat := 1
abbrev M_law_steps : Nat := 0
abbrev s_law_commute : Stmt := topS 38
abbrev N_law_commute : List Str := ["_law_one", "_law_other"]
abbrev p_law_commute : List Str := ["_law_one", "_law_other"]
abbrev L_law_commute : Nat := 2
abbrev M_law_commute : Nat := 1
abbrev s_law_idle_by : Stmt := topS 39
abbrev N_law_idle_by : List Str := ["_law_steps_here", "_law_index", "_law_by", "_law_kind", "_law_event", "_law_time", "_law_beyond", "_law_k"]
abbrev p_law_idle_by : List Str := ["_law_steps_here", "_law_index", "_law_by"]
abbrev L_law_idle_by : Nat := 3
abbrev M_law_idle_by : Nat := 2
abbrev s_law_told_reduction : Stmt := topS 40
abbrev N_law_told_reduction : List Str := ["_law_steps_here", "_law_left", "_law_found", "_law_turn", "_law_here", "_law_pairs", "_law_k", "_law_by", "_law_at"]
abbrev p_law_told_reduction : List Str := ["_law_steps_here"]
abbrev L_law_told_reduction : Nat := 4
abbrev M_law_told_reduction : Nat := 3
abbrev s_law_crossed : Stmt := topS 43
abbrev N_law_crossed : List Str := ["_law_stream_here", "_law_events", "_law_more", "_law_one", "_law_other", "_law_sign", "_law_head", "_law_tail", "_law_by"]
abbrev p_law_crossed : List Str := ["_law_stream_here", "_law_events", "_law_more"]
abbrev L_law_crossed : Nat := 2
abbrev M_law_crossed : Nat := 1
abbrev s_law_two : Stmt := topS 44
abbrev N_law_two : List Str := ["_law_stream_here", "_law_events", "_law_most", "_law_shift", "_law_first", "_law_second", "_law_pick", "_law_kept", "_law_turn", "_law_at", "_law_way", "_law_row", "_law_one", "_law_event", "_law_time"]
abbrev p_law_two : List Str := ["_law_stream_here", "_law_events", "_law_most"]
abbrev L_law_two : Nat := 5
abbrev M_law_two : Nat := 4
abbrev s_law_is_side : Stmt := topS 46
abbrev N_law_is_side : List Str := ["_law_value"]
abbrev p_law_is_side : List Str := ["_law_value"]
abbrev L_law_is_side : Nat := 2
abbrev M_law_is_side : Nat := 1
abbrev s_law_is_place : Stmt := topS 47
abbrev N_law_is_place : List Str := ["_law_value", "_law_upper", "_law_lower", "_law_start"]
abbrev p_law_is_place : List Str := ["_law_value"]
abbrev L_law_is_place : Nat := 3
abbrev M_law_is_place : Nat := 2
abbrev s_law_time_at : Stmt := topS 48
abbrev N_law_time_at : List Str := ["_law_row", "_law_place", "_law_upper", "_law_lower", "_law_here", "_law_event", "_law_time"]
abbrev p_law_time_at : List Str := ["_law_row", "_law_place"]
abbrev L_law_time_at : Nat := 1
abbrev M_law_time_at : Nat := 0
abbrev s_law_told_places : Stmt := topS 49
abbrev N_law_told_places : List Str := ["_law_first", "_law_second", "_law_news_here", "_law_events", "_law_found", "_law_upper", "_law_lower", "_law_bounds", "_law_event", "_law_time", "_law_other", "_law_before", "_law_bound", "_law_place", "_law_one", "_law_start"]
abbrev p_law_told_places : List Str := ["_law_first", "_law_second"]
abbrev L_law_told_places : Nat := 4
abbrev M_law_told_places : Nat := 3
abbrev s_law_separation : Stmt := topS 50
abbrev N_law_separation : List Str := ["_law_first", "_law_second", "_law_place"]
abbrev p_law_separation : List Str := ["_law_first", "_law_second"]
abbrev L_law_separation : Nat := 5
abbrev M_law_separation : Nat := 4
abbrev s_law : Stmt := topS 51
abbrev N_law : List Str := ["_law_script", "_law_stream_here", "_law_row", "_law_kept", "_law_due", "_law_told", "_law_at", "_law_turn", "_law_some", "_law_one", "_law_k"]
abbrev p_law : List Str := ["_law_script"]
abbrev L_law : Nat := 10
abbrev M_law : Nat := 9

/-! ## promises of the program's defs: steps -/
def GoodP (p : Int × Int) : Prop := 0 ≤ p.1 ∧ p.1 ≤ 5 ∧ -500 ≤ p.2 ∧ p.2 ≤ 500
def Good (r : Row) : Prop := r.length ≤ 8 ∧ ∀ p ∈ r, GoodP p
def C_is_integer (ds : List PyData) (P : PyData → Prop) : Prop := ∃ i, ds = [.int i] ∧ P (.bool true)
def C_is_event_time (ds : List PyData) (P : PyData → Prop) : Prop := ∃ p, ds = [.int p.1, .int p.2] ∧ GoodP p ∧ P (.bool true)
def C_is_free_row (ds : List PyData) (P : PyData → Prop) : Prop := ∃ r, ds = [dRow r] ∧ Good r ∧ P (.bool true)
def C_check_row (ds : List PyData) (P : PyData → Prop) : Prop := ∃ r x, ds = [dRow r, .str x] ∧ Good r ∧ P .none
def C_do_commute (ds : List PyData) (P : PyData → Prop) : Prop := ∃ a b, ds = [dS a, dS b] ∧ P (.bool (commute a b))
def C_is_stronger (ds : List PyData) (P : PyData → Prop) : Prop := ∃ a b, ds = [dS a, dS b] ∧ P (.bool (stronger a b))
abbrev sp_is_integer (K : PySem.W.Frag) (T : List (Addr × Str)) : Sp := spC K T C_is_integer
abbrev sp_is_event_time (K : PySem.W.Frag) (T : List (Addr × Str)) : Sp := spC K T C_is_event_time
abbrev sp_is_free_row (K : PySem.W.Frag) (T : List (Addr × Str)) : Sp := spC K T C_is_free_row
abbrev sp_check_row (K : PySem.W.Frag) (T : List (Addr × Str)) : Sp := spC K T C_check_row
abbrev sp_do_commute (K : PySem.W.Frag) (T : List (Addr × Str)) : Sp := spC K T C_do_commute
abbrev sp_is_stronger (K : PySem.W.Frag) (T : List (Addr × Str)) : Sp := spC K T C_is_stronger

/-! ### is_integer: slots 0 value -/
theorem sc_is_integer : FnScope N_is_integer p_is_integer (defScope s_is_integer) := ⟨rfl, rfl, rfl, by decide +kernel, rfl, by decide +kernel, by decide +kernel⟩
def t_is_integer (K : PySem.W.Frag) (T : List (Addr × Str)) : TS :=
  (tRet (tAndV (tCB (rIsi K) (tCons (tVar 0) (tCons (tC (.ty "int")) tNil))) (tNotV (tCB (rIsi K) (tCons (tVar 0) (tCons (tC (.ty "bool")) tNil))))))
/-- callees: ; builtins: isinstance, int, bool  -/
theorem dv_is_integer {P : Program} {w : World} {K : PySem.W.Frag} {mg : Str → Option Value} {base : Heap} {T : List (Addr × Str)} {f : Addr} (B : Bi mg) (cdv : Value) (A : Around) (outer : List PySem.Env) (s : Shared) (H : Hp) (E : XK)
    (hr : Room M_is_integer (A.deeper (envOfC "is_integer" (defScope s_is_integer) s.heap.objs.size f cdv))) :
    PSs (cxOf CX0 P w K mg base N_is_integer "is_integer" (defScope s_is_integer) f cdv A outer s H E).nox (defBody s_is_integer) (t_is_integer K T) := by
  have nd := sc_is_integer.nd
  exact (pss_one (ps_ret (pe_and (pe_callB call_isi (by rfl) B.isinstance (by decide +kernel) (pa_cons (pv 0) (pa_cons (pe_bltn (v := .ty "int") (by rfl) B.int (by decide +kernel) rfl) pa_nil))) (pe_one (pe_not (pe_callB call_isi (by rfl) B.isinstance (by decide +kernel) (pa_cons (pv 0) (pa_cons (pe_bltn (v := .ty "bool") (by rfl) B.bool (by decide +kernel) rfl) pa_nil))))))))
/-! ### is_event_time: slots 0 event, 1 time -/
theorem sc_is_event_time : FnScope N_is_event_time p_is_event_time (defScope s_is_event_time) := ⟨rfl, rfl, rfl, by decide +kernel, rfl, by decide +kernel, by decide +kernel⟩
def t_is_event_time (K : PySem.W.Frag) (T : List (Addr × Str)) : TS :=
  (tSeq (tIfS (tOr (tNot (tB (tCall (sp_is_integer K T) [] E0 (tCons (tVar 0) tNil)))) (tNot (tTest (tChain RLe RLe (tC (.int 0)) (tVar 0) (tC (.int 5)))))) (tRet (tC (.bl false))) tNext)
  (tRet (tAndV (tCall (sp_is_integer K T) [] E0 (tCons (tVar 1) tNil)) (tChain RLe RLe (tUn RNeg (tC (.int 500))) (tVar 1) (tC (.int 500))))))
/-- callees: is_integer; builtins:  MOST_TIME, MOST_EVENT -/
theorem dv_is_event_time {P : Program} {w : World} {K : PySem.W.Frag} {mg : Str → Option Value} {base : Heap} {T : List (Addr × Str)} {f : Addr} (c_is_integer : Cal P w K mg base "is_integer" p_is_integer L_is_integer (sp_is_integer K T)) (B : Bi mg) (cdv : Value) (A : Around) (outer : List PySem.Env) (s : Shared) (H : Hp) (E : XK)
    (hr : Room M_is_event_time (A.deeper (envOfC "is_event_time" (defScope s_is_event_time) s.heap.objs.size f cdv))) :
    PSs (cxOf CX0 P w K mg base N_is_event_time "is_event_time" (defScope s_is_event_time) f cdv A outer s H E).nox (defBody s_is_event_time) (t_is_event_time K T) := by
  obtain ⟨f_is_integer, fd_is_integer, G_is_integer, b_is_integer, m_is_integer, k_is_integer⟩ := c_is_integer
  have nd := sc_is_event_time.nd
  exact (pss_cons (ps_if (PW.pt (pw_or (pt_not (pt_val (pe_call G_is_integer (hr.mono (by decide)) (by rfl) m_is_integer k_is_integer b_is_integer .nil pass0 (pa_cons (pv 0) pa_nil)))) (pw_or1 (pt_not (pt_chain op_le op_le pe_int (pv 0) (pe_glob (v := .int 5) rfl B.MOST_EVENT.choose_spec ⟨_, rfl⟩)))))) (pss_one (ps_ret pe_bl)) pss_nil)
  (pss_one (ps_ret (pe_and (pe_call G_is_integer (hr.mono (by decide)) (by rfl) m_is_integer k_is_integer b_is_integer .nil pass0 (pa_cons (pv 1) pa_nil)) (pe_one (pe_chain op_le op_le (pe_un un_neg (pe_glob (v := .int 500) rfl B.MOST_TIME.choose_spec ⟨_, rfl⟩)) (pv 1) (pe_glob (v := .int 500) rfl B.MOST_TIME.choose_spec ⟨_, rfl⟩)))))))
/-! ### is_free_row: slots 0 value, 1 one -/
theorem sc_is_free_row : FnScope N_is_free_row p_is_free_row (defScope s_is_free_row) := ⟨rfl, rfl, rfl, by decide +kernel, rfl, by decide +kernel, by decide +kernel⟩
def t_is_free_row (K : PySem.W.Frag) (T : List (Addr × Str)) : TS :=
  (tSeq (tIfS (tOr (tNot (tB (tCB (rIsi K) (tCons (tVar 0) (tCons (tC (.ty "tuple")) tNil))))) (tTest (tOp RGt (tCB (RLen K) (tCons (tVar 0) tNil)) (tC (.int 8))))) (tRet (tC (.bl false))) tNext)
  (tRet (tCB (rAll K) (tCons (tLc (iTup K (tVar 0)) (gName 1) tYes (tAndV (tCB (rIsi K) (tCons (tVar 1) (tCons (tC (.ty "tuple")) tNil))) (tAndV (tOp rEq (tCB (RLen K) (tCons (tVar 1) tNil)) (tC (.int 2))) (tCall (sp_is_event_time K T) [] E0 (tCons (tOp (rIxT K) (tVar 1) (tC (.int 0))) (tCons (tOp (rIxT K) (tVar 1) (tC (.int 1))) tNil))))) [1]) tNil))))
/-- callees: is_event_time; builtins: all, isinstance, tuple, len MOST_NEWS -/
theorem dv_is_free_row {P : Program} {w : World} {K : PySem.W.Frag} {mg : Str → Option Value} {base : Heap} {T : List (Addr × Str)} {f : Addr} (c_is_event_time : Cal P w K mg base "is_event_time" p_is_event_time L_is_event_time (sp_is_event_time K T)) (B : Bi mg) (cdv : Value) (A : Around) (outer : List PySem.Env) (s : Shared) (H : Hp) (E : XK)
    (hr : Room M_is_free_row (A.deeper (envOfC "is_free_row" (defScope s_is_free_row) s.heap.objs.size f cdv))) :
    PSs (cxOf CX0 P w K mg base N_is_free_row "is_free_row" (defScope s_is_free_row) f cdv A outer s H E).nox (defBody s_is_free_row) (t_is_free_row K T) := by
  obtain ⟨f_is_event_time, fd_is_event_time, G_is_event_time, b_is_event_time, m_is_event_time, k_is_event_time⟩ := c_is_event_time
  have nd := sc_is_free_row.nd
  exact (pss_cons (ps_if (PW.pt (pw_or (pt_not (pt_val (pe_callB call_isi (by rfl) B.isinstance (by decide +kernel) (pa_cons (pv 0) (pa_cons (pe_bltn (v := .ty "tuple") (by rfl) B.tuple (by decide +kernel) rfl) pa_nil))))) (pw_or1 (pt_cmpR op_gt (pe_callB call_len_seq (by rfl) B.len PySem.boot_len (pa_cons (pv 0) pa_nil)) (pe_glob (v := .int 8) rfl B.MOST_NEWS.choose_spec ⟨_, rfl⟩) (nomark _))))) (pss_one (ps_ret pe_bl)) pss_nil)
  (pss_one (ps_ret (pe_callB (cr_all rfl) (by rfl) B.all (by decide +kernel) (pa_cons (pe_lc (own := [("one", 1)]) (by rfl) nd (pi_tup (pv 0)) (blkOk_by (N := N_is_free_row) (by kernel_rfl)) (fun _ _ _ _ _ => (pg_name (i := 1) nd rfl (Or.inl rfl))) (fun _ _ _ _ _ => pts_nil) (fun _ _ _ _ _ => (pe_and (pe_callB call_isi (by rfl) B.isinstance (by decide +kernel) (pa_cons (pv 1) (pa_cons (pe_bltn (v := .ty "tuple") (by rfl) B.tuple (by decide +kernel) rfl) pa_nil))) (pe_and (pe_cmpR op_eq (pe_callB call_len_seq (by rfl) B.len PySem.boot_len (pa_cons (pv 1) pa_nil)) pe_int (nomark _)) (pe_one (pe_call G_is_event_time (hr.mono (by decide)) (by rfl) m_is_event_time k_is_event_time b_is_event_time .nil pass0 (pa_cons (pe_ix ix_tup (pv 1) pe_int (fun _ _ => rfl)) (pa_cons (pe_ix ix_tup (pv 1) pe_int (fun _ _ => rfl)) pa_nil)))))))) pa_nil)))))
/-! ### check_row: slots 0 row, 1 name -/
theorem sc_check_row : FnScope N_check_row p_check_row (defScope s_check_row) := ⟨rfl, rfl, rfl, by decide +kernel, rfl, by decide +kernel, by decide +kernel⟩
def t_check_row (K : PySem.W.Frag) (T : List (Addr × Str)) : TS :=
  (tIfS (tNot (tB (tCall (sp_is_free_row K T) [] E0 (tCons (tVar 0) tNil)))) tNever tNext)
/-- callees: is_free_row; builtins:   -/
theorem dv_check_row {P : Program} {w : World} {K : PySem.W.Frag} {mg : Str → Option Value} {base : Heap} {T : List (Addr × Str)} {f : Addr} (c_is_free_row : Cal P w K mg base "is_free_row" p_is_free_row L_is_free_row (sp_is_free_row K T)) (cdv : Value) (A : Around) (outer : List PySem.Env) (s : Shared) (H : Hp) (E : XK)
    (hr : Room M_check_row (A.deeper (envOfC "check_row" (defScope s_check_row) s.heap.objs.size f cdv))) :
    PSs (cxOf CX0 P w K mg base N_check_row "check_row" (defScope s_check_row) f cdv A outer s H E).nox (defBody s_check_row) (t_check_row K T) := by
  obtain ⟨f_is_free_row, fd_is_free_row, G_is_free_row, b_is_free_row, m_is_free_row, k_is_free_row⟩ := c_is_free_row
  have nd := sc_check_row.nd
  exact (pss_one (ps_if (pt_not (pt_val (pe_call G_is_free_row (hr.mono (by decide)) (by rfl) m_is_free_row k_is_free_row b_is_free_row .nil pass0 (pa_cons (pv 0) pa_nil)))) (pss_one ps_never) pss_nil))
/-! ### do_commute: slots 0 one, 1 other, 2 first, 3 second -/
theorem sc_do_commute : FnScope N_do_commute p_do_commute (defScope s_do_commute) := ⟨rfl, rfl, rfl, by decide +kernel, rfl, by decide +kernel, by decide +kernel⟩
def t_do_commute (K : PySem.W.Frag) (T : List (Addr × Str)) : TS :=
  (tSeq (tIfS (tTest (tOp rEq (tOp (rIxT K) (tVar 0) (tC (.int 0))) (tOp (rIxT K) (tVar 1) (tC (.int 0))))) (tRet (tC (.bl true))) tNext)
  (tSeq (tAsg (tIf (tTest (tOp rEq (tOp (rIxT K) (tVar 0) (tC (.int 0))) (tC (.str "raise")))) (tTup (tCons (tVar 0) (tCons (tVar 1) tNil))) (tTup (tCons (tVar 1) (tCons (tVar 0) tNil)))) (gTup K 2 (gCons (gName 2) (gCons (gName 3) gNil))))
  (tRet (tAndV (tOp rEq (tOp (rIxT K) (tVar 2) (tC (.int 1))) (tOp (rIxT K) (tVar 3) (tC (.int 1)))) (tOp RLe (tOp (rIxT K) (tVar 2) (tC (.int 2))) (tOp (rIxT K) (tVar 3) (tC (.int 2))))))))
/-- callees: ; builtins:   -/
theorem dv_do_commute {P : Program} {w : World} {K : PySem.W.Frag} {mg : Str → Option Value} {base : Heap} {T : List (Addr × Str)} {f : Addr} (cdv : Value) (A : Around) (outer : List PySem.Env) (s : Shared) (H : Hp) (E : XK)
    (hr : Room M_do_commute (A.deeper (envOfC "do_commute" (defScope s_do_commute) s.heap.objs.size f cdv))) :
    PSs (cxOf CX0 P w K mg base N_do_commute "do_commute" (defScope s_do_commute) f cdv A outer s H E).nox (defBody s_do_commute) (t_do_commute K T) := by
  have nd := sc_do_commute.nd
  exact (pss_cons (ps_if (pt_cmpR op_eq (pe_ix ix_tup (pv 0) pe_int (fun _ _ => rfl)) (pe_ix ix_tup (pv 1) pe_int (fun _ _ => rfl)) (nomark _)) (pss_one (ps_ret pe_bl)) pss_nil)
  (pss_cons (ps_asg (pe_ifExp (pt_cmpR op_eq (pe_ix ix_tup (pv 0) pe_int (fun _ _ => rfl)) pe_str (nomark _)) (pe_tup (pa_cons (pv 0) (pa_cons (pv 1) pa_nil))) (pe_tup (pa_cons (pv 1) (pa_cons (pv 0) pa_nil)))) (pg_tup rfl (pgs_cons (pg_name (i := 2) nd rfl (Or.inl rfl)) (pgs_cons (pg_name (i := 3) nd rfl (Or.inl rfl)) pgs_nil))))
  (pss_one (ps_ret (pe_and (pe_cmpR op_eq (pe_ix ix_tup (pv 2) pe_int (fun _ _ => rfl)) (pe_ix ix_tup (pv 3) pe_int (fun _ _ => rfl)) (nomark _)) (pe_one (pe_cmpR op_le (pe_ix ix_tup (pv 2) pe_int (fun _ _ => rfl)) (pe_ix ix_tup (pv 3) pe_int (fun _ _ => rfl)) (nomark _))))))))
/-! ### is_stronger: slots 0 one, 1 other -/
theorem sc_is_stronger : FnScope N_is_stronger p_is_stronger (defScope s_is_stronger) := ⟨rfl, rfl, rfl, by decide +kernel, rfl, by decide +kernel, by decide +kernel⟩
def t_is_stronger (K : PySem.W.Frag) (T : List (Addr × Str)) : TS :=
  (tRet (tIf (tTest (tOp rEq (tOp (rIxT K) (tVar 0) (tC (.int 0))) (tC (.str "raise")))) (tOp RGt (tOp (rIxT K) (tVar 0) (tC (.int 2))) (tOp (rIxT K) (tVar 1) (tC (.int 2)))) (tOp RLt (tOp (rIxT K) (tVar 0) (tC (.int 2))) (tOp (rIxT K) (tVar 1) (tC (.int 2))))))
/-- callees: ; builtins:   -/
theorem dv_is_stronger {P : Program} {w : World} {K : PySem.W.Frag} {mg : Str → Option Value} {base : Heap} {T : List (Addr × Str)} {f : Addr} (cdv : Value) (A : Around) (outer : List PySem.Env) (s : Shared) (H : Hp) (E : XK)
    (hr : Room M_is_stronger (A.deeper (envOfC "is_stronger" (defScope s_is_stronger) s.heap.objs.size f cdv))) :
    PSs (cxOf CX0 P w K mg base N_is_stronger "is_stronger" (defScope s_is_stronger) f cdv A outer s H E).nox (defBody s_is_stronger) (t_is_stronger K T) := by
  have nd := sc_is_stronger.nd
  exact (pss_one (ps_ret (pe_ifExp (pt_cmpR op_eq (pe_ix ix_tup (pv 0) pe_int (fun _ _ => rfl)) pe_str (nomark _)) (pe_cmpR op_gt (pe_ix ix_tup (pv 0) pe_int (fun _ _ => rfl)) (pe_ix ix_tup (pv 1) pe_int (fun _ _ => rfl)) (nomark _)) (pe_cmpR op_lt (pe_ix ix_tup (pv 0) pe_int (fun _ _ => rfl)) (pe_ix ix_tup (pv 1) pe_int (fun _ _ => rfl)) (nomark _)))))

section
variable {W : Wd} {ds : List PyData} {P : PyData → Prop}
theorem ss_is_integer (h : C_is_integer ds P) : Ss W (t_is_integer W.K W.T) (startG N_is_integer.length ds) (fun _ => P .none) P := by
  obtain ⟨i, rfl, h⟩ := h
  unfold t_is_integer
  walk_at "evs"
  refine ⟨true, kit_int_int, true, rfl, fun _ => ?_, fun z => nomatch z⟩
  walk_at "evs"
  exact ⟨false, kit_int_bool, false, rfl, h⟩
theorem ss_is_event_time (h : C_is_event_time ds P) : Ss W (t_is_event_time W.K W.T) (startG N_is_event_time.length ds) (fun _ => P .none) P := by
  obtain ⟨⟨e, t⟩, rfl, ⟨h1, h2, h3, h4⟩, h⟩ := h
  have h1 : 0 ≤ e := h1
  have h2 : e ≤ 5 := h2
  have h3 : -500 ≤ t := h3
  have h4 : t ≤ 500 := h4
  unfold t_is_event_time
  walk_at "evs"
  refine ⟨e, rfl, true, rfl, orF ?_⟩
  walk_at "evs"
  rw [decide_eq_true h1]
  refine ⟨true, rfl, andT ?_⟩
  walk_at "evs"
  rw [decide_eq_true h2]
  refine ⟨true, rfl, andF ?_⟩
  walk_at "evs"
  refine ⟨t, rfl, true, rfl, andT ?_⟩
  walk_at "evs"
  rw [decide_eq_true h3]
  refine ⟨true, rfl, andT ?_⟩
  walk_at "evs"
  rw [decide_eq_true h4]
  exact h
theorem ss_check_row (h : C_check_row ds P) : Ss W (t_check_row W.K W.T) (startG N_check_row.length ds) (fun _ => P .none) P := by
  obtain ⟨r, x, rfl, hg, h⟩ := h
  unfold t_check_row
  walk_at "evs"
  refine ⟨r, rfl, hg, true, rfl, andF ?_⟩
  walk_at "evs"
  exact h
theorem ss_is_stronger (h : C_is_stronger ds P) : Ss W (t_is_stronger W.K W.T) (startG N_is_stronger.length ds) (fun _ => P .none) P := by
  obtain ⟨a, b, rfl, h⟩ := h
  unfold t_is_stronger
  walk_at "evs"
  refine ⟨_, rfl, fun hb => ?_, fun hb => ?_⟩
  · walk_at "evs"
    have e : a.1 = true := kd_inj.mp ((of_decide_eq_true hb).trans rfl)
    unfold stronger at h
    rw [if_pos e] at h
    exact h
  · walk_at "evs"
    have e : ¬ a.1 = true := fun z => of_decide_eq_false hb ((kd_inj.mpr z).trans rfl)
    unfold stronger at h
    rw [if_neg e] at h
    exact h
theorem ss_do_commute (h : C_do_commute ds P) : Ss W (t_do_commute W.K W.T) (startG N_do_commute.length ds) (fun _ => P .none) P := by
  obtain ⟨a, b, rfl, h⟩ := h
  unfold t_do_commute
  walk_at "evs"
  refine ⟨_, rfl, fun hb => ?_, fun hb => ?_⟩
  · walk_at "evs"
    have e : a.1 = b.1 := kd_inj.mp (of_decide_eq_true hb)
    unfold commute at h
    rw [if_pos e] at h
    exact h
  · have e : ¬ a.1 = b.1 := fun z => of_decide_eq_false hb (kd_inj.mpr z)
    unfold commute at h
    rw [if_neg e] at h
    walk_at "evs"
    refine ss_asgG [2, 3] ?_
    walk_at "evs"
    refine ⟨_, rfl, fun hb => ?_, fun hb => ?_⟩
    · have e2 : a.1 = true := kd_inj.mp ((of_decide_eq_true hb).trans rfl)
      rw [if_pos e2] at h
      walk_at "evs"
      refine ⟨_, rfl, fun hc => ?_, fun hc => ?_⟩
      · walk_at "evs"
        rw [hc, Bool.true_and] at h
        exact h
      · rw [hc, Bool.false_and] at h
        exact h
    · have e2 : ¬ a.1 = true := fun z => of_decide_eq_false hb ((kd_inj.mpr z).trans rfl)
      rw [if_neg e2] at h
      walk_at "evs"
      refine ⟨_, rfl, fun hc => ?_, fun hc => ?_⟩
      · walk_at "evs"
        rw [hc, Bool.true_and] at h
        exact h
      · rw [hc, Bool.false_and] at h
        exact h
theorem ss_is_free_row (h : C_is_free_row ds P) : Ss W (t_is_free_row W.K W.T) (startG N_is_free_row.length ds) (fun _ => P .none) P := by
  obtain ⟨r, rfl, ⟨hl, hg⟩, h⟩ := h
  unfold t_is_free_row
  walk_at "evs"
  refine ⟨true, kit_tup_tup, true, rfl, orF ?_⟩
  walk_at "evs"
  unfold dRow
  walk_at "evs"
  have e : ¬ (8 : Int) < ((r.map dP).length : Int) := by
    rw [List.length_map]
    omega
  refine ⟨_, rfl, fun hb => absurd (of_decide_eq_true hb) e, fun _ => ?_⟩
  walk_at "evs"
  refine EvL.ev (el_lc (ei_tup ?_))
  walk_at "evs"
  refine ⟨fun i acc => acc = (List.replicate i true).map .bool, rfl, ?_, ?_, ?_⟩
  · rw [List.length_map]
    omega
  · rintro i d acc hd rfl
    obtain ⟨p, hp, rfl⟩ := get_map_some hd
    have gp : GoodP p := hg p (List.mem_of_getElem? hp)
    walk_at "evs"
    refine et_yes ⟨fun _ => ?_, fun z => nomatch z⟩
    walk_at "evs"
    refine ⟨true, kit_tup_tup, true, rfl, fun _ => ?_, fun z => nomatch z⟩
    walk_at "evs"
    refine ⟨true, rfl, fun _ => ?_, fun z => nomatch z⟩
    walk_at "evs"
    refine ⟨p, rfl, gp, rfl, ?_⟩
    show (List.replicate i true).map PyData.bool ++ [PyData.bool true] = (List.replicate (i + 1) true).map PyData.bool
    rw [List.replicate_succ', List.map_append]
    rfl
  · rintro acc rfl
    walk_at "evs"
    refine rc_all ?_
    have e2 : (List.replicate (r.map dP).length true).all id = true := List.all_eq_true.mpr fun x hx => List.eq_of_mem_replicate hx
    rw [e2]
    exact h
end
theorem cal_is_integer {P : Program} {w : World} {K : PySem.W.Frag} {mg : Str → Option Value} {base : Heap} {T : List (Addr × Str)} {f : Addr} {fd : FuncData} (F : Fun K "is_integer" "is_integer" s_is_integer f fd) (b : Binds K fd p_is_integer []) (m : mg "is_integer" = some (.ref f)) (B : Bi mg) :
    Cal P w K mg base "is_integer" p_is_integer L_is_integer (sp_is_integer K T) :=
  ⟨f, fd, okC F sc_is_integer (fun ds P h => by
      unfold C_is_integer at h
      first
        | (obtain ⟨_, rfl, _⟩ := h; rfl)
        | (obtain ⟨_, _, rfl, _⟩ := h; rfl)
        | (obtain ⟨_, _, _, rfl, _⟩ := h; rfl)
        | (obtain ⟨rfl, _⟩ := h; rfl)) (fun W eK eT cdv A outer s H E hr => ⟨t_is_integer K T, dv_is_integer B cdv A outer s H E hr, fun ds P h => by
      subst eK
      subst eT
      exact ss_is_integer h⟩), b, m, F.kp⟩
theorem cal_is_event_time {P : Program} {w : World} {K : PySem.W.Frag} {mg : Str → Option Value} {base : Heap} {T : List (Addr × Str)} {f : Addr} {fd : FuncData} (F : Fun K "is_event_time" "is_event_time" s_is_event_time f fd) (b : Binds K fd p_is_event_time []) (m : mg "is_event_time" = some (.ref f)) (c_is_integer : Cal P w K mg base "is_integer" p_is_integer L_is_integer (sp_is_integer K T)) (B : Bi mg) :
    Cal P w K mg base "is_event_time" p_is_event_time L_is_event_time (sp_is_event_time K T) :=
  ⟨f, fd, okC F sc_is_event_time (fun ds P h => by
      unfold C_is_event_time at h
      first
        | (obtain ⟨_, rfl, _⟩ := h; rfl)
        | (obtain ⟨_, _, rfl, _⟩ := h; rfl)
        | (obtain ⟨_, _, _, rfl, _⟩ := h; rfl)
        | (obtain ⟨rfl, _⟩ := h; rfl)) (fun W eK eT cdv A outer s H E hr => ⟨t_is_event_time K T, dv_is_event_time c_is_integer B cdv A outer s H E hr, fun ds P h => by
      subst eK
      subst eT
      exact ss_is_event_time h⟩), b, m, F.kp⟩
theorem cal_is_free_row {P : Program} {w : World} {K : PySem.W.Frag} {mg : Str → Option Value} {base : Heap} {T : List (Addr × Str)} {f : Addr} {fd : FuncData} (F : Fun K "is_free_row" "is_free_row" s_is_free_row f fd) (b : Binds K fd p_is_free_row []) (m : mg "is_free_row" = some (.ref f)) (c_is_event_time : Cal P w K mg base "is_event_time" p_is_event_time L_is_event_time (sp_is_event_time K T)) (B : Bi mg) :
    Cal P w K mg base "is_free_row" p_is_free_row L_is_free_row (sp_is_free_row K T) :=
  ⟨f, fd, okC F sc_is_free_row (fun ds P h => by
      unfold C_is_free_row at h
      first
        | (obtain ⟨_, rfl, _⟩ := h; rfl)
        | (obtain ⟨_, _, rfl, _⟩ := h; rfl)
        | (obtain ⟨_, _, _, rfl, _⟩ := h; rfl)
        | (obtain ⟨rfl, _⟩ := h; rfl)) (fun W eK eT cdv A outer s H E hr => ⟨t_is_free_row K T, dv_is_free_row c_is_event_time B cdv A outer s H E hr, fun ds P h => by
      subst eK
      subst eT
      exact ss_is_free_row h⟩), b, m, F.kp⟩
theorem cal_check_row {P : Program} {w : World} {K : PySem.W.Frag} {mg : Str → Option Value} {base : Heap} {T : List (Addr × Str)} {f : Addr} {fd : FuncData} (F : Fun K "check_row" "check_row" s_check_row f fd) (b : Binds K fd p_check_row []) (m : mg "check_row" = some (.ref f)) (c_is_free_row : Cal P w K mg base "is_free_row" p_is_free_row L_is_free_row (sp_is_free_row K T)) :
    Cal P w K mg base "check_row" p_check_row L_check_row (sp_check_row K T) :=
  ⟨f, fd, okC F sc_check_row (fun ds P h => by
      unfold C_check_row at h
      first
        | (obtain ⟨_, rfl, _⟩ := h; rfl)
        | (obtain ⟨_, _, rfl, _⟩ := h; rfl)
        | (obtain ⟨_, _, _, rfl, _⟩ := h; rfl)
        | (obtain ⟨rfl, _⟩ := h; rfl)) (fun W eK eT cdv A outer s H E hr => ⟨t_check_row K T, dv_check_row c_is_free_row cdv A outer s H E hr, fun ds P h => by
      subst eK
      subst eT
      exact ss_check_row h⟩), b, m, F.kp⟩
theorem cal_do_commute {P : Program} {w : World} {K : PySem.W.Frag} {mg : Str → Option Value} {base : Heap} {T : List (Addr × Str)} {f : Addr} {fd : FuncData} (F : Fun K "do_commute" "do_commute" s_do_commute f fd) (b : Binds K fd p_do_commute []) (m : mg "do_commute" = some (.ref f)) :
    Cal P w K mg base "do_commute" p_do_commute L_do_commute (sp_do_commute K T) :=
  ⟨f, fd, okC F sc_do_commute (fun ds P h => by
      unfold C_do_commute at h
      first
        | (obtain ⟨_, rfl, _⟩ := h; rfl)
        | (obtain ⟨_, _, rfl, _⟩ := h; rfl)
        | (obtain ⟨_, _, _, rfl, _⟩ := h; rfl)
        | (obtain ⟨rfl, _⟩ := h; rfl)) (fun W eK eT cdv A outer s H E hr => ⟨t_do_commute K T, dv_do_commute cdv A outer s H E hr, fun ds P h => by
      subst eK
      subst eT
      exact ss_do_commute h⟩), b, m, F.kp⟩
theorem cal_is_stronger {P : Program} {w : World} {K : PySem.W.Frag} {mg : Str → Option Value} {base : Heap} {T : List (Addr × Str)} {f : Addr} {fd : FuncData} (F : Fun K "is_stronger" "is_stronger" s_is_stronger f fd) (b : Binds K fd p_is_stronger []) (m : mg "is_stronger" = some (.ref f)) :
    Cal P w K mg base "is_stronger" p_is_stronger L_is_stronger (sp_is_stronger K T) :=
  ⟨f, fd, okC F sc_is_stronger (fun ds P h => by
      unfold C_is_stronger at h
      first
        | (obtain ⟨_, rfl, _⟩ := h; rfl)
        | (obtain ⟨_, _, rfl, _⟩ := h; rfl)
        | (obtain ⟨_, _, _, rfl, _⟩ := h; rfl)
        | (obtain ⟨rfl, _⟩ := h; rfl)) (fun W eK eT cdv A outer s H E hr => ⟨t_is_stronger K T, dv_is_stronger cdv A outer s H E hr, fun ds P h => by
      subst eK
      subst eT
      exact ss_is_stronger h⟩), b, m, F.kp⟩

/-! ## promises: idle steps, rows -/
def dNat (k : Nat) : PyData := .int (k : Int)
def dIx (l : List Nat) : List PyData := l.map dNat
def C_makes_idle (ds : List PyData) (P : PyData → Prop) : Prop := ∃ (L : List Stp) (i b : Nat), ds = [.list (dSs L), dNat i, dNat b] ∧ i < L.length ∧ b < L.length ∧ L.length ≤ 16 ∧ P (.bool (makesIdle L i b))
def dOpt : Option Nat → PyData
  | none => .none
  | some b => dNat b
def C_why_idle (ds : List PyData) (P : PyData → Prop) : Prop := ∃ (L : List Stp) (i : Nat), ds = [.list (dSs L), dNat i] ∧ i < L.length ∧ L.length ≤ 16 ∧ P (dOpt (whyIdle L i))
def dOpt2 : Option (Nat × Nat) → PyData
  | none => .none
  | some p => .tuple [dNat p.1, dNat p.2]
def C_first_idle (ds : List PyData) (P : PyData → Prop) : Prop := ∃ (L : List Stp), ds = [.list (dSs L)] ∧ L.length ≤ 16 ∧ P (dOpt2 (firstIdle L))
def C_reduction_of (ds : List PyData) (P : PyData → Prop) : Prop := ∃ (L : List Stp), ds = [.tuple (dSs L)] ∧ L.length ≤ 16 ∧ ∀ fs, P (.tuple [.tuple fs, .list (dIx (leftOf L))])
def C_remaining_of (ds : List PyData) (P : PyData → Prop) : Prop := ∃ (L : List Stp), ds = [.tuple (dSs L)] ∧ L.length ≤ 16 ∧ P (.tuple (dSs (remOf L)))
def C_steps_in (ds : List PyData) (P : PyData → Prop) : Prop := ∃ (r : Row), ds = [dRow r] ∧ r.length ≤ 8 ∧ P (.tuple (dSs (stepsIn r)))
def dLay (LL : List (List Stp)) : PyData := .tuple (LL.map fun l => .tuple (dSs l))
def C_layers_in (ds : List PyData) (P : PyData → Prop) : Prop := ∃ (L : List Stp), ds = [.tuple (dSs L)] ∧ L.length ≤ 16 ∧ ∀ LL : List (List Stp), (∀ s, s ∈ LL.flatten ↔ s ∈ L) → P (dLay LL)
def C_layers_of_row (ds : List PyData) (P : PyData → Prop) : Prop := ∃ (r : Row), ds = [dRow r] ∧ r.length ≤ 8 ∧ ∀ LL : List (List Stp), (∀ s, s ∈ LL.flatten ↔ s ∈ remOf (stepsIn r)) → P (dLay LL)
def SameRem (r r' : Row) : Prop := ∀ s, s ∈ remOf (stepsIn r) ↔ s ∈ remOf (stepsIn r')
def C_is_alike (ds : List PyData) (P : PyData → Prop) : Prop := ∃ (r r' : Row), ds = [dRow r, dRow r'] ∧ r.length ≤ 8 ∧ r'.length ≤ 8 ∧ ∀ b : Bool, (b = true → SameRem r r') → P (.bool b)
def C_check_rows (ds : List PyData) (P : PyData → Prop) : Prop := ∃ (r r' : Row), ds = [dRow r, dRow r'] ∧ Good r ∧ Good r' ∧ P .none
def C_are_alike (ds : List PyData) (P : PyData → Prop) : Prop := ∃ (r r' : Row), ds = [dRow r, dRow r'] ∧ Good r ∧ Good r' ∧ ∀ b : Bool, (b = true → SameRem r r') → P (.bool b)
def C_kept_indexes (ds : List PyData) (P : PyData → Prop) : Prop := ∃ (r : Row), ds = [dRow r] ∧ r.length ≤ 8 ∧ P (.list (dIx (keptIdx r)))
def C_shortest_of (ds : List PyData) (P : PyData → Prop) : Prop := ∃ (r : Row), ds = [dRow r] ∧ r.length ≤ 8 ∧ P (dRow (shortestOf r))
def C_shortest (ds : List PyData) (P : PyData → Prop) : Prop := ∃ (r : Row), ds = [dRow r] ∧ Good r ∧ P (dRow (shortestOf r))
def outIdx (r : Row) : List Nat := (List.range r.length).filter fun i => decide (i ∉ keptIdx r)
def C_left_out (ds : List PyData) (P : PyData → Prop) : Prop := ∃ (r : Row), ds = [dRow r] ∧ Good r ∧ P (.tuple (dIx (outIdx r)))
abbrev sp_makes_idle (K : PySem.W.Frag) (T : List (Addr × Str)) : Sp := spC K T C_makes_idle
abbrev sp_why_idle (K : PySem.W.Frag) (T : List (Addr × Str)) : Sp := spC K T C_why_idle
abbrev sp_first_idle (K : PySem.W.Frag) (T : List (Addr × Str)) : Sp := spC K T C_first_idle
abbrev sp_reduction_of (K : PySem.W.Frag) (T : List (Addr × Str)) : Sp := spC K T C_reduction_of
abbrev sp_remaining_of (K : PySem.W.Frag) (T : List (Addr × Str)) : Sp := spC K T C_remaining_of
abbrev sp_steps_in (K : PySem.W.Frag) (T : List (Addr × Str)) : Sp := spC K T C_steps_in
abbrev sp_layers_in (K : PySem.W.Frag) (T : List (Addr × Str)) : Sp := spC K T C_layers_in
abbrev sp_layers_of_row (K : PySem.W.Frag) (T : List (Addr × Str)) : Sp := spC K T C_layers_of_row
abbrev sp_is_alike (K : PySem.W.Frag) (T : List (Addr × Str)) : Sp := spC K T C_is_alike
abbrev sp_check_rows (K : PySem.W.Frag) (T : List (Addr × Str)) : Sp := spC K T C_check_rows
abbrev sp_are_alike (K : PySem.W.Frag) (T : List (Addr × Str)) : Sp := spC K T C_are_alike
abbrev sp_kept_indexes (K : PySem.W.Frag) (T : List (Addr × Str)) : Sp := spC K T C_kept_indexes
abbrev sp_shortest_of (K : PySem.W.Frag) (T : List (Addr × Str)) : Sp := spC K T C_shortest_of
abbrev sp_shortest (K : PySem.W.Frag) (T : List (Addr × Str)) : Sp := spC K T C_shortest
abbrev sp_left_out (K : PySem.W.Frag) (T : List (Addr × Str)) : Sp := spC K T C_left_out

/-! ### makes_idle: slots 0 steps, 1 index, 2 by, 3 step, 4 other, 5 between -/
theorem sc_makes_idle : FnScope N_makes_idle p_makes_idle (defScope s_makes_idle) := ⟨rfl, rfl, rfl, by decide +kernel, rfl, by decide +kernel, by decide +kernel⟩
def t_makes_idle (K : PySem.W.Frag) (T : List (Addr × Str)) : TS :=
  (tSeq (tAsg (tTup (tCons (tOp (rIxL K) (tVar 0) (tVar 1)) (tCons (tOp (rIxL K) (tVar 0) (tVar 2)) tNil))) (gTup K 2 (gCons (gName 3) (gCons (gName 4) gNil))))
  (tSeq (tIfS (tOr (tTest (tOp rEq (tVar 1) (tVar 2))) (tTest (tOp (rNeD K) (tSl (rSlA K) (tVar 3) tNoPart (tPart (tC (.int 2)))) (tSl (rSlA K) (tVar 4) tNoPart (tPart (tC (.int 2))))))) (tRet (tC (.bl false))) tNext)
  (tSeq (tIfS (tTest (tOp RGt (tVar 2) (tVar 1))) (tRet (tNotV (tCall (sp_is_stronger K T) [] E0 (tCons (tVar 3) (tCons (tVar 4) tNil))))) tNext)
  (tRet (tAndV (tCall (sp_is_stronger K T) [] E0 (tCons (tVar 4) (tCons (tVar 3) tNil))) (tCB (rAll K) (tCons (tLc (iList K (tSl (rSlL K) (tVar 0) (tPart (tOp RAdd (tVar 2) (tC (.int 1)))) (tPart (tVar 1)))) (gName 5) tYes (tCall (sp_do_commute K T) [] E0 (tCons (tVar 3) (tCons (tVar 5) tNil))) [5]) tNil)))))))
/-- callees: is_stronger, do_commute; builtins: all  -/
theorem dv_makes_idle {P : Program} {w : World} {K : PySem.W.Frag} {mg : Str → Option Value} {base : Heap} {T : List (Addr × Str)} {f : Addr} (c_is_stronger : Cal P w K mg base "is_stronger" p_is_stronger L_is_stronger (sp_is_stronger K T)) (c_do_commute : Cal P w K mg base "do_commute" p_do_commute L_do_commute (sp_do_commute K T)) (B : Bi mg) (cdv : Value) (A : Around) (outer : List PySem.Env) (s : Shared) (H : Hp) (E : XK)
    (hr : Room M_makes_idle (A.deeper (envOfC "makes_idle" (defScope s_makes_idle) s.heap.objs.size f cdv))) :
    PSs (cxOf CX0 P w K mg base N_makes_idle "makes_idle" (defScope s_makes_idle) f cdv A outer s H E).nox (defBody s_makes_idle) (t_makes_idle K T) := by
  obtain ⟨f_is_stronger, fd_is_stronger, G_is_stronger, b_is_stronger, m_is_stronger, k_is_stronger⟩ := c_is_stronger
  obtain ⟨f_do_commute, fd_do_commute, G_do_commute, b_do_commute, m_do_commute, k_do_commute⟩ := c_do_commute
  have nd := sc_makes_idle.nd
  exact (pss_cons (ps_asg (pe_tup (pa_cons (pe_ix ix_list (pv 0) (pv 1) (fun _ _ => rfl)) (pa_cons (pe_ix ix_list (pv 0) (pv 2) (fun _ _ => rfl)) pa_nil))) (pg_tup rfl (pgs_cons (pg_name (i := 3) nd rfl (Or.inr rfl)) (pgs_cons (pg_name (i := 4) nd rfl (Or.inl rfl)) pgs_nil))))
  (pss_cons (ps_if (PW.pt (pw_or (pt_cmpR op_eq (pv 1) (pv 2) (nomark _)) (pw_or1 (pt_cmpR (op_neD hr.units) (pe_slice sl_tupA (pv 3) po_none (po_some pe_int)) (pe_slice sl_tupA (pv 4) po_none (po_some pe_int)) (nomark _))))) (pss_one (ps_ret pe_bl)) pss_nil)
  (pss_cons (ps_if (pt_cmpR op_gt (pv 2) (pv 1) (nomark _)) (pss_one (ps_ret (pe_not (pe_call G_is_stronger (hr.mono (by decide)) (by rfl) m_is_stronger k_is_stronger b_is_stronger .nil pass0 (pa_cons (pv 3) (pa_cons (pv 4) pa_nil)))))) pss_nil)
  (pss_one (ps_ret (pe_and (pe_call G_is_stronger (hr.mono (by decide)) (by rfl) m_is_stronger k_is_stronger b_is_stronger .nil pass0 (pa_cons (pv 4) (pa_cons (pv 3) pa_nil))) (pe_one (pe_callB (cr_all rfl) (by rfl) B.all (by decide +kernel) (pa_cons (pe_lc (own := [("between", 5)]) (by rfl) nd (pi_list (pe_slice sl_list (pv 0) (po_some (pe_op op_add (pv 2) pe_int)) (po_some (pv 1)))) (blkOk_by (N := N_makes_idle) (by kernel_rfl)) (fun _ _ _ _ _ => (pg_name (i := 5) nd rfl (Or.inl rfl))) (fun _ _ _ _ _ => pts_nil) (fun _ _ _ _ _ => (pe_call G_do_commute (hr.mono (by decide)) (by rfl) m_do_commute k_do_commute b_do_commute .nil pass0 (pa_cons (pv 3) (pa_cons (pv 5) pa_nil))))) pa_nil)))))))))
/-! ### why_idle: slots 0 steps, 1 index, 2 by -/
theorem sc_why_idle : FnScope N_why_idle p_why_idle (defScope s_why_idle) := ⟨rfl, rfl, rfl, by decide +kernel, rfl, by decide +kernel, by decide +kernel⟩
def t_why_idle (K : PySem.W.Frag) (T : List (Addr × Str)) : TS :=
  (tSeq (tFor (iRng1 (tCons (tCB (RLen K) (tCons (tVar 0) tNil)) tNil)) (gName 2) (tIfS (tB (tCall (sp_makes_idle K T) [] E0 (tCons (tVar 0) (tCons (tVar 1) (tCons (tVar 2) tNil))))) (tRet (tVar 2)) tNext))
  (tRet (tC .non)))
/-- callees: makes_idle; builtins: range, len  -/
theorem dv_why_idle {P : Program} {w : World} {K : PySem.W.Frag} {mg : Str → Option Value} {base : Heap} {T : List (Addr × Str)} {f : Addr} (c_makes_idle : Cal P w K mg base "makes_idle" p_makes_idle L_makes_idle (sp_makes_idle K T)) (B : Bi mg) (cdv : Value) (A : Around) (outer : List PySem.Env) (s : Shared) (H : Hp) (E : XK)
    (hr : Room M_why_idle (A.deeper (envOfC "why_idle" (defScope s_why_idle) s.heap.objs.size f cdv))) :
    PSs (cxOf CX0 P w K mg base N_why_idle "why_idle" (defScope s_why_idle) f cdv A outer s H E).nox (defBody s_why_idle) (t_why_idle K T) := by
  obtain ⟨f_makes_idle, fd_makes_idle, G_makes_idle, b_makes_idle, m_makes_idle, k_makes_idle⟩ := c_makes_idle
  have nd := sc_why_idle.nd
  exact (pss_cons (ps_for PassesOwn.never rfl (pi_range1 (by rfl) B.range (pa_cons (pe_callB call_len_seq (by rfl) B.len PySem.boot_len (pa_cons (pv 0) pa_nil)) pa_nil)) (pg_name (i := 2) nd rfl (Or.inl rfl)) (pss_one (ps_if (pt_val (pe_call G_makes_idle (hr.mono (by decide)) (by rfl) m_makes_idle k_makes_idle b_makes_idle .nil pass0 (pa_cons (pv 0) (pa_cons (pv 1) (pa_cons (pv 2) pa_nil))))) (pss_one (ps_ret (pv 2))) pss_nil)))
  (pss_one (ps_ret pe_non)))
/-! ### first_idle: slots 0 steps, 1 index, 2 by -/
theorem sc_first_idle : FnScope N_first_idle p_first_idle (defScope s_first_idle) := ⟨rfl, rfl, rfl, by decide +kernel, rfl, by decide +kernel, by decide +kernel⟩
def t_first_idle (K : PySem.W.Frag) (T : List (Addr × Str)) : TS :=
  (tSeq (tFor (iRng1 (tCons (tCB (RLen K) (tCons (tVar 0) tNil)) tNil)) (gName 1) (tSeq (tAsg (tCall (sp_why_idle K T) [] E0 (tCons (tVar 0) (tCons (tVar 1) tNil))) (gName 2))
  (tIfS (tTest (tOp RNotN (tVar 2) (tC .non))) (tRet (tTup (tCons (tVar 1) (tCons (tVar 2) tNil)))) tNext)))
  (tRet (tC .non)))
/-- callees: why_idle; builtins: range, len  -/
theorem dv_first_idle {P : Program} {w : World} {K : PySem.W.Frag} {mg : Str → Option Value} {base : Heap} {T : List (Addr × Str)} {f : Addr} (c_why_idle : Cal P w K mg base "why_idle" p_why_idle L_why_idle (sp_why_idle K T)) (B : Bi mg) (cdv : Value) (A : Around) (outer : List PySem.Env) (s : Shared) (H : Hp) (E : XK)
    (hr : Room M_first_idle (A.deeper (envOfC "first_idle" (defScope s_first_idle) s.heap.objs.size f cdv))) :
    PSs (cxOf CX0 P w K mg base N_first_idle "first_idle" (defScope s_first_idle) f cdv A outer s H E).nox (defBody s_first_idle) (t_first_idle K T) := by
  obtain ⟨f_why_idle, fd_why_idle, G_why_idle, b_why_idle, m_why_idle, k_why_idle⟩ := c_why_idle
  have nd := sc_first_idle.nd
  exact (pss_cons (ps_for PassesOwn.never rfl (pi_range1 (by rfl) B.range (pa_cons (pe_callB call_len_seq (by rfl) B.len PySem.boot_len (pa_cons (pv 0) pa_nil)) pa_nil)) (pg_name (i := 1) nd rfl (Or.inl rfl)) (pss_cons (ps_set (i := 2) nd rfl (Or.inl rfl) (pe_call G_why_idle (hr.mono (by decide)) (by rfl) m_why_idle k_why_idle b_why_idle .nil pass0 (pa_cons (pv 0) (pa_cons (pv 1) pa_nil))))
  (pss_one (ps_if (pt_cmpR op_notN (pv 2) pe_non (nomark _)) (pss_one (ps_ret (pe_tup (pa_cons (pv 1) (pa_cons (pv 2) pa_nil))))) pss_nil))))
  (pss_one (ps_ret pe_non)))
/-! ### remaining_of: slots 0 steps, 1 at -/
theorem sc_remaining_of : FnScope N_remaining_of p_remaining_of (defScope s_remaining_of) := ⟨rfl, rfl, rfl, by decide +kernel, rfl, by decide +kernel, by decide +kernel⟩
def t_remaining_of (K : PySem.W.Frag) (T : List (Addr × Str)) : TS :=
  (tRet (tCB (RTuple K) (tCons (tLc (iList K (tOp (rIxT K) (tCall (sp_reduction_of K T) [] E0 (tCons (tVar 0) tNil)) (tC (.int 1)))) (gName 1) tYes (tOp (rIxT K) (tVar 0) (tVar 1)) [1]) tNil)))
/-- callees: reduction_of; builtins: tuple  -/
theorem dv_remaining_of {P : Program} {w : World} {K : PySem.W.Frag} {mg : Str → Option Value} {base : Heap} {T : List (Addr × Str)} {f : Addr} (c_reduction_of : Cal P w K mg base "reduction_of" p_reduction_of L_reduction_of (sp_reduction_of K T)) (B : Bi mg) (cdv : Value) (A : Around) (outer : List PySem.Env) (s : Shared) (H : Hp) (E : XK)
    (hr : Room M_remaining_of (A.deeper (envOfC "remaining_of" (defScope s_remaining_of) s.heap.objs.size f cdv))) :
    PSs (cxOf CX0 P w K mg base N_remaining_of "remaining_of" (defScope s_remaining_of) f cdv A outer s H E).nox (defBody s_remaining_of) (t_remaining_of K T) := by
  obtain ⟨f_reduction_of, fd_reduction_of, G_reduction_of, b_reduction_of, m_reduction_of, k_reduction_of⟩ := c_reduction_of
  have nd := sc_remaining_of.nd
  exact (pss_one (ps_ret (pe_callTy call_tuple_of (by rfl) B.tuple (by decide +kernel) (pa_cons (pe_lc (own := [("at", 1)]) (by rfl) nd (pi_list (pe_ix ix_tup (pe_call G_reduction_of (hr.mono (by decide)) (by rfl) m_reduction_of k_reduction_of b_reduction_of .nil pass0 (pa_cons (pv 0) pa_nil)) pe_int (fun _ _ => rfl))) (blkOk_by (N := N_remaining_of) (by kernel_rfl)) (fun _ _ _ _ _ => (pg_name (i := 1) nd rfl (Or.inl rfl))) (fun _ _ _ _ _ => pts_nil) (fun _ _ _ _ _ => (pe_ix ix_tup (pv 0) (pv 1) (fun _ _ => rfl)))) pa_nil))))
/-! ### layers_of_row: slots 0 row -/
theorem sc_layers_of_row : FnScope N_layers_of_row p_layers_of_row (defScope s_layers_of_row) := ⟨rfl, rfl, rfl, by decide +kernel, rfl, by decide +kernel, by decide +kernel⟩
def t_layers_of_row (K : PySem.W.Frag) (T : List (Addr × Str)) : TS :=
  (tRet (tCall (sp_layers_in K T) [] E0 (tCons (tCall (sp_remaining_of K T) [] E0 (tCons (tCall (sp_steps_in K T) [] E0 (tCons (tVar 0) tNil)) tNil)) tNil)))
/-- callees: steps_in, remaining_of, layers_in; builtins:   -/
theorem dv_layers_of_row {P : Program} {w : World} {K : PySem.W.Frag} {mg : Str → Option Value} {base : Heap} {T : List (Addr × Str)} {f : Addr} (c_steps_in : Cal P w K mg base "steps_in" p_steps_in L_steps_in (sp_steps_in K T)) (c_remaining_of : Cal P w K mg base "remaining_of" p_remaining_of L_remaining_of (sp_remaining_of K T)) (c_layers_in : Cal P w K mg base "layers_in" p_layers_in L_layers_in (sp_layers_in K T)) (cdv : Value) (A : Around) (outer : List PySem.Env) (s : Shared) (H : Hp) (E : XK)
    (hr : Room M_layers_of_row (A.deeper (envOfC "layers_of_row" (defScope s_layers_of_row) s.heap.objs.size f cdv))) :
    PSs (cxOf CX0 P w K mg base N_layers_of_row "layers_of_row" (defScope s_layers_of_row) f cdv A outer s H E).nox (defBody s_layers_of_row) (t_layers_of_row K T) := by
  obtain ⟨f_steps_in, fd_steps_in, G_steps_in, b_steps_in, m_steps_in, k_steps_in⟩ := c_steps_in
  obtain ⟨f_remaining_of, fd_remaining_of, G_remaining_of, b_remaining_of, m_remaining_of, k_remaining_of⟩ := c_remaining_of
  obtain ⟨f_layers_in, fd_layers_in, G_layers_in, b_layers_in, m_layers_in, k_layers_in⟩ := c_layers_in
  have nd := sc_layers_of_row.nd
  exact (pss_one (ps_ret (pe_call G_layers_in (hr.mono (by decide)) (by rfl) m_layers_in k_layers_in b_layers_in .nil pass0 (pa_cons (pe_call G_remaining_of (hr.mono (by decide)) (by rfl) m_remaining_of k_remaining_of b_remaining_of .nil pass0 (pa_cons (pe_call G_steps_in (hr.mono (by decide)) (by rfl) m_steps_in k_steps_in b_steps_in .nil pass0 (pa_cons (pv 0) pa_nil)) pa_nil)) pa_nil))))
/-! ### is_alike: slots 0 first, 1 second -/
theorem sc_is_alike : FnScope N_is_alike p_is_alike (defScope s_is_alike) := ⟨rfl, rfl, rfl, by decide +kernel, rfl, by decide +kernel, by decide +kernel⟩
def t_is_alike (K : PySem.W.Frag) (T : List (Addr × Str)) : TS :=
  (tRet (tOp (rEqD K) (tCall (sp_layers_of_row K T) [] E0 (tCons (tVar 0) tNil)) (tCall (sp_layers_of_row K T) [] E0 (tCons (tVar 1) tNil))))
/-- callees: layers_of_row; builtins:   -/
theorem dv_is_alike {P : Program} {w : World} {K : PySem.W.Frag} {mg : Str → Option Value} {base : Heap} {T : List (Addr × Str)} {f : Addr} (c_layers_of_row : Cal P w K mg base "layers_of_row" p_layers_of_row L_layers_of_row (sp_layers_of_row K T)) (cdv : Value) (A : Around) (outer : List PySem.Env) (s : Shared) (H : Hp) (E : XK)
    (hr : Room M_is_alike (A.deeper (envOfC "is_alike" (defScope s_is_alike) s.heap.objs.size f cdv))) :
    PSs (cxOf CX0 P w K mg base N_is_alike "is_alike" (defScope s_is_alike) f cdv A outer s H E).nox (defBody s_is_alike) (t_is_alike K T) := by
  obtain ⟨f_layers_of_row, fd_layers_of_row, G_layers_of_row, b_layers_of_row, m_layers_of_row, k_layers_of_row⟩ := c_layers_of_row
  have nd := sc_is_alike.nd
  exact (pss_one (ps_ret (pe_cmpR (op_eqD hr.units) (pe_call G_layers_of_row (hr.mono (by decide)) (by rfl) m_layers_of_row k_layers_of_row b_layers_of_row .nil pass0 (pa_cons (pv 0) pa_nil)) (pe_call G_layers_of_row (hr.mono (by decide)) (by rfl) m_layers_of_row k_layers_of_row b_layers_of_row .nil pass0 (pa_cons (pv 1) pa_nil)) (nomark _))))
/-! ### check_rows: slots 0 first, 1 second -/
theorem sc_check_rows : FnScope N_check_rows p_check_rows (defScope s_check_rows) := ⟨rfl, rfl, rfl, by decide +kernel, rfl, by decide +kernel, by decide +kernel⟩
def t_check_rows (K : PySem.W.Frag) (T : List (Addr × Str)) : TS :=
  (tSeq (tDrop (tCall (sp_check_row K T) [] E0 (tCons (tVar 0) (tCons (tC (.str "first")) tNil))))
  (tDrop (tCall (sp_check_row K T) [] E0 (tCons (tVar 1) (tCons (tC (.str "second")) tNil)))))
/-- callees: check_row; builtins:   -/
theorem dv_check_rows {P : Program} {w : World} {K : PySem.W.Frag} {mg : Str → Option Value} {base : Heap} {T : List (Addr × Str)} {f : Addr} (c_check_row : Cal P w K mg base "check_row" p_check_row L_check_row (sp_check_row K T)) (cdv : Value) (A : Around) (outer : List PySem.Env) (s : Shared) (H : Hp) (E : XK)
    (hr : Room M_check_rows (A.deeper (envOfC "check_rows" (defScope s_check_rows) s.heap.objs.size f cdv))) :
    PSs (cxOf CX0 P w K mg base N_check_rows "check_rows" (defScope s_check_rows) f cdv A outer s H E).nox (defBody s_check_rows) (t_check_rows K T) := by
  obtain ⟨f_check_row, fd_check_row, G_check_row, b_check_row, m_check_row, k_check_row⟩ := c_check_row
  have nd := sc_check_rows.nd
  exact (pss_cons (ps_expr (pe_call G_check_row (hr.mono (by decide)) (by rfl) m_check_row k_check_row b_check_row .nil pass0 (pa_cons (pv 0) (pa_cons pe_str pa_nil))))
  (pss_one (ps_expr (pe_call G_check_row (hr.mono (by decide)) (by rfl) m_check_row k_check_row b_check_row .nil pass0 (pa_cons (pv 1) (pa_cons pe_str pa_nil))))))
/-! ### are_alike: slots 0 first, 1 second -/
theorem sc_are_alike : FnScope N_are_alike p_are_alike (defScope s_are_alike) := ⟨rfl, rfl, rfl, by decide +kernel, rfl, by decide +kernel, by decide +kernel⟩
def t_are_alike (K : PySem.W.Frag) (T : List (Addr × Str)) : TS :=
  (tSeq (tDrop (tCall (sp_check_rows K T) [] E0 (tCons (tVar 0) (tCons (tVar 1) tNil))))
  (tRet (tCall (sp_is_alike K T) [] E0 (tCons (tVar 0) (tCons (tVar 1) tNil)))))
/-- callees: is_alike, check_rows; builtins:   -/
theorem dv_are_alike {P : Program} {w : World} {K : PySem.W.Frag} {mg : Str → Option Value} {base : Heap} {T : List (Addr × Str)} {f : Addr} (c_is_alike : Cal P w K mg base "is_alike" p_is_alike L_is_alike (sp_is_alike K T)) (c_check_rows : Cal P w K mg base "check_rows" p_check_rows L_check_rows (sp_check_rows K T)) (cdv : Value) (A : Around) (outer : List PySem.Env) (s : Shared) (H : Hp) (E : XK)
    (hr : Room M_are_alike (A.deeper (envOfC "are_alike" (defScope s_are_alike) s.heap.objs.size f cdv))) :
    PSs (cxOf CX0 P w K mg base N_are_alike "are_alike" (defScope s_are_alike) f cdv A outer s H E).nox (defBody s_are_alike) (t_are_alike K T) := by
  obtain ⟨f_is_alike, fd_is_alike, G_is_alike, b_is_alike, m_is_alike, k_is_alike⟩ := c_is_alike
  obtain ⟨f_check_rows, fd_check_rows, G_check_rows, b_check_rows, m_check_rows, k_check_rows⟩ := c_check_rows
  have nd := sc_are_alike.nd
  exact (pss_cons (ps_expr (pe_call G_check_rows (hr.mono (by decide)) (by rfl) m_check_rows k_check_rows b_check_rows .nil pass0 (pa_cons (pv 0) (pa_cons (pv 1) pa_nil))))
  (pss_one (ps_ret (pe_call G_is_alike (hr.mono (by decide)) (by rfl) m_is_alike k_is_alike b_is_alike .nil pass0 (pa_cons (pv 0) (pa_cons (pv 1) pa_nil))))))
/-! ### shortest_of: slots 0 row, 1 at -/
theorem sc_shortest_of : FnScope N_shortest_of p_shortest_of (defScope s_shortest_of) := ⟨rfl, rfl, rfl, by decide +kernel, rfl, by decide +kernel, by decide +kernel⟩
def t_shortest_of (K : PySem.W.Frag) (T : List (Addr × Str)) : TS :=
  (tRet (tCB (RTuple K) (tCons (tLc (iList K (tCall (sp_kept_indexes K T) [] E0 (tCons (tVar 0) tNil))) (gName 1) tYes (tOp (rIxT K) (tVar 0) (tVar 1)) [1]) tNil)))
/-- callees: kept_indexes; builtins: tuple  -/
theorem dv_shortest_of {P : Program} {w : World} {K : PySem.W.Frag} {mg : Str → Option Value} {base : Heap} {T : List (Addr × Str)} {f : Addr} (c_kept_indexes : Cal P w K mg base "kept_indexes" p_kept_indexes L_kept_indexes (sp_kept_indexes K T)) (B : Bi mg) (cdv : Value) (A : Around) (outer : List PySem.Env) (s : Shared) (H : Hp) (E : XK)
    (hr : Room M_shortest_of (A.deeper (envOfC "shortest_of" (defScope s_shortest_of) s.heap.objs.size f cdv))) :
    PSs (cxOf CX0 P w K mg base N_shortest_of "shortest_of" (defScope s_shortest_of) f cdv A outer s H E).nox (defBody s_shortest_of) (t_shortest_of K T) := by
  obtain ⟨f_kept_indexes, fd_kept_indexes, G_kept_indexes, b_kept_indexes, m_kept_indexes, k_kept_indexes⟩ := c_kept_indexes
  have nd := sc_shortest_of.nd
  exact (pss_one (ps_ret (pe_callTy call_tuple_of (by rfl) B.tuple (by decide +kernel) (pa_cons (pe_lc (own := [("at", 1)]) (by rfl) nd (pi_list (pe_call G_kept_indexes (hr.mono (by decide)) (by rfl) m_kept_indexes k_kept_indexes b_kept_indexes .nil pass0 (pa_cons (pv 0) pa_nil))) (blkOk_by (N := N_shortest_of) (by kernel_rfl)) (fun _ _ _ _ _ => (pg_name (i := 1) nd rfl (Or.inl rfl))) (fun _ _ _ _ _ => pts_nil) (fun _ _ _ _ _ => (pe_ix ix_tup (pv 0) (pv 1) (fun _ _ => rfl)))) pa_nil))))
/-! ### shortest: slots 0 row -/
theorem sc_shortest : FnScope N_shortest p_shortest (defScope s_shortest) := ⟨rfl, rfl, rfl, by decide +kernel, rfl, by decide +kernel, by decide +kernel⟩
def t_shortest (K : PySem.W.Frag) (T : List (Addr × Str)) : TS :=
  (tSeq (tDrop (tCall (sp_check_row K T) [] E0 (tCons (tVar 0) (tCons (tC (.str "row")) tNil))))
  (tRet (tCall (sp_shortest_of K T) [] E0 (tCons (tVar 0) tNil))))
/-- callees: shortest_of, check_row; builtins:   -/
theorem dv_shortest {P : Program} {w : World} {K : PySem.W.Frag} {mg : Str → Option Value} {base : Heap} {T : List (Addr × Str)} {f : Addr} (c_shortest_of : Cal P w K mg base "shortest_of" p_shortest_of L_shortest_of (sp_shortest_of K T)) (c_check_row : Cal P w K mg base "check_row" p_check_row L_check_row (sp_check_row K T)) (cdv : Value) (A : Around) (outer : List PySem.Env) (s : Shared) (H : Hp) (E : XK)
    (hr : Room M_shortest (A.deeper (envOfC "shortest" (defScope s_shortest) s.heap.objs.size f cdv))) :
    PSs (cxOf CX0 P w K mg base N_shortest "shortest" (defScope s_shortest) f cdv A outer s H E).nox (defBody s_shortest) (t_shortest K T) := by
  obtain ⟨f_shortest_of, fd_shortest_of, G_shortest_of, b_shortest_of, m_shortest_of, k_shortest_of⟩ := c_shortest_of
  obtain ⟨f_check_row, fd_check_row, G_check_row, b_check_row, m_check_row, k_check_row⟩ := c_check_row
  have nd := sc_shortest.nd
  exact (pss_cons (ps_expr (pe_call G_check_row (hr.mono (by decide)) (by rfl) m_check_row k_check_row b_check_row .nil pass0 (pa_cons (pv 0) (pa_cons pe_str pa_nil))))
  (pss_one (ps_ret (pe_call G_shortest_of (hr.mono (by decide)) (by rfl) m_shortest_of k_shortest_of b_shortest_of .nil pass0 (pa_cons (pv 0) pa_nil)))))
/-! ### left_out: slots 0 row, 1 kept, 2 at -/
theorem sc_left_out : FnScope N_left_out p_left_out (defScope s_left_out) := ⟨rfl, rfl, rfl, by decide +kernel, rfl, by decide +kernel, by decide +kernel⟩
def t_left_out (K : PySem.W.Frag) (T : List (Addr × Str)) : TS :=
  (tSeq (tDrop (tCall (sp_check_row K T) [] E0 (tCons (tVar 0) (tCons (tC (.str "row")) tNil))))
  (tSeq (tAsg (tCall (sp_kept_indexes K T) [] E0 (tCons (tVar 0) tNil)) (gName 1))
  (tRet (tCB (RTuple K) (tCons (tLc (iRng1 (tCons (tCB (RLen K) (tCons (tVar 0) tNil)) tNil)) (gName 2) (tTest (tOp (rIn K true) (tVar 2) (tVar 1))) (tVar 2) [2]) tNil)))))
/-- callees: kept_indexes, check_row; builtins: tuple, range, len  -/
theorem dv_left_out {P : Program} {w : World} {K : PySem.W.Frag} {mg : Str → Option Value} {base : Heap} {T : List (Addr × Str)} {f : Addr} (c_kept_indexes : Cal P w K mg base "kept_indexes" p_kept_indexes L_kept_indexes (sp_kept_indexes K T)) (c_check_row : Cal P w K mg base "check_row" p_check_row L_check_row (sp_check_row K T)) (B : Bi mg) (cdv : Value) (A : Around) (outer : List PySem.Env) (s : Shared) (H : Hp) (E : XK)
    (hr : Room M_left_out (A.deeper (envOfC "left_out" (defScope s_left_out) s.heap.objs.size f cdv))) :
    PSs (cxOf CX0 P w K mg base N_left_out "left_out" (defScope s_left_out) f cdv A outer s H E).nox (defBody s_left_out) (t_left_out K T) := by
  obtain ⟨f_kept_indexes, fd_kept_indexes, G_kept_indexes, b_kept_indexes, m_kept_indexes, k_kept_indexes⟩ := c_kept_indexes
  obtain ⟨f_check_row, fd_check_row, G_check_row, b_check_row, m_check_row, k_check_row⟩ := c_check_row
  have nd := sc_left_out.nd
  exact (pss_cons (ps_expr (pe_call G_check_row (hr.mono (by decide)) (by rfl) m_check_row k_check_row b_check_row .nil pass0 (pa_cons (pv 0) (pa_cons pe_str pa_nil))))
  (pss_cons (ps_set (i := 1) nd rfl (Or.inr rfl) (pe_call G_kept_indexes (hr.mono (by decide)) (by rfl) m_kept_indexes k_kept_indexes b_kept_indexes .nil pass0 (pa_cons (pv 0) pa_nil)))
  (pss_one (ps_ret (pe_callTy call_tuple_of (by rfl) B.tuple (by decide +kernel) (pa_cons (pe_lc (own := [("at", 2)]) (by rfl) nd (pi_range1 (by rfl) B.range (pa_cons (pe_callB call_len_seq (by rfl) B.len PySem.boot_len (pa_cons (pv 0) pa_nil)) pa_nil)) (blkOk_by (N := N_left_out) (by kernel_rfl)) (fun _ _ _ _ _ => (pg_name (i := 2) nd rfl (Or.inl rfl))) (fun _ _ _ _ _ => (pts_one (pt_cmpR op_notIn_seq (pv 2) (pv 1) (by rfl)))) (fun _ _ _ _ _ => (pv 2))) pa_nil))))))

/-! ### what the data say -/
theorem at_map {α : Type} (f : α → PyData) {l : List α} {i : Nat} (h : i < l.length) : atI (l.map f) (i : Int) = some (f l[i]) := atI_nat (by rw [List.getElem?_map, List.getElem?_eq_getElem h]; rfl)
theorem at_dSs {L : List Stp} {i : Nat} (h : i < L.length) : atI (dSs L) (i : Int) = some (dS (L.getD i s0)) := by
  unfold dSs
  rw [at_map dS h, List.getD_eq_getElem?_getD, List.getElem?_eq_getElem h]
  rfl
theorem lay_kd (b : Bool) : PyData.canLay0 (.str (kd b)) = true := by cases b <;> decide +kernel
theorem shaped_ke (b : Bool) (e : Int) : SeqAt.shaped (.tuple [.str (kd b), .int e]) = true := by
  have h := lay_kd b
  simp [SeqAt.shaped, PyData.canLay0, PyData.canLayAll0, PyData.depth, PyData.depthAll] at h ⊢
  exact h
theorem eqv_ke (a b : Bool) (e f : Int) : PyData.eqv (.tuple [.str (kd a), .int e]) (.tuple [.str (kd b), .int f]) = decide (a = b ∧ e = f) := by
  simp only [PyData.eqv, PyData.eqvAll, Bool.and_true]
  by_cases c : a = b
  · subst c
    by_cases c2 : e = f
    · subst c2
      simp
    · simp [c2]
  · have c3 : ¬ kd a = kd b := fun z => c (kd_inj.mp z)
    simp [c, c3]
theorem cut2 (x y z : PyData) : cutD [x, y, z] none (some 2) = [x, y] := rfl
theorem cut_nat {α : Type} (xs : List α) (i j : Nat) : cutD xs (some (i : Int)) (some (j : Int)) = (xs.drop i).take (j - i) := by
  unfold cutD
  rw [HT.sIx_nat, HT.sIx_nat]
  apply List.ext_getElem?
  intro k
  rw [List.getElem?_take, List.getElem?_take, List.getElem?_drop, List.getElem?_drop]
  by_cases c : i ≤ xs.length
  · rw [Nat.min_eq_left c]
    by_cases c2 : k < j - i
    · rw [if_pos c2]
      by_cases c3 : k < min j xs.length - i
      · rw [if_pos c3]
      · rw [if_neg c3, List.getElem?_eq_none (by omega)]
    · rw [if_neg c2, if_neg (by omega)]
  · rw [if_neg (by omega), List.getElem?_eq_none (l := xs) (by omega)]
    split <;> rfl
section
variable {W : Wd} {ds : List PyData} {P : PyData → Prop}
theorem ss_makes_idle (h : C_makes_idle ds P) : Ss W (t_makes_idle W.K W.T) (startG N_makes_idle.length ds) (fun _ => P .none) P := by
  obtain ⟨L, i, b, rfl, hi, hb', hl, h⟩ := h
  unfold t_makes_idle dNat
  walk_at "evs"
  refine ss_asgG [3, 4] ?_
  walk_at "evs"
  refine ro_ixL (at_dSs hi) ?_
  walk_at "evs"
  refine ro_ixL (at_dSs hb') ?_
  walk_at "evs"
  unfold makesIdle at h
  refine ⟨_, rfl, fun e1 => ?_, fun e1 => ?_⟩
  · have ne : ¬ i = b := fun z => by
      subst z
      exact of_decide_eq_false e1 rfl
    walk_at "evs"
    rw [cut2, cut2]
    refine ro_neD (shaped_ke _ _) (shaped_ke _ _) ?_
    rw [eqv_ke]
    refine ⟨_, rfl, fun e2 => ?_, fun e2 => ?_⟩
    · walk_at "evs"
      have e2' : ¬ ((L.getD i s0).1 = (L.getD b s0).1 ∧ (L.getD i s0).2.1 = (L.getD b s0).2.1) := fun z => by
        rw [decide_eq_true z] at e2
        cases e2
      rw [if_pos (.inr e2')] at h
      exact h
    · have e2' : (L.getD i s0).1 = (L.getD b s0).1 ∧ (L.getD i s0).2.1 = (L.getD b s0).2.1 := by
        apply Classical.byContradiction
        intro z
        rw [decide_eq_false z] at e2
        cases e2
      rw [if_neg (fun z => z.elim ne fun z => z e2')] at h
      walk_at "evs"
      refine ⟨_, rfl, fun e3 => ?_, fun e3 => ?_⟩
      · have c : i < b := by
          have := of_decide_eq_true e3
          omega
        rw [if_pos c] at h
        walk_at "evs"
        exact ⟨_, _, rfl, _, rfl, h⟩
      · have c : ¬ i < b := by
          have := of_decide_eq_false e3
          omega
        have c2 : b < i := by omega
        rw [if_neg c] at h
        walk_at "evs"
        refine ⟨_, _, rfl, _, rfl, fun e4 => ?_, fun e4 => ?_⟩
        · rw [e4, Bool.true_and] at h
          walk_at "evs"
          refine EvL.ev (el_lc (ei_list (EvL.ev (el_slL ?_))))
          walk_at "evs"
          refine ⟨fun k acc => acc = (((L.drop (b + 1)).take k).map (commute (L.getD i s0))).map .bool, rfl, ?_, ?_, ?_⟩
          · refine Nat.le_trans (cutD_len _ _ _) ?_
            unfold dSs
            rw [List.length_map]
            omega
          · rintro k d acc hd rfl
            have e5 : ((b : Int) + 1) = ((b + 1 : Nat) : Int) := rfl
            rw [e5, cut_nat, dSs, ← List.map_drop, ← List.map_take] at hd
            obtain ⟨s, hs, rfl⟩ := get_map_some hd
            walk_at "evs"
            refine et_yes (andT ?_)
            walk_at "evs"
            refine ⟨_, _, rfl, rfl, ?_⟩
            show _ ++ [PyData.bool _] = _
            rw [List.getElem?_take] at hs
            split at hs
            · rw [List.take_add_one, hs, List.map_append, List.map_append]
              rfl
            · cases hs
          · rintro acc rfl
            walk_at "evs"
            refine rc_all ?_
            have e5 : ((b : Int) + 1) = ((b + 1 : Nat) : Int) := rfl
            rw [e5, cut_nat, dSs, ← List.map_drop, ← List.map_take, List.length_map, List.length_take]
            have e6 : (((L.drop (b + 1)).take (min (i - (b + 1)) (L.drop (b + 1)).length)).map (commute (L.getD i s0))).all id = ((L.drop (b + 1)).take (i - (b + 1))).all (commute (L.getD i s0)) := by
              rw [List.all_map]
              congr 1
              rw [List.take_eq_take_iff]
              omega
            rw [e6]
            exact h
        · rw [e4, Bool.false_and] at h
          exact h
  · have e : i = b := by
      have := of_decide_eq_true e1
      omega
    rw [if_pos (.inl e)] at h
    refine andT ?_
    walk_at "evs"
    exact h
theorem find_range {p : Nat → Bool} {n : Nat} : (∀ k, k < n → p k = false) → (List.range n).find? p = none := fun h => by
  rw [List.find?_eq_none]
  intro x hx
  rw [h x (List.mem_range.mp hx)]
  decide
theorem find_at {p : Nat → Bool} {n k : Nat} (hk : k < n) (h : ∀ j, j < k → p j = false) (hp : p k = true) : (List.range n).find? p = some k := by
  rw [List.find?_eq_some_iff_append]
  refine ⟨hp, List.range k, (List.range (n - (k + 1))).map (k + 1 + ·), ?_, fun x hx => ?_⟩
  · rw [show n = k + (n - (k + 1) + 1) by omega, List.range_add, show k + (n - (k + 1) + 1) - (k + 1) = n - (k + 1) by omega]
    congr 1
    rw [List.range_succ_eq_map, List.map_cons, List.map_map]
    congr 1
    apply List.map_congr_left
    intro x _
    show k + (x + 1) = k + 1 + x
    omega
  · rw [h x (List.mem_range.mp hx)]
    rfl
theorem ss_why_idle (h : C_why_idle ds P) : Ss W (t_why_idle W.K W.T) (startG N_why_idle.length ds) (fun _ => P .none) P := by
  obtain ⟨L, i, rfl, hi, hl, h⟩ := h
  unfold t_why_idle dNat
  walk_at "evs"
  refine ss_for [2] (ei_rng1 ?_)
  walk_at "evs"
  have el : (dSs L).length = L.length := List.length_map ..
  refine ⟨_, rfl, by omega, by omega, fun k Γ => (∃ x, Γ = [some (.list (dSs L)), some (.int (i : Int)), x]) ∧ ∀ j, j < k → makesIdle L i j = false, ⟨⟨_, rfl⟩, fun j hj => absurd hj (Nat.not_lt_zero j)⟩, ?_, ?_⟩
  · rintro k d Γ hd ⟨⟨x, rfl⟩, hk⟩
    obtain ⟨hk1, rfl⟩ := rgD_get hd
    have hk2 : k < L.length := by omega
    walk_at "evs"
    refine ⟨L, i, k, by rw [Int.zero_add]; rfl, hi, hk2, hl, _, rfl, fun hb => ?_, fun hb => ?_⟩
    · walk_at "evs"
      unfold whyIdle at h
      rw [find_at hk2 hk hb] at h
      rw [Int.zero_add]
      exact h
    · walk_at "evs"
      refine ⟨⟨_, rfl⟩, fun j hj => ?_⟩
      by_cases c : j = k
      · rw [c]
        exact hb
      · exact hk j (by omega)
  · rintro Γ ⟨⟨x, rfl⟩, hk⟩
    walk_at "evs"
    unfold whyIdle at h
    rw [find_range fun j hj => hk j (by rw [rgD_len]; omega)] at h
    exact h
theorem some_range {α : Type} {p : Nat → Option α} {n : Nat} (h : ∀ k, k < n → p k = none) : (List.range n).findSome? p = none := by
  rw [List.findSome?_eq_none_iff]
  intro x hx
  exact h x (List.mem_range.mp hx)
theorem some_at {α : Type} {p : Nat → Option α} {n k : Nat} {a : α} (hk : k < n) (h : ∀ j, j < k → p j = none) (hp : p k = some a) : (List.range n).findSome? p = some a := by
  rw [show n = k + (n - (k + 1) + 1) by omega, List.range_add, List.findSome?_append, some_range h, List.range_succ_eq_map, List.map_cons, List.findSome?_cons]
  show (match p (k + 0) with | some b => some b | none => _) = some a
  rw [Nat.add_zero, hp]
theorem none_dOpt {o : Option Nat} : isNone (dOpt o) = o.isNone := by cases o <;> rfl
theorem ss_first_idle (h : C_first_idle ds P) : Ss W (t_first_idle W.K W.T) (startG N_first_idle.length ds) (fun _ => P .none) P := by
  obtain ⟨L, rfl, hl, h⟩ := h
  unfold t_first_idle
  walk_at "evs"
  refine ss_for [1] (ei_rng1 ?_)
  walk_at "evs"
  have el : (dSs L).length = L.length := List.length_map ..
  refine ⟨_, rfl, by omega, by omega, fun k Γ => (∃ x y, Γ = [some (.list (dSs L)), x, y]) ∧ ∀ j, j < k → whyIdle L j = none, ⟨⟨_, _, rfl⟩, fun j hj => absurd hj (Nat.not_lt_zero j)⟩, ?_, ?_⟩
  · rintro k d Γ hd ⟨⟨x, y, rfl⟩, hk⟩
    obtain ⟨hk1, rfl⟩ := rgD_get hd
    have hk2 : k < L.length := by omega
    walk_at "evs"
    refine ⟨L, k, by rw [Int.zero_add]; rfl, hk2, hl, ?_⟩
    cases e : whyIdle L k with
    | none =>
      show Ss W _ _ _ _
      walk_at "evs"
      refine ⟨_, rfl, andF ?_⟩
      walk_at "evs"
      refine ⟨⟨_, _, rfl⟩, fun j hj => ?_⟩
      by_cases c : j = k
      · rw [c]
        exact e
      · exact hk j (by omega)
    | some b =>
      unfold dOpt dNat
      walk_at "evs"
      refine ⟨_, rfl, andT ?_⟩
      walk_at "evs"
      unfold firstIdle at h
      rw [some_at (a := (k, b)) hk2 (fun j hj => by rw [hk j hj]; rfl) (by rw [e]; rfl)] at h
      rw [Int.zero_add]
      exact h
  · rintro Γ ⟨⟨x, y, rfl⟩, hk⟩
    walk_at "evs"
    unfold firstIdle at h
    rw [some_range fun j hj => by rw [hk j (by rw [rgD_len]; omega)]; rfl] at h
    exact h
end

theorem left_len (L : List Stp) : (leftOf L).length ≤ L.length := by
  have h := (redN_chain (at_ L) L.length (List.range L.length)).sub.length_le
  rw [List.length_range] at h
  exact h
theorem rem_len (L : List Stp) : (remOf L).length ≤ L.length := by
  unfold remOf
  rw [List.length_map]
  exact left_len L
theorem steps_len16 {r : Row} (h : r.length ≤ 8) : (stepsIn r).length ≤ 16 := by
  rw [steps_len]
  omega
theorem eqvAll_map {α : Type} (f : α → PyData) (hf : ∀ a b, PyData.eqv (f a) (f b) = true → a = b) : ∀ {l m : List α}, PyData.eqvAll (l.map f) (m.map f) = true → l = m
  | [], [], _ => rfl
  | [], b :: m, h => by simp [PyData.eqvAll] at h
  | a :: l, [], h => by simp [PyData.eqvAll] at h
  | a :: l, b :: m, h => by
    simp only [List.map_cons, PyData.eqvAll, Bool.and_eq_true] at h
    rw [hf a b h.1, eqvAll_map f hf h.2]
theorem eqvAll_refl {α : Type} (f : α → PyData) (hf : ∀ a, PyData.eqv (f a) (f a) = true) : ∀ l : List α, PyData.eqvAll (l.map f) (l.map f) = true
  | [] => by simp [PyData.eqvAll]
  | a :: l => by
    simp only [List.map_cons, PyData.eqvAll, Bool.and_eq_true]
    exact ⟨hf a, eqvAll_refl f hf l⟩
theorem eqv_dS {a b : Stp} (h : PyData.eqv (dS a) (dS b) = true) : a = b := by
  obtain ⟨k, e, t⟩ := a
  obtain ⟨k', e', t'⟩ := b
  simp only [PyData.eqv, PyData.eqvAll, Bool.and_true, Bool.and_eq_true, beq_iff_eq] at h
  obtain ⟨h1, h2, h3⟩ := h
  rw [kd_inj.mp h1, h2, h3]
theorem eqv_lay {l m : List (List Stp)} (h : PyData.eqv (dLay l) (dLay m) = true) : l = m := by
  unfold dLay at h
  simp only [PyData.eqv] at h
  refine eqvAll_map _ (fun a b hab => ?_) h
  simp only [PyData.eqv] at hab
  exact eqvAll_map dS (fun _ _ => eqv_dS) hab
theorem layAll_map {α : Type} (f : α → PyData) (hf : ∀ a, (f a).canLay0 = true) : ∀ l : List α, PyData.canLayAll0 (l.map f) = true
  | [] => by simp [PyData.canLayAll0]
  | a :: l => by
    simp only [List.map_cons, PyData.canLayAll0, Bool.and_eq_true]
    exact ⟨hf a, layAll_map f hf l⟩
theorem depthAll_map {α : Type} (f : α → PyData) (n : Nat) (hf : ∀ a, (f a).depth ≤ n) : ∀ l : List α, PyData.depthAll (l.map f) ≤ n
  | [] => by simp [PyData.depthAll]
  | a :: l => by
    simp only [List.map_cons, PyData.depthAll]
    have h1 := hf a
    have h2 := depthAll_map f n hf l
    omega
theorem lay_dS (s : Stp) : (dS s).canLay0 = true := by
  have h := lay_kd s.1
  simp only [PyData.canLay0, PyData.canLayAll0, Bool.and_true] at h ⊢
  exact h
theorem depth_dS (s : Stp) : (dS s).depth ≤ 1 := by simp [PyData.depth, PyData.depthAll]
theorem shaped_tup {α : Type} (f : α → PyData) (n : Nat) (hn : n < 64) (hf : ∀ a, (f a).canLay0 = true) (hd : ∀ a, (f a).depth ≤ n) (l : List α) : SeqAt.shaped (.tuple (l.map f)) = true := by
  have h1 := layAll_map f hf l
  have h2 := depthAll_map f n hd l
  simp only [SeqAt.shaped, PyData.canLay0, PyData.depth, Bool.and_eq_true, decide_eq_true_eq]
  exact ⟨h1, decide_eq_true (by omega)⟩
theorem shaped_lay (LL : List (List Stp)) : SeqAt.shaped (dLay LL) = true := by
  refine shaped_tup (fun l => PyData.tuple (dSs l)) 2 (by decide) (fun l => ?_) (fun l => ?_) LL
  · simp only [PyData.canLay0]
    exact layAll_map dS lay_dS l
  · have h := depthAll_map dS 1 depth_dS l
    simp only [PyData.depth]
    unfold dSs
    omega
theorem dIx_ints (l : List Nat) : dIx l = (l.map fun k : Nat => (k : Int)).map PyData.int := by
  unfold dIx
  rw [List.map_map]
  rfl
theorem mem_ints {k : Nat} {l : List Nat} : ((k : Int) ∈ l.map fun k : Nat => (k : Int)) ↔ k ∈ l := by
  rw [List.mem_map]
  constructor
  · rintro ⟨j, hj, e⟩
    have : j = k := by omega
    rw [← this]
    exact hj
  · exact fun h => ⟨k, h, rfl⟩
theorem dIx_get {l : List Nat} {i : Nat} {d : PyData} (h : (dIx l)[i]? = some d) : ∃ k, l[i]? = some k ∧ d = .int (k : Int) := get_map_some (f := dNat) h
theorem take_map_snoc {α β : Type} (f : α → β) {l : List α} {i : Nat} {a : α} (h : l[i]? = some a) : (l.take i).map f ++ [f a] = (l.take (i + 1)).map f := by
  rw [List.take_add_one, h, List.map_append]
  rfl
theorem filter_snoc_yes {α : Type} (p : α → Bool) {l : List α} {i : Nat} {a : α} (h : l[i]? = some a) (hp : p a = true) : (l.take i).filter p ++ [a] = (l.take (i + 1)).filter p := by
  rw [List.take_add_one, h, List.filter_append]
  show _ ++ [a] = _ ++ [a].filter p
  rw [List.filter_cons, if_pos hp, List.filter_nil]
theorem filter_snoc_no {α : Type} (p : α → Bool) {l : List α} {i : Nat} {a : α} (h : l[i]? = some a) (hp : p a = false) : (l.take i).filter p = (l.take (i + 1)).filter p := by
  rw [List.take_add_one, h, List.filter_append]
  show _ = _ ++ [a].filter p
  rw [List.filter_cons, if_neg (by rw [hp]; decide), List.filter_nil, List.append_nil]
section
variable {W : Wd} {ds : List PyData} {P : PyData → Prop}
theorem ss_remaining_of (h : C_remaining_of ds P) : Ss W (t_remaining_of W.K W.T) (startG N_remaining_of.length ds) (fun _ => P .none) P := by
  obtain ⟨L, rfl, hl, h⟩ := h
  unfold t_remaining_of
  walk_at "evs"
  refine EvL.ev (el_lc (ei_list ?_))
  walk_at "evs"
  refine ⟨L, rfl, hl, fun fs => ?_⟩
  walk_at "evs"
  have ll := left_len L
  refine ⟨fun k acc => acc = dSs (((leftOf L).take k).map (at_ L)), rfl, ?_, ?_, ?_⟩
  · show (dIx (leftOf L)).length ≤ 100000
    unfold dIx
    rw [List.length_map]
    omega
  · rintro k d acc hd rfl
    obtain ⟨a, ha, rfl⟩ := dIx_get hd
    have la : a < L.length := left_lt (List.mem_of_getElem? ha)
    walk_at "evs"
    refine et_yes (andT ?_)
    walk_at "evs"
    refine ro_ixT (at_dSs la) ⟨lf_dS _, ?_⟩
    show dSs (((leftOf L).take k).map (at_ L)) ++ [dS (at_ L a)] = dSs (((leftOf L).take (k + 1)).map (at_ L))
    unfold dSs
    rw [List.map_map, List.map_map]
    exact take_map_snoc (dS ∘ at_ L) ha
  · rintro acc rfl
    walk_at "evs"
    have e : (leftOf L).take (dIx (leftOf L)).length = leftOf L := List.take_of_length_le (by unfold dIx; rw [List.length_map]; exact Nat.le_refl _)
    rw [e]
    exact h
theorem ss_layers_of_row (h : C_layers_of_row ds P) : Ss W (t_layers_of_row W.K W.T) (startG N_layers_of_row.length ds) (fun _ => P .none) P := by
  obtain ⟨r, rfl, hl, h⟩ := h
  unfold t_layers_of_row
  walk_at "evs"
  refine ⟨r, rfl, hl, ?_⟩
  walk_at "evs"
  refine ⟨stepsIn r, rfl, steps_len16 hl, ?_⟩
  walk_at "evs"
  exact ⟨remOf (stepsIn r), rfl, Nat.le_trans (rem_len _) (steps_len16 hl), h⟩
theorem ss_is_alike (h : C_is_alike ds P) : Ss W (t_is_alike W.K W.T) (startG N_is_alike.length ds) (fun _ => P .none) P := by
  obtain ⟨r, r', rfl, hl, hl', h⟩ := h
  unfold t_is_alike
  walk_at "evs"
  refine ⟨r, rfl, hl, fun LL hLL => ?_⟩
  walk_at "evs"
  refine ⟨r', rfl, hl', fun MM hMM => ?_⟩
  refine ro_eqD (shaped_lay _) (shaped_lay _) (h _ fun e s => ?_)
  have e2 := eqv_lay e
  subst e2
  exact (hLL s).symm.trans (hMM s)
theorem ss_check_rows (h : C_check_rows ds P) : Ss W (t_check_rows W.K W.T) (startG N_check_rows.length ds) (fun _ => P .none) P := by
  obtain ⟨r, r', rfl, hl, hl', h⟩ := h
  unfold t_check_rows
  refine ss_seq (ss_drop ?_)
  walk_at "evs"
  refine ⟨r, _, rfl, hl, ss_drop ?_⟩
  walk_at "evs"
  exact ⟨r', _, rfl, hl', h⟩
theorem ss_are_alike (h : C_are_alike ds P) : Ss W (t_are_alike W.K W.T) (startG N_are_alike.length ds) (fun _ => P .none) P := by
  obtain ⟨r, r', rfl, hl, hl', h⟩ := h
  unfold t_are_alike
  refine ss_seq (ss_drop ?_)
  walk_at "evs"
  refine ⟨r, r', rfl, hl, hl', ?_⟩
  walk_at "evs"
  exact ⟨r, r', rfl, hl.1, hl'.1, h⟩
theorem ss_shortest_of (h : C_shortest_of ds P) : Ss W (t_shortest_of W.K W.T) (startG N_shortest_of.length ds) (fun _ => P .none) P := by
  obtain ⟨r, rfl, hl, h⟩ := h
  unfold t_shortest_of
  walk_at "evs"
  refine EvL.ev (el_lc (ei_list ?_))
  walk_at "evs"
  refine ⟨r, rfl, hl, ?_⟩
  have kl : (keptIdx r).length ≤ r.length := by
    have h := List.length_filter_le (fun i => (leftOf (stepsIn r)).any fun a => a / 2 == i) (List.range r.length)
    rw [List.length_range] at h
    exact h
  refine ⟨_, rfl, fun k acc => acc = (((keptIdx r).take k).map fun i => r.getD i (0, 0)).map dP, rfl, ?_, ?_, ?_⟩
  · show (dIx (keptIdx r)).length ≤ 100000
    unfold dIx
    rw [List.length_map]
    omega
  · rintro k d acc hd rfl
    obtain ⟨a, ha, rfl⟩ := dIx_get hd
    have la : a < r.length := kept_lt (List.mem_of_getElem? ha)
    walk_at "evs"
    refine et_yes (andT ?_)
    unfold dRow
    walk_at "evs"
    refine ro_ixT (at_map dP la) ⟨lf_dP _, ?_⟩
    show (((keptIdx r).take k).map fun i => r.getD i (0, 0)).map dP ++ [dP r[a]] = (((keptIdx r).take (k + 1)).map fun i => r.getD i (0, 0)).map dP
    have e : r[a] = r.getD a (0, 0) := by
      rw [List.getD_eq_getElem?_getD, List.getElem?_eq_getElem la]
      rfl
    rw [List.map_map, List.map_map, e]
    exact take_map_snoc (dP ∘ fun i => r.getD i (0, 0)) ha
  · rintro acc rfl
    walk_at "evs"
    have e : (keptIdx r).take (dIx (keptIdx r)).length = keptIdx r := List.take_of_length_le (by unfold dIx; rw [List.length_map]; exact Nat.le_refl _)
    rw [e]
    exact h
theorem ss_shortest (h : C_shortest ds P) : Ss W (t_shortest W.K W.T) (startG N_shortest.length ds) (fun _ => P .none) P := by
  obtain ⟨r, rfl, hl, h⟩ := h
  unfold t_shortest
  refine ss_seq (ss_drop ?_)
  walk_at "evs"
  refine ⟨r, _, rfl, hl, ?_⟩
  walk_at "evs"
  exact ⟨r, rfl, hl.1, h⟩
theorem ss_left_out (h : C_left_out ds P) : Ss W (t_left_out W.K W.T) (startG N_left_out.length ds) (fun _ => P .none) P := by
  obtain ⟨r, rfl, hl, h⟩ := h
  unfold t_left_out
  refine ss_seq (ss_drop ?_)
  walk_at "evs"
  refine ⟨r, _, rfl, hl, ?_⟩
  walk_at "evs"
  refine ⟨r, rfl, hl.1, ?_⟩
  walk_at "evs"
  refine EvL.ev (el_lc (ei_rng1 ?_))
  unfold dRow
  walk_at "evs"
  have el : (r.map dP).length = r.length := List.length_map ..
  have hl8 := hl.1
  refine ⟨_, rfl, by omega, by omega, fun k acc => acc = dIx (((List.range r.length).take k).filter fun i => decide (i ∉ keptIdx r)), rfl, ?_, ?_, ?_⟩
  · rw [rgD_len]
    omega
  · rintro k d acc hd rfl
    obtain ⟨hk, rfl⟩ := rgD_get hd
    have hk2 : k < r.length := by omega
    have hr : (List.range r.length)[k]? = some k := List.getElem?_range hk2
    rw [Int.zero_add]
    walk_at "evs"
    rw [dIx_ints]
    refine ro_notIn ⟨_, rfl, fun hb => ?_, fun hb => ?_⟩
    · walk_at "evs"
      refine ⟨lf_int _, ?_⟩
      have hp : decide (k ∉ keptIdx r) = true := by
        refine decide_eq_true fun z => ?_
        rw [decide_eq_true (mem_ints.mpr z)] at hb
        cases hb
      show dIx _ ++ [dNat k] = dIx _
      rw [← filter_snoc_yes (fun i => decide (i ∉ keptIdx r)) hr hp]
      unfold dIx
      rw [List.map_append]
      rfl
    · have hp : decide (k ∉ keptIdx r) = false := by
        refine decide_eq_false fun z => ?_
        rw [decide_eq_false (mt mem_ints.mp z)] at hb
        cases hb
      show dIx _ = dIx _
      rw [← filter_snoc_no (fun i => decide (i ∉ keptIdx r)) hr hp]
  · rintro acc rfl
    walk_at "evs"
    have e : (List.range r.length).take (rgD 0 ((r.map dP).length : Int).toNat).length = List.range r.length := List.take_of_length_le (by rw [rgD_len, List.length_range]; omega)
    rw [e]
    exact h
end
theorem cal_makes_idle {P : Program} {w : World} {K : PySem.W.Frag} {mg : Str → Option Value} {base : Heap} {T : List (Addr × Str)} {f : Addr} {fd : FuncData} (F : Fun K "makes_idle" "makes_idle" s_makes_idle f fd) (b : Binds K fd p_makes_idle []) (m : mg "makes_idle" = some (.ref f)) (c_is_stronger : Cal P w K mg base "is_stronger" p_is_stronger L_is_stronger (sp_is_stronger K T)) (c_do_commute : Cal P w K mg base "do_commute" p_do_commute L_do_commute (sp_do_commute K T)) (B : Bi mg) :
    Cal P w K mg base "makes_idle" p_makes_idle L_makes_idle (sp_makes_idle K T) :=
  ⟨f, fd, okC F sc_makes_idle (fun ds P h => by
      unfold C_makes_idle at h
      first
        | (obtain ⟨_, rfl, _⟩ := h; rfl)
        | (obtain ⟨_, _, rfl, _⟩ := h; rfl)
        | (obtain ⟨_, _, _, rfl, _⟩ := h; rfl)
        | (obtain ⟨rfl, _⟩ := h; rfl)) (fun W eK eT cdv A outer s H E hr => ⟨t_makes_idle K T, dv_makes_idle c_is_stronger c_do_commute B cdv A outer s H E hr, fun ds P h => by
      subst eK
      subst eT
      exact ss_makes_idle h⟩), b, m, F.kp⟩
theorem cal_why_idle {P : Program} {w : World} {K : PySem.W.Frag} {mg : Str → Option Value} {base : Heap} {T : List (Addr × Str)} {f : Addr} {fd : FuncData} (F : Fun K "why_idle" "why_idle" s_why_idle f fd) (b : Binds K fd p_why_idle []) (m : mg "why_idle" = some (.ref f)) (c_makes_idle : Cal P w K mg base "makes_idle" p_makes_idle L_makes_idle (sp_makes_idle K T)) (B : Bi mg) :
    Cal P w K mg base "why_idle" p_why_idle L_why_idle (sp_why_idle K T) :=
  ⟨f, fd, okC F sc_why_idle (fun ds P h => by
      unfold C_why_idle at h
      first
        | (obtain ⟨_, rfl, _⟩ := h; rfl)
        | (obtain ⟨_, _, rfl, _⟩ := h; rfl)
        | (obtain ⟨_, _, _, rfl, _⟩ := h; rfl)
        | (obtain ⟨rfl, _⟩ := h; rfl)) (fun W eK eT cdv A outer s H E hr => ⟨t_why_idle K T, dv_why_idle c_makes_idle B cdv A outer s H E hr, fun ds P h => by
      subst eK
      subst eT
      exact ss_why_idle h⟩), b, m, F.kp⟩
theorem cal_first_idle {P : Program} {w : World} {K : PySem.W.Frag} {mg : Str → Option Value} {base : Heap} {T : List (Addr × Str)} {f : Addr} {fd : FuncData} (F : Fun K "first_idle" "first_idle" s_first_idle f fd) (b : Binds K fd p_first_idle []) (m : mg "first_idle" = some (.ref f)) (c_why_idle : Cal P w K mg base "why_idle" p_why_idle L_why_idle (sp_why_idle K T)) (B : Bi mg) :
    Cal P w K mg base "first_idle" p_first_idle L_first_idle (sp_first_idle K T) :=
  ⟨f, fd, okC F sc_first_idle (fun ds P h => by
      unfold C_first_idle at h
      first
        | (obtain ⟨_, rfl, _⟩ := h; rfl)
        | (obtain ⟨_, _, rfl, _⟩ := h; rfl)
        | (obtain ⟨_, _, _, rfl, _⟩ := h; rfl)
        | (obtain ⟨rfl, _⟩ := h; rfl)) (fun W eK eT cdv A outer s H E hr => ⟨t_first_idle K T, dv_first_idle c_why_idle B cdv A outer s H E hr, fun ds P h => by
      subst eK
      subst eT
      exact ss_first_idle h⟩), b, m, F.kp⟩
theorem cal_remaining_of {P : Program} {w : World} {K : PySem.W.Frag} {mg : Str → Option Value} {base : Heap} {T : List (Addr × Str)} {f : Addr} {fd : FuncData} (F : Fun K "remaining_of" "remaining_of" s_remaining_of f fd) (b : Binds K fd p_remaining_of []) (m : mg "remaining_of" = some (.ref f)) (c_reduction_of : Cal P w K mg base "reduction_of" p_reduction_of L_reduction_of (sp_reduction_of K T)) (B : Bi mg) :
    Cal P w K mg base "remaining_of" p_remaining_of L_remaining_of (sp_remaining_of K T) :=
  ⟨f, fd, okC F sc_remaining_of (fun ds P h => by
      unfold C_remaining_of at h
      first
        | (obtain ⟨_, rfl, _⟩ := h; rfl)
        | (obtain ⟨_, _, rfl, _⟩ := h; rfl)
        | (obtain ⟨_, _, _, rfl, _⟩ := h; rfl)
        | (obtain ⟨rfl, _⟩ := h; rfl)) (fun W eK eT cdv A outer s H E hr => ⟨t_remaining_of K T, dv_remaining_of c_reduction_of B cdv A outer s H E hr, fun ds P h => by
      subst eK
      subst eT
      exact ss_remaining_of h⟩), b, m, F.kp⟩
theorem cal_layers_of_row {P : Program} {w : World} {K : PySem.W.Frag} {mg : Str → Option Value} {base : Heap} {T : List (Addr × Str)} {f : Addr} {fd : FuncData} (F : Fun K "layers_of_row" "layers_of_row" s_layers_of_row f fd) (b : Binds K fd p_layers_of_row []) (m : mg "layers_of_row" = some (.ref f)) (c_steps_in : Cal P w K mg base "steps_in" p_steps_in L_steps_in (sp_steps_in K T)) (c_remaining_of : Cal P w K mg base "remaining_of" p_remaining_of L_remaining_of (sp_remaining_of K T)) (c_layers_in : Cal P w K mg base "layers_in" p_layers_in L_layers_in (sp_layers_in K T)) :
    Cal P w K mg base "layers_of_row" p_layers_of_row L_layers_of_row (sp_layers_of_row K T) :=
  ⟨f, fd, okC F sc_layers_of_row (fun ds P h => by
      unfold C_layers_of_row at h
      first
        | (obtain ⟨_, rfl, _⟩ := h; rfl)
        | (obtain ⟨_, _, rfl, _⟩ := h; rfl)
        | (obtain ⟨_, _, _, rfl, _⟩ := h; rfl)
        | (obtain ⟨rfl, _⟩ := h; rfl)) (fun W eK eT cdv A outer s H E hr => ⟨t_layers_of_row K T, dv_layers_of_row c_steps_in c_remaining_of c_layers_in cdv A outer s H E hr, fun ds P h => by
      subst eK
      subst eT
      exact ss_layers_of_row h⟩), b, m, F.kp⟩
theorem cal_is_alike {P : Program} {w : World} {K : PySem.W.Frag} {mg : Str → Option Value} {base : Heap} {T : List (Addr × Str)} {f : Addr} {fd : FuncData} (F : Fun K "is_alike" "is_alike" s_is_alike f fd) (b : Binds K fd p_is_alike []) (m : mg "is_alike" = some (.ref f)) (c_layers_of_row : Cal P w K mg base "layers_of_row" p_layers_of_row L_layers_of_row (sp_layers_of_row K T)) :
    Cal P w K mg base "is_alike" p_is_alike L_is_alike (sp_is_alike K T) :=
  ⟨f, fd, okC F sc_is_alike (fun ds P h => by
      unfold C_is_alike at h
      first
        | (obtain ⟨_, rfl, _⟩ := h; rfl)
        | (obtain ⟨_, _, rfl, _⟩ := h; rfl)
        | (obtain ⟨_, _, _, rfl, _⟩ := h; rfl)
        | (obtain ⟨rfl, _⟩ := h; rfl)) (fun W eK eT cdv A outer s H E hr => ⟨t_is_alike K T, dv_is_alike c_layers_of_row cdv A outer s H E hr, fun ds P h => by
      subst eK
      subst eT
      exact ss_is_alike h⟩), b, m, F.kp⟩
theorem cal_check_rows {P : Program} {w : World} {K : PySem.W.Frag} {mg : Str → Option Value} {base : Heap} {T : List (Addr × Str)} {f : Addr} {fd : FuncData} (F : Fun K "check_rows" "check_rows" s_check_rows f fd) (b : Binds K fd p_check_rows []) (m : mg "check_rows" = some (.ref f)) (c_check_row : Cal P w K mg base "check_row" p_check_row L_check_row (sp_check_row K T)) :
    Cal P w K mg base "check_rows" p_check_rows L_check_rows (sp_check_rows K T) :=
  ⟨f, fd, okC F sc_check_rows (fun ds P h => by
      unfold C_check_rows at h
      first
        | (obtain ⟨_, rfl, _⟩ := h; rfl)
        | (obtain ⟨_, _, rfl, _⟩ := h; rfl)
        | (obtain ⟨_, _, _, rfl, _⟩ := h; rfl)
        | (obtain ⟨rfl, _⟩ := h; rfl)) (fun W eK eT cdv A outer s H E hr => ⟨t_check_rows K T, dv_check_rows c_check_row cdv A outer s H E hr, fun ds P h => by
      subst eK
      subst eT
      exact ss_check_rows h⟩), b, m, F.kp⟩
theorem cal_are_alike {P : Program} {w : World} {K : PySem.W.Frag} {mg : Str → Option Value} {base : Heap} {T : List (Addr × Str)} {f : Addr} {fd : FuncData} (F : Fun K "are_alike" "are_alike" s_are_alike f fd) (b : Binds K fd p_are_alike []) (m : mg "are_alike" = some (.ref f)) (c_is_alike : Cal P w K mg base "is_alike" p_is_alike L_is_alike (sp_is_alike K T)) (c_check_rows : Cal P w K mg base "check_rows" p_check_rows L_check_rows (sp_check_rows K T)) :
    Cal P w K mg base "are_alike" p_are_alike L_are_alike (sp_are_alike K T) :=
  ⟨f, fd, okC F sc_are_alike (fun ds P h => by
      unfold C_are_alike at h
      first
        | (obtain ⟨_, rfl, _⟩ := h; rfl)
        | (obtain ⟨_, _, rfl, _⟩ := h; rfl)
        | (obtain ⟨_, _, _, rfl, _⟩ := h; rfl)
        | (obtain ⟨rfl, _⟩ := h; rfl)) (fun W eK eT cdv A outer s H E hr => ⟨t_are_alike K T, dv_are_alike c_is_alike c_check_rows cdv A outer s H E hr, fun ds P h => by
      subst eK
      subst eT
      exact ss_are_alike h⟩), b, m, F.kp⟩
theorem cal_shortest_of {P : Program} {w : World} {K : PySem.W.Frag} {mg : Str → Option Value} {base : Heap} {T : List (Addr × Str)} {f : Addr} {fd : FuncData} (F : Fun K "shortest_of" "shortest_of" s_shortest_of f fd) (b : Binds K fd p_shortest_of []) (m : mg "shortest_of" = some (.ref f)) (c_kept_indexes : Cal P w K mg base "kept_indexes" p_kept_indexes L_kept_indexes (sp_kept_indexes K T)) (B : Bi mg) :
    Cal P w K mg base "shortest_of" p_shortest_of L_shortest_of (sp_shortest_of K T) :=
  ⟨f, fd, okC F sc_shortest_of (fun ds P h => by
      unfold C_shortest_of at h
      first
        | (obtain ⟨_, rfl, _⟩ := h; rfl)
        | (obtain ⟨_, _, rfl, _⟩ := h; rfl)
        | (obtain ⟨_, _, _, rfl, _⟩ := h; rfl)
        | (obtain ⟨rfl, _⟩ := h; rfl)) (fun W eK eT cdv A outer s H E hr => ⟨t_shortest_of K T, dv_shortest_of c_kept_indexes B cdv A outer s H E hr, fun ds P h => by
      subst eK
      subst eT
      exact ss_shortest_of h⟩), b, m, F.kp⟩
theorem cal_shortest {P : Program} {w : World} {K : PySem.W.Frag} {mg : Str → Option Value} {base : Heap} {T : List (Addr × Str)} {f : Addr} {fd : FuncData} (F : Fun K "shortest" "shortest" s_shortest f fd) (b : Binds K fd p_shortest []) (m : mg "shortest" = some (.ref f)) (c_shortest_of : Cal P w K mg base "shortest_of" p_shortest_of L_shortest_of (sp_shortest_of K T)) (c_check_row : Cal P w K mg base "check_row" p_check_row L_check_row (sp_check_row K T)) :
    Cal P w K mg base "shortest" p_shortest L_shortest (sp_shortest K T) :=
  ⟨f, fd, okC F sc_shortest (fun ds P h => by
      unfold C_shortest at h
      first
        | (obtain ⟨_, rfl, _⟩ := h; rfl)
        | (obtain ⟨_, _, rfl, _⟩ := h; rfl)
        | (obtain ⟨_, _, _, rfl, _⟩ := h; rfl)
        | (obtain ⟨rfl, _⟩ := h; rfl)) (fun W eK eT cdv A outer s H E hr => ⟨t_shortest K T, dv_shortest c_shortest_of c_check_row cdv A outer s H E hr, fun ds P h => by
      subst eK
      subst eT
      exact ss_shortest h⟩), b, m, F.kp⟩
theorem cal_left_out {P : Program} {w : World} {K : PySem.W.Frag} {mg : Str → Option Value} {base : Heap} {T : List (Addr × Str)} {f : Addr} {fd : FuncData} (F : Fun K "left_out" "left_out" s_left_out f fd) (b : Binds K fd p_left_out []) (m : mg "left_out" = some (.ref f)) (c_kept_indexes : Cal P w K mg base "kept_indexes" p_kept_indexes L_kept_indexes (sp_kept_indexes K T)) (c_check_row : Cal P w K mg base "check_row" p_check_row L_check_row (sp_check_row K T)) (B : Bi mg) :
    Cal P w K mg base "left_out" p_left_out L_left_out (sp_left_out K T) :=
  ⟨f, fd, okC F sc_left_out (fun ds P h => by
      unfold C_left_out at h
      first
        | (obtain ⟨_, rfl, _⟩ := h; rfl)
        | (obtain ⟨_, _, rfl, _⟩ := h; rfl)
        | (obtain ⟨_, _, _, rfl, _⟩ := h; rfl)
        | (obtain ⟨rfl, _⟩ := h; rfl)) (fun W eK eT cdv A outer s H E hr => ⟨t_left_out K T, dv_left_out c_kept_indexes c_check_row B cdv A outer s H E hr, fun ds P h => by
      subst eK
      subst eT
      exact ss_left_out h⟩), b, m, F.kp⟩

/-! ### steps_in: slots 0 row, 1 found, 2 event, 3 time -/
theorem sc_steps_in : FnScope N_steps_in p_steps_in (defScope s_steps_in) := ⟨rfl, rfl, rfl, by decide +kernel, rfl, by decide +kernel, by decide +kernel⟩
def t_steps_in (K : PySem.W.Frag) (T : List (Addr × Str)) : TS :=
  (tSeq (tAsg (tLst tNil) (gName 1))
  (tSeq (tFor (iTup K (tVar 0)) (gTup K 2 (gCons (gName 2) (gCons (gName 3) gNil))) (tDrop (tBM K "list" rExtend (tVar 1) (tCons (tLst (tCons (tTup (tCons (tC (.str "raise")) (tCons (tVar 2) (tCons (tVar 3) tNil)))) (tCons (tTup (tCons (tC (.str "lower")) (tCons (tVar 2) (tCons (tVar 3) tNil)))) tNil))) tNil))))
  (tRet (tCB (RTuple K) (tCons (tVar 1) tNil)))))
/-- callees: ; builtins: tuple  -/
theorem dv_steps_in {P : Program} {w : World} {K : PySem.W.Frag} {mg : Str → Option Value} {base : Heap} {T : List (Addr × Str)} {f : Addr} (B : Bi mg) (cdv : Value) (A : Around) (outer : List PySem.Env) (s : Shared) (H : Hp) (E : XK)
    (hr : Room M_steps_in (A.deeper (envOfC "steps_in" (defScope s_steps_in) s.heap.objs.size f cdv))) :
    PSs (cxOf CX0 P w K mg base N_steps_in "steps_in" (defScope s_steps_in) f cdv A outer s H E).nox (defBody s_steps_in) (t_steps_in K T) := by
  have nd := sc_steps_in.nd
  exact (pss_cons (ps_set (i := 1) nd rfl (Or.inl rfl) (pe_lst pa_nil))
  (pss_cons (ps_for PassesOwn.never rfl (pi_tup (pv 0)) (pg_tup rfl (pgs_cons (pg_name (i := 2) nd rfl (Or.inl rfl)) (pgs_cons (pg_name (i := 3) nd rfl (Or.inl rfl)) pgs_nil))) (pss_one (ps_expr (pe_bm PySem.F.plainAttrs_list PySem.F.slot_list_extend PySem.F.type_list_extend mt_extend (pv 1) (pa_cons (pe_lst (pa_cons (pe_tup (pa_cons pe_str (pa_cons (pv 2) (pa_cons (pv 3) pa_nil)))) (pa_cons (pe_tup (pa_cons pe_str (pa_cons (pv 2) (pa_cons (pv 3) pa_nil)))) pa_nil))) pa_nil)))))
  (pss_one (ps_ret (pe_callTy call_tuple_of (by rfl) B.tuple (by decide +kernel) (pa_cons (pv 1) pa_nil))))))
/-! ### reduction_of: slots 0 steps, 1 left, 2 found, 3 pair, 4 at -/
theorem sc_reduction_of : FnScope N_reduction_of p_reduction_of (defScope s_reduction_of) := ⟨rfl, rfl, rfl, by decide +kernel, rfl, by decide +kernel, by decide +kernel⟩
def t_reduction_of (K : PySem.W.Frag) (T : List (Addr × Str)) : TS :=
  (tSeq (tAsg (tLstRg (tRg1 (tCB (RLen K) (tCons (tVar 0) tNil)))) (gName 1))
  (tSeq (tAsg (tLst tNil) (gName 2))
  (tWhile (tB (tC (.bl true))) (tSeq (tAsg (tCall (sp_first_idle K T) [] E0 (tCons (tLc (iList K (tVar 1)) (gName 4) tYes (tOp (rIxT K) (tVar 0) (tVar 4)) [4]) tNil)) (gName 3))
  (tSeq (tIfS (tTest (tOp RIsN (tVar 3) (tC .non))) (tRet (tTup (tCons (tCB (RTuple K) (tCons (tVar 2) tNil)) (tCons (tVar 1) tNil)))) tNext)
  (tSeq (tDrop (tBM K "list" rAppend (tVar 2) (tCons (tTup (tCons (tOp (rIxL K) (tVar 1) (tOp (rIxT K) (tVar 3) (tC (.int 0)))) (tCons (tOp (rIxL K) (tVar 1) (tOp (rIxT K) (tVar 3) (tC (.int 1)))) tNil))) tNil)))
  (tDrop (tBM K "list" rPopAt (tVar 1) (tCons (tOp (rIxT K) (tVar 3) (tC (.int 0))) tNil)))))))))
/-- callees: first_idle; builtins: tuple, list, len, range  -/
theorem dv_reduction_of {P : Program} {w : World} {K : PySem.W.Frag} {mg : Str → Option Value} {base : Heap} {T : List (Addr × Str)} {f : Addr} (c_first_idle : Cal P w K mg base "first_idle" p_first_idle L_first_idle (sp_first_idle K T)) (B : Bi mg) (cdv : Value) (A : Around) (outer : List PySem.Env) (s : Shared) (H : Hp) (E : XK)
    (hr : Room M_reduction_of (A.deeper (envOfC "reduction_of" (defScope s_reduction_of) s.heap.objs.size f cdv))) :
    PSs (cxOf CX0 P w K mg base N_reduction_of "reduction_of" (defScope s_reduction_of) f cdv A outer s H E).nox (defBody s_reduction_of) (t_reduction_of K T) := by
  obtain ⟨f_first_idle, fd_first_idle, G_first_idle, b_first_idle, m_first_idle, k_first_idle⟩ := c_first_idle
  have nd := sc_reduction_of.nd
  exact (pss_cons (ps_set (i := 1) nd rfl (Or.inl rfl) (pe_listRg rfl (by rfl) B.list (prg_1 (by rfl) B.range (pe_callB call_len_seq (by rfl) B.len PySem.boot_len (pa_cons (pv 0) pa_nil)))))
  (pss_cons (ps_set (i := 2) nd rfl (Or.inl rfl) (pe_lst pa_nil))
  (pss_one (ps_while PassesOwn.never (pt_val pe_bl) (pss_cons (ps_set (i := 3) nd rfl (Or.inl rfl) (pe_call G_first_idle (hr.mono (by decide)) (by rfl) m_first_idle k_first_idle b_first_idle .nil pass0 (pa_cons (pe_lc (own := [("at", 4)]) (by rfl) nd (pi_list (pv 1)) (blkOk_by (N := N_reduction_of) (by kernel_rfl)) (fun _ _ _ _ _ => (pg_name (i := 4) nd rfl (Or.inl rfl))) (fun _ _ _ _ _ => pts_nil) (fun _ _ _ _ _ => (pe_ix ix_tup (pv 0) (pv 4) (fun _ _ => rfl)))) pa_nil)))
  (pss_cons (ps_if (pt_cmpR op_isN (pv 3) pe_non (nomark _)) (pss_one (ps_ret (pe_tup (pa_cons (pe_callTy call_tuple_of (by rfl) B.tuple (by decide +kernel) (pa_cons (pv 2) pa_nil)) (pa_cons (pv 1) pa_nil))))) pss_nil)
  (pss_cons (ps_expr (pe_bm PySem.F.plainAttrs_list PySem.F.slot_list_append PySem.F.type_list_append mt_append (pv 2) (pa_cons (pe_tup (pa_cons (pe_ix ix_list (pv 1) (pe_ix ix_tup (pv 3) pe_int (fun _ _ => rfl)) (fun _ _ => rfl)) (pa_cons (pe_ix ix_list (pv 1) (pe_ix ix_tup (pv 3) pe_int (fun _ _ => rfl)) (fun _ _ => rfl)) pa_nil))) pa_nil)))
  (pss_one (ps_expr (pe_bm PySem.F.plainAttrs_list PySem.F.slot_list_pop PySem.F.type_list_pop mt_popAt (pv 1) (pa_cons (pe_ix ix_tup (pv 3) pe_int (fun _ _ => rfl)) pa_nil)))))))))))
theorem steps_append : ∀ a b : Row, stepsIn (a ++ b) = stepsIn a ++ stepsIn b
  | [], _ => rfl
  | p :: a, b => by
    show _ :: _ :: stepsIn (a ++ b) = _ :: _ :: (stepsIn a ++ stepsIn b)
    rw [steps_append a b]
theorem steps_take {r : Row} {i : Nat} {p : Int × Int} (h : r[i]? = some p) : stepsIn (r.take (i + 1)) = stepsIn (r.take i) ++ [(true, p.1, p.2), (false, p.1, p.2)] := by
  rw [List.take_add_one, h]
  exact steps_append _ _
theorem lf_dPs (l : Row) : lfAll (l.map dP) = true := lfAll_map dP lf_dP l
theorem lf_dSs (L : List Stp) : lfAll (dSs L) = true := lfAll_map dS lf_dS L
theorem lf_dIx (L : List Nat) : lfAll (dIx L) = true := lfAll_map dNat (fun _ => lf_int _) L
theorem redN_plus (S : Nat → Stp) (n : Nat) (l : List Nat) (h : firstIdle ((redN S n l).map S) = none) : ∀ k, redN S (n + k) l = redN S n l
  | 0 => rfl
  | k + 1 => by
    have ih := redN_plus S n l h k
    have h2 : firstIdle ((redN S (n + k) l).map S) = none := by rw [ih]; exact h
    rw [show n + (k + 1) = n + k + 1 by omega, redN_more S (n + k) l h2, ih]
section
variable {W : Wd} {ds : List PyData} {P : PyData → Prop}
theorem ss_steps_in (h : C_steps_in ds P) : Ss W (t_steps_in W.K W.T) (startG N_steps_in.length ds) (fun _ => P .none) P := by
  obtain ⟨r, rfl, hl, h⟩ := h
  unfold t_steps_in dRow
  refine So.ss fun B => ?_
  walk_at "evs"
  refine so_new rfl rfl ?_
  walk_at "evs"
  refine ⟨rfl, ?_⟩
  walk_at "evs"
  refine so_for (eit_tup ?_)
  walk_at "evs"
  refine ⟨lf_dPs r, fun i Γ O => (∃ x y, Γ = [some (.tuple (r.map dP)), none, x, y]) ∧ O = [(1, dSs (stepsIn (r.take i)))], ⟨⟨_, _, rfl⟩, rfl⟩, ?_, ?_⟩
  · rintro i d Γ O hd ⟨⟨x, y, rfl⟩, rfl⟩
    obtain ⟨p, hp, rfl⟩ := get_map_some hd
    walk_at "evs"
    refine so_extend (k := 0) rfl ?_
    walk_at "evs"
    have hz : (dSs (stepsIn (r.take i))).length ≤ 16 := by
      unfold dSs
      rw [List.length_map, steps_len, List.length_take]
      omega
    refine ⟨by show _ + 2 ≤ _; omega, by simp [lf, lfAll], ⟨_, _, rfl⟩, ?_⟩
    rw [steps_take hp]
    unfold dSs
    rw [List.map_append]
    rfl
  · rintro Γ O ⟨⟨x, y, rfl⟩, rfl⟩
    walk_at "evs"
    have e : r.take (r.map dP).length = r := List.take_of_length_le (by rw [List.length_map]; exact Nat.le_refl _)
    rw [e]
    exact h
theorem lf_dOpt2 (o : Option (Nat × Nat)) : lf (dOpt2 o) = true := by cases o <;> simp [dOpt2, dNat, lf, lfAll]
theorem rg_dIx (n : Nat) : rgD 0 n = dIx (List.range n) := by
  unfold rgD dIx
  refine List.map_congr_left fun i _ => ?_
  rw [Int.zero_add]
  rfl
theorem at_dIx {l : List Nat} {i : Nat} (h : i < l.length) : atI (dIx l) (i : Int) = some (.int (l[i] : Int)) := at_map dNat h
theorem ss_reduction_of (h : C_reduction_of ds P) : Ss W (t_reduction_of W.K W.T) (startG N_reduction_of.length ds) (fun _ => P .none) P := by
  obtain ⟨L, rfl, hl, h⟩ := h
  unfold t_reduction_of
  refine So.ss fun B => ?_
  walk_at "evs"
  refine so_new rfl rfl ?_
  walk_at "evs"
  have el : (dSs L).length = L.length := List.length_map ..
  refine ⟨by omega, by omega, ?_⟩
  rw [el, Int.toNat_natCast, rg_dIx]
  refine ⟨lf_dIx _, ?_⟩
  walk_at "evs"
  refine so_new rfl rfl ?_
  walk_at "evs"
  refine ⟨rfl, ?_⟩
  refine so_while (fun m Γ O => ∃ (n : Nat) (fs : List PyData) (x : Option PyData), Γ = [some (.tuple (dSs L)), none, none, x, none] ∧ O = [(2, fs), (1, dIx (redN (at_ L) n (List.range L.length)))] ∧
    (redN (at_ L) n (List.range L.length)).length = m ∧ m + n = L.length ∧ fs.length = n) ⟨L.length, 0, [], none, rfl, rfl, by show (List.range L.length).length = _; rw [List.length_range], by omega, rfl⟩ ?_
  rintro m Γ O ⟨n, fs, x, rfl, rfl, hm, hn, hf⟩
  walk_at "evs"
  refine ⟨_, rfl, andT ?_⟩
  walk_at "evs"
  refine so_asg rfl ?_
  walk_at "evs"
  generalize hls : redN (at_ L) n (List.range L.length) = ls at *
  have hin : ∀ a ∈ ls, a < L.length := fun a ha => by
    rw [← hls] at ha
    exact List.mem_range.mp ((redN_chain _ _ _).sub.mem ha)
  refine EvL.ev (el_lc (ei_list ?_))
  walk_at "evs"
  refine ⟨fun k acc => acc = dSs ((ls.take k).map (at_ L)), rfl, ?_, ?_, ?_⟩
  · unfold dIx
    rw [List.length_map]
    omega
  · rintro k d acc hd rfl
    obtain ⟨a, ha, rfl⟩ := dIx_get hd
    have la : a < L.length := hin a (List.mem_of_getElem? ha)
    walk_at "evs"
    refine et_yes (andT ?_)
    walk_at "evs"
    refine ro_ixT (at_dSs la) ⟨lf_dS _, ?_⟩
    show dSs ((ls.take k).map (at_ L)) ++ [dS (at_ L a)] = dSs ((ls.take (k + 1)).map (at_ L))
    unfold dSs
    rw [List.map_map, List.map_map]
    exact take_map_snoc (dS ∘ at_ L) ha
  · rintro acc rfl
    walk_at "evs"
    have e : ls.take (dIx ls).length = ls := List.take_of_length_le (by unfold dIx; rw [List.length_map]; exact Nat.le_refl _)
    rw [e]
    refine ⟨ls.map (at_ L), rfl, by rw [List.length_map]; omega, lf_dOpt2 _, ?_⟩
    walk_at "evs"
    cases hfi : firstIdle (ls.map (at_ L)) with
    | none =>
      refine ⟨_, rfl, andT ?_⟩
      walk_at "evs"
      have e2 : leftOf L = ls := by
        have h2 := redN_plus (at_ L) n (List.range L.length) (by rw [hls]; exact hfi) m
        unfold leftOf
        rw [show L.length = n + m by omega] at h2 ⊢
        rw [h2, show n + m = L.length by omega, hls]
      rw [← e2]
      exact h fs
    | some pq =>
      obtain ⟨p1, p2, _⟩ := firstIdle_some hfi
      rw [List.length_map] at p1 p2
      unfold dOpt2 dNat
      walk_at "evs"
      refine ⟨_, rfl, andF ?_⟩
      walk_at "evs"
      refine so_append (k := 0) rfl (by omega) ?_
      walk_at "evs"
      refine ro_ixL (at_dIx p1) ?_
      walk_at "evs"
      refine ro_ixL (at_dIx p2) ?_
      walk_at "evs"
      refine ⟨by simp [lf, lfAll], ?_⟩
      refine so_pop (k := 1) rfl ?_
      walk_at "evs"
      refine ⟨pq.1, rfl, by unfold dIx; rw [List.length_map]; exact p1, by unfold dIx; rw [List.length_map]; omega, m - 1, by omega, n + 1, fs ++ [.tuple [.int (ls[pq.1] : Int), .int (ls[pq.2] : Int)]], _, rfl, ?_, ?_, by omega, by rw [List.length_append, hf]; rfl⟩
      · have e3 : redN (at_ L) (n + 1) (List.range L.length) = ls.eraseIdx pq.1 := by
          rw [redN_snoc, hls, hfi]
        rw [e3]
        unfold dIx
        rw [erase_map]
        rfl
      · have e3 : redN (at_ L) (n + 1) (List.range L.length) = ls.eraseIdx pq.1 := by
          rw [redN_snoc, hls, hfi]
        rw [e3, List.length_eraseIdx_of_lt p1]
        omega
end
theorem cal_steps_in {P : Program} {w : World} {K : PySem.W.Frag} {mg : Str → Option Value} {base : Heap} {T : List (Addr × Str)} {f : Addr} {fd : FuncData} (F : Fun K "steps_in" "steps_in" s_steps_in f fd) (b : Binds K fd p_steps_in []) (m : mg "steps_in" = some (.ref f)) (B : Bi mg) :
    Cal P w K mg base "steps_in" p_steps_in L_steps_in (sp_steps_in K T) :=
  ⟨f, fd, okC F sc_steps_in (fun ds P h => by
      unfold C_steps_in at h
      first
        | (obtain ⟨_, rfl, _⟩ := h; rfl)
        | (obtain ⟨_, _, rfl, _⟩ := h; rfl)
        | (obtain ⟨_, _, _, rfl, _⟩ := h; rfl)
        | (obtain ⟨rfl, _⟩ := h; rfl)) (fun W eK eT cdv A outer s H E hr => ⟨t_steps_in K T, dv_steps_in B cdv A outer s H E hr, fun ds P h => by
      subst eK
      subst eT
      exact ss_steps_in h⟩), b, m, F.kp⟩
theorem cal_reduction_of {P : Program} {w : World} {K : PySem.W.Frag} {mg : Str → Option Value} {base : Heap} {T : List (Addr × Str)} {f : Addr} {fd : FuncData} (F : Fun K "reduction_of" "reduction_of" s_reduction_of f fd) (b : Binds K fd p_reduction_of []) (m : mg "reduction_of" = some (.ref f)) (c_first_idle : Cal P w K mg base "first_idle" p_first_idle L_first_idle (sp_first_idle K T)) (B : Bi mg) :
    Cal P w K mg base "reduction_of" p_reduction_of L_reduction_of (sp_reduction_of K T) :=
  ⟨f, fd, okC F sc_reduction_of (fun ds P h => by
      unfold C_reduction_of at h
      first
        | (obtain ⟨_, rfl, _⟩ := h; rfl)
        | (obtain ⟨_, _, rfl, _⟩ := h; rfl)
        | (obtain ⟨_, _, _, rfl, _⟩ := h; rfl)
        | (obtain ⟨rfl, _⟩ := h; rfl)) (fun W eK eT cdv A outer s H E hr => ⟨t_reduction_of K T, dv_reduction_of c_first_idle B cdv A outer s H E hr, fun ds P h => by
      subst eK
      subst eT
      exact ss_reduction_of h⟩), b, m, F.kp⟩

/-! ### kept_indexes: slots 0 row, 1 at -/
theorem sc_kept_indexes : FnScope N_kept_indexes p_kept_indexes (defScope s_kept_indexes) := ⟨rfl, rfl, rfl, by decide +kernel, rfl, by decide +kernel, by decide +kernel⟩
def t_kept_indexes (K : PySem.W.Frag) (T : List (Addr × Str)) : TS :=
  (tRet (tCB RSortD (tCons (tDc (iList K (tOp (rIxT K) (tCall (sp_reduction_of K T) [] E0 (tCons (tCall (sp_steps_in K T) [] E0 (tCons (tVar 0) tNil)) tNil)) (tC (.int 1)))) (gName 1) tYes (tOp RDiv (tVar 1) (tC (.int 2))) (tC (.bl true)) [1]) tNil)))
/-- callees: steps_in, reduction_of; builtins: sorted  -/
theorem dv_kept_indexes {P : Program} {w : World} {K : PySem.W.Frag} {mg : Str → Option Value} {base : Heap} {T : List (Addr × Str)} {f : Addr} (c_steps_in : Cal P w K mg base "steps_in" p_steps_in L_steps_in (sp_steps_in K T)) (c_reduction_of : Cal P w K mg base "reduction_of" p_reduction_of L_reduction_of (sp_reduction_of K T)) (B : Bi mg) (cdv : Value) (A : Around) (outer : List PySem.Env) (s : Shared) (H : Hp) (E : XK)
    (hr : Room M_kept_indexes (A.deeper (envOfC "kept_indexes" (defScope s_kept_indexes) s.heap.objs.size f cdv))) :
    PSs (cxOf CX0 P w K mg base N_kept_indexes "kept_indexes" (defScope s_kept_indexes) f cdv A outer s H E).nox (defBody s_kept_indexes) (t_kept_indexes K T) := by
  obtain ⟨f_steps_in, fd_steps_in, G_steps_in, b_steps_in, m_steps_in, k_steps_in⟩ := c_steps_in
  obtain ⟨f_reduction_of, fd_reduction_of, G_reduction_of, b_reduction_of, m_reduction_of, k_reduction_of⟩ := c_reduction_of
  have nd := sc_kept_indexes.nd
  exact (pss_one (ps_ret (pe_callB (call_sortedDI rfl) (by rfl) B.sorted (by decide +kernel) (pa_cons (pe_dc (own := [("at", 1)]) (by rfl) nd (pi_list (pe_ix ix_tup (pe_call G_reduction_of (hr.mono (by decide)) (by rfl) m_reduction_of k_reduction_of b_reduction_of .nil pass0 (pa_cons (pe_call G_steps_in (hr.mono (by decide)) (by rfl) m_steps_in k_steps_in b_steps_in .nil pass0 (pa_cons (pv 0) pa_nil)) pa_nil)) pe_int (fun _ _ => rfl))) (blkOk_by (N := N_kept_indexes) (by kernel_rfl)) (fun _ _ _ _ _ => (pg_name (i := 1) nd rfl (Or.inl rfl))) (fun _ _ _ _ _ => pts_nil) (fun _ _ _ _ _ => (pe_op op_fdiv (pv 1) pe_int)) (fun _ _ _ _ _ => pe_bl)) pa_nil))))
section
variable {W : Wd} {ds : List PyData} {P : PyData → Prop}
theorem ss_kept_indexes (h : C_kept_indexes ds P) : Ss W (t_kept_indexes W.K W.T) (startG N_kept_indexes.length ds) (fun _ => P .none) P := by
  obtain ⟨r, rfl, hl, h⟩ := h
  unfold t_kept_indexes
  refine ss_ret (ev_sortDc (ei_list ?_))
  walk_at "evs"
  refine ⟨r, rfl, hl, ?_⟩
  walk_at "evs"
  refine ⟨stepsIn r, rfl, steps_len16 hl, fun fs => ?_⟩
  walk_at "evs"
  have hlen : (dIx (leftOf (stepsIn r))).length ≤ 16 := by
    unfold dIx
    rw [List.length_map]
    exact Nat.le_trans (left_len _) (steps_len16 hl)
  refine ⟨by omega, fun d => (match d with | .int i => i / 2 | _ => 0), ?_, ?_⟩
  · intro i d hd
    obtain ⟨a, ha, rfl⟩ := dIx_get hd
    walk_at "evs"
    exact ro_div ⟨by decide, by decide⟩ rfl
  · intro ys hnd hs hm
    have e : ys = (keptIdx r).map fun k : Nat => (k : Int) := by
      refine ascI_eq (strict_of hnd hs) ?_ fun z => ?_
      · rw [List.pairwise_map]
        refine List.Pairwise.imp ?_ (kept_asc r)
        intro a b hab
        omega
      · rw [hm z]
        unfold dIx
        rw [List.map_map, List.mem_map, List.mem_map]
        constructor
        · rintro ⟨a, ha, rfl⟩
          have la := left_lt ha
          rw [steps_len] at la
          refine ⟨a / 2, mem_kept.mpr ⟨by omega, a, ha, rfl⟩, ?_⟩
          show ((a / 2 : Nat) : Int) = (a : Int) / 2
          omega
        · rintro ⟨k, hk, rfl⟩
          obtain ⟨_, a, ha, ea⟩ := mem_kept.mp hk
          refine ⟨a, ha, ?_⟩
          show (a : Int) / 2 = (k : Int)
          omega
    rw [e, ← dIx_ints]
    exact h
end
theorem cal_kept_indexes {P : Program} {w : World} {K : PySem.W.Frag} {mg : Str → Option Value} {base : Heap} {T : List (Addr × Str)} {f : Addr} {fd : FuncData} (F : Fun K "kept_indexes" "kept_indexes" s_kept_indexes f fd) (b : Binds K fd p_kept_indexes []) (m : mg "kept_indexes" = some (.ref f)) (c_steps_in : Cal P w K mg base "steps_in" p_steps_in L_steps_in (sp_steps_in K T)) (c_reduction_of : Cal P w K mg base "reduction_of" p_reduction_of L_reduction_of (sp_reduction_of K T)) (B : Bi mg) :
    Cal P w K mg base "kept_indexes" p_kept_indexes L_kept_indexes (sp_kept_indexes K T) :=
  ⟨f, fd, okC F sc_kept_indexes (fun ds P h => by
      unfold C_kept_indexes at h
      first
        | (obtain ⟨_, rfl, _⟩ := h; rfl)
        | (obtain ⟨_, _, rfl, _⟩ := h; rfl)
        | (obtain ⟨_, _, _, rfl, _⟩ := h; rfl)
        | (obtain ⟨rfl, _⟩ := h; rfl)) (fun W eK eT cdv A outer s H E hr => ⟨t_kept_indexes K T, dv_kept_indexes c_steps_in c_reduction_of B cdv A outer s H E hr, fun ds P h => by
      subst eK
      subst eT
      exact ss_kept_indexes h⟩), b, m, F.kp⟩

abbrev T88 : List (Addr × Str) := [((88 : Addr), ("layers_in" : Str) ++ ".<locals>." ++ "<lambda>")]
/-! ### layers_in: slots 0 steps, 1 levels, 2 at, 3 step, 4 ahead, 5 found, 6 level, 7 layer, 8 k, 9 own -/
theorem sc_layers_in : FnScope N_layers_in p_layers_in (defScope s_layers_in) := ⟨rfl, rfl, rfl, by decide +kernel, rfl, by decide +kernel, by decide +kernel⟩
def t_layers_in (K : PySem.W.Frag) (T : List (Addr × Str)) : TS :=
  (tSeq (tAsg (tLst tNil) (gName 1))
  (tSeq (tFor (iEnumT K (tCons (tVar 0) tNil)) (gTup K 2 (gCons (gName 2) (gCons (gName 3) gNil))) (tSeq (tAsg (tLc (iRng1 (tCons (tVar 2) tNil)) (gName 8) (tNot (tB (tCall (sp_do_commute K T) [] E0 (tCons (tOp (rIxT K) (tVar 0) (tVar 8)) (tCons (tVar 3) tNil))))) (tOp (rIxL K) (tVar 1) (tVar 8)) [8]) (gName 4))
  (tDrop (tBM K "list" rAppend (tVar 1) (tCons (tOp RAdd (tCB (rMax K) (tCons (tOp rCat (tLst (tCons (tUn RNeg (tC (.int 1))) tNil)) (tVar 4)) tNil)) (tC (.int 1))) tNil)))))
  (tSeq (tAsg (tLst tNil) (gName 5))
  (tSeq (tFor (iRng1 (tCons (tOp RAdd (tCB (rMax K) (tCons (tOp rCat (tLst (tCons (tUn RNeg (tC (.int 1))) tNil)) (tVar 1)) tNil)) (tC (.int 1))) tNil)) (gName 6) (tSeq (tAsg (tLc (iZipM K (tCons (tVar 0) (tCons (tVar 1) tNil))) (gTup K 2 (gCons (gName 3) (gCons (gName 9) gNil))) (tTest (tOp rEq (tVar 9) (tVar 6))) (tVar 3) [3, 9]) (gName 7))
  (tDrop (tBM K "list" rAppend (tVar 5) (tCons (tCB (RTuple K) (tCons (tSortLam T (tVar 7)) tNil)) tNil)))))
  (tRet (tCB (RTuple K) (tCons (tVar 5) tNil)))))))
/-- callees: do_commute; builtins: tuple, range, max, sorted, zip, enumerate  -/
theorem dv_layers_in {P : Program} {w : World} {K : PySem.W.Frag} {mg : Str → Option Value} {base : Heap} {T : List (Addr × Str)} {f : Addr} (c_do_commute : Cal P w K mg base "do_commute" p_do_commute L_do_commute (sp_do_commute K T)) (B : Bi mg) (cdv : Value) (A : Around) (outer : List PySem.Env) (s : Shared) (H : Hp) (E : XK) {c : Addr} (hcd : cdv = .ref c) (TB : LamX.TabB base mg c 88) (hT : T = T88)
    (hr : Room M_layers_in (A.deeper (envOfC "layers_in" (defScope s_layers_in) s.heap.objs.size f cdv))) :
    PSs (cxOf CX0 P w K mg base N_layers_in "layers_in" (defScope s_layers_in) f cdv A outer s H E).nox (defBody s_layers_in) (t_layers_in K T) := by
  obtain ⟨f_do_commute, fd_do_commute, G_do_commute, b_do_commute, m_do_commute, k_do_commute⟩ := c_do_commute
  subst hcd
  subst hT
  have nd := sc_layers_in.nd
  exact (pss_cons (ps_set (i := 1) nd rfl (Or.inr rfl) (pe_lst pa_nil))
  (pss_cons (ps_for PassesOwn.never rfl (pi_enumT (by rfl) B.enumerate (pa_cons (pv 0) pa_nil)) (pg_tup rfl (pgs_cons (pg_name (i := 2) nd rfl (Or.inl rfl)) (pgs_cons (pg_name (i := 3) nd rfl (Or.inr rfl)) pgs_nil))) (pss_cons (ps_setLc (i := 4) (own := [("k", 8)]) (by rfl) nd rfl rfl (sw_true rfl rfl rfl (by decide +kernel)) (pi_range1 (by rfl) B.range (pa_cons (pv 2) pa_nil)) (blkOk_by (N := N_layers_in) (by kernel_rfl)) (fun _ _ _ _ _ => (pg_name (i := 8) nd rfl (Or.inl rfl))) (fun _ _ _ _ _ => (pts_one (pt_not (pt_val (pe_call G_do_commute (hr.mono (by decide)) (by rfl) m_do_commute k_do_commute b_do_commute .nil pass0 (pa_cons (pe_ix ix_tup (pv 0) (pv 8) (fun _ _ => rfl)) (pa_cons (pv 3) pa_nil))))))) (fun _ _ _ _ _ => (pe_ix ix_list (pv 1) (pv 8) (fun _ _ => rfl))))
  (pss_one (ps_expr (pe_bm PySem.F.plainAttrs_list PySem.F.slot_list_append PySem.F.type_list_append mt_append (pv 1) (pa_cons (pe_op op_add (pe_callB (cr_max rfl) (by rfl) B.max (by decide +kernel) (pa_cons (pe_op op_cat (pe_lst (pa_cons (pe_un un_neg pe_int) pa_nil)) (pv 4)) pa_nil)) pe_int) pa_nil))))))
  (pss_cons (ps_set (i := 5) nd rfl (Or.inl rfl) (pe_lst pa_nil))
  (pss_cons (ps_for PassesOwn.never rfl (pi_range1 (by rfl) B.range (pa_cons (pe_op op_add (pe_callB (cr_max rfl) (by rfl) B.max (by decide +kernel) (pa_cons (pe_op op_cat (pe_lst (pa_cons (pe_un un_neg pe_int) pa_nil)) (pv 1)) pa_nil)) pe_int) pa_nil)) (pg_name (i := 6) nd rfl (Or.inr rfl)) (pss_cons (ps_setLc (i := 7) (own := [("step", 3), ("own", 9)]) (by rfl) nd rfl rfl (sw_true rfl rfl rfl (by decide +kernel)) (pi_zipM (by rfl) B.zip (pa_cons (pv 0) (pa_cons (pv 1) pa_nil))) (blkOk_by (N := N_layers_in) (by kernel_rfl)) (fun _ _ _ _ _ => (pg_tup rfl (pgs_cons (pg_name (i := 3) nd rfl (Or.inl rfl)) (pgs_cons (pg_name (i := 9) nd rfl (Or.inl rfl)) pgs_nil)))) (fun _ _ _ _ _ => (pts_one (pt_cmpR op_eq (pv 9) (pv 6) (nomark _)))) (fun _ _ _ _ _ => (pv 3)))
  (pss_one (ps_expr (pe_bm PySem.F.plainAttrs_list PySem.F.slot_list_append PySem.F.type_list_append mt_append (pv 5) (pa_cons (pe_callTy call_tuple_of (by rfl) B.tuple (by decide +kernel) (pa_cons (pe_sortLam hr rfl TB rfl (List.mem_singleton.mpr rfl) (fun p hp _ => by rw [List.mem_singleton.mp hp]; rfl) rfl (by rfl) B.sorted (pv 7) (fun _ _ _ _ _ => by first | rfl | kernel_rfl) (by decide +kernel) (by rfl) rfl rfl rfl ⟨_, _, _, _, _, _, _, _, _, _, _, _, _, _, _, _, _, rfl⟩) pa_nil)) pa_nil))))))
  (pss_one (ps_ret (pe_callTy call_tuple_of (by rfl) B.tuple (by decide +kernel) (pa_cons (pv 5) pa_nil))))))))
theorem max_ints {a : Int} {l : List Int} {P : PyData → Prop} {W : Wd} (h : ∀ m : Int, a ≤ m → (m = a ∨ m ∈ l) → (∀ y ∈ l, y ≤ m) → P (.int m)) : RC W (rMax W.K) [.list (.int a :: l.map .int)] P := rc_max (ns := a :: l) (by simp) fun m h1 h2 => h m (h2 a (.head _)) (List.mem_cons.mp h1) fun y hy => h2 y (.tail _ hy)
theorem lf_ints (l : List Int) : lfAll (l.map PyData.int) = true := lfAll_map PyData.int lf_int l
section
variable {W : Wd} {ds : List PyData} {P : PyData → Prop}
theorem ss_layers_in (h : C_layers_in ds P) : Ss W (t_layers_in W.K W.T) (startG N_layers_in.length ds) (fun _ => P .none) P := by
  obtain ⟨L, rfl, hl, h⟩ := h
  unfold t_layers_in
  have el : (dSs L).length = L.length := List.length_map ..
  refine So.ss fun B => ?_
  walk_at "evs"
  refine so_new rfl rfl ?_
  walk_at "evs"
  refine ⟨rfl, ?_⟩
  walk_at "evs"
  refine so_for (eit_enumT ?_)
  walk_at "evs"
  refine ⟨dSs L, rfl, lf_dSs L, fun i Γ O => (∃ x2 x3 x4 x5 x6 x7 x8 x9, Γ = [some (.tuple (dSs L)), none, x2, x3, x4, x5, x6, x7, x8, x9]) ∧ ∃ ls : List Int, ls.length = i ∧ (∀ z ∈ ls, 0 ≤ z ∧ z < i) ∧ O = [(1, ls.map .int)], ⟨⟨_, _, _, _, _, _, _, _, rfl⟩, [], rfl, by simp, rfl⟩, ?_, ?_⟩
  · rintro i d Γ O hd ⟨⟨x2, x3, x4, x5, x6, x7, x8, x9, rfl⟩, ls, hi, hp, rfl⟩
    obtain ⟨d', hd', rfl⟩ := enD_get hd
    obtain ⟨st, hst, rfl⟩ := get_map_some hd'
    have hiL : i < L.length := (List.getElem?_eq_some_iff.mp hst).1
    walk_at "evs"
    refine so_new rfl rfl ?_
    refine el_lc (ei_rng1 ?_)
    walk_at "evs"
    refine ⟨_, rfl, by omega, by omega, fun k acc => ∃ as : List Int, acc = as.map .int ∧ as.length ≤ k ∧ ∀ z ∈ as, 0 ≤ z ∧ z < i, ⟨[], rfl, Nat.le_refl _, by simp⟩, by rw [rgD_len]; omega, ?_, ?_⟩
    · rintro k d acc hd ⟨as, rfl, hal, hap⟩
      obtain ⟨hk, rfl⟩ := rgD_get hd
      rw [Int.toNat_natCast] at hk
      walk_at "evs"
      rw [Int.zero_add]
      refine ro_ixT (at_dSs (show k < L.length by omega)) ?_
      walk_at "evs"
      refine ⟨_, _, rfl, _, rfl, fun hb => ?_, fun hb => ⟨as, rfl, Nat.le_succ_of_le hal, hap⟩⟩
      walk_at "evs"
      have hk2 : k < ls.length := by omega
      refine ro_ixL (at_map PyData.int hk2) ⟨lf_int _, as ++ [ls[k]], by rw [List.map_append]; rfl, by rw [List.length_append, List.length_singleton]; omega, fun z hz => ?_⟩
      rcases List.mem_append.mp hz with z1 | z1
      · exact hap z z1
      · rw [List.mem_singleton.mp z1]
        exact hp _ (List.getElem_mem _)
    · rintro acc ⟨as, rfl, hal, hap⟩
      rw [rgD_len, Int.toNat_natCast] at hal
      refine ⟨lf_ints _, ?_⟩
      walk_at "evs"
      refine so_dropN 0 (so_append (k := 1) rfl (by rw [List.length_map]; omega) ?_)
      walk_at "evs"
      refine EvL.ev (el_lst ?_)
      walk_at "evs"
      refine ro_catL (ds := [.int (-1)]) (es := as.map .int) (by rw [List.length_map, List.length_singleton]; omega) ?_
      walk_at "evs"
      refine max_ints fun m hm hmm _ => ?_
      walk_at "evs"
      refine ⟨lf_int _, ⟨_, _, _, _, _, _, _, _, rfl⟩, ls ++ [m + 1], by rw [List.length_append, hi]; rfl, fun z hz => ?_, by rw [List.map_append]; rfl⟩
      rcases List.mem_append.mp hz with z1 | z1
      · have := hp z z1
        omega
      · rw [List.mem_singleton.mp z1]
        rcases hmm with rfl | hmm
        · omega
        · have := hap _ hmm
          omega
  · rintro Γ O ⟨⟨x2, x3, x4, x5, x6, x7, x8, x9, rfl⟩, ls, hi, hp, rfl⟩
    rw [enD_len, el] at hi
    simp only [enD_len, el] at hp
    walk_at "evs"
    refine so_new rfl rfl ?_
    walk_at "evs"
    refine ⟨rfl, ?_⟩
    walk_at "evs"
    refine so_for (eit_rng1 ?_)
    walk_at "evs"
    refine EvL.ev (el_lst ?_)
    walk_at "evs"
    refine ro_catL (ds := [.int (-1)]) (es := ls.map .int) (by rw [List.length_map, List.length_singleton]; omega) ?_
    walk_at "evs"
    refine max_ints fun m hm hmm hmax => ?_
    walk_at "evs"
    have hm2 : m < L.length := by
      rcases hmm with rfl | hmm
      · omega
      · have := hp _ hmm
        omega
    refine ⟨_, rfl, by omega, by omega, fun j Γ O => (∃ x2 x3 x4 x6 x7 x8 x9, Γ = [some (.tuple (dSs L)), none, x2, x3, x4, none, x6, x7, x8, x9]) ∧ ∃ LL : List (List Stp), LL.length = j ∧ O = [(5, LL.map fun l => .tuple (dSs l)), (1, ls.map .int)] ∧ ∀ s, s ∈ LL.flatten ↔ ∃ i : Nat, L[i]? = some s ∧ ∃ z : Int, ls[i]? = some z ∧ z < j,
      ⟨⟨_, _, _, _, _, _, _, rfl⟩, [], rfl, rfl, fun s => ?_⟩, ?_, ?_⟩
    · constructor
      · intro hs
        simp at hs
      · rintro ⟨i, _, z, hz, hz2⟩
        have := hp z (List.mem_of_getElem? hz)
        omega
    · rintro j d Γ O hd ⟨⟨x2, x3, x4, x6, x7, x8, x9, rfl⟩, LL, hj, rfl, hLL⟩
      obtain ⟨hj2, rfl⟩ := rgD_get hd
      rw [Int.zero_add]
      walk_at "evs"
      refine so_new rfl rfl ?_
      refine el_lc (ei_zipM ?_)
      walk_at "evs"
      refine ⟨_, _, rfl, by rw [List.length_map, el, hi], fun k acc => ∃ ss : List Stp, acc = dSs ss ∧ ss.length ≤ k ∧ ∀ s, s ∈ ss ↔ ∃ i : Nat, i < k ∧ L[i]? = some s ∧ ls[i]? = some (j : Int), ⟨[], rfl, Nat.le_refl _, fun s => ?_⟩, ?_, ?_, ?_⟩
      · constructor
        · intro hs
          simp at hs
        · rintro ⟨i, hi0, _⟩
          omega
      · unfold zpD
        rw [List.length_zipWith]
        omega
      · rintro k d acc hd ⟨ss, rfl, hsl, hss⟩
        obtain ⟨a, b, ha, hb, rfl⟩ := zpD_get hd
        obtain ⟨st, hst, rfl⟩ := get_map_some ha
        obtain ⟨z, hz, rfl⟩ := get_map_some hb
        walk_at "evs"
        refine ⟨_, rfl, fun e1 => ?_, fun e1 => ⟨ss, rfl, Nat.le_succ_of_le hsl, fun s => ?_⟩⟩
        · walk_at "evs"
          have e2 : z = (j : Int) := of_decide_eq_true e1
          refine ⟨lf_dS _, ss ++ [st], by unfold dSs; rw [List.map_append]; rfl, by rw [List.length_append, List.length_singleton]; omega, fun s => ?_⟩
          rw [List.mem_append, hss s, List.mem_singleton]
          constructor
          · rintro (⟨i, h1, h2, h3⟩ | rfl)
            · exact ⟨i, by omega, h2, h3⟩
            · exact ⟨k, by omega, hst, by rw [hz, e2]⟩
          · rintro ⟨i, h1, h2, h3⟩
            by_cases c : i = k
            · subst c
              rw [hst] at h2
              exact .inr (Option.some.inj h2).symm
            · exact .inl ⟨i, by omega, h2, h3⟩
        · have e2 : ¬ z = (j : Int) := of_decide_eq_false e1
          rw [hss s]
          constructor
          · rintro ⟨i, h1, h2, h3⟩
            exact ⟨i, by omega, h2, h3⟩
          · rintro ⟨i, h1, h2, h3⟩
            by_cases c : i = k
            · subst c
              rw [hz] at h3
              exact absurd (Option.some.inj h3) e2
            · exact ⟨i, by omega, h2, h3⟩
      · rintro acc ⟨ss, rfl, hsl, hss⟩
        have ez : (zpD (dSs L) (ls.map .int)).length = L.length := by
          unfold zpD
          rw [List.length_zipWith, el, List.length_map]
          omega
        rw [ez] at hsl hss
        refine ⟨lf_dSs _, ?_⟩
        walk_at "evs"
        refine so_dropN 0 (so_append (k := 1) rfl (by rw [List.length_map]; omega) ?_)
        walk_at "evs"
        refine EvL.ev (el_sortLam ?_)
        walk_at "evs"
        refine ⟨ss, rfl, by omega, fun ss' hp' => ?_⟩
        walk_at "evs"
        refine ⟨by simp [lf, lf_dSs], ⟨_, _, _, _, _, _, _, rfl⟩, LL ++ [ss'], by rw [List.length_append, hj]; rfl, by rw [List.map_append]; rfl, fun s => ?_⟩
        rw [List.flatten_append, List.mem_append, hLL s]
        have e3 : s ∈ [ss'].flatten ↔ s ∈ ss := by
          rw [show [ss'].flatten = ss' by simp]
          exact hp'.mem_iff
        rw [e3, hss s]
        constructor
        · rintro (⟨i, h1, z, h2, h3⟩ | ⟨i, h0, h1, h2⟩)
          · exact ⟨i, h1, z, h2, by omega⟩
          · exact ⟨i, h1, _, h2, by omega⟩
        · rintro ⟨i, h1, z, h2, h3⟩
          by_cases c : z = (j : Int)
          · subst c
            exact .inr ⟨i, (List.getElem?_eq_some_iff.mp h1).1, h1, h2⟩
          · exact .inl ⟨i, h1, z, h2, by omega⟩
    · rintro Γ O ⟨⟨x2, x3, x4, x6, x7, x8, x9, rfl⟩, LL, hj, rfl, hLL⟩
      walk_at "evs"
      refine h LL fun s => ?_
      rw [hLL s, rgD_len]
      constructor
      · rintro ⟨i, h1, _⟩
        exact List.mem_of_getElem? h1
      · intro hs
        obtain ⟨i, h1⟩ := List.mem_iff_getElem?.mp hs
        have hi2 : i < ls.length := by
          rw [hi]
          exact (List.getElem?_eq_some_iff.mp h1).1
        have := hmax _ (List.getElem_mem hi2)
        exact ⟨i, h1, _, List.getElem?_eq_getElem hi2, by omega⟩
end
theorem cal_layers_in {P : Program} {w : World} {K : PySem.W.Frag} {mg : Str → Option Value} {base : Heap} {f c : Addr} {fd : FuncData} (F : FunC K "layers_in" "layers_in" s_layers_in f fd c) (b : Binds K fd p_layers_in []) (m : mg "layers_in" = some (.ref f)) (TB : LamX.TabB base mg c 88)
    (c_do_commute : Cal P w K mg base "do_commute" p_do_commute L_do_commute (sp_do_commute K T88)) (B : Bi mg) : Cal P w K mg base "layers_in" p_layers_in L_layers_in (sp_layers_in K T88) :=
  ⟨f, fd, okCc F sc_layers_in (fun ds P h => by
      obtain ⟨_, rfl, _⟩ := h
      rfl) (fun W eK eT A outer s H E hr => ⟨t_layers_in K T88, dv_layers_in c_do_commute B (.ref c) A outer s H E rfl TB rfl hr, fun ds P h => by
      subst eK
      rw [← eT]
      exact ss_layers_in h⟩), b, m, F.kp⟩

/-! ## the law's own defs: steps, reduction -/
abbrev C_law_is_integer := C_is_integer
def C_law_steps (ds : List PyData) (P : PyData → Prop) : Prop := ∃ (r : Row), (ds = [dRow r] ∨ ds = [.list (r.map dP)]) ∧ r.length ≤ 8 ∧ P (.tuple (dSs (stepsIn r)))
def C_law_commute (ds : List PyData) (P : PyData → Prop) : Prop := ∃ a b, ds = [dS a, dS b] ∧ P (.bool (commute a b))
def C_law_commute1 (ds : List PyData) (P : PyData → Prop) : Prop := ∃ a b, ds = [dS a, dS b] ∧ (a.1 = b.1 ∨ a.1 = true) ∧ P (.bool (commute a b))
def C_law_idle_by (ds : List PyData) (P : PyData → Prop) : Prop := ∃ (L : List Stp) (i b : Nat), ds = [.list (dSs L), dNat i, dNat b] ∧ i < L.length ∧ b < L.length ∧ L.length ≤ 16 ∧ P (.bool (makesIdle L i b))
def C_law_told_reduction (ds : List PyData) (P : PyData → Prop) : Prop := ∃ (L : List Stp), ds = [.tuple (dSs L)] ∧ L.length ≤ 16 ∧ ∀ fs, P (.list [.tuple fs, .list (dIx (leftOf L))])
abbrev sp_law_is_integer (K : PySem.W.Frag) (T : List (Addr × Str)) : Sp := spC K T C_law_is_integer
abbrev sp_law_steps (K : PySem.W.Frag) (T : List (Addr × Str)) : Sp := spC K T C_law_steps
abbrev sp_law_commute (K : PySem.W.Frag) (T : List (Addr × Str)) : Sp := spC K T C_law_commute
abbrev sp_law_commute1 (K : PySem.W.Frag) (T : List (Addr × Str)) : Sp := spC K T C_law_commute1
abbrev sp_law_idle_by (K : PySem.W.Frag) (T : List (Addr × Str)) : Sp := spC K T C_law_idle_by
abbrev sp_law_told_reduction (K : PySem.W.Frag) (T : List (Addr × Str)) : Sp := spC K T C_law_told_reduction
/-! ### _law_is_integer: slots 0 _law_actual -/
theorem sc_law_is_integer : FnScope N_law_is_integer p_law_is_integer (defScope s_law_is_integer) := ⟨rfl, rfl, rfl, by decide +kernel, rfl, by decide +kernel, by decide +kernel⟩
def t_law_is_integer (K : PySem.W.Frag) (T : List (Addr × Str)) : TS :=
  (tRet (tAndV (tCB (rIsi K) (tCons (tVar 0) (tCons (tC (.ty "int")) tNil))) (tNotV (tCB (rIsi K) (tCons (tVar 0) (tCons (tC (.ty "bool")) tNil))))))
/-- callees: ; builtins: isinstance, int, bool  -/
theorem dv_law_is_integer {P : Program} {w : World} {K : PySem.W.Frag} {mg : Str → Option Value} {base : Heap} {T : List (Addr × Str)} {f : Addr} (B : Bi mg) (cdv : Value) (A : Around) (outer : List PySem.Env) (s : Shared) (H : Hp) (E : XK)
    (hr : Room M_law_is_integer (A.deeper (envOfC "_law_is_integer" (defScope s_law_is_integer) s.heap.objs.size f cdv))) :
    PSs (cxOf CX0 P w K mg base N_law_is_integer "_law_is_integer" (defScope s_law_is_integer) f cdv A outer s H E).nox (defBody s_law_is_integer) (t_law_is_integer K T) := by
  have nd := sc_law_is_integer.nd
  exact (pss_one (ps_ret (pe_and (pe_callB call_isi (by rfl) B.isinstance (by decide +kernel) (pa_cons (pv 0) (pa_cons (pe_bltn (v := .ty "int") (by rfl) B.int (by decide +kernel) rfl) pa_nil))) (pe_one (pe_not (pe_callB call_isi (by rfl) B.isinstance (by decide +kernel) (pa_cons (pv 0) (pa_cons (pe_bltn (v := .ty "bool") (by rfl) B.bool (by decide +kernel) rfl) pa_nil))))))))
/-! ### _law_steps: slots 0 _law_row, 1 _law_found, 2 _law_event, 3 _law_time -/
theorem sc_law_steps : FnScope N_law_steps p_law_steps (defScope s_law_steps) := ⟨rfl, rfl, rfl, by decide +kernel, rfl, by decide +kernel, by decide +kernel⟩
def t_law_steps (K : PySem.W.Frag) (T : List (Addr × Str)) : TS :=
  (tSeq (tAsg (tLst tNil) (gName 1))
  (tSeq (tFor (iTL K (tVar 0)) (gTup K 2 (gCons (gName 2) (gCons (gName 3) gNil))) (tAsg (tOp rCat (tVar 1) (tLst (tCons (tTup (tCons (tC (.str "raise")) (tCons (tVar 2) (tCons (tVar 3) tNil)))) (tCons (tTup (tCons (tC (.str "lower")) (tCons (tVar 2) (tCons (tVar 3) tNil)))) tNil)))) (gName 1)))
  (tRet (tCB (RTuple K) (tCons (tVar 1) tNil)))))
/-- callees: ; builtins: tuple  -/
theorem dv_law_steps {P : Program} {w : World} {K : PySem.W.Frag} {mg : Str → Option Value} {base : Heap} {T : List (Addr × Str)} {f : Addr} (B : Bi mg) (cdv : Value) (A : Around) (outer : List PySem.Env) (s : Shared) (H : Hp) (E : XK)
    (hr : Room M_law_steps (A.deeper (envOfC "_law_steps" (defScope s_law_steps) s.heap.objs.size f cdv))) :
    PSs (cxOf CX0 P w K mg base N_law_steps "_law_steps" (defScope s_law_steps) f cdv A outer s H E).nox (defBody s_law_steps) (t_law_steps K T) := by
  have nd := sc_law_steps.nd
  exact (pss_cons (ps_set (i := 1) nd rfl (Or.inl rfl) (pe_lst pa_nil))
  (pss_cons (ps_for PassesOwn.never rfl (pi_TL (pv 0)) (pg_tup rfl (pgs_cons (pg_name (i := 2) nd rfl (Or.inl rfl)) (pgs_cons (pg_name (i := 3) nd rfl (Or.inl rfl)) pgs_nil))) (pss_one (ps_set (i := 1) nd rfl (Or.inl rfl) (pe_op op_cat (pv 1) (pe_lst (pa_cons (pe_tup (pa_cons pe_str (pa_cons (pv 2) (pa_cons (pv 3) pa_nil)))) (pa_cons (pe_tup (pa_cons pe_str (pa_cons (pv 2) (pa_cons (pv 3) pa_nil)))) pa_nil)))))))
  (pss_one (ps_ret (pe_callTy call_tuple_of (by rfl) B.tuple (by decide +kernel) (pa_cons (pv 1) pa_nil))))))
/-! ### _law_commute: slots 0 _law_one, 1 _law_other -/
theorem sc_law_commute : FnScope N_law_commute p_law_commute (defScope s_law_commute) := ⟨rfl, rfl, rfl, by decide +kernel, rfl, by decide +kernel, by decide +kernel⟩
def t_law_commute (K : PySem.W.Frag) (T : List (Addr × Str)) (sS : Sp) : TS :=
  (tSeq (tIfS (tTest (tOp rEq (tOp (rIxT K) (tVar 0) (tC (.int 0))) (tOp (rIxT K) (tVar 1) (tC (.int 0))))) (tRet (tC (.bl true))) tNext)
  (tSeq (tIfS (tTest (tOp rEq (tOp (rIxT K) (tVar 0) (tC (.int 0))) (tC (.str "lower")))) (tRet (tCall sS [] E0 (tCons (tVar 1) (tCons (tVar 0) tNil)))) tNext)
  (tRet (tAndV (tOp rEq (tOp (rIxT K) (tVar 0) (tC (.int 1))) (tOp (rIxT K) (tVar 1) (tC (.int 1)))) (tOp RLe (tOp (rIxT K) (tVar 0) (tC (.int 2))) (tOp (rIxT K) (tVar 1) (tC (.int 2))))))))
/-- callees: law_commute; builtins:   -/
theorem dv_law_commute {P : Program} {w : World} {K : PySem.W.Frag} {mg : Str → Option Value} {base : Heap} {T : List (Addr × Str)} {f : Addr} {l0 : Nat} {sS : Sp} (c_law_commute : Cal P w K mg base "_law_commute" p_law_commute l0 sS) (cdv : Value) (A : Around) (outer : List PySem.Env) (s : Shared) (H : Hp) (E : XK)
    (hr : Room l0 (A.deeper (envOfC "_law_commute" (defScope s_law_commute) s.heap.objs.size f cdv))) :
    PSs (cxOf CX0 P w K mg base N_law_commute "_law_commute" (defScope s_law_commute) f cdv A outer s H E).nox (defBody s_law_commute) (t_law_commute K T sS) := by
  obtain ⟨f_law_commute, fd_law_commute, G_law_commute, b_law_commute, m_law_commute, k_law_commute⟩ := c_law_commute
  have nd := sc_law_commute.nd
  exact (pss_cons (ps_if (pt_cmpR op_eq (pe_ix ix_tup (pv 0) pe_int (fun _ _ => rfl)) (pe_ix ix_tup (pv 1) pe_int (fun _ _ => rfl)) (nomark _)) (pss_one (ps_ret pe_bl)) pss_nil)
  (pss_cons (ps_if (pt_cmpR op_eq (pe_ix ix_tup (pv 0) pe_int (fun _ _ => rfl)) pe_str (nomark _)) (pss_one (ps_ret (pe_call G_law_commute hr (by rfl) m_law_commute k_law_commute b_law_commute .nil pass0 (pa_cons (pv 1) (pa_cons (pv 0) pa_nil))))) pss_nil)
  (pss_one (ps_ret (pe_and (pe_cmpR op_eq (pe_ix ix_tup (pv 0) pe_int (fun _ _ => rfl)) (pe_ix ix_tup (pv 1) pe_int (fun _ _ => rfl)) (nomark _)) (pe_one (pe_cmpR op_le (pe_ix ix_tup (pv 0) pe_int (fun _ _ => rfl)) (pe_ix ix_tup (pv 1) pe_int (fun _ _ => rfl)) (nomark _))))))))
/-! ### _law_idle_by: slots 0 _law_steps_here, 1 _law_index, 2 _law_by, 3 _law_kind, 4 _law_event, 5 _law_time, 6 _law_beyond, 7 _law_k -/
theorem sc_law_idle_by : FnScope N_law_idle_by p_law_idle_by (defScope s_law_idle_by) := ⟨rfl, rfl, rfl, by decide +kernel, rfl, by decide +kernel, by decide +kernel⟩
def t_law_idle_by (K : PySem.W.Frag) (T : List (Addr × Str)) : TS :=
  (tSeq (tAsg (tOp (rIxL K) (tVar 0) (tVar 1)) (gTup K 3 (gCons (gName 3) (gCons (gName 4) (gCons (gName 5) gNil)))))
  (tSeq (tIfS (tOr (tTest (tOp rEq (tVar 1) (tVar 2))) (tOr (tTest (tOp rNe (tOp (rIxT K) (tOp (rIxL K) (tVar 0) (tVar 2)) (tC (.int 0))) (tVar 3))) (tTest (tOp rNe (tOp (rIxT K) (tOp (rIxL K) (tVar 0) (tVar 2)) (tC (.int 1))) (tVar 4))))) (tRet (tC (.bl false))) tNext)
  (tSeq (tAsg (tOp RSub (tOp (rIxT K) (tOp (rIxL K) (tVar 0) (tVar 2)) (tC (.int 2))) (tVar 5)) (gName 6))
  (tSeq (tIfS (tTest (tOp rEq (tVar 3) (tC (.str "lower")))) (tAsg (tOp RSub (tC (.int 0)) (tVar 6)) (gName 6)) tNext)
  (tSeq (tIfS (tTest (tOp RGt (tVar 2) (tVar 1))) (tRet (tOp RGe (tVar 6) (tC (.int 0)))) tNext)
  (tRet (tAndV (tOp RGt (tVar 6) (tC (.int 0))) (tCB (rAll K) (tCons (tLc (iRng2 (tCons (tOp RAdd (tVar 2) (tC (.int 1))) (tCons (tVar 1) tNil))) (gName 7) tYes (tCall (sp_law_commute K T) [] E0 (tCons (tOp (rIxL K) (tVar 0) (tVar 1)) (tCons (tOp (rIxL K) (tVar 0) (tVar 7)) tNil))) [7]) tNil)))))))))
/-- callees: law_commute; builtins: all, range  -/
theorem dv_law_idle_by {P : Program} {w : World} {K : PySem.W.Frag} {mg : Str → Option Value} {base : Heap} {T : List (Addr × Str)} {f : Addr} (c_law_commute : Cal P w K mg base "_law_commute" p_law_commute L_law_commute (sp_law_commute K T)) (B : Bi mg) (cdv : Value) (A : Around) (outer : List PySem.Env) (s : Shared) (H : Hp) (E : XK)
    (hr : Room M_law_idle_by (A.deeper (envOfC "_law_idle_by" (defScope s_law_idle_by) s.heap.objs.size f cdv))) :
    PSs (cxOf CX0 P w K mg base N_law_idle_by "_law_idle_by" (defScope s_law_idle_by) f cdv A outer s H E).nox (defBody s_law_idle_by) (t_law_idle_by K T) := by
  obtain ⟨f_law_commute, fd_law_commute, G_law_commute, b_law_commute, m_law_commute, k_law_commute⟩ := c_law_commute
  have nd := sc_law_idle_by.nd
  exact (pss_cons (ps_asg (pe_ix ix_list (pv 0) (pv 1) (fun _ _ => rfl)) (pg_tup rfl (pgs_cons (pg_name (i := 3) nd rfl (Or.inl rfl)) (pgs_cons (pg_name (i := 4) nd rfl (Or.inl rfl)) (pgs_cons (pg_name (i := 5) nd rfl (Or.inl rfl)) pgs_nil)))))
  (pss_cons (ps_if (PW.pt (pw_or (pt_cmpR op_eq (pv 1) (pv 2) (nomark _)) (pw_or (pt_cmpR op_ne (pe_ix ix_tup (pe_ix ix_list (pv 0) (pv 2) (fun _ _ => rfl)) pe_int (fun _ _ => rfl)) (pv 3) (nomark _)) (pw_or1 (pt_cmpR op_ne (pe_ix ix_tup (pe_ix ix_list (pv 0) (pv 2) (fun _ _ => rfl)) pe_int (fun _ _ => rfl)) (pv 4) (nomark _)))))) (pss_one (ps_ret pe_bl)) pss_nil)
  (pss_cons (ps_set (i := 6) nd rfl (Or.inl rfl) (pe_op op_sub (pe_ix ix_tup (pe_ix ix_list (pv 0) (pv 2) (fun _ _ => rfl)) pe_int (fun _ _ => rfl)) (pv 5)))
  (pss_cons (ps_if (pt_cmpR op_eq (pv 3) pe_str (nomark _)) (pss_one (ps_set (i := 6) nd rfl (Or.inl rfl) (pe_op op_sub pe_int (pv 6)))) pss_nil)
  (pss_cons (ps_if (pt_cmpR op_gt (pv 2) (pv 1) (nomark _)) (pss_one (ps_ret (pe_cmpR op_ge (pv 6) pe_int (nomark _)))) pss_nil)
  (pss_one (ps_ret (pe_and (pe_cmpR op_gt (pv 6) pe_int (nomark _)) (pe_one (pe_callB (cr_all rfl) (by rfl) B.all (by decide +kernel) (pa_cons (pe_lc (own := [("_law_k", 7)]) (by rfl) nd (pi_range2 (by rfl) B.range (pa_cons (pe_op op_add (pv 2) pe_int) (pa_cons (pv 1) pa_nil))) (blkOk_by (N := N_law_idle_by) (by kernel_rfl)) (fun _ _ _ _ _ => (pg_name (i := 7) nd rfl (Or.inl rfl))) (fun _ _ _ _ _ => pts_nil) (fun _ _ _ _ _ => (pe_call G_law_commute (hr.mono (by decide)) (by rfl) m_law_commute k_law_commute b_law_commute .nil pass0 (pa_cons (pe_ix ix_list (pv 0) (pv 1) (fun _ _ => rfl)) (pa_cons (pe_ix ix_list (pv 0) (pv 7) (fun _ _ => rfl)) pa_nil))))) pa_nil)))))))))))
/-! ### _law_told_reduction: slots 0 _law_steps_here, 1 _law_left, 2 _law_found, 3 _law_turn, 4 _law_here, 5 _law_pairs, 6 _law_k, 7 _law_by, 8 _law_at -/
theorem sc_law_told_reduction : FnScope N_law_told_reduction p_law_told_reduction (defScope s_law_told_reduction) := ⟨rfl, rfl, rfl, by decide +kernel, rfl, by decide +kernel, by decide +kernel⟩
def t_law_told_reduction (K : PySem.W.Frag) (T : List (Addr × Str)) : TS :=
  (tSeq (tAsg (tLstRg (tRg1 (tCB (RLen K) (tCons (tVar 0) tNil)))) (gName 1))
  (tSeq (tAsg (tLst tNil) (gName 2))
  (tSeq (tFor (iRng1 (tCons (tCB (RLen K) (tCons (tVar 0) tNil)) tNil)) (gName 3) (tSeq (tAsg (tLc (iList K (tVar 1)) (gName 8) tYes (tOp (rIxT K) (tVar 0) (tVar 8)) [8]) (gName 4))
  (tSeq (tAsg (tLst tNil) (gName 5))
  (tSeq (tFor (iRng1 (tCons (tCB (RLen K) (tCons (tVar 4) tNil)) tNil)) (gName 6) (tAsg (tOp rCat (tVar 5) (tLc (iRng1 (tCons (tCB (RLen K) (tCons (tVar 4) tNil)) tNil)) (gName 7) (tB (tCall (sp_law_idle_by K T) [] E0 (tCons (tVar 4) (tCons (tVar 6) (tCons (tVar 7) tNil))))) (tTup (tCons (tVar 6) (tCons (tVar 7) tNil))) [7])) (gName 5)))
  (tIfS (tTru K (tVar 5)) (tSeq (tAsg (tOp (rIxL K) (tVar 5) (tC (.int 0))) (gTup K 2 (gCons (gName 6) (gCons (gName 7) gNil))))
  (tSeq (tDrop (tBM K "list" rAppend (tVar 2) (tCons (tTup (tCons (tOp (rIxL K) (tVar 1) (tVar 6)) (tCons (tOp (rIxL K) (tVar 1) (tVar 7)) tNil))) tNil)))
  (tDrop (tBM K "list" rPopAt (tVar 1) (tCons (tVar 6) tNil))))) tNext)))))
  (tRet (tLst (tCons (tCB (RTuple K) (tCons (tVar 2) tNil)) (tCons (tVar 1) tNil)))))))
/-- callees: law_idle_by; builtins: tuple, range, len, list  -/
theorem dv_law_told_reduction {P : Program} {w : World} {K : PySem.W.Frag} {mg : Str → Option Value} {base : Heap} {T : List (Addr × Str)} {f : Addr} (c_law_idle_by : Cal P w K mg base "_law_idle_by" p_law_idle_by L_law_idle_by (sp_law_idle_by K T)) (B : Bi mg) (cdv : Value) (A : Around) (outer : List PySem.Env) (s : Shared) (H : Hp) (E : XK)
    (hr : Room M_law_told_reduction (A.deeper (envOfC "_law_told_reduction" (defScope s_law_told_reduction) s.heap.objs.size f cdv))) :
    PSs (cxOf CX0 P w K mg base N_law_told_reduction "_law_told_reduction" (defScope s_law_told_reduction) f cdv A outer s H E).nox (defBody s_law_told_reduction) (t_law_told_reduction K T) := by
  obtain ⟨f_law_idle_by, fd_law_idle_by, G_law_idle_by, b_law_idle_by, m_law_idle_by, k_law_idle_by⟩ := c_law_idle_by
  have nd := sc_law_told_reduction.nd
  exact (pss_cons (ps_set (i := 1) nd rfl (Or.inl rfl) (pe_listRg rfl (by rfl) B.list (prg_1 (by rfl) B.range (pe_callB call_len_seq (by rfl) B.len PySem.boot_len (pa_cons (pv 0) pa_nil)))))
  (pss_cons (ps_set (i := 2) nd rfl (Or.inl rfl) (pe_lst pa_nil))
  (pss_cons (ps_for PassesOwn.never rfl (pi_range1 (by rfl) B.range (pa_cons (pe_callB call_len_seq (by rfl) B.len PySem.boot_len (pa_cons (pv 0) pa_nil)) pa_nil)) (pg_name (i := 3) nd rfl (Or.inl rfl)) (pss_cons (ps_set (i := 4) nd rfl (Or.inr rfl) (pe_lc (own := [("_law_at", 8)]) (by rfl) nd (pi_list (pv 1)) (blkOk_by (N := N_law_told_reduction) (by kernel_rfl)) (fun _ _ _ _ _ => (pg_name (i := 8) nd rfl (Or.inl rfl))) (fun _ _ _ _ _ => pts_nil) (fun _ _ _ _ _ => (pe_ix ix_tup (pv 0) (pv 8) (fun _ _ => rfl)))))
  (pss_cons (ps_set (i := 5) nd rfl (Or.inl rfl) (pe_lst pa_nil))
  (pss_cons (ps_for PassesOwn.never rfl (pi_range1 (by rfl) B.range (pa_cons (pe_callB call_len_seq (by rfl) B.len PySem.boot_len (pa_cons (pv 4) pa_nil)) pa_nil)) (pg_name (i := 6) nd rfl (Or.inr rfl)) (pss_one (ps_set (i := 5) nd rfl (Or.inl rfl) (pe_op op_cat (pv 5) (pe_lc (own := [("_law_by", 7)]) (by rfl) nd (pi_range1 (by rfl) B.range (pa_cons (pe_callB call_len_seq (by rfl) B.len PySem.boot_len (pa_cons (pv 4) pa_nil)) pa_nil)) (blkOk_by (N := N_law_told_reduction) (by kernel_rfl)) (fun _ _ _ _ _ => (pg_name (i := 7) nd rfl (Or.inl rfl))) (fun _ _ _ _ _ => (pts_one (pt_val (pe_call G_law_idle_by (hr.mono (by decide)) (by rfl) m_law_idle_by k_law_idle_by b_law_idle_by .nil pass0 (pa_cons (pv 4) (pa_cons (pv 6) (pa_cons (pv 7) pa_nil))))))) (fun _ _ _ _ _ => (pe_tup (pa_cons (pv 6) (pa_cons (pv 7) pa_nil)))))))))
  (pss_one (ps_if (pt_truth (pv 5) (by intro _; rfl)) (pss_cons (ps_asg (pe_ix ix_list (pv 5) pe_int (fun _ _ => rfl)) (pg_tup rfl (pgs_cons (pg_name (i := 6) nd rfl (Or.inr rfl)) (pgs_cons (pg_name (i := 7) nd rfl (Or.inl rfl)) pgs_nil))))
  (pss_cons (ps_expr (pe_bm PySem.F.plainAttrs_list PySem.F.slot_list_append PySem.F.type_list_append mt_append (pv 2) (pa_cons (pe_tup (pa_cons (pe_ix ix_list (pv 1) (pv 6) (fun _ _ => rfl)) (pa_cons (pe_ix ix_list (pv 1) (pv 7) (fun _ _ => rfl)) pa_nil))) pa_nil)))
  (pss_one (ps_expr (pe_bm PySem.F.plainAttrs_list PySem.F.slot_list_pop PySem.F.type_list_pop mt_popAt (pv 1) (pa_cons (pv 6) pa_nil)))))) pss_nil))))))
  (pss_one (ps_ret (pe_lst (pa_cons (pe_callTy call_tuple_of (by rfl) B.tuple (by decide +kernel) (pa_cons (pv 2) pa_nil)) (pa_cons (pv 1) pa_nil))))))))
section
variable {W : Wd} {ds : List PyData} {P : PyData → Prop}
theorem ss_law_is_integer (h : C_law_is_integer ds P) : Ss W (t_law_is_integer W.K W.T) (startG N_law_is_integer.length ds) (fun _ => P .none) P := by
  obtain ⟨i, rfl, h⟩ := h
  unfold t_law_is_integer
  walk_at "evs"
  refine ⟨true, kit_int_int, true, rfl, fun _ => ?_, fun z => nomatch z⟩
  walk_at "evs"
  exact ⟨false, kit_int_bool, false, rfl, h⟩
theorem ss_law_steps (h : C_law_steps ds P) : Ss W (t_law_steps W.K W.T) (startG N_law_steps.length ds) (fun _ => P .none) P := by
  obtain ⟨r, hd, hl, h⟩ := h
  have key : ∀ x : PyData, EvI W (iTL W.K (tVar 0)) [some x, some (.list []), none, none] (fun ds => ds = r.map dP) → Ss W (t_law_steps W.K W.T) [some x, none, none, none] (fun _ => P .none) P := fun x hx => by
    unfold t_law_steps
    walk_at "ews"
    refine ss_for [2, 3] fun σ H e am R q => hx σ H e am R fun J H1 ds s1 a1 wd hds => q J H1 ds s1 a1 wd ?_
    subst hds
    refine ⟨fun i Γ => ∃ y z, Γ = [some x, some (.list (dSs (stepsIn (r.take i)))), y, z], ⟨_, _, rfl⟩, ?_, ?_⟩
    · rintro i d Γ hd ⟨y, z, rfl⟩
      obtain ⟨p, hp, rfl⟩ := get_map_some hd
      walk_at "ews"
      have hz : (dSs (stepsIn (r.take i))).length ≤ 16 := by
        unfold dSs
        rw [List.length_map, steps_len, List.length_take]
        omega
      have e5 : dSs (stepsIn (r.take (i + 1))) = dSs (stepsIn (r.take i)) ++ [dS (true, p.1, p.2), dS (false, p.1, p.2)] := by
        rw [steps_take hp]
        unfold dSs
        rw [List.map_append]
        rfl
      refine ro_catL (by show _ + 2 ≤ _; omega) ⟨some (.int p.1), some (.int p.2), ?_⟩
      rw [e5]
      rfl
    · rintro Γ ⟨y, z, rfl⟩
      walk_at "ews"
      have e : r.take (r.map dP).length = r := List.take_of_length_le (by rw [List.length_map]; exact Nat.le_refl _)
      rw [e]
      exact h
  rcases hd with rfl | rfl
  · refine key (dRow r) (ei_TLt ?_)
    unfold dRow
    walk_at "ews"
    rfl
  · refine key (.list (r.map dP)) (ei_TLl ?_)
    walk_at "ews"
    rfl
theorem ss_law_commute {sS : Sp} (h : ∃ a b, ds = [dS a, dS b] ∧ P (.bool (commute a b)) ∧ (a.1 = b.1 ∨ a.1 = true ∨ Ev W (tCall sS [] E0 (tCons (tVar 1) (tCons (tVar 0) tNil))) [some (dS a), some (dS b)] P)) :
    Ss W (t_law_commute W.K W.T sS) (startG N_law_commute.length ds) (fun _ => P .none) P := by
  obtain ⟨a, b, rfl, h, hc⟩ := h
  unfold t_law_commute
  walk_at "ews"
  refine ⟨_, rfl, fun hb => ?_, fun hb => ?_⟩
  · walk_at "ews"
    have e : a.1 = b.1 := kd_inj.mp (of_decide_eq_true hb)
    unfold commute at h
    rw [if_pos e] at h
    exact h
  · have e : ¬ a.1 = b.1 := fun z => of_decide_eq_false hb (kd_inj.mpr z)
    walk_at "ews"
    refine ⟨_, rfl, fun hb => ?_, fun hb => ?_⟩
    · have e2 : ¬ a.1 = true := fun z => by
        have h1 := of_decide_eq_true hb
        rw [z] at h1
        exact kd_ne h1
      refine ss_ret ?_
      rcases hc with z | z | z
      · exact absurd z e
      · exact absurd z e2
      · exact z
    · have e2 : a.1 = true := by
        have h1 := of_decide_eq_false hb
        cases q : a.1 with
        | true => rfl
        | false =>
          rw [q] at h1
          exact absurd rfl h1
      unfold commute at h
      rw [if_neg e, if_pos e2] at h
      walk_at "ews"
      refine ⟨_, rfl, fun hc => ?_, fun hc => ?_⟩
      · walk_at "ews"
        rw [hc, Bool.true_and] at h
        exact h
      · rw [hc, Bool.false_and] at h
        exact h
end
theorem cal_law_commute {P : Program} {w : World} {K : PySem.W.Frag} {mg : Str → Option Value} {base : Heap} {T : List (Addr × Str)} {f : Addr} {fd : FuncData} (F : Fun K "_law_commute" "_law_commute" s_law_commute f fd) (b : Binds K fd p_law_commute []) (m : mg "_law_commute" = some (.ref f)) :
    Cal P w K mg base "_law_commute" p_law_commute L_law_commute (sp_law_commute K T) := by
  have c0 : Cal P w K mg base "_law_commute" p_law_commute 0 (fun _ _ _ _ => False) := ⟨f, fd, ⟨fun _ _ _ _ z => z.elim, fun _ _ _ _ _ _ _ _ _ _ _ _ _ z => z.elim⟩, b, m, F.kp⟩
  have c1 : Cal P w K mg base "_law_commute" p_law_commute 1 (sp_law_commute1 K T) :=
    ⟨f, fd, okC F sc_law_commute (fun ds P h => by
      obtain ⟨_, _, rfl, _⟩ := h
      rfl) (fun W eK eT cdv A outer s H E hr => ⟨t_law_commute K T _, dv_law_commute c0 cdv A outer s H E hr, fun ds P h => by
      subst eK
      subst eT
      obtain ⟨a, b, rfl, h1, h2⟩ := h
      exact ss_law_commute ⟨a, b, rfl, h2, h1.elim .inl fun z => .inr (.inl z)⟩⟩), b, m, F.kp⟩
  exact ⟨f, fd, okC F sc_law_commute (fun ds P h => by
      obtain ⟨_, _, rfl, _⟩ := h
      rfl) (fun W eK eT cdv A outer s H E hr => ⟨t_law_commute K T _, dv_law_commute c1 cdv A outer s H E hr, fun ds P h => by
      subst eK
      subst eT
      obtain ⟨a, b, rfl, h2⟩ := h
      refine ss_law_commute ⟨a, b, rfl, h2, ?_⟩
      by_cases c : a.1 = true
      · exact .inr (.inl c)
      · refine .inr (.inr (ev_call ?_))
        walk_at "ews"
        refine ⟨b, a, rfl, ?_, ?_⟩
        · cases q : b.1 with
          | true => exact .inr rfl
          | false => exact .inl (by cases q2 : a.1 with
            | true => exact absurd q2 c
            | false => rfl)
        · have e : commute b a = commute a b := by
            obtain ⟨ka, ea, ta⟩ := a
            obtain ⟨kb, eb, tb⟩ := b
            cases ka <;> cases kb <;> simp [commute]
          rw [e]
          exact h2⟩), b, m, F.kp⟩

section
variable {W : Wd} {ds : List PyData} {P : PyData → Prop}
theorem ss_law_idle_by (h : C_law_idle_by ds P) : Ss W (t_law_idle_by W.K W.T) (startG N_law_idle_by.length ds) (fun _ => P .none) P := by
  obtain ⟨L, i, b, rfl, hi, hb', hl, h⟩ := h
  unfold t_law_idle_by dNat
  walk_at "evs"
  refine ss_asgG [3, 4, 5] ?_
  walk_at "evs"
  refine ro_ixL (at_dSs hi) ?_
  walk_at "evs"
  unfold makesIdle at h
  generalize ha : L.getD i s0 = a at *
  generalize hc : L.getD b s0 = c at *
  refine ⟨_, rfl, fun e1 => ?_, fun e1 => ?_⟩
  · have ne : ¬ i = b := fun z => by
      subst z
      exact of_decide_eq_false e1 rfl
    walk_at "evs"
    refine ro_ixL (at_dSs hb') ?_
    rw [hc]
    walk_at "evs"
    refine ⟨_, rfl, fun e2 => ?_, fun e2 => ?_⟩
    · have k1 : a.1 = c.1 := by
        have z : ¬ ¬ kd c.1 = kd a.1 := by simpa using e2
        exact (kd_inj.mp (Classical.not_not.mp z)).symm
      walk_at "evs"
      refine ro_ixL (at_dSs hb') ?_
      rw [hc]
      walk_at "evs"
      refine ⟨_, rfl, fun e3 => ?_, fun e3 => ?_⟩
      · have k2 : ¬ a.2.1 = c.2.1 := fun z => by
          rw [z] at e3
          simp at e3
        rw [if_pos (.inr fun z => k2 z.2)] at h
        walk_at "evs"
        exact h
      · have k2 : a.2.1 = c.2.1 := by
          have z : ¬ ¬ c.2.1 = a.2.1 := by simpa using e3
          exact (Classical.not_not.mp z).symm
        rw [if_neg (fun z => z.elim ne fun z => z ⟨k1, k2⟩)] at h
        walk_at "evs"
        refine ro_ixL (at_dSs hb') ?_
        rw [hc]
        walk_at "evs"
        have fin : ∀ (g : Int) (P' : PyData → Prop), (a.1 = true → g = c.2.2 - a.2.2) → (a.1 = false → g = 0 - (c.2.2 - a.2.2)) → Ss W (tSeq (tIfS (tTest (tOp RGt (tVar 2) (tVar 1))) (tRet (tOp RGe (tVar 6) (tC (.int 0)))) tNext)
            (tRet (tAndV (tOp RGt (tVar 6) (tC (.int 0))) (tCB (rAll W.K) (tCons (tLc (iRng2 (tCons (tOp RAdd (tVar 2) (tC (.int 1))) (tCons (tVar 1) tNil))) (gName 7) tYes (tCall (sp_law_commute W.K W.T) [] E0 (tCons (tOp (rIxL W.K) (tVar 0) (tVar 1)) (tCons (tOp (rIxL W.K) (tVar 0) (tVar 7)) tNil))) [7]) tNil)))))
            [some (.list (dSs L)), some (.int (i : Int)), some (.int (b : Int)), some (.str (kd a.1)), some (.int a.2.1), some (.int a.2.2), some (.int g), none] (fun _ => P .none) P := by
          intro g _ g1 g2
          walk_at "evs"
          refine ⟨_, rfl, fun e4 => ?_, fun e4 => ?_⟩
          · have c1 : i < b := by
              have := of_decide_eq_true e4
              omega
            rw [if_pos c1] at h
            walk_at "evs"
            have e5 : decide (0 ≤ g) = !stronger a c := by
              unfold stronger
              cases q : a.1 with
              | true =>
                rw [g1 q, if_pos rfl]
                by_cases k : c.2.2 < a.2.2
                · rw [decide_eq_true k, decide_eq_false (by omega)]
                  rfl
                · rw [decide_eq_false k, decide_eq_true (by omega)]
                  rfl
              | false =>
                rw [g2 q, if_neg (by decide)]
                by_cases k : a.2.2 < c.2.2
                · rw [decide_eq_true k, decide_eq_false (by omega)]
                  rfl
                · rw [decide_eq_false k, decide_eq_true (by omega)]
                  rfl
            rw [e5]
            exact h
          · have c1 : ¬ i < b := by
              have := of_decide_eq_false e4
              omega
            rw [if_neg c1] at h
            walk_at "evs"
            have e5 : decide (0 < g) = stronger c a := by
              unfold stronger
              rw [← k1]
              cases q : a.1 with
              | true =>
                rw [g1 q, if_pos rfl]
                by_cases k : a.2.2 < c.2.2
                · rw [decide_eq_true k, decide_eq_true (by omega)]
                · rw [decide_eq_false k, decide_eq_false (by omega)]
              | false =>
                rw [g2 q, if_neg (by decide)]
                by_cases k : c.2.2 < a.2.2
                · rw [decide_eq_true k, decide_eq_true (by omega)]
                · rw [decide_eq_false k, decide_eq_false (by omega)]
            rw [e5]
            refine ⟨_, rfl, fun e6 => ?_, fun e6 => ?_⟩
            · rw [e6, Bool.true_and] at h
              walk_at "evs"
              refine EvL.ev (el_lc (ei_rng2 ?_))
              walk_at "evs"
              have en : ((i : Int) - ((b : Int) + 1)).toNat = i - (b + 1) := by omega
              refine ⟨_, _, rfl, ⟨by omega, by omega, by omega, by omega⟩, fun k acc => acc = (((L.drop (b + 1)).take k).map (commute a)).map .bool, rfl, by rw [rgD_len, en]; omega, ?_, ?_⟩
              · rintro k d acc hd rfl
                obtain ⟨hk, rfl⟩ := rgD_get hd
                rw [en] at hk
                have e7 : ((b : Int) + 1 + (k : Int)) = ((b + 1 + k : Nat) : Int) := by omega
                rw [e7]
                walk_at "evs"
                refine et_yes (andT ?_)
                walk_at "evs"
                refine ro_ixL (at_dSs hi) ?_
                rw [ha]
                walk_at "evs"
                have hk3 : b + 1 + k < L.length := by omega
                refine ro_ixL (at_dSs hk3) ?_
                walk_at "evs"
                refine ⟨_, _, rfl, lf_bool _, ?_⟩
                have hg : (L.drop (b + 1))[k]? = some (L.getD (b + 1 + k) s0) := by
                  rw [List.getElem?_drop, List.getD_eq_getElem?_getD, List.getElem?_eq_getElem hk3]
                  rfl
                show _ ++ [PyData.bool _] = (((L.drop (b + 1)).take (k + 1)).map (commute a)).map .bool
                rw [List.take_add_one, hg, List.map_append, List.map_append]
                rfl
              · rintro acc rfl
                walk_at "evs"
                refine rc_all ?_
                rw [rgD_len, en, List.all_map]
                exact h
            · rw [e6, Bool.false_and] at h
              exact h
        refine ⟨_, rfl, fun e4 => ?_, fun e4 => ?_⟩
        · have q : a.1 = false := by
            cases q : a.1 with
            | true =>
              rw [q] at e4
              exact absurd (of_decide_eq_true e4) kd_ne
            | false => rfl
          iterate 5 walk_at "ev"
          exact fin _ P (fun z => by rw [q] at z; cases z) fun _ => rfl
        · have q : a.1 = true := by
            cases q : a.1 with
            | true => rfl
            | false =>
              rw [q] at e4
              exact absurd rfl (of_decide_eq_false e4)
          refine ss_next ?_
          exact fin _ P (fun _ => rfl) fun z => by rw [q] at z; cases z
    · have k1 : ¬ a.1 = c.1 := fun z => by
        rw [z] at e2
        simp at e2
      rw [if_pos (.inr fun z => k1 z.1)] at h
      refine andT ?_
      walk_at "evs"
      exact h
  · have e : i = b := by
      have := of_decide_eq_true e1
      omega
    rw [if_pos (.inl e)] at h
    refine andT ?_
    walk_at "evs"
    exact h
/-- the pairs idle, by whom, of the first k steps -/
def idleTo (L : List Stp) (k : Nat) : List (Nat × Nat) := (List.range k).flatMap fun a => ((List.range L.length).filter (makesIdle L a)).map fun b => (a, b)
theorem idle_head (L : List Stp) : (idleTo L L.length).head? = firstIdle L := by
  unfold idleTo firstIdle whyIdle
  rw [List.head?_flatMap]
  congr 1
  funext a
  rw [List.head?_map, List.head?_filter]
theorem idle_len (L : List Stp) : ∀ k, (idleTo L k).length ≤ k * L.length
  | 0 => by simp [idleTo]
  | k + 1 => by
    have ih := idle_len L k
    unfold idleTo at ih ⊢
    rw [List.range_succ, List.flatMap_append, List.length_append]
    have : (((List.range L.length).filter (makesIdle L k)).map fun b => (k, b)).length ≤ L.length := by
      rw [List.length_map]
      exact Nat.le_trans (List.length_filter_le _ _) (Nat.le_of_eq List.length_range)
    rw [Nat.succ_mul]
    simp only [List.flatMap_cons, List.flatMap_nil, List.append_nil]
    omega
theorem idle_succ (L : List Stp) (k : Nat) : idleTo L (k + 1) = idleTo L k ++ ((List.range L.length).filter (makesIdle L k)).map fun b => (k, b) := by
  unfold idleTo
  rw [List.range_succ, List.flatMap_append]
  simp
abbrev dPr (p : Nat × Nat) : PyData := .tuple [dNat p.1, dNat p.2]
theorem lf_dPr (p : Nat × Nat) : lf (dPr p) = true := by simp [dPr, dNat, lf, lfAll]
theorem ss_law_told_reduction (h : C_law_told_reduction ds P) : Ss W (t_law_told_reduction W.K W.T) (startG N_law_told_reduction.length ds) (fun _ => P .none) P := by
  obtain ⟨L, rfl, hl, h⟩ := h
  unfold t_law_told_reduction
  have el : (dSs L).length = L.length := List.length_map ..
  refine So.ss fun B => ?_
  walk_at "evs"
  refine so_new rfl rfl ?_
  walk_at "evs"
  refine ⟨by omega, by omega, ?_⟩
  rw [el, Int.toNat_natCast, rg_dIx]
  refine ⟨lf_dIx _, ?_⟩
  walk_at "evs"
  refine so_new rfl rfl ?_
  walk_at "evs"
  refine ⟨rfl, ?_⟩
  walk_at "evs"
  refine so_for (eit_rng1 ?_)
  walk_at "evs"
  refine ⟨_, rfl, by omega, by omega, fun n Γ O => (∃ x3 x6 x7 x8, Γ = [some (.tuple (dSs L)), none, none, x3, none, none, x6, x7, x8]) ∧ ∃ fs : List PyData, lfAll fs = true ∧ fs.length ≤ n ∧ O = [(2, fs), (1, dIx (redN (at_ L) n (List.range L.length)))], ⟨⟨_, _, _, _, rfl⟩, [], rfl, Nat.le_refl _, rfl⟩, ?_, ?_⟩
  · rintro n d Γ O hd ⟨⟨x3, x6, x7, x8, rfl⟩, fs, hfs, hfl, rfl⟩
    obtain ⟨hn, rfl⟩ := rgD_get hd
    rw [el, Int.toNat_natCast] at hn
    walk_at "evs"
    generalize hls : redN (at_ L) n (List.range L.length) = ls at *
    have hin : ∀ a ∈ ls, a < L.length := fun a ha => by
      rw [← hls] at ha
      exact List.mem_range.mp ((redN_chain _ _ _).sub.mem ha)
    have hll : ls.length ≤ L.length := by
      have := (redN_chain (at_ L) n (List.range L.length)).sub.length_le
      rw [hls, List.length_range] at this
      exact this
    refine so_new rfl rfl (el_lc (ei_list ?_))
    walk_at "evs"
    refine ⟨fun k acc => acc = dSs ((ls.take k).map (at_ L)), rfl, ?_, ?_, ?_⟩
    · unfold dIx
      rw [List.length_map]
      omega
    · rintro k d acc hd rfl
      obtain ⟨a, ha, rfl⟩ := dIx_get hd
      have la : a < L.length := hin a (List.mem_of_getElem? ha)
      walk_at "evs"
      refine et_yes (andT ?_)
      walk_at "evs"
      refine ro_ixT (at_dSs la) ⟨lf_dS _, ?_⟩
      show dSs ((ls.take k).map (at_ L)) ++ [dS (at_ L a)] = dSs ((ls.take (k + 1)).map (at_ L))
      unfold dSs
      rw [List.map_map, List.map_map]
      exact take_map_snoc (dS ∘ at_ L) ha
    · rintro acc rfl
      have e : ls.take (dIx ls).length = ls := List.take_of_length_le (by unfold dIx; rw [List.length_map]; exact Nat.le_refl _)
      rw [e]
      refine ⟨lf_dSs _, ?_⟩
      generalize hL' : ls.map (at_ L) = L' at *
      have ll : L'.length = ls.length := by rw [← hL', List.length_map]
      have el' : (dSs L').length = L'.length := List.length_map ..
      have el2 : ((4 : Nat), dSs L').snd.length = L'.length := el'
      walk_at "evs"
      refine so_new rfl rfl ?_
      walk_at "evs"
      refine ⟨rfl, ?_⟩
      walk_at "evs"
      refine so_for (eit_rng1 ?_)
      walk_at "evs"
      refine ⟨_, rfl, by omega, by omega, fun k Γ O => (∃ x3 x6 x7 x8, Γ = [some (.tuple (dSs L)), none, none, x3, none, none, x6, x7, x8]) ∧ O = [(5, (idleTo L' k).map dPr), (4, dSs L'), (2, fs), (1, dIx ls)], ⟨⟨_, _, _, _, rfl⟩, rfl⟩, ?_, ?_⟩
      · rintro k d Γ O hd ⟨⟨x3, x6, x7, x8, rfl⟩, rfl⟩
        obtain ⟨hk, rfl⟩ := rgD_get hd
        rw [el', Int.toNat_natCast] at hk
        rw [Int.zero_add]
        walk_at "evs"
        refine so_renew (k := 0) rfl rfl rfl ?_
        walk_at "evs"
        refine EvL.ev (el_lc (ei_rng1 ?_))
        walk_at "evs"
        refine ⟨_, rfl, by omega, by omega, fun j acc => acc = (((List.range j).filter (makesIdle L' k)).map fun b => (k, b)).map dPr, rfl, by rw [rgD_len]; omega, ?_, ?_⟩
        · rintro j d acc hd rfl
          obtain ⟨hj, rfl⟩ := rgD_get hd
          rw [el', Int.toNat_natCast] at hj
          rw [Int.zero_add]
          walk_at "evs"
          refine ⟨L', k, j, rfl, hk, hj, by omega, _, rfl, fun hb => ?_, fun hb => ?_⟩
          · walk_at "evs"
            refine ⟨by simp [lf, lfAll], ?_⟩
            show _ ++ [dPr (k, j)] = (((List.range (j + 1)).filter (makesIdle L' k)).map fun b => (k, b)).map dPr
            rw [List.range_succ, List.filter_append, List.map_append, List.map_append]
            rw [show [j].filter (makesIdle L' k) = [j] by simp [hb]]
            rfl
          · show _ = (((List.range (j + 1)).filter (makesIdle L' k)).map fun b => (k, b)).map dPr
            rw [List.range_succ, List.filter_append]
            rw [show [j].filter (makesIdle L' k) = [] by simp [hb], List.append_nil]
        · rintro acc rfl
          rw [rgD_len, el', Int.toNat_natCast]
          have h1 := idle_len L' k
          have h2 : k * L'.length ≤ 16 * 16 := Nat.mul_le_mul (by omega) (by omega)
          have h3 : ((List.range L'.length).filter (makesIdle L' k)).length ≤ L'.length := Nat.le_trans (List.length_filter_le _ _) (Nat.le_of_eq List.length_range)
          refine ro_cat (by rw [List.length_map, List.length_map, List.length_map]; omega) ?_
          rw [← List.map_append, ← idle_succ]
          exact ⟨lfAll_map dPr lf_dPr _, ⟨_, _, _, _, rfl⟩, rfl⟩
      · rintro Γ O ⟨⟨x3, x6, x7, x8, rfl⟩, rfl⟩
        rw [rgD_len, el', Int.toNat_natCast]
        have hh := idle_head L'
        refine so_dropN 0 (so_dropN 0 (so_if (et_truL (ds := (idleTo L' L'.length).map dPr) ?_)))
        walk_at "evs"
        refine ⟨rfl, ?_⟩
        cases hps : idleTo L' L'.length with
        | nil =>
          rw [hps] at hh
          refine andF ?_
          walk_at "evs"
          refine ⟨⟨_, _, _, _, rfl⟩, fs, hfs, by omega, ?_⟩
          have e3 : redN (at_ L) (n + 1) (List.range L.length) = ls := by
            rw [redN_snoc, hls, hL', ← hh]
            rfl
          rw [e3]
          rfl
        | cons pq ps =>
          rw [hps] at hh
          have hfi : firstIdle L' = some pq := hh.symm
          obtain ⟨p1, p2, _⟩ := firstIdle_some hfi
          refine andT ?_
          refine so_seq (so_asgG ?_)
          walk_at "evs"
          have hat : atI ((pq :: ps).map dPr) 0 = some (.tuple [.int (pq.1 : Int), .int (pq.2 : Int)]) := at_map dPr (l := pq :: ps) (i := 0) (by simp)
          refine ro_ixL hat ?_
          walk_at "evs"
          refine so_append (k := 2) (i := 2) (ds := fs) ?_ (by omega) ?_
          · exact rfl
          walk_at "evs"
          have q1 : pq.1 < ls.length := by omega
          have q2 : pq.2 < ls.length := by omega
          refine ro_ixL (at_dIx q1) ?_
          walk_at "evs"
          refine ro_ixL (at_dIx q2) ?_
          walk_at "evs"
          refine ⟨by simp [lf, lfAll], ?_⟩
          refine so_pop (k := 3) rfl ?_
          walk_at "evs"
          refine ⟨pq.1, rfl, by unfold dIx; rw [List.length_map]; omega, by unfold dIx; rw [List.length_map]; omega, ⟨_, _, _, _, rfl⟩, fs ++ [.tuple [.int (ls[pq.1] : Int), .int (ls[pq.2] : Int)]], lfAll_append hfs (by simp [lf, lfAll]), by rw [List.length_append, List.length_singleton]; omega, ?_⟩
          have e3 : redN (at_ L) (n + 1) (List.range L.length) = ls.eraseIdx pq.1 := by
            rw [redN_snoc, hls, hL', hfi]
          rw [e3]
          unfold dIx
          rw [erase_map]
          rfl
  · rintro Γ O ⟨⟨x3, x6, x7, x8, rfl⟩, fs, hfs, hfl, rfl⟩
    rw [rgD_len, el, Int.toNat_natCast]
    refine so_ret (ev_lstL ?_)
    walk_at "evs"
    exact h fs
end
theorem cal_law_is_integer {P : Program} {w : World} {K : PySem.W.Frag} {mg : Str → Option Value} {base : Heap} {T : List (Addr × Str)} {f : Addr} {fd : FuncData} (F : Fun K "_law_is_integer" "_law_is_integer" s_law_is_integer f fd) (b : Binds K fd p_law_is_integer []) (m : mg "_law_is_integer" = some (.ref f)) (B : Bi mg) :
    Cal P w K mg base "_law_is_integer" p_law_is_integer L_law_is_integer (sp_law_is_integer K T) :=
  ⟨f, fd, okC F sc_law_is_integer (fun ds P h => by
      unfold C_law_is_integer at h
      first
        | (obtain ⟨_, rfl, _⟩ := h; rfl)
        | (obtain ⟨_, _, rfl, _⟩ := h; rfl)
        | (obtain ⟨_, _, _, rfl, _⟩ := h; rfl)
        | (obtain ⟨_, h, _⟩ := h; rcases h with rfl | rfl <;> rfl)
        | (obtain ⟨rfl, _⟩ := h; rfl)) (fun W eK eT cdv A outer s H E hr => ⟨t_law_is_integer K T, dv_law_is_integer B cdv A outer s H E hr, fun ds P h => by
      subst eK
      subst eT
      exact ss_law_is_integer h⟩), b, m, F.kp⟩
theorem cal_law_steps {P : Program} {w : World} {K : PySem.W.Frag} {mg : Str → Option Value} {base : Heap} {T : List (Addr × Str)} {f : Addr} {fd : FuncData} (F : Fun K "_law_steps" "_law_steps" s_law_steps f fd) (b : Binds K fd p_law_steps []) (m : mg "_law_steps" = some (.ref f)) (B : Bi mg) :
    Cal P w K mg base "_law_steps" p_law_steps L_law_steps (sp_law_steps K T) :=
  ⟨f, fd, okC F sc_law_steps (fun ds P h => by
      unfold C_law_steps at h
      first
        | (obtain ⟨_, rfl, _⟩ := h; rfl)
        | (obtain ⟨_, _, rfl, _⟩ := h; rfl)
        | (obtain ⟨_, _, _, rfl, _⟩ := h; rfl)
        | (obtain ⟨_, h, _⟩ := h; rcases h with rfl | rfl <;> rfl)
        | (obtain ⟨rfl, _⟩ := h; rfl)) (fun W eK eT cdv A outer s H E hr => ⟨t_law_steps K T, dv_law_steps B cdv A outer s H E hr, fun ds P h => by
      subst eK
      subst eT
      exact ss_law_steps h⟩), b, m, F.kp⟩
theorem cal_law_idle_by {P : Program} {w : World} {K : PySem.W.Frag} {mg : Str → Option Value} {base : Heap} {T : List (Addr × Str)} {f : Addr} {fd : FuncData} (F : Fun K "_law_idle_by" "_law_idle_by" s_law_idle_by f fd) (b : Binds K fd p_law_idle_by []) (m : mg "_law_idle_by" = some (.ref f)) (c_law_commute : Cal P w K mg base "_law_commute" p_law_commute L_law_commute (sp_law_commute K T)) (B : Bi mg) :
    Cal P w K mg base "_law_idle_by" p_law_idle_by L_law_idle_by (sp_law_idle_by K T) :=
  ⟨f, fd, okC F sc_law_idle_by (fun ds P h => by
      unfold C_law_idle_by at h
      first
        | (obtain ⟨_, rfl, _⟩ := h; rfl)
        | (obtain ⟨_, _, rfl, _⟩ := h; rfl)
        | (obtain ⟨_, _, _, rfl, _⟩ := h; rfl)
        | (obtain ⟨_, h, _⟩ := h; rcases h with rfl | rfl <;> rfl)
        | (obtain ⟨rfl, _⟩ := h; rfl)) (fun W eK eT cdv A outer s H E hr => ⟨t_law_idle_by K T, dv_law_idle_by c_law_commute B cdv A outer s H E hr, fun ds P h => by
      subst eK
      subst eT
      exact ss_law_idle_by h⟩), b, m, F.kp⟩
theorem cal_law_told_reduction {P : Program} {w : World} {K : PySem.W.Frag} {mg : Str → Option Value} {base : Heap} {T : List (Addr × Str)} {f : Addr} {fd : FuncData} (F : Fun K "_law_told_reduction" "_law_told_reduction" s_law_told_reduction f fd) (b : Binds K fd p_law_told_reduction []) (m : mg "_law_told_reduction" = some (.ref f)) (c_law_idle_by : Cal P w K mg base "_law_idle_by" p_law_idle_by L_law_idle_by (sp_law_idle_by K T)) (B : Bi mg) :
    Cal P w K mg base "_law_told_reduction" p_law_told_reduction L_law_told_reduction (sp_law_told_reduction K T) :=
  ⟨f, fd, okC F sc_law_told_reduction (fun ds P h => by
      unfold C_law_told_reduction at h
      first
        | (obtain ⟨_, rfl, _⟩ := h; rfl)
        | (obtain ⟨_, _, rfl, _⟩ := h; rfl)
        | (obtain ⟨_, _, _, rfl, _⟩ := h; rfl)
        | (obtain ⟨_, h, _⟩ := h; rcases h with rfl | rfl <;> rfl)
        | (obtain ⟨rfl, _⟩ := h; rfl)) (fun W eK eT cdv A outer s H E hr => ⟨t_law_told_reduction K T, dv_law_told_reduction c_law_idle_by B cdv A outer s H E hr, fun ds P h => by
      subst eK
      subst eT
      exact ss_law_told_reduction h⟩), b, m, F.kp⟩

/-! ## the stream of choices -/
def sp_law_stream (K : PySem.W.Frag) (T : List (Addr × Str)) : Sp := fun vs H Q _ => ∃ (a : Addr) (xs : List V), vs = [.ref a] ∧ SqL K H a xs ∧ ∀ l q, H l = none → upd H l (.lst xs) q = none → Q (.ref q) (upd (upd H l (.lst xs)) q (.lst [.ref l, .int 0, .int 0]))
def C_law_next (ds : List PyData) (P : PyData → Prop) : Prop := ∃ m : Int, ds = [.dict [], .int m] ∧ 0 < m ∧ m ≤ 1000 ∧ ∀ r : Int, 0 ≤ r → r < m → P (.int r)
abbrev sp_law_next (K : PySem.W.Frag) (T : List (Addr × Str)) : Sp := spC K T C_law_next
/-! ### _law_stream: slots 0 _law_script -/
theorem sc_law_stream : FnScope N_law_stream p_law_stream (defScope s_law_stream) := ⟨rfl, rfl, rfl, by decide +kernel, rfl, by decide +kernel, by decide +kernel⟩
def t_law_stream (K : PySem.W.Frag) (T : List (Addr × Str)) : TS :=
  (tRet (tLst (tCons (tCB (RList K) (tCons (tVar 0) tNil)) (tCons (tC (.int 0)) (tCons (tC (.int 0)) tNil)))))
/-- callees: ; builtins: list  -/
theorem dv_law_stream {P : Program} {w : World} {K : PySem.W.Frag} {mg : Str → Option Value} {base : Heap} {T : List (Addr × Str)} {f : Addr} (B : Bi mg) (cdv : Value) (A : Around) (outer : List PySem.Env) (s : Shared) (H : Hp) (E : XK)
    (hr : Room M_law_stream (A.deeper (envOfC "_law_stream" (defScope s_law_stream) s.heap.objs.size f cdv))) :
    PSs (cxOf CX0 P w K mg base N_law_stream "_law_stream" (defScope s_law_stream) f cdv A outer s H E).nox (defBody s_law_stream) (t_law_stream K T) := by
  have nd := sc_law_stream.nd
  exact (pss_one (ps_ret (pe_lst (pa_cons (pe_callTy call_list_of (by rfl) B.list (by decide +kernel) (pa_cons (pv 0) pa_nil)) (pa_cons pe_int (pa_cons pe_int pa_nil))))))
/-! ### _law_next: slots 0 _law_stream_here, 1 _law_many, 2 _law_k, 3 _law_cell, 4 _law_digit -/
theorem sc_law_next : FnScope N_law_next p_law_next (defScope s_law_next) := ⟨rfl, rfl, rfl, by decide +kernel, rfl, by decide +kernel, by decide +kernel⟩
def t_law_next (K : PySem.W.Frag) (T : List (Addr × Str)) : TS :=
  (tSeq (tIfS (tTest (tOp rEq (tOp (rIxL K) (tVar 0) (tC (.int 1))) (tC (.int 0)))) (tSeq (tAsg (tOp (rIxL K) (tVar 0) (tC (.int 2))) (gName 2))
  (tSeq (tAsg (tOp RAdd (tC (.int 7)) (tVar 2)) (gName 3))
  (tSeq (tIfS (tTest (tOp RLt (tVar 2) (tCB (RLen K) (tCons (tOp (rIxL K) (tVar 0) (tC (.int 0))) tNil)))) (tAsg (tCB RAbs (tCons (tOp (rIxL K) (tOp (rIxL K) (tVar 0) (tC (.int 0))) (tVar 2)) tNil)) (gName 3)) tNext)
  (tSeq (tIfS (tTest (tOp RLt (tVar 3) (tOp RPow (tC (.int 10)) (tC (.int 18))))) (tSeq (tAsg (tOp RMod (tCB RInt (tCons (tOp RAdd (tOp RAdd (tOp RMul (tVar 3) (tC (.int 48271))) (tOp RMul (tVar 2) (tC (.int 69621)))) (tC (.int 11))) tNil)) (tC (.int 2147483647))) (gName 3))
  (tAsg (tOp RAdd (tOp RMul (tOp RMod (tCB RInt (tCons (tOp RAdd (tOp RMul (tVar 3) (tC (.int 16807))) (tC (.int 13))) tNil)) (tC (.int 2147483647))) (tC (.int 65537))) (tVar 3)) (gName 3))) tNext)
  (tSeq (tAsg (tVar 3) (gSub (tVar 0) (tC (.int 1)) rSetL))
  (tAsg (tOp RAdd (tVar 2) (tC (.int 1))) (gSub (tVar 0) (tC (.int 2)) rSetL))))))) tNext)
  (tSeq (tAsg (tOp RMod (tCB RInt (tCons (tOp (rIxL K) (tVar 0) (tC (.int 1))) tNil)) (tVar 1)) (gName 4))
  (tSeq (tAsg (tOp RDiv (tOp (rIxL K) (tVar 0) (tC (.int 1))) (tVar 1)) (gSub (tVar 0) (tC (.int 1)) rSetL))
  (tRet (tVar 4)))))
/-- callees: ; builtins: int, len, abs  -/
theorem dv_law_next {P : Program} {w : World} {K : PySem.W.Frag} {mg : Str → Option Value} {base : Heap} {T : List (Addr × Str)} {f : Addr} (B : Bi mg) (cdv : Value) (A : Around) (outer : List PySem.Env) (s : Shared) (H : Hp) (E : XK)
    (hr : Room M_law_next (A.deeper (envOfC "_law_next" (defScope s_law_next) s.heap.objs.size f cdv))) :
    PSs (cxOf CX0 P w K mg base N_law_next "_law_next" (defScope s_law_next) f cdv A outer s H E).nox (defBody s_law_next) (t_law_next K T) := by
  have nd := sc_law_next.nd
  exact (pss_cons (ps_if (pt_cmpR op_eq (pe_ix ix_list (pv 0) pe_int (fun _ _ => rfl)) pe_int (nomark _)) (pss_cons (ps_set (i := 2) nd rfl (Or.inl rfl) (pe_ix ix_list (pv 0) pe_int (fun _ _ => rfl)))
  (pss_cons (ps_set (i := 3) nd rfl (Or.inl rfl) (pe_op op_add pe_int (pv 2)))
  (pss_cons (ps_if (pt_cmpR op_lt (pv 2) (pe_callB call_len_seq (by rfl) B.len PySem.boot_len (pa_cons (pe_ix ix_list (pv 0) pe_int (fun _ _ => rfl)) pa_nil)) (nomark _)) (pss_one (ps_set (i := 3) nd rfl (Or.inl rfl) (pe_callB call_abs (by rfl) B.abs (by decide +kernel) (pa_cons (pe_ix ix_list (pe_ix ix_list (pv 0) pe_int (fun _ _ => rfl)) (pv 2) (fun _ _ => rfl)) pa_nil)))) pss_nil)
  (pss_cons (ps_if (pt_cmpR op_lt (pv 3) (pe_op op_pow pe_int pe_int) (nomark _)) (pss_cons (ps_set (i := 3) nd rfl (Or.inl rfl) (pe_op op_mod (pe_callTy call_int1 (by rfl) B.int (by decide +kernel) (pa_cons (pe_op op_add (pe_op op_add (pe_op op_mul (pv 3) pe_int) (pe_op op_mul (pv 2) pe_int)) pe_int) pa_nil)) pe_int))
  (pss_one (ps_set (i := 3) nd rfl (Or.inl rfl) (pe_op op_add (pe_op op_mul (pe_op op_mod (pe_callTy call_int1 (by rfl) B.int (by decide +kernel) (pa_cons (pe_op op_add (pe_op op_mul (pv 3) pe_int) pe_int) pa_nil)) pe_int) pe_int) (pv 3))))) pss_nil)
  (pss_cons (ps_asg (pv 3) (pg_sub (pv 0) pe_int set_list))
  (pss_one (ps_asg (pe_op op_add (pv 2) pe_int) (pg_sub (pv 0) pe_int set_list)))))))) pss_nil)
  (pss_cons (ps_set (i := 4) nd rfl (Or.inl rfl) (pe_op op_mod (pe_callTy call_int1 (by rfl) B.int (by decide +kernel) (pa_cons (pe_ix ix_list (pv 0) pe_int (fun _ _ => rfl)) pa_nil)) (pv 1)))
  (pss_cons (ps_asg (pe_op op_fdiv (pe_ix ix_list (pv 0) pe_int (fun _ _ => rfl)) (pv 1)) (pg_sub (pv 0) pe_int set_list))
  (pss_one (ps_ret (pv 4))))))
theorem cal_law_stream {P : Program} {w : World} {K : PySem.W.Frag} {mg : Str → Option Value} {base : Heap} {T : List (Addr × Str)} {f : Addr} {fd : FuncData} (F : Fun K "_law_stream" "_law_stream" s_law_stream f fd) (b : Binds K fd p_law_stream []) (m : mg "_law_stream" = some (.ref f)) (B : Bi mg) :
    Cal P w K mg base "_law_stream" p_law_stream L_law_stream (sp_law_stream K T) :=
  ⟨f, fd, F.ok sc_law_stream (fun vs H Q E h => by
      obtain ⟨a, xs, rfl, _⟩ := h
      rfl) (fun cdv A outer s H vs Q E hr h => by
      obtain ⟨a, xs, rfl, hs, q⟩ := h
      exact ⟨t_law_stream K T, dv_law_stream B cdv A outer s H E hr, .ref a, rfl, a, xs, rfl, .inl hs, fun l hl => ⟨by show 3 ≤ sizeLine; decide, fun p hp => q l p hl hp⟩⟩), b, m, F.kp⟩

/-! ### within _law_next: the stream's list is read and written -/
abbrev W0 (W : Wd) : Wd := { W with p := none }
abbrev strD (W : Wd) (h k : Int) : PyData := .list [.list (W.ns.map .int), .int h, .int k]
/-- Γ: the other slots (numbers) -/
structure Sa (W : Wd) (q : Addr) (Γ : Gm) (h k : Int) (σ : L2.St) (H : Hp) : Prop where
  p : W.p = some q
  ne : W.a ≠ q
  hq : H q = some (.lst [.ref W.a, .int h, .int k])
  ha : H W.a = some (.lst (W.ns.map V.int))
  s0 : σ[0]? = some (some (.ref q))
  am : Am (W0 W) H
  env : Env (W0 W) Γ σ H
  lfg : ∀ (i : Nat) (d : PyData), Γ[i]? = some (some d) → lf d = true
  g0 : Γ[0]? = some none
section
variable {W : Wd} {q : Addr} {Γ : Gm} {h k : Int} {σ : L2.St} {H H' : Hp}
theorem Sx.w0 (s : Sx (W0 W) H H') : Sx W H H' := ⟨fun a o e kp => s.kp a o e (kp.imp id fun z => ⟨fun y => (by cases y), z.2⟩), s.fr⟩
theorem Sa.up (e : Sa W q Γ h k σ H) (s : Sx (W0 W) H H') (am : Am (W0 W) H') : Sa W q Γ h k σ H' :=
  ⟨e.p, e.ne, s.kp _ _ e.hq (.inr ⟨fun y => (by cases y), fun ps z => by cases z⟩), s.kp _ _ e.ha (.inr ⟨fun y => (by cases y), fun ps z => by cases z⟩), e.s0, am, e.env.up s, e.lfg, e.g0⟩
theorem Sa.dt (e : Sa W q Γ h k σ H) : Dt (W0 W) H (.ref q) (strD W h k) := .lst (fun y => by cases y) e.hq (.cons (.lst (fun y => by cases y) e.ha (dt_ints _)) (.cons (.int _) (.cons (.int _) .nil)))
theorem Sa.env' (e : Sa W q Γ h k σ H) : Env (W0 W) (Γ.set 0 (some (strD W h k))) σ H := by
  have e2 := e.env.set (i := 0) e.dt
  have es : σ.set 0 (some (.ref q)) = σ := by
    apply List.ext_getElem?
    intro j
    by_cases c : 0 = j
    · subst c
      rw [e.s0]
      exact List.getElem?_set_self (List.getElem?_eq_some_iff.mp e.s0).1
    · rw [List.getElem?_set_ne c]
  rw [es] at e2
  exact e2
theorem Sa.aw (e : Sa W q Γ h k σ H) (h0 : 0 ≤ h) (k0 : 0 ≤ k) : Am W H := ⟨e.am.tab, fun r er => by
  have : r = q := Option.some.inj (er.symm.trans e.p)
  subst this
  exact ⟨e.ne, e.ha, h, k, e.hq, h0, k0⟩⟩
end
def Sn (W : Wd) (q : Addr) (ts : TS) (Γ : Gm) (h k : Int) (N : Gm → Int → Int → Prop) (R : PyData → Prop) : Prop := ∀ σ H, Sa W q Γ h k σ H → ∀ D : Ends, (∀ σ' H' Γ' h' k', Sx W H H' → Sa W q Γ' h' k' σ' H' → N Γ' h' k' → D.nx σ' H') → (∀ v d H', Sx W H H' → Am W H' → Dt W H' v d → R d → D.rt v H') → ts D σ H
section
variable {W : Wd} {q : Addr} {Γ : Gm} {h k : Int} {te : TE} {tt : TT} {ts tv : TS} {N : Gm → Int → Int → Prop} {R : PyData → Prop}
theorem sn_seq (x : Sn W q ts Γ h k (fun Γ' h' k' => Sn W q tv Γ' h' k' N R) R) : Sn W q (tSeq ts tv) Γ h k N R := fun σ H e D hn hr =>
  x σ H e { D with nx := tv D } (fun σ' H' Γ' h' k' s e' h2 => h2 σ' H' e' D (fun σ2 H2 Γ2 h2 k2 s2 e2 h3 => hn σ2 H2 Γ2 h2 k2 (s.trans s2) e2 h3) fun v d H2 s2 a2 d2 p => hr v d H2 (s.trans s2) a2 d2 p) hr
theorem sn_next (x : N Γ h k) : Sn W q tNext Γ h k N R := fun σ H e D hn hr => hn σ H Γ h k (Sx.refl W H) e x
theorem sn_if {tx ty : TS} (x : EvT (W0 W) tt (Γ.set 0 (some (strD W h k))) fun b => (b = true → Sn W q tx Γ h k N R) ∧ (b = false → Sn W q ty Γ h k N R)) : Sn W q (tIfS tt tx ty) Γ h k N R := fun σ H e D hn hr =>
  x σ H e.env' e.am _ fun b H1 s1 a1 h1 => by
    cases b with
    | true => exact iteT (h1.1 rfl σ H1 (e.up s1 a1) D (fun σ2 H2 Γ2 h2 k2 s2 e2 h3 => hn σ2 H2 Γ2 h2 k2 (s1.w0.trans s2) e2 h3) fun v d H2 s2 a2 d2 p => hr v d H2 (s1.w0.trans s2) a2 d2 p)
    | false => exact iteF (h1.2 rfl σ H1 (e.up s1 a1) D (fun σ2 H2 Γ2 h2 k2 s2 e2 h3 => hn σ2 H2 Γ2 h2 k2 (s1.w0.trans s2) e2 h3) fun v d H2 s2 a2 d2 p => hr v d H2 (s1.w0.trans s2) a2 d2 p)
theorem sn_asg {i : Nat} (hi : i ≠ 0) (x : Ev (W0 W) te (Γ.set 0 (some (strD W h k))) fun d => lf d = true ∧ N (Γ.set i (some d)) h k) : Sn W q (tAsg te (gName i)) Γ h k N R := fun σ H e D hn hr =>
  x σ H e.env' e.am _ fun v d H1 s1 a1 d1 ⟨hl, h1⟩ => by
    have e1 := e.up s1 a1
    refine hn _ H1 _ h k s1.w0 ⟨e1.p, e1.ne, e1.hq, e1.ha, by rw [List.getElem?_set_ne hi]; exact e1.s0, a1, e1.env.set d1, fun j d' hj => ?_, by rw [List.getElem?_set_ne hi]; exact e1.g0⟩ h1
    by_cases c : i = j
    · subst c
      by_cases hlt : i < Γ.length
      · rw [List.getElem?_set_self hlt] at hj
        cases hj
        exact hl
      · rw [List.getElem?_eq_none (by rw [List.length_set]; omega)] at hj
        cases hj
    · rw [List.getElem?_set_ne c] at hj
      exact e.lfg j d' hj
theorem sn_ret (h0 : 0 ≤ h) (k0 : 0 ≤ k) (x : Ev (W0 W) te (Γ.set 0 (some (strD W h k))) fun d => ∃ i, d = .int i ∧ R d) : Sn W q (tRet te) Γ h k N R := fun σ H e D hn hr =>
  x σ H e.env' e.am _ fun v d H1 s1 a1 d1 h1 => by
    obtain ⟨i, rfl, h1⟩ := h1
    cases d1
    exact hr _ _ H1 s1.w0 ((e.up s1 a1).aw h0 k0) (.int i) h1
/-- stream[j] = te -/
theorem sn_set {j : Nat} (hj : j = 1 ∨ j = 2) (x : Ev (W0 W) te (Γ.set 0 (some (strD W h k))) fun d => ∃ v : Int, d = .int v ∧ N Γ (if j = 1 then v else h) (if j = 2 then v else k)) : Sn W q (tAsg te (gSub (tVar 0) (tC (.int (j : Int))) rSetL)) Γ h k N R := fun σ H e D hn hr =>
  x σ H e.env' e.am _ fun v d H1 s1 a1 d1 h1 => by
    obtain ⟨i, rfl, h1⟩ := h1
    cases d1
    have e1 := e.up s1 a1
    refine ⟨_, e1.s0, q, _, (j : Int), j, rfl, rfl, e1.hq, ?_, ?_⟩
    · rcases hj with rfl | rfl <;> rfl
    · have es : ([.ref W.a, .int h, .int k] : List V).set j (.int i) = [.ref W.a, .int (if j = 1 then i else h), .int (if j = 2 then i else k)] := by
        rcases hj with rfl | rfl <;> rfl
      rw [es]
      refine hn σ _ Γ _ _ (s1.w0.trans ⟨fun b o hb kp => ?_, fun b hb => (upd_some hb).2⟩) ⟨e1.p, e1.ne, upd_same, by rw [upd_ne e1.ne]; exact e1.ha, e1.s0, ?_, ?_, e1.lfg, e1.g0⟩ h1
      · by_cases c : b = q
        · subst c
          rcases kp with ⟨ys, z⟩ | ⟨z, _⟩
          · rw [e1.hq] at hb
            cases hb
            cases z
          · exact absurd e1.p z
        · rw [upd_ne c]
          exact hb
      · refine ⟨fun p hp => ?_, fun r er => by cases er⟩
        obtain ⟨ps, h1, h2, h3⟩ := a1.tab p hp
        have ne : p.1 ≠ q := fun z => by
          rw [z, e1.hq] at h1
          cases h1
        refine ⟨ps, by rw [upd_ne ne]; exact h1, h2, fun pos cv hc => ?_⟩
        obtain ⟨c, g1, g2⟩ := h3 pos cv hc
        have nc : c ≠ q := fun z => by
          rw [z, e1.hq] at g2
          cases g2
        exact ⟨c, g1, by rw [upd_ne nc]; exact g2⟩
      · refine ⟨e1.env.len, fun i' d' hd' => ?_⟩
        obtain ⟨v', g1, g2⟩ := e1.env.get i' d' hd'
        exact ⟨v', g1, Dt.mut e1.hq d' v' (e1.lfg i' d' hd') g2⟩
theorem sn_seqM (M : Gm → Int → Int → Prop) (x : Sn W q ts Γ h k M R) (y : ∀ Γ' h' k', M Γ' h' k' → Sn W q tv Γ' h' k' N R) : Sn W q (tSeq ts tv) Γ h k N R := sn_seq fun σ H e D hn hr => x σ H e D (fun σ' H' Γ' h' k' s e' m => hn σ' H' Γ' h' k' s e' (y Γ' h' k' m)) hr
theorem ss_of_sn {m : Int} (x : ∀ q h k, 0 ≤ h → 0 ≤ k → Sn W q ts [none, some (.int m), none, none, none] h k (fun _ _ _ => False) R) {N : Gm → Prop} : Ss W ts [some (.dict []), some (.int m), none, none, none] N R := fun σ H e am D hn hr => by
  obtain ⟨v0, s0, d0⟩ := e.get 0 _ rfl
  obtain ⟨v1, s1, d1⟩ := e.get 1 _ rfl
  cases d0 with
  | @strm q hp =>
    cases d1
    obtain ⟨h1, h2, hh, k, h3, h4, h5⟩ := am.str q hp
    refine x q hh k h4 h5 σ H ⟨hp, h1, h3, h2, s0, ⟨am.tab, fun r er => by cases er⟩, ⟨e.len, fun i d hd => ?_⟩, fun i d hd => ?_, rfl⟩ D (fun _ _ _ _ _ _ _ z => z.elim) hr
    · match i with
      | 0 => cases hd
      | 1 =>
        cases hd
        exact ⟨_, s1, .int m⟩
      | 2 => cases hd
      | 3 => cases hd
      | 4 => cases hd
      | i + 5 => simp at hd
    · match i with
      | 0 => cases hd
      | 1 =>
        cases hd
        exact lf_int m
      | 2 => cases hd
      | 3 => cases hd
      | 4 => cases hd
      | i + 5 => simp at hd
end
theorem cmul_r {i : Int} {j : Int} (h : -(2 ^ 64) < j ∧ j < 2 ^ 64) : CMul i j := .inr h
theorem ss_law_next {W : Wd} {ds : List PyData} {P : PyData → Prop} (h : C_law_next ds P) : Ss W (t_law_next W.K W.T) (startG N_law_next.length ds) (fun _ => P .none) P := by
  obtain ⟨m, rfl, m0, m1, h⟩ := h
  show Ss W _ [some (.dict []), some (.int m), none, none, none] _ _
  refine ss_of_sn fun q hh k h0 k0 => ?_
  unfold t_law_next
  refine sn_seqM (fun Γ' h' k' => 0 ≤ h' ∧ 0 ≤ k' ∧ ∃ x y, Γ' = [none, some (.int m), x, y, none]) (sn_if ?_) ?_
  · walk_at "evs"
    refine ⟨_, rfl, fun _ => ?_, fun _ => sn_next ⟨h0, k0, _, _, rfl⟩⟩
    refine sn_seq (sn_asg (by decide) ?_)
    walk_at "evs"
    refine ⟨lf_int _, sn_seq (sn_asg (by decide) ?_)⟩
    walk_at "evs"
    refine ⟨lf_int _, sn_seqM (fun Γ' h' k' => h' = hh ∧ k' = k ∧ ∃ c : Int, 0 ≤ c ∧ Γ' = [none, some (.int m), some (.int k), some (.int c), none]) (sn_if ?_) ?_⟩
    · walk_at "evs"
      refine ⟨_, rfl, fun e1 => ?_, fun _ => sn_next ⟨rfl, rfl, 7 + k, by omega, rfl⟩⟩
      have hk : k < (W.ns.length : Int) := by
        have := of_decide_eq_true e1
        rw [List.length_map] at this
        exact this
      refine sn_asg (by decide) ?_
      walk_at "evs"
      have hk2 : k.toNat < W.ns.length := by omega
      have hat : atI (W.ns.map PyData.int) k = some (.int W.ns[k.toNat]) := by
        have := at_map PyData.int hk2
        rw [Int.toNat_of_nonneg k0] at this
        exact this
      refine ro_ixL hat ?_
      walk_at "evs"
      exact ⟨lf_int _, rfl, rfl, _, by split <;> omega, rfl⟩
    · rintro Γ' h' k' ⟨rfl, rfl, c, c0, rfl⟩
      refine sn_seqM (fun Γ' h2 k2 => h2 = h' ∧ k2 = k' ∧ ∃ c : Int, 0 ≤ c ∧ Γ' = [none, some (.int m), some (.int k'), some (.int c), none]) (sn_if ?_) ?_
      · walk_at "evs"
        refine ro_pow ⟨by decide, by decide, by decide⟩ ?_
        walk_at "evs"
        refine ⟨_, rfl, fun _ => ?_, fun _ => sn_next ⟨rfl, rfl, c, c0, rfl⟩⟩
        refine sn_seq (sn_asg (by decide) ?_)
        walk_at "evs"
        refine ro_mul (cmul_r (by decide)) ?_
        walk_at "evs"
        refine ro_mul (cmul_r (by decide)) ?_
        walk_at "evs"
        refine ro_mod (by decide) ⟨lf_int _, ?_⟩
        have c1 : 0 ≤ (c * 48271 + k' * 69621 + 11) % 2147483647 := Int.emod_nonneg _ (by decide)
        refine sn_asg (by decide) ?_
        walk_at "evs"
        refine ro_mul (cmul_r (by decide)) ?_
        walk_at "evs"
        refine ro_mod (by decide) ?_
        walk_at "evs"
        refine ro_mul (cmul_r (by decide)) ?_
        walk_at "evs"
        have c2 := Int.emod_nonneg ((c * 48271 + k' * 69621 + 11) % 2147483647 * 16807 + 13) (show (2147483647 : Int) ≠ 0 by decide)
        exact ⟨lf_int _, rfl, rfl, _, by omega, rfl⟩
      · rintro Γ' h2 k2 ⟨rfl, rfl, c, c0, rfl⟩
        refine sn_seq (sn_set (j := 1) (.inl rfl) ?_)
        walk_at "evs"
        refine sn_set (j := 2) (.inr rfl) ?_
        walk_at "evs"
        exact ⟨by rw [if_neg (by decide), if_pos rfl]; exact c0, by rw [if_pos rfl]; omega, _, _, rfl⟩
  · rintro Γ' h' k' ⟨h0, k0, x, y, rfl⟩
    refine sn_seq (sn_asg (by decide) ?_)
    walk_at "evs"
    refine ro_mod m0 ⟨lf_int _, ?_⟩
    refine sn_seq (sn_set (j := 1) (.inl rfl) ?_)
    walk_at "evs"
    refine ro_div ⟨m0, by omega⟩ ?_
    refine ⟨_, rfl, ?_⟩
    refine sn_ret ?_ ?_ ?_
    · rw [if_pos rfl]
      exact Int.ediv_nonneg h0 (by omega)
    · rw [if_neg (by decide)]
      exact k0
    · walk_at "evs"
      exact h _ (Int.emod_nonneg _ (by omega)) (Int.emod_lt_of_pos _ m0)
theorem cal_law_next {P : Program} {w : World} {K : PySem.W.Frag} {mg : Str → Option Value} {base : Heap} {T : List (Addr × Str)} {f : Addr} {fd : FuncData} (F : Fun K "_law_next" "_law_next" s_law_next f fd) (b : Binds K fd p_law_next []) (m : mg "_law_next" = some (.ref f)) (B : Bi mg) :
    Cal P w K mg base "_law_next" p_law_next L_law_next (sp_law_next K T) :=
  ⟨f, fd, okC F sc_law_next (fun ds P h => by
      unfold C_law_next at h
      first
        | (obtain ⟨_, rfl, _⟩ := h; rfl)
        | (obtain ⟨_, _, rfl, _⟩ := h; rfl)
        | (obtain ⟨_, _, _, rfl, _⟩ := h; rfl)
        | (obtain ⟨_, h, _⟩ := h; rcases h with rfl | rfl <;> rfl)
        | (obtain ⟨rfl, _⟩ := h; rfl)) (fun W eK eT cdv A outer s H E hr => ⟨t_law_next K T, dv_law_next B cdv A outer s H E hr, fun ds P h => by
      subst eK
      subst eT
      exact ss_law_next h⟩), b, m, F.kp⟩

theorem next_ok {m : Int} {P : PyData → Prop} (m0 : 0 < m) (m1 : m ≤ 1000) (h : ∀ r : Int, 0 ≤ r → r < m → P (.int r)) : C_law_next [.dict [], .int m] P := ⟨m, rfl, m0, m1, h⟩
local macro_rules | `(tactic| walk_at "en") => `(tactic| first
  | walk_at "ew"
  | (with_reducible refine next_ok (by decide) (by decide) ?_))
local macro_rules | `(tactic| walk_at "ens") => `(tactic| repeat walk_at "en")
/-! ## rows of news by the stream -/
def GoodQ (p : Int × Int) : Prop := 0 ≤ p.1 ∧ p.1 < 3 ∧ -500 ≤ p.2 ∧ p.2 ≤ 500
def C_law_news (ds : List PyData) (P : PyData → Prop) : Prop := ds = [.dict [], .int 3, .int 8] ∧ ∀ r : Row, r.length ≤ 8 → (∀ p ∈ r, GoodQ p) → P (dRow r)
abbrev sp_law_news (K : PySem.W.Frag) (T : List (Addr × Str)) : Sp := spC K T C_law_news
/-! ### _law_news: slots 0 _law_stream_here, 1 _law_events, 2 _law_most, 3 _law_row, 4 _law_k, 5 _law_news_here, 6 _law_pick -/
theorem sc_law_news : FnScope N_law_news p_law_news (defScope s_law_news) := ⟨rfl, rfl, rfl, by decide +kernel, rfl, by decide +kernel, by decide +kernel⟩
def t_law_news (K : PySem.W.Frag) (T : List (Addr × Str)) : TS :=
  (tSeq (tAsg (tLst tNil) (gName 3))
  (tSeq (tFor (iRng1 (tCons (tCall (sp_law_next K T) [] E0 (tCons (tVar 0) (tCons (tOp RAdd (tVar 2) (tC (.int 1))) tNil))) tNil)) (gName 4) (tSeq (tAsg (tTup (tCons (tCall (sp_law_next K T) [] E0 (tCons (tVar 0) (tCons (tVar 1) tNil))) (tCons (tOp RSub (tCall (sp_law_next K T) [] E0 (tCons (tVar 0) (tCons (tC (.int 9)) tNil))) (tC (.int 4))) tNil))) (gName 5))
  (tSeq (tAsg (tCall (sp_law_next K T) [] E0 (tCons (tVar 0) (tCons (tC (.int 6)) tNil))) (gName 6))
  (tSeq (tIfS (tAnd (tTest (tOp rEq (tVar 6) (tC (.int 0)))) (tTru K (tVar 3))) (tAsg (tOp (rIxL K) (tVar 3) (tCall (sp_law_next K T) [] E0 (tCons (tVar 0) (tCons (tCB (RLen K) (tCons (tVar 3) tNil)) tNil)))) (gName 5)) tNext)
  (tSeq (tIfS (tAnd (tTest (tOp rEq (tVar 6) (tC (.int 1)))) (tTru K (tVar 3))) (tAsg (tTup (tCons (tOp (rIxT K) (tOp (rIxL K) (tVar 3) (tUn RNeg (tC (.int 1)))) (tC (.int 0))) (tCons (tCB RMax2 (tCons (tUn RNeg (tC (.int 500))) (tCons (tCB RMin2 (tCons (tC (.int 500)) (tCons (tOp RSub (tOp RAdd (tOp (rIxT K) (tOp (rIxL K) (tVar 3) (tUn RNeg (tC (.int 1)))) (tC (.int 1))) (tCall (sp_law_next K T) [] E0 (tCons (tVar 0) (tCons (tC (.int 3)) tNil)))) (tC (.int 1))) tNil))) tNil))) tNil))) (gName 5)) tNext)
  (tSeq (tIfS (tTest (tOp rEq (tVar 6) (tC (.int 2)))) (tAsg (tTup (tCons (tOp (rIxT K) (tVar 5) (tC (.int 0))) (tCons (tOp (rIxL K) (tLst (tCons (tUn RNeg (tC (.int 500))) (tCons (tC (.int 500)) (tCons (tC (.int 499)) tNil)))) (tCall (sp_law_next K T) [] E0 (tCons (tVar 0) (tCons (tC (.int 3)) tNil)))) tNil))) (gName 5)) tNext)
  (tDrop (tBM K "list" rAppend (tVar 3) (tCons (tVar 5) tNil)))))))))
  (tRet (tCB (RTuple K) (tCons (tVar 3) tNil)))))
/-- callees: law_next; builtins: tuple, range, max, min, len  -/
theorem dv_law_news {P : Program} {w : World} {K : PySem.W.Frag} {mg : Str → Option Value} {base : Heap} {T : List (Addr × Str)} {f : Addr} (c_law_next : Cal P w K mg base "_law_next" p_law_next L_law_next (sp_law_next K T)) (B : Bi mg) (cdv : Value) (A : Around) (outer : List PySem.Env) (s : Shared) (H : Hp) (E : XK)
    (hr : Room M_law_news (A.deeper (envOfC "_law_news" (defScope s_law_news) s.heap.objs.size f cdv))) :
    PSs (cxOf CX0 P w K mg base N_law_news "_law_news" (defScope s_law_news) f cdv A outer s H E).nox (defBody s_law_news) (t_law_news K T) := by
  obtain ⟨f_law_next, fd_law_next, G_law_next, b_law_next, m_law_next, k_law_next⟩ := c_law_next
  have nd := sc_law_news.nd
  exact (pss_cons (ps_set (i := 3) nd rfl (Or.inl rfl) (pe_lst pa_nil))
  (pss_cons (ps_for PassesOwn.never rfl (pi_range1 (by rfl) B.range (pa_cons (pe_call G_law_next (hr.mono (by decide)) (by rfl) m_law_next k_law_next b_law_next .nil pass0 (pa_cons (pv 0) (pa_cons (pe_op op_add (pv 2) pe_int) pa_nil))) pa_nil)) (pg_name (i := 4) nd rfl (Or.inl rfl)) (pss_cons (ps_set (i := 5) nd rfl (Or.inl rfl) (pe_tup (pa_cons (pe_call G_law_next (hr.mono (by decide)) (by rfl) m_law_next k_law_next b_law_next .nil pass0 (pa_cons (pv 0) (pa_cons (pv 1) pa_nil))) (pa_cons (pe_op op_sub (pe_call G_law_next (hr.mono (by decide)) (by rfl) m_law_next k_law_next b_law_next .nil pass0 (pa_cons (pv 0) (pa_cons pe_int pa_nil))) pe_int) pa_nil))))
  (pss_cons (ps_set (i := 6) nd rfl (Or.inl rfl) (pe_call G_law_next (hr.mono (by decide)) (by rfl) m_law_next k_law_next b_law_next .nil pass0 (pa_cons (pv 0) (pa_cons pe_int pa_nil))))
  (pss_cons (ps_if (PW.pt (pw_and (pt_cmpR op_eq (pv 6) pe_int (nomark _)) (pw_and1 (pt_truth (pv 3) (by intro _; rfl))))) (pss_one (ps_set (i := 5) nd rfl (Or.inl rfl) (pe_ix ix_list (pv 3) (pe_call G_law_next (hr.mono (by decide)) (by rfl) m_law_next k_law_next b_law_next .nil pass0 (pa_cons (pv 0) (pa_cons (pe_callB call_len_seq (by rfl) B.len PySem.boot_len (pa_cons (pv 3) pa_nil)) pa_nil))) (fun _ _ => rfl)))) pss_nil)
  (pss_cons (ps_if (PW.pt (pw_and (pt_cmpR op_eq (pv 6) pe_int (nomark _)) (pw_and1 (pt_truth (pv 3) (by intro _; rfl))))) (pss_one (ps_set (i := 5) nd rfl (Or.inl rfl) (pe_tup (pa_cons (pe_ix ix_tup (pe_ix ix_list (pv 3) (pe_un un_neg pe_int) (fun _ _ => rfl)) pe_int (fun _ _ => rfl)) (pa_cons (pe_callB (call_max2 rfl) (by rfl) B.max (by decide +kernel) (pa_cons (pe_un un_neg pe_int) (pa_cons (pe_callB (call_min2 rfl) (by rfl) B.min (by decide +kernel) (pa_cons pe_int (pa_cons (pe_op op_sub (pe_op op_add (pe_ix ix_tup (pe_ix ix_list (pv 3) (pe_un un_neg pe_int) (fun _ _ => rfl)) pe_int (fun _ _ => rfl)) (pe_call G_law_next (hr.mono (by decide)) (by rfl) m_law_next k_law_next b_law_next .nil pass0 (pa_cons (pv 0) (pa_cons pe_int pa_nil)))) pe_int) pa_nil))) pa_nil))) pa_nil))))) pss_nil)
  (pss_cons (ps_if (pt_cmpR op_eq (pv 6) pe_int (nomark _)) (pss_one (ps_set (i := 5) nd rfl (Or.inl rfl) (pe_tup (pa_cons (pe_ix ix_tup (pv 5) pe_int (fun _ _ => rfl)) (pa_cons (pe_ix ix_list (pe_lst (pa_cons (pe_un un_neg pe_int) (pa_cons pe_int (pa_cons pe_int pa_nil)))) (pe_call G_law_next (hr.mono (by decide)) (by rfl) m_law_next k_law_next b_law_next .nil pass0 (pa_cons (pv 0) (pa_cons pe_int pa_nil))) (fun _ _ => rfl)) pa_nil))))) pss_nil)
  (pss_one (ps_expr (pe_bm PySem.F.plainAttrs_list PySem.F.slot_list_append PySem.F.type_list_append mt_append (pv 3) (pa_cons (pv 5) pa_nil))))))))))
  (pss_one (ps_ret (pe_callTy call_tuple_of (by rfl) B.tuple (by decide +kernel) (pa_cons (pv 3) pa_nil))))))
theorem so_seqM {W : Wd} {B : Hp} {ts tv : TS} {Γ : Gm} {O : Ow} {N : Gm → Ow → Prop} {R : PyData → Prop} (M : Gm → Ow → Prop) (x : So W B ts Γ O M R) (y : ∀ Γ' O', M Γ' O' → So W B tv Γ' O' N R) : So W B (tSeq ts tv) Γ O N R := so_seq (x.imp y)
theorem at_last {α : Type} (f : α → PyData) {l : List α} (h : 0 < l.length) : atI (l.map f) (-1) = some (f l[l.length - 1]) := by
  unfold atI ixN
  rw [List.length_map, if_neg (by omega), if_pos (by omega)]
  show (l.map f)[_]? = _
  rw [show ((-1 : Int) + (l.length : Int)).toNat = l.length - 1 by omega, List.getElem?_map, List.getElem?_eq_getElem (by omega)]
  rfl
theorem ne_len {α : Type} {f : α → PyData} {l : List α} (h : (!(l.map f).isEmpty) = true) : 0 < l.length := by
  cases l with
  | nil => simp at h
  | cons a l => simp
section
variable {W : Wd} {ds : List PyData} {P : PyData → Prop}
theorem ss_law_news (h : C_law_news ds P) : Ss W (t_law_news W.K W.T) (startG N_law_news.length ds) (fun _ => P .none) P := by
  obtain ⟨rfl, h⟩ := h
  unfold t_law_news
  refine So.ss fun B => ?_
  walk_at "evs"
  refine so_new rfl rfl ?_
  walk_at "evs"
  refine ⟨rfl, ?_⟩
  walk_at "evs"
  refine so_for (eit_rng1 ?_)
  walk_at "ens"
  intro n n0 n1
  walk_at "ens"
  refine ⟨n, rfl, by omega, by omega, fun i Γ O => (∃ x4 x5 x6, Γ = [some (.dict []), some (.int 3), some (.int 8), none, x4, x5, x6]) ∧ ∃ r : Row, r.length ≤ i ∧ (∀ p ∈ r, GoodQ p) ∧ O = [(3, r.map dP)], ⟨⟨_, _, _, rfl⟩, [], Nat.le_refl _, by simp, rfl⟩, ?_, ?_⟩
  · rintro i d Γ O hd ⟨⟨x4, x5, x6, rfl⟩, r, hr, hg, rfl⟩
    obtain ⟨hi, rfl⟩ := rgD_get hd
    walk_at "ens"
    refine so_asg rfl ?_
    walk_at "ens"
    intro e e0 e1
    walk_at "ens"
    intro t t0 t1
    walk_at "ens"
    refine ⟨by simp [lf, lfAll], ?_⟩
    walk_at "ens"
    refine so_asg rfl ?_
    walk_at "ens"
    intro k k0 k1
    refine ⟨lf_int _, ?_⟩
    refine so_seqM (fun Γ O => O = [(3, r.map dP)] ∧ ∃ (x4 : Option PyData) (p : Int × Int), GoodQ p ∧ Γ = [some (.dict []), some (.int 3), some (.int 8), none, x4, some (dP p), some (.int k)]) (so_if ?_) ?_
    · walk_at "ens"
      refine ⟨_, rfl, fun c1 => ?_, fun c1 => andF (so_next ⟨rfl, _, (e, t - 4), ⟨e0, e1, by show _ ≤ t - 4; omega, by show t - 4 ≤ _; omega⟩, rfl⟩)⟩
      refine et_truL (ds := r.map dP) ?_
      walk_at "ens"
      refine ⟨rfl, fun c2 => ?_, fun c2 => so_next ⟨rfl, _, (e, t - 4), ⟨e0, e1, by show _ ≤ t - 4; omega, by show t - 4 ≤ _; omega⟩, rfl⟩⟩
      have hl := ne_len c2
      refine so_asg rfl ?_
      walk_at "ens"
      refine next_ok (by rw [List.length_map]; omega) (by rw [List.length_map]; omega) ?_
      intro j j0 j1
      rw [List.length_map] at j1
      have hj : j.toNat < r.length := by omega
      have hat := at_map dP hj
      rw [Int.toNat_of_nonneg j0] at hat
      refine ro_ixL hat ⟨lf_dP _, rfl, _, _, hg _ (List.getElem_mem hj), rfl⟩
    rintro Γ O ⟨rfl, x4, p, hp, rfl⟩
    refine so_seqM (fun Γ O => O = [(3, r.map dP)] ∧ ∃ (x4 : Option PyData) (p : Int × Int), GoodQ p ∧ Γ = [some (.dict []), some (.int 3), some (.int 8), none, x4, some (dP p), some (.int k)]) (so_if ?_) ?_
    · walk_at "ens"
      refine ⟨_, rfl, fun c1 => ?_, fun c1 => andF (so_next ⟨rfl, _, p, hp, rfl⟩)⟩
      refine et_truL (ds := r.map dP) ?_
      walk_at "ens"
      refine ⟨rfl, fun c2 => ?_, fun c2 => so_next ⟨rfl, _, p, hp, rfl⟩⟩
      have hl := ne_len c2
      have gl : GoodQ r[r.length - 1] := hg _ (List.getElem_mem _)
      refine so_asg rfl ?_
      walk_at "ens"
      refine ro_ixL (at_last dP hl) ?_
      walk_at "ens"
      refine ro_ixL (at_last dP hl) ?_
      walk_at "ens"
      intro j j0 j1
      walk_at "ens"
      refine ⟨by simp [lf, lfAll], rfl, _, (r[r.length - 1].1, max (-500) (min 500 (r[r.length - 1].2 + j - 1))), ⟨gl.1, gl.2.1, ?_, ?_⟩, rfl⟩
      · show -500 ≤ max (-500) _
        omega
      · show max (-500) (min 500 _) ≤ 500
        omega
    rintro Γ O ⟨rfl, x4, p, hp, rfl⟩
    refine so_seqM (fun Γ O => O = [(3, r.map dP)] ∧ ∃ (x4 : Option PyData) (p : Int × Int), GoodQ p ∧ Γ = [some (.dict []), some (.int 3), some (.int 8), none, x4, some (dP p), some (.int k)]) (so_if ?_) ?_
    · walk_at "ens"
      refine ⟨_, rfl, fun c1 => ?_, fun c1 => so_next ⟨rfl, _, p, hp, rfl⟩⟩
      refine so_asg rfl ?_
      walk_at "ens"
      intro j j0 j1
      obtain rfl | rfl | rfl : j = 0 ∨ j = 1 ∨ j = 2 := by omega
      · walk_at "ens"
        exact ⟨by simp [lf, lfAll], rfl, _, (p.1, -500), ⟨hp.1, hp.2.1, by show (-500 : Int) ≤ -500; omega, by show (-500 : Int) ≤ 500; omega⟩, rfl⟩
      · walk_at "ens"
        exact ⟨by simp [lf, lfAll], rfl, _, (p.1, 500), ⟨hp.1, hp.2.1, by show (-500 : Int) ≤ 500; omega, by show (500 : Int) ≤ 500; omega⟩, rfl⟩
      · walk_at "ens"
        exact ⟨by simp [lf, lfAll], rfl, _, (p.1, 499), ⟨hp.1, hp.2.1, by show (-500 : Int) ≤ 499; omega, by show (499 : Int) ≤ 500; omega⟩, rfl⟩
    rintro Γ O ⟨rfl, x4, p, hp, rfl⟩
    refine so_append (k := 0) rfl (by rw [List.length_map]; omega) ?_
    walk_at "ens"
    refine ⟨lf_dP _, ⟨_, _, _, rfl⟩, r ++ [p], by rw [List.length_append, List.length_singleton]; omega, fun y hy => ?_, by rw [List.map_append]; rfl⟩
    rcases List.mem_append.mp hy with z | z
    · exact hg y z
    · rw [List.mem_singleton.mp z]
      exact hp
  · rintro Γ O ⟨⟨x4, x5, x6, rfl⟩, r, hr, hg, rfl⟩
    rw [rgD_len] at hr
    walk_at "ens"
    exact h r (by omega) hg
end
theorem cal_law_news {P : Program} {w : World} {K : PySem.W.Frag} {mg : Str → Option Value} {base : Heap} {T : List (Addr × Str)} {f : Addr} {fd : FuncData} (F : Fun K "_law_news" "_law_news" s_law_news f fd) (b : Binds K fd p_law_news []) (m : mg "_law_news" = some (.ref f)) (c_law_next : Cal P w K mg base "_law_next" p_law_next L_law_next (sp_law_next K T)) (B : Bi mg) :
    Cal P w K mg base "_law_news" p_law_news L_law_news (sp_law_news K T) :=
  ⟨f, fd, okC F sc_law_news (fun ds P h => by
      unfold C_law_news at h
      first
        | (obtain ⟨_, rfl, _⟩ := h; rfl)
        | (obtain ⟨_, _, rfl, _⟩ := h; rfl)
        | (obtain ⟨_, _, _, rfl, _⟩ := h; rfl)
        | (obtain ⟨_, h, _⟩ := h; rcases h with rfl | rfl <;> rfl)
        | (obtain ⟨rfl, _⟩ := h; rfl)) (fun W eK eT cdv A outer s H E hr => ⟨t_law_news K T, dv_law_news c_law_next B cdv A outer s H E hr, fun ds P h => by
      subst eK
      subst eT
      exact ss_law_news h⟩), b, m, F.kp⟩

/-! ## two rows that cross -/
def GQ (r : Row) : Prop := r.length ≤ 8 ∧ ∀ p ∈ r, GoodQ p
def CrR (W : Wd) (H : Hp) (v : V) (H' : Hp) : Prop := ∃ (p a b : Addr) (xs ys : List V) (r1 r2 : Row), v = .ref p ∧ Sx W H H' ∧ Am W H' ∧ H a = none ∧ H b = none ∧ a ≠ b ∧ H' p = some (.lst [.ref a, .ref b]) ∧ H' a = some (.lst xs) ∧ H' b = some (.lst ys) ∧
  DtAll W H' xs (r1.map dP) ∧ DtAll W H' ys (r2.map dP) ∧ GQ r1 ∧ GQ r2
def sp_law_crossed (K : PySem.W.Frag) (T : List (Addr × Str)) : Sp := fun vs H Q _ => ∃ (W : Wd) (r : Row), W.K = K ∧ W.T = T ∧ Am W H ∧ DtAll W H vs [.dict [], .int 3, .list (r.map dP)] ∧ r.length ≤ 4 ∧ (∀ p ∈ r, GoodQ p) ∧ ∀ v H', CrR W H v H' → Q v H'
/-! ### _law_crossed: slots 0 _law_stream_here, 1 _law_events, 2 _law_more, 3 _law_one, 4 _law_other, 5 _law_sign, 6 _law_head, 7 _law_tail, 8 _law_by -/
theorem sc_law_crossed : FnScope N_law_crossed p_law_crossed (defScope s_law_crossed) := ⟨rfl, rfl, rfl, by decide +kernel, rfl, by decide +kernel, by decide +kernel⟩
def t_law_crossed (K : PySem.W.Frag) (T : List (Addr × Str)) : TS :=
  (tSeq (tAsg (tCall (sp_law_next K T) [] E0 (tCons (tVar 0) (tCons (tVar 1) tNil))) (gName 3))
  (tSeq (tAsg (tOp RMod (tCB RInt (tCons (tOp RAdd (tOp RAdd (tVar 3) (tC (.int 1))) (tCall (sp_law_next K T) [] E0 (tCons (tVar 0) (tCons (tOp RSub (tVar 1) (tC (.int 1))) tNil)))) tNil)) (tVar 1)) (gName 4))
  (tSeq (tAsg (tOp RSub (tC (.int 1)) (tOp RMul (tC (.int 2)) (tCall (sp_law_next K T) [] E0 (tCons (tVar 0) (tCons (tC (.int 2)) tNil))))) (gName 5))
  (tSeq (tAsg (tLst (tCons (tTup (tCons (tVar 3) (tCons (tOp RMul (tVar 5) (tOp RAdd (tC (.int 2)) (tCall (sp_law_next K T) [] E0 (tCons (tVar 0) (tCons (tC (.int 3)) tNil))))) tNil))) (tCons (tTup (tCons (tVar 4) (tCons (tOp RMul (tVar 5) (tOp RAdd (tC (.int 2)) (tCall (sp_law_next K T) [] E0 (tCons (tVar 0) (tCons (tC (.int 3)) tNil))))) tNil))) tNil))) (gName 6))
  (tSeq (tAsg (tOp rCat (tLst (tCons (tTup (tCons (tVar 3) (tCons (tOp RMul (tVar 5) (tOp RSub (tCall (sp_law_next K T) [] E0 (tCons (tVar 0) (tCons (tC (.int 3)) tNil))) (tC (.int 2)))) tNil))) (tCons (tTup (tCons (tVar 4) (tCons (tOp RMul (tVar 5) (tOp RSub (tCall (sp_law_next K T) [] E0 (tCons (tVar 0) (tCons (tC (.int 3)) tNil))) (tC (.int 2)))) tNil))) tNil))) (tCB (RList K) (tCons (tVar 2) tNil))) (gName 7))
  (tSeq (tAsg (tCall (sp_law_next K T) [] E0 (tCons (tVar 0) (tCons (tCB (RLen K) (tCons (tVar 7) tNil)) tNil))) (gName 8))
  (tSeq (tAsg (tOp rCat (tSl (rSlL K) (tVar 7) (tPart (tVar 8)) tNoPart) (tSl (rSlL K) (tVar 7) tNoPart (tPart (tVar 8)))) (gName 7))
  (tRet (tLst (tCons (tOp rCat (tVar 6) (tVar 7)) (tCons (tOp rCat (tRevL K (tVar 6)) (tVar 7)) tNil)))))))))))
/-- callees: law_next; builtins: len, list, int  -/
theorem dv_law_crossed {P : Program} {w : World} {K : PySem.W.Frag} {mg : Str → Option Value} {base : Heap} {T : List (Addr × Str)} {f : Addr} (c_law_next : Cal P w K mg base "_law_next" p_law_next L_law_next (sp_law_next K T)) (B : Bi mg) (cdv : Value) (A : Around) (outer : List PySem.Env) (s : Shared) (H : Hp) (E : XK)
    (hr : Room M_law_crossed (A.deeper (envOfC "_law_crossed" (defScope s_law_crossed) s.heap.objs.size f cdv))) :
    PSs (cxOf CX0 P w K mg base N_law_crossed "_law_crossed" (defScope s_law_crossed) f cdv A outer s H E).nox (defBody s_law_crossed) (t_law_crossed K T) := by
  obtain ⟨f_law_next, fd_law_next, G_law_next, b_law_next, m_law_next, k_law_next⟩ := c_law_next
  have nd := sc_law_crossed.nd
  exact (pss_cons (ps_set (i := 3) nd rfl (Or.inl rfl) (pe_call G_law_next (hr.mono (by decide)) (by rfl) m_law_next k_law_next b_law_next .nil pass0 (pa_cons (pv 0) (pa_cons (pv 1) pa_nil))))
  (pss_cons (ps_set (i := 4) nd rfl (Or.inl rfl) (pe_op op_mod (pe_callTy call_int1 (by rfl) B.int (by decide +kernel) (pa_cons (pe_op op_add (pe_op op_add (pv 3) pe_int) (pe_call G_law_next (hr.mono (by decide)) (by rfl) m_law_next k_law_next b_law_next .nil pass0 (pa_cons (pv 0) (pa_cons (pe_op op_sub (pv 1) pe_int) pa_nil)))) pa_nil)) (pv 1)))
  (pss_cons (ps_set (i := 5) nd rfl (Or.inl rfl) (pe_op op_sub pe_int (pe_op op_mul pe_int (pe_call G_law_next (hr.mono (by decide)) (by rfl) m_law_next k_law_next b_law_next .nil pass0 (pa_cons (pv 0) (pa_cons pe_int pa_nil))))))
  (pss_cons (ps_set (i := 6) nd rfl (Or.inl rfl) (pe_lst (pa_cons (pe_tup (pa_cons (pv 3) (pa_cons (pe_op op_mul (pv 5) (pe_op op_add pe_int (pe_call G_law_next (hr.mono (by decide)) (by rfl) m_law_next k_law_next b_law_next .nil pass0 (pa_cons (pv 0) (pa_cons pe_int pa_nil))))) pa_nil))) (pa_cons (pe_tup (pa_cons (pv 4) (pa_cons (pe_op op_mul (pv 5) (pe_op op_add pe_int (pe_call G_law_next (hr.mono (by decide)) (by rfl) m_law_next k_law_next b_law_next .nil pass0 (pa_cons (pv 0) (pa_cons pe_int pa_nil))))) pa_nil))) pa_nil))))
  (pss_cons (ps_set (i := 7) nd rfl (Or.inl rfl) (pe_op op_cat (pe_lst (pa_cons (pe_tup (pa_cons (pv 3) (pa_cons (pe_op op_mul (pv 5) (pe_op op_sub (pe_call G_law_next (hr.mono (by decide)) (by rfl) m_law_next k_law_next b_law_next .nil pass0 (pa_cons (pv 0) (pa_cons pe_int pa_nil))) pe_int)) pa_nil))) (pa_cons (pe_tup (pa_cons (pv 4) (pa_cons (pe_op op_mul (pv 5) (pe_op op_sub (pe_call G_law_next (hr.mono (by decide)) (by rfl) m_law_next k_law_next b_law_next .nil pass0 (pa_cons (pv 0) (pa_cons pe_int pa_nil))) pe_int)) pa_nil))) pa_nil))) (pe_callTy call_list_of (by rfl) B.list (by decide +kernel) (pa_cons (pv 2) pa_nil))))
  (pss_cons (ps_set (i := 8) nd rfl (Or.inl rfl) (pe_call G_law_next (hr.mono (by decide)) (by rfl) m_law_next k_law_next b_law_next .nil pass0 (pa_cons (pv 0) (pa_cons (pe_callB call_len_seq (by rfl) B.len PySem.boot_len (pa_cons (pv 7) pa_nil)) pa_nil))))
  (pss_cons (ps_set (i := 7) nd rfl (Or.inl rfl) (pe_op op_cat (pe_slice sl_list (pv 7) (po_some (pv 8)) po_none) (pe_slice sl_list (pv 7) po_none (po_some (pv 8)))))
  (pss_one (ps_ret (pe_lst (pa_cons (pe_op op_cat (pv 6) (pv 7)) (pa_cons (pe_op op_cat (pe_revL (pv 6)) (pv 7)) pa_nil))))))))))))
theorem crR_mono {W : Wd} : ∀ (H H1 : Hp) (v : V) (H' : Hp), Sx W H H1 → CrR W H1 v H' → CrR W H v H' := fun H H1 v H' s ⟨p, a, b, xs, ys, r1, r2, e, s2, am, fa, fb, x⟩ => ⟨p, a, b, xs, ys, r1, r2, e, s.trans s2, am, s.fr _ fa, s.fr _ fb, x⟩
theorem sz_two {W : Wd} {Γ : Gm} {e1 e2 : TE} (h1 : EvL W e1 Γ fun ds => ∃ r, ds = r.map dP ∧ GQ r) (h2 : EvL W e2 Γ fun ds => ∃ r, ds = r.map dP ∧ GQ r) : Sz W (tRet (tLst (tCons e1 (tCons e2 tNil)))) Γ (CrR W) := fun σ H e am D q =>
  h1 σ H e am _ fun a xs ds H1 s1 a1 f1 l1 d1 ⟨r1, e1, g1⟩ => h2 σ H1 (e.up s1) a1 _ fun b ys es H2 s2 a2 f2 l2 d2 ⟨r2, e2, g2⟩ => by
    subst e1
    subst e2
    have la : H2 a = some (.lst xs) := s2.kp _ _ l1 (.inr ⟨fresh_p (H2 := H) am f1, fun ps z => by cases z⟩)
    have nab : a ≠ b := ne_of_none l1 f2
    refine ⟨by show 2 ≤ sizeLine; decide, fun p hp => q _ _ ⟨p, a, b, xs, ys, r1, r2, rfl, (s1.trans s2).trans (Sx.new hp), a2.new hp, f1, s1.fr _ f2, nab, upd_same, ?_, ?_, (d1.up s2).up (Sx.new hp), d2.up (Sx.new hp), g1, g2⟩⟩
    · rw [upd_ne (ne_of_none la hp)]
      exact la
    · rw [upd_ne (ne_of_none l2 hp)]
      exact l2
theorem cut_dropN {α : Type} (xs : List α) (j : Nat) (h : j ≤ xs.length) : cutD xs (some (j : Int)) none = xs.drop j := by
  unfold cutD
  rw [HT.sIx_nat, Nat.min_eq_left h]
  show (xs.drop j).take (xs.length - j) = _
  rw [← List.length_drop, List.take_length]
theorem cut_takeN {α : Type} (xs : List α) (j : Nat) (h : j ≤ xs.length) : cutD xs none (some (j : Int)) = xs.take j := by
  unfold cutD
  rw [HT.sIx_nat, Nat.min_eq_left h]
  rfl
theorem ss_law_crossed {W : Wd} {r : Row} (hl : r.length ≤ 4) (hg : ∀ p ∈ r, GoodQ p) : Sz W (t_law_crossed W.K W.T) [some (.dict []), some (.int 3), some (.list (r.map dP)), none, none, none, none, none, none] (CrR W) := by
  unfold t_law_crossed
  refine sz_asg crR_mono ?_
  walk_at "ens"
  intro e e0 e1
  refine sz_asg crR_mono ?_
  walk_at "ens"
  intro f0' f0 f1
  walk_at "ens"
  refine ro_mod (by decide) ?_
  have o0 : 0 ≤ (e + 1 + f0') % 3 := Int.emod_nonneg _ (by decide)
  have o1 : (e + 1 + f0') % 3 < 3 := Int.emod_lt_of_pos _ (by decide)
  generalize (e + 1 + f0') % 3 = o at *
  refine sz_asg crR_mono ?_
  walk_at "ens"
  intro s s0 s1
  refine ro_mul (cmul_r (by omega)) ?_
  walk_at "ens"
  have hs : 1 - 2 * s = 1 ∨ 1 - 2 * s = -1 := by omega
  generalize 1 - 2 * s = g at *
  have cm : ∀ j : Int, CMul g j := fun j => .inl (by omega)
  have bd : ∀ j : Int, 0 ≤ j → j ≤ 4 → -500 ≤ g * j ∧ g * j ≤ 500 := fun j j0 j1 => by
    rcases hs with rfl | rfl <;> omega
  refine sz_asg crR_mono ?_
  walk_at "ens"
  intro a a0 a1
  walk_at "ens"
  refine ro_mul (cm _) ?_
  walk_at "ens"
  intro b b0 b1
  walk_at "ens"
  refine ro_mul (cm _) ?_
  walk_at "ens"
  refine sz_asg crR_mono ?_
  walk_at "ens"
  intro c c0 c1
  walk_at "ens"
  refine ro_mul (cm _) ?_
  walk_at "ens"
  intro d d0 d1
  walk_at "ens"
  refine ro_mul (cm _) ?_
  walk_at "ens"
  refine RCL.rc (rcl_ListL ?_)
  refine ro_catL (by rw [List.length_map]; show 2 + _ ≤ _; omega) ?_
  have hc : -500 ≤ g * (c - 2) ∧ g * (c - 2) ≤ 500 := by rcases hs with rfl | rfl <;> omega
  have hd : -500 ≤ g * (d - 2) ∧ g * (d - 2) ≤ 500 := by rcases hs with rfl | rfl <;> omega
  have ha := bd (2 + a) (by omega) (by omega)
  have hb := bd (2 + b) (by omega) (by omega)
  have et : ([.tuple [.int e, .int (g * (c - 2))], .tuple [.int o, .int (g * (d - 2))]] ++ r.map dP : List PyData) = (((e, g * (c - 2)) :: (o, g * (d - 2)) :: r : Row)).map dP := rfl
  have eh : ([.tuple [.int e, .int (g * (2 + a))], .tuple [.int o, .int (g * (2 + b))]] : List PyData) = ([(e, g * (2 + a)), (o, g * (2 + b))] : Row).map dP := rfl
  rw [et]
  have gt : ∀ p ∈ ((e, g * (c - 2)) :: (o, g * (d - 2)) :: r : Row), GoodQ p := fun p hp => by
    rcases List.mem_cons.mp hp with rfl | hp
    · exact ⟨e0, e1, hc.1, hc.2⟩
    · rcases List.mem_cons.mp hp with rfl | hp
      · exact ⟨o0, o1, hd.1, hd.2⟩
      · exact hg p hp
  have lt : ((e, g * (c - 2)) :: (o, g * (d - 2)) :: r : Row).length ≤ 6 := by
    show r.length + 1 + 1 ≤ 6
    omega
  have lt0 : 0 < ((e, g * (c - 2)) :: (o, g * (d - 2)) :: r : Row).length := by simp
  have gh : ∀ p ∈ ([(e, g * (2 + a)), (o, g * (2 + b))] : Row), GoodQ p := fun p hp => by
    rcases List.mem_cons.mp hp with rfl | hp
    · exact ⟨e0, e1, ha.1, ha.2⟩
    · rw [List.mem_singleton.mp hp]
      exact ⟨o0, o1, hb.1, hb.2⟩
  have eh2 : ([.tuple [.int e, .int (g * (2 + a))], .tuple [.int o, .int (g * (2 + b))]] : List PyData).reverse = ([(o, g * (2 + b)), (e, g * (2 + a))] : Row).map dP := rfl
  generalize ((e, g * (c - 2)) :: (o, g * (d - 2)) :: r : Row) = tl at *
  refine sz_asg crR_mono ?_
  walk_at "ens"
  refine next_ok (by rw [List.length_map]; omega) (by rw [List.length_map]; omega) ?_
  intro j j0 j1
  rw [List.length_map] at j1
  refine sz_asg crR_mono ?_
  walk_at "ens"
  have ej : j = (j.toNat : Int) := by omega
  have hj : j.toNat ≤ (tl.map dP).length := by
    rw [List.length_map]
    omega
  rw [ej, cut_dropN _ _ hj, cut_takeN _ _ hj, ← List.map_drop, ← List.map_take]
  have lz : (tl.drop j.toNat).length + (tl.take j.toNat).length = tl.length := by
    rw [List.length_drop, List.length_take]
    omega
  refine ro_catL (by rw [List.length_map, List.length_map]; omega) ?_
  rw [← List.map_append]
  have g2 : ∀ p ∈ tl.drop j.toNat ++ tl.take j.toNat, GoodQ p := fun p hp => by
    rcases List.mem_append.mp hp with z | z
    · exact gt p (List.mem_of_mem_drop z)
    · exact gt p (List.mem_of_mem_take z)
  have l2 : (tl.drop j.toNat ++ tl.take j.toNat).length ≤ 6 := by
    rw [List.length_append]
    omega
  generalize tl.drop j.toNat ++ tl.take j.toNat = t2 at *
  refine sz_two ?_ ?_
  · walk_at "ens"
    refine ro_cat (by rw [List.length_map]; show 2 + _ ≤ _; omega) ?_
    refine ⟨[(e, g * (2 + a)), (o, g * (2 + b))] ++ t2, by rw [List.map_append]; rfl, by rw [List.length_append]; show 2 + _ ≤ _; omega, fun p hp => ?_⟩
    rcases List.mem_append.mp hp with z | z
    · exact gh p z
    · exact g2 p z
  · walk_at "ens"
    refine ev_revL ?_
    walk_at "ens"
    refine ro_cat (by rw [List.length_map, List.length_reverse]; show 2 + _ ≤ _; omega) ?_
    refine ⟨[(o, g * (2 + b)), (e, g * (2 + a))] ++ t2, by rw [List.map_append]; rfl, by rw [List.length_append]; show 2 + _ ≤ _; omega, fun p hp => ?_⟩
    rcases List.mem_append.mp hp with z | z
    · refine gh p ?_
      simp at z ⊢
      exact z.symm
    · exact g2 p z
theorem cal_law_crossed {P : Program} {w : World} {K : PySem.W.Frag} {mg : Str → Option Value} {base : Heap} {T : List (Addr × Str)} {f : Addr} {fd : FuncData} (F : Fun K "_law_crossed" "_law_crossed" s_law_crossed f fd) (b : Binds K fd p_law_crossed []) (m : mg "_law_crossed" = some (.ref f))
    (c_law_next : Cal P w K mg base "_law_next" p_law_next L_law_next (sp_law_next K T)) (B : Bi mg) : Cal P w K mg base "_law_crossed" p_law_crossed L_law_crossed (sp_law_crossed K T) :=
  ⟨f, fd, F.ok sc_law_crossed (fun vs H Q E h => by
      obtain ⟨W, r, _, _, _, hd, _⟩ := h
      exact hd.length) (fun cdv A outer s H vs Q E hr h => by
      obtain ⟨W, r, eK, eT, am, hd, hl, hg, q⟩ := h
      subst eK
      subst eT
      exact ⟨_, dv_law_crossed c_law_next B cdv A outer s H E hr, ss_law_crossed hl hg _ H (env_start (N := N_law_crossed) hd) am _ fun v H' x => q v H' x⟩), b, m, F.kp⟩
/-- the call within _law_two -/
theorem so_crossed {W : Wd} {B : Hp} {Γ : Gm} {d4 d5 : List PyData} {tr : TA} {N : Gm → Ow → Prop} {R : PyData → Prop} (hb : Nat.blt 5 Γ.length = true) (h : EvA W tr (mix Γ [(5, d5), (4, d4)]) fun as => ∃ r : Row, as = [.dict [], .int 3, .list (r.map dP)] ∧ r.length ≤ 4 ∧ ∀ p ∈ r, GoodQ p)
    (hN : ∀ r1 r2 : Row, GQ r1 → GQ r2 → N ((Γ.set 4 none).set 5 none) [(5, r2.map dP), (4, r1.map dP)]) :
    So W B (tAsg (tCall (sp_law_crossed W.K W.T) [] E0 tr) (gUnl W.K 2 (gCons (gName 4) (gCons (gName 5) gNil)))) Γ [(5, d5), (4, d4)] N R := fun as σ H e D hn hr =>
  h σ H e.env e.am _ fun vs ds H1 s1 a1 d1 ⟨r, er, hl, hg⟩ => by
    subst er
    rw [List.append_nil]
    refine ⟨W, r, rfl, rfl, a1, d1, hl, hg, fun v H2 x => ?_⟩
    obtain ⟨p, a, b, xs, ys, r1, r2, rfl, s2, a2, fa, fb, nab, hp, ha, hb', da, db, g1, g2⟩ := x
    have hlt : 5 < Γ.length := Nat.le_of_ble_eq_true hb
    have e1 := (((e.drop 0).drop 0).up s1 a1)
    have e2 := e1.up s2 a2
    have e3 := e2.add (i := 4) rfl (by omega) (e1.notin fa) (e.sx.fr _ (s1.fr _ fa)) ha da (lf_dPs r1)
    have e4 := e3.add (i := 5) rfl (by rw [List.length_set]; exact hlt) (fun hm => by
      rcases List.mem_cons.mp hm with z | z
      · exact nab z.symm
      · exact e1.notin fb z) (e.sx.fr _ (s1.fr _ fb)) hb' db (lf_dPs r2)
    exact ⟨p, _, rfl, SqL.of hp, rfl, _, _, rfl, _, _, rfl, rfl, hn _ _ H2 _ _ e4 (s1.tx.trans s2.tx) (hN r1 r2 g1 g2)⟩

/-! ## two rows by the stream -/
def C_law_two (ds : List PyData) (P : PyData → Prop) : Prop := ds = [.dict [], .int 3, .int 8] ∧ ∀ r1 r2 : Row, Good r1 → Good r2 → P (.list [dRow r1, dRow r2])
abbrev sp_law_two (K : PySem.W.Frag) (T : List (Addr × Str)) : Sp := spC K T C_law_two
/-! ### _law_two: slots 0 _law_stream_here, 1 _law_events, 2 _law_most, 3 _law_shift, 4 _law_first, 5 _law_second, 6 _law_pick, 7 _law_kept, 8 _law_turn, 9 _law_at, 10 _law_way, 11 _law_row, 12 _law_one, 13 _law_event, 14 _law_time -/
theorem sc_law_two : FnScope N_law_two p_law_two (defScope s_law_two) := ⟨rfl, rfl, rfl, by decide +kernel, rfl, by decide +kernel, by decide +kernel⟩
def t_law_two (K : PySem.W.Frag) (T : List (Addr × Str)) : TS :=
  (tSeq (tAsg (tOp (rIxL K) (tLst (tCons (tC (.int 0)) (tCons (tC (.int 0)) (tCons (tC (.int 1)) (tCons (tC (.int 3)) tNil))))) (tCall (sp_law_next K T) [] E0 (tCons (tVar 0) (tCons (tC (.int 4)) tNil)))) (gName 3))
  (tSeq (tAsg (tCB (RList K) (tCons (tCall (sp_law_news K T) [] E0 (tCons (tVar 0) (tCons (tVar 1) (tCons (tVar 2) tNil)))) tNil)) (gName 4))
  (tSeq (tAsg (tCB (RList K) (tCons (tVar 4) tNil)) (gName 5))
  (tSeq (tAsg (tCall (sp_law_next K T) [] E0 (tCons (tVar 0) (tCons (tC (.int 7)) tNil))) (gName 6))
  (tSeq (tIfS (tTest (tOp rEq (tVar 6) (tC (.int 0)))) (tAsg (tCB (RList K) (tCons (tCall (sp_law_news K T) [] E0 (tCons (tVar 0) (tCons (tVar 1) (tCons (tVar 2) tNil)))) tNil)) (gName 5)) tNext)
  (tSeq (tIfS (tTest (tOp rEq (tVar 6) (tC (.int 1)))) (tSeq (tAsg (tCB (rSortedI K) (tCons (tLc (iList K (tOp (rIxL K) (tCall (sp_law_told_reduction K T) [] E0 (tCons (tCall (sp_law_steps K T) [] E0 (tCons (tVar 4) tNil)) tNil)) (tC (.int 1)))) (gName 12) tYes (tOp RDiv (tCB RInt (tCons (tVar 12) tNil)) (tC (.int 2))) [12]) tNil)) (gName 7))
  (tAsg (tLc (iRng1 (tCons (tCB (RLen K) (tCons (tVar 4) tNil)) tNil)) (gName 9) (tTest (tOp (rIn K false) (tVar 9) (tVar 7))) (tOp (rIxL K) (tVar 4) (tVar 9)) [9]) (gName 5))) tNext)
  (tSeq (tIfS (tTest (tOp rEq (tVar 6) (tC (.int 6)))) (tAsg (tCall (sp_law_crossed K T) [] E0 (tCons (tVar 0) (tCons (tVar 1) (tCons (tSl (rSlL K) (tVar 4) tNoPart (tPart (tOp RSub (tVar 2) (tC (.int 4))))) tNil)))) (gUnl K 2 (gCons (gName 4) (gCons (gName 5) gNil)))) tNext)
  (tSeq (tFor (iRng1 (tCons (tOp (rIxL K) (tLst (tCons (tC (.int 0)) (tCons (tC (.int 0)) (tCons (tC (.int 1)) (tCons (tC (.int 1)) (tCons (tC (.int 2)) (tCons (tC (.int 3)) (tCons (tC (.int 0)) tNil)))))))) (tVar 6)) tNil)) (gName 8) (tSeq (tAsg (tCall (sp_law_next K T) [] E0 (tCons (tVar 0) (tCons (tOp RAdd (tCB (RLen K) (tCons (tVar 5) tNil)) (tC (.int 1))) tNil))) (gName 9))
  (tSeq (tAsg (tCall (sp_law_next K T) [] E0 (tCons (tVar 0) (tCons (tC (.int 4)) tNil))) (gName 10))
  (tIfS (tAnd (tTest (tOp rEq (tVar 10) (tC (.int 0)))) (tTest (tOp RLt (tCB (RLen K) (tCons (tVar 5) tNil)) (tC (.int 8))))) (tDrop (tBM K "list" RInsert (tVar 5) (tCons (tVar 9) (tCons (tTup (tCons (tCall (sp_law_next K T) [] E0 (tCons (tVar 0) (tCons (tVar 1) tNil))) (tCons (tOp RSub (tCall (sp_law_next K T) [] E0 (tCons (tVar 0) (tCons (tC (.int 9)) tNil))) (tC (.int 4))) tNil))) tNil)))) (tIfS (tAnd (tTest (tOp rEq (tVar 10) (tC (.int 1)))) (tTest (tOp RLt (tVar 9) (tCB (RLen K) (tCons (tVar 5) tNil))))) (tDrop (tBM K "list" rPopAt (tVar 5) (tCons (tVar 9) tNil))) (tIfS (tAnd (tTest (tOp rEq (tVar 10) (tC (.int 2)))) (tTest (tOp RLt (tOp RAdd (tVar 9) (tC (.int 1))) (tCB (RLen K) (tCons (tVar 5) tNil))))) (tAsg (tTup (tCons (tOp (rIxL K) (tVar 5) (tOp RAdd (tVar 9) (tC (.int 1)))) (tCons (tOp (rIxL K) (tVar 5) (tVar 9)) tNil))) (gTup K 2 (gCons (gSub (tVar 5) (tVar 9) rSetL) (gCons (gSub (tVar 5) (tOp RAdd (tVar 9) (tC (.int 1))) rSetL) gNil)))) (tIfS (tAnd (tTest (tOp rEq (tVar 10) (tC (.int 3)))) (tAnd (tTest (tChain RLt RLt (tC (.int 0)) (tVar 9) (tCB (RLen K) (tCons (tVar 5) tNil)))) (tTest (tOp RLt (tCB (RLen K) (tCons (tVar 5) tNil)) (tC (.int 8)))))) (tDrop (tBM K "list" RInsert (tVar 5) (tCons (tVar 9) (tCons (tOp (rIxL K) (tVar 5) (tVar 9)) tNil)))) tNext)))))))
  (tRet (tLc (iList K (tLst (tCons (tVar 4) (tCons (tVar 5) tNil)))) (gName 11) tYes (tCB (RTuple K) (tCons (tLc (iList K (tVar 11)) (gTup K 2 (gCons (gName 13) (gCons (gName 14) gNil))) tYes (tTup (tCons (tOp RAdd (tVar 13) (tVar 3)) (tCons (tVar 14) tNil))) [13, 14]) tNil)) [11]))))))))))
/-- callees: law_next, law_crossed, law_steps, law_told_reduction, law_news; builtins: tuple, range, len, sorted, int, list  -/
theorem dv_law_two {P : Program} {w : World} {K : PySem.W.Frag} {mg : Str → Option Value} {base : Heap} {T : List (Addr × Str)} {f : Addr} (c_law_next : Cal P w K mg base "_law_next" p_law_next L_law_next (sp_law_next K T)) (c_law_crossed : Cal P w K mg base "_law_crossed" p_law_crossed L_law_crossed (sp_law_crossed K T)) (c_law_steps : Cal P w K mg base "_law_steps" p_law_steps L_law_steps (sp_law_steps K T)) (c_law_told_reduction : Cal P w K mg base "_law_told_reduction" p_law_told_reduction L_law_told_reduction (sp_law_told_reduction K T)) (c_law_news : Cal P w K mg base "_law_news" p_law_news L_law_news (sp_law_news K T)) (B : Bi mg) (cdv : Value) (A : Around) (outer : List PySem.Env) (s : Shared) (H : Hp) (E : XK)
    (hr : Room M_law_two (A.deeper (envOfC "_law_two" (defScope s_law_two) s.heap.objs.size f cdv))) :
    PSs (cxOf CX0 P w K mg base N_law_two "_law_two" (defScope s_law_two) f cdv A outer s H E).nox (defBody s_law_two) (t_law_two K T) := by
  obtain ⟨f_law_next, fd_law_next, G_law_next, b_law_next, m_law_next, k_law_next⟩ := c_law_next
  obtain ⟨f_law_crossed, fd_law_crossed, G_law_crossed, b_law_crossed, m_law_crossed, k_law_crossed⟩ := c_law_crossed
  obtain ⟨f_law_steps, fd_law_steps, G_law_steps, b_law_steps, m_law_steps, k_law_steps⟩ := c_law_steps
  obtain ⟨f_law_told_reduction, fd_law_told_reduction, G_law_told_reduction, b_law_told_reduction, m_law_told_reduction, k_law_told_reduction⟩ := c_law_told_reduction
  obtain ⟨f_law_news, fd_law_news, G_law_news, b_law_news, m_law_news, k_law_news⟩ := c_law_news
  have nd := sc_law_two.nd
  exact (pss_cons (ps_set (i := 3) nd rfl (Or.inr rfl) (pe_ix ix_list (pe_lst (pa_cons pe_int (pa_cons pe_int (pa_cons pe_int (pa_cons pe_int pa_nil))))) (pe_call G_law_next (hr.mono (by decide)) (by rfl) m_law_next k_law_next b_law_next .nil pass0 (pa_cons (pv 0) (pa_cons pe_int pa_nil))) (fun _ _ => rfl)))
  (pss_cons (ps_set (i := 4) nd rfl (Or.inr rfl) (pe_callTy call_list_of (by rfl) B.list (by decide +kernel) (pa_cons (pe_call G_law_news (hr.mono (by decide)) (by rfl) m_law_news k_law_news b_law_news .nil pass0 (pa_cons (pv 0) (pa_cons (pv 1) (pa_cons (pv 2) pa_nil)))) pa_nil)))
  (pss_cons (ps_set (i := 5) nd rfl (Or.inl rfl) (pe_callTy call_list_of (by rfl) B.list (by decide +kernel) (pa_cons (pv 4) pa_nil)))
  (pss_cons (ps_set (i := 6) nd rfl (Or.inl rfl) (pe_call G_law_next (hr.mono (by decide)) (by rfl) m_law_next k_law_next b_law_next .nil pass0 (pa_cons (pv 0) (pa_cons pe_int pa_nil))))
  (pss_cons (ps_if (pt_cmpR op_eq (pv 6) pe_int (nomark _)) (pss_one (ps_set (i := 5) nd rfl (Or.inl rfl) (pe_callTy call_list_of (by rfl) B.list (by decide +kernel) (pa_cons (pe_call G_law_news (hr.mono (by decide)) (by rfl) m_law_news k_law_news b_law_news .nil pass0 (pa_cons (pv 0) (pa_cons (pv 1) (pa_cons (pv 2) pa_nil)))) pa_nil)))) pss_nil)
  (pss_cons (ps_if (pt_cmpR op_eq (pv 6) pe_int (nomark _)) (pss_cons (ps_set (i := 7) nd rfl (Or.inr rfl) (pe_callB cr_sortedI (by rfl) B.sorted (by decide +kernel) (pa_cons (pe_lc (own := [("_law_one", 12)]) (by rfl) nd (pi_list (pe_ix ix_list (pe_call G_law_told_reduction (hr.mono (by decide)) (by rfl) m_law_told_reduction k_law_told_reduction b_law_told_reduction .nil pass0 (pa_cons (pe_call G_law_steps (hr.mono (by decide)) (by rfl) m_law_steps k_law_steps b_law_steps .nil pass0 (pa_cons (pv 4) pa_nil)) pa_nil)) pe_int (fun _ _ => rfl))) (blkOk_by (N := N_law_two) (by kernel_rfl)) (fun _ _ _ _ _ => (pg_name (i := 12) nd rfl (Or.inl rfl))) (fun _ _ _ _ _ => pts_nil) (fun _ _ _ _ _ => (pe_op op_fdiv (pe_callTy call_int1 (by rfl) B.int (by decide +kernel) (pa_cons (pv 12) pa_nil)) pe_int))) pa_nil)))
  (pss_one (ps_setLc (i := 5) (own := [("_law_at", 9)]) (by rfl) nd rfl rfl (sw_true rfl rfl rfl (by decide +kernel)) (pi_range1 (by rfl) B.range (pa_cons (pe_callB call_len_seq (by rfl) B.len PySem.boot_len (pa_cons (pv 4) pa_nil)) pa_nil)) (blkOk_by (N := N_law_two) (by kernel_rfl)) (fun _ _ _ _ _ => (pg_name (i := 9) nd rfl (Or.inl rfl))) (fun _ _ _ _ _ => (pts_one (pt_cmpR op_in_seq (pv 9) (pv 7) (by rfl)))) (fun _ _ _ _ _ => (pe_ix ix_list (pv 4) (pv 9) (fun _ _ => rfl)))))) pss_nil)
  (pss_cons (ps_if (pt_cmpR op_eq (pv 6) pe_int (nomark _)) (pss_one (ps_asg (pe_call G_law_crossed (hr.mono (by decide)) (by rfl) m_law_crossed k_law_crossed b_law_crossed .nil pass0 (pa_cons (pv 0) (pa_cons (pv 1) (pa_cons (pe_slice sl_list (pv 4) po_none (po_some (pe_op op_sub (pv 2) pe_int))) pa_nil)))) (pg_unl rfl (pgs_cons (pg_name (i := 4) nd rfl (Or.inr rfl)) (pgs_cons (pg_name (i := 5) nd rfl (Or.inl rfl)) pgs_nil))))) pss_nil)
  (pss_cons (ps_for PassesOwn.never rfl (pi_range1 (by rfl) B.range (pa_cons (pe_ix ix_list (pe_lst (pa_cons pe_int (pa_cons pe_int (pa_cons pe_int (pa_cons pe_int (pa_cons pe_int (pa_cons pe_int (pa_cons pe_int pa_nil)))))))) (pv 6) (fun _ _ => rfl)) pa_nil)) (pg_name (i := 8) nd rfl (Or.inl rfl)) (pss_cons (ps_set (i := 9) nd rfl (Or.inl rfl) (pe_call G_law_next (hr.mono (by decide)) (by rfl) m_law_next k_law_next b_law_next .nil pass0 (pa_cons (pv 0) (pa_cons (pe_op op_add (pe_callB call_len_seq (by rfl) B.len PySem.boot_len (pa_cons (pv 5) pa_nil)) pe_int) pa_nil))))
  (pss_cons (ps_set (i := 10) nd rfl (Or.inl rfl) (pe_call G_law_next (hr.mono (by decide)) (by rfl) m_law_next k_law_next b_law_next .nil pass0 (pa_cons (pv 0) (pa_cons pe_int pa_nil))))
  (pss_one (ps_if (PW.pt (pw_and (pt_cmpR op_eq (pv 10) pe_int (nomark _)) (pw_and1 (pt_cmpR op_lt (pe_callB call_len_seq (by rfl) B.len PySem.boot_len (pa_cons (pv 5) pa_nil)) pe_int (nomark _))))) (pss_one (ps_expr (pe_bm PySem.F.plainAttrs_list PySem.F.slot_list_insert PySem.F.type_list_insert mt_insert (pv 5) (pa_cons (pv 9) (pa_cons (pe_tup (pa_cons (pe_call G_law_next (hr.mono (by decide)) (by rfl) m_law_next k_law_next b_law_next .nil pass0 (pa_cons (pv 0) (pa_cons (pv 1) pa_nil))) (pa_cons (pe_op op_sub (pe_call G_law_next (hr.mono (by decide)) (by rfl) m_law_next k_law_next b_law_next .nil pass0 (pa_cons (pv 0) (pa_cons pe_int pa_nil))) pe_int) pa_nil))) pa_nil))))) (pss_one (ps_if (PW.pt (pw_and (pt_cmpR op_eq (pv 10) pe_int (nomark _)) (pw_and1 (pt_cmpR op_lt (pv 9) (pe_callB call_len_seq (by rfl) B.len PySem.boot_len (pa_cons (pv 5) pa_nil)) (nomark _))))) (pss_one (ps_expr (pe_bm PySem.F.plainAttrs_list PySem.F.slot_list_pop PySem.F.type_list_pop mt_popAt (pv 5) (pa_cons (pv 9) pa_nil)))) (pss_one (ps_if (PW.pt (pw_and (pt_cmpR op_eq (pv 10) pe_int (nomark _)) (pw_and1 (pt_cmpR op_lt (pe_op op_add (pv 9) pe_int) (pe_callB call_len_seq (by rfl) B.len PySem.boot_len (pa_cons (pv 5) pa_nil)) (nomark _))))) (pss_one (ps_asg (pe_tup (pa_cons (pe_ix ix_list (pv 5) (pe_op op_add (pv 9) pe_int) (fun _ _ => rfl)) (pa_cons (pe_ix ix_list (pv 5) (pv 9) (fun _ _ => rfl)) pa_nil))) (pg_tup rfl (pgs_cons (pg_sub (pv 5) (pv 9) set_list) (pgs_cons (pg_sub (pv 5) (pe_op op_add (pv 9) pe_int) set_list) pgs_nil))))) (pss_one (ps_if (PW.pt (pw_and (pt_cmpR op_eq (pv 10) pe_int (nomark _)) (pw_and (pt_chain op_lt op_lt pe_int (pv 9) (pe_callB call_len_seq (by rfl) B.len PySem.boot_len (pa_cons (pv 5) pa_nil))) (pw_and1 (pt_cmpR op_lt (pe_callB call_len_seq (by rfl) B.len PySem.boot_len (pa_cons (pv 5) pa_nil)) pe_int (nomark _)))))) (pss_one (ps_expr (pe_bm PySem.F.plainAttrs_list PySem.F.slot_list_insert PySem.F.type_list_insert mt_insert (pv 5) (pa_cons (pv 9) (pa_cons (pe_ix ix_list (pv 5) (pv 9) (fun _ _ => rfl)) pa_nil))))) pss_nil)))))))))))
  (pss_one (ps_ret (pe_lc (own := [("_law_row", 11)]) (by rfl) nd (pi_list (pe_lst (pa_cons (pv 4) (pa_cons (pv 5) pa_nil)))) (blkOk_by (N := N_law_two) (by kernel_rfl)) (fun _ _ _ _ _ => (pg_name (i := 11) nd rfl (Or.inl rfl))) (fun _ _ _ _ _ => pts_nil) (fun _ _ _ _ _ => (pe_callTy call_tuple_of (by rfl) B.tuple (by decide +kernel) (pa_cons (pe_lc (own := [("_law_event", 13), ("_law_time", 14)]) (by rfl) nd (pi_list (pv 11)) (blkOk_by (N := N_law_two) (by kernel_rfl)) (fun _ _ _ _ _ => (pg_tup rfl (pgs_cons (pg_name (i := 13) nd rfl (Or.inl rfl)) (pgs_cons (pg_name (i := 14) nd rfl (Or.inl rfl)) pgs_nil)))) (fun _ _ _ _ _ => pts_nil) (fun _ _ _ _ _ => (pe_tup (pa_cons (pe_op op_add (pv 13) (pv 3)) (pa_cons (pv 14) pa_nil))))) pa_nil))))))))))))))
theorem cut_takeM {α : Type} (xs : List α) (j : Nat) : cutD xs none (some (j : Int)) = xs.take j := by
  unfold cutD
  rw [HT.sIx_nat]
  show (xs.drop 0).take (min j xs.length - 0) = _
  rw [List.drop_zero, Nat.sub_zero, List.take_eq_take_iff]
  omega
theorem GQ.sub {r s : Row} (g : GQ r) (h : s.Sublist r) : GQ s := ⟨Nat.le_trans h.length_le g.1, fun p hp => g.2 p (h.mem hp)⟩
/-- the state between the law_two's statements -/
def Mt (s k : Int) (Γ : Gm) (O : Ow) : Prop := ∃ r1 r2 : Row, GQ r1 ∧ GQ r2 ∧ O = [(5, r2.map dP), (4, r1.map dP)] ∧ ∃ x7 x8 x9 x10 x11 x12 x13 x14, Γ = [some (.dict []), some (.int 3), some (.int 8), some (.int s), none, none, some (.int k), x7, x8, x9, x10, x11, x12, x13, x14]
def shR (s : Int) (r : Row) : Row := r.map fun p => (p.1 + s, p.2)
theorem so_ifE {W : Wd} {B : Hp} {tt : TT} {tx ty : TS} {Γ : Gm} {O : Ow} {N : Gm → Ow → Prop} {R : PyData → Prop} (h : EvT W tt (mix Γ O) fun b => b = true → So W B tx Γ O N R) (y : So W B ty Γ O N R) : So W B (tIfS tt tx ty) Γ O N R := so_if fun σ H e am Q q => h σ H e am Q fun b H2 s a p => q b H2 s a ⟨p, fun _ => y⟩
theorem ins_map (r : Row) (n : Nat) (p : Int × Int) : insD (r.map dP) n (dP p) = (r.take n ++ [p] ++ r.drop n).map dP := by
  unfold insD
  rw [List.map_append, List.map_append, List.map_take, List.map_drop]
  rfl
theorem ins_gq {r : Row} {p : Int × Int} (g : GQ r) (hp : GoodQ p) (n : Nat) (hl : r.length < 8) : GQ (r.take n ++ [p] ++ r.drop n) := by
  refine ⟨?_, fun x hx => ?_⟩
  · rw [List.length_append, List.length_append, List.length_take, List.length_drop, List.length_singleton]
    omega
  · rcases List.mem_append.mp hx with z | z
    · rcases List.mem_append.mp z with z | z
      · exact g.2 x (List.mem_of_mem_take z)
      · rw [List.mem_singleton.mp z]
        exact hp
    · exact g.2 x (List.mem_of_mem_drop z)
section
variable {W : Wd} {ds : List PyData} {P : PyData → Prop}
theorem ss_law_two (h : C_law_two ds P) : Ss W (t_law_two W.K W.T) (startG N_law_two.length ds) (fun _ => P .none) P := by
  obtain ⟨rfl, h⟩ := h
  unfold t_law_two
  refine So.ss fun B => ?_
  walk_at "ens"
  refine so_asg rfl ?_
  walk_at "ens"
  intro k k0 k1
  have hs : ∃ s : Int, 0 ≤ s ∧ s ≤ 3 ∧ atI [.int 0, .int 0, .int 1, .int 3] k = some (PyData.int s) := by
    obtain rfl | rfl | rfl | rfl : k = 0 ∨ k = 1 ∨ k = 2 ∨ k = 3 := by omega
    · exact ⟨0, by omega, by omega, rfl⟩
    · exact ⟨0, by omega, by omega, rfl⟩
    · exact ⟨1, by omega, by omega, rfl⟩
    · exact ⟨3, by omega, by omega, rfl⟩
  obtain ⟨s, s0, s1, hat⟩ := hs
  refine ro_ixL hat ⟨lf_int _, ?_⟩
  walk_at "ens"
  refine so_new rfl rfl ?_
  walk_at "ens"
  refine ⟨rfl, fun r hr hg => ?_⟩
  unfold dRow
  walk_at "ens"
  refine ⟨lf_dPs r, ?_⟩
  walk_at "ens"
  refine so_new rfl rfl ?_
  walk_at "ens"
  refine ⟨lf_dPs r, ?_⟩
  walk_at "ens"
  refine so_asg rfl ?_
  walk_at "ens"
  intro k k0 k1
  refine ⟨lf_int _, ?_⟩
  have gr : GQ r := ⟨hr, hg⟩
  refine so_seqM (Mt s k) (so_if ?_) ?_
  · walk_at "ens"
    refine ⟨_, rfl, fun c1 => ?_, fun c1 => so_next ⟨r, r, gr, gr, rfl, _, _, _, _, _, _, _, _, rfl⟩⟩
    refine so_renew (k := 0) rfl rfl rfl ?_
    walk_at "ens"
    refine ⟨rfl, fun r2 hr2 hg2 => ?_⟩
    unfold dRow
    walk_at "ens"
    exact ⟨lf_dPs r2, r, r2, gr, ⟨hr2, hg2⟩, rfl, _, _, _, _, _, _, _, _, rfl⟩
  clear gr hr hg
  rintro Γ O ⟨r1, r2, g1, g2, rfl, x7, x8, x9, x10, x11, x12, x13, x14, rfl⟩
  refine so_seqM (Mt s k) (so_if ?_) ?_
  · walk_at "ens"
    refine ⟨_, rfl, fun c1 => ?_, fun c1 => so_next ⟨r1, r2, g1, g2, rfl, _, _, _, _, _, _, _, _, rfl⟩⟩
    walk_at "ens"
    refine so_new rfl rfl ?_
    walk_at "ens"
    refine EvL.ev (el_lc (ei_list ?_))
    walk_at "ens"
    refine ⟨r1, .inr rfl, g1.1, ?_⟩
    walk_at "ens"
    refine ⟨stepsIn r1, rfl, steps_len16 g1.1, fun fs => ?_⟩
    walk_at "ens"
    refine ⟨fun i acc => ∃ as : List Int, acc = as.map .int, ⟨[], rfl⟩, ?_, ?_, ?_⟩
    · have := left_len (stepsIn r1)
      have := steps_len16 g1.1
      unfold dIx
      rw [List.length_map]
      omega
    · rintro i d acc hd ⟨as, rfl⟩
      obtain ⟨a, ha, rfl⟩ := dIx_get hd
      walk_at "ens"
      refine et_yes (andT ?_)
      walk_at "ens"
      exact ro_div ⟨by decide, by decide⟩ ⟨lf_int _, as ++ [_], by rw [List.map_append]; rfl⟩
    · rintro acc ⟨as, rfl⟩
      walk_at "ens"
      refine rcl_sortedI fun ns _ _ => ⟨lf_ints ns, ?_⟩
      walk_at "ens"
      refine so_dropN 1 (so_renew (k := 1) rfl rfl rfl (el_lc (ei_rng1 ?_)))
      walk_at "ens"
      have hl1 := g1.1
      refine ⟨_, rfl, by rw [List.length_map]; omega, by rw [List.length_map]; omega, fun i acc => ∃ rr : Row, acc = rr.map dP ∧ rr.length ≤ i ∧ ∀ p ∈ rr, GoodQ p, ⟨[], rfl, Nat.le_refl _, by simp⟩, by rw [rgD_len, List.length_map]; omega, ?_, ?_⟩
      · rintro i d acc hd ⟨rr, rfl, hrl, hrg⟩
        obtain ⟨hi, rfl⟩ := rgD_get hd
        rw [List.length_map, Int.toNat_natCast] at hi
        rw [Int.zero_add]
        walk_at "ens"
        refine ro_in (ns := ns) ?_
        refine ⟨_, rfl, fun _ => ?_, fun _ => ⟨rr, rfl, Nat.le_succ_of_le hrl, hrg⟩⟩
        walk_at "ens"
        refine ro_ixL (at_map dP hi) ⟨lf_dP _, rr ++ [r1[i]], by rw [List.map_append]; rfl, by rw [List.length_append, List.length_singleton]; omega, fun p hp => ?_⟩
        rcases List.mem_append.mp hp with z | z
        · exact hrg p z
        · rw [List.mem_singleton.mp z]
          exact g1.2 _ (List.getElem_mem _)
      · rintro acc ⟨rr, rfl, hrl, hrg⟩
        rw [rgD_len, List.length_map, Int.toNat_natCast] at hrl
        exact ⟨lf_dPs rr, r1, rr, g1, ⟨by omega, hrg⟩, rfl, _, _, _, _, _, _, _, _, rfl⟩
  clear g1 g2 x7 x8 x9 x10 x11 x12 x13 x14 r1 r2
  rintro Γ O ⟨r1, r2, g1, g2, rfl, x7, x8, x9, x10, x11, x12, x13, x14, rfl⟩
  refine so_seqM (Mt s k) (so_if ?_) ?_
  · walk_at "ens"
    refine ⟨_, rfl, fun c1 => ?_, fun c1 => so_next ⟨r1, r2, g1, g2, rfl, _, _, _, _, _, _, _, _, rfl⟩⟩
    refine so_crossed rfl ?_ fun q1 q2 e1 e2 => ⟨q1, q2, e1, e2, rfl, _, _, _, _, _, _, _, _, rfl⟩
    walk_at "ens"
    refine ⟨r1.take 4, ?_, by rw [List.length_take]; omega, fun p hp => g1.2 p (List.mem_of_mem_take hp)⟩
    have e4 : cutD (r1.map dP) none (some (8 - 4)) = (r1.take 4).map dP := by
      have := cut_takeM (r1.map dP) 4
      rw [← List.map_take] at this
      exact this
    rw [← e4]
  clear g1 g2 x7 x8 x9 x10 x11 x12 x13 x14 r1 r2
  rintro Γ O ⟨r1, r2, g1, g2, rfl, x7, x8, x9, x10, x11, x12, x13, x14, rfl⟩
  refine so_seqM (Mt s k) (so_for (eit_rng1 ?_)) ?_
  · walk_at "ens"
    have hn : ∃ n : Int, 0 ≤ n ∧ n ≤ 3 ∧ atI [.int 0, .int 0, .int 1, .int 1, .int 2, .int 3, .int 0] k = some (PyData.int n) := by
      obtain rfl | rfl | rfl | rfl | rfl | rfl | rfl : k = 0 ∨ k = 1 ∨ k = 2 ∨ k = 3 ∨ k = 4 ∨ k = 5 ∨ k = 6 := by omega
      · exact ⟨0, by omega, by omega, rfl⟩
      · exact ⟨0, by omega, by omega, rfl⟩
      · exact ⟨1, by omega, by omega, rfl⟩
      · exact ⟨1, by omega, by omega, rfl⟩
      · exact ⟨2, by omega, by omega, rfl⟩
      · exact ⟨3, by omega, by omega, rfl⟩
      · exact ⟨0, by omega, by omega, rfl⟩
    obtain ⟨n, n0, n1, hat⟩ := hn
    refine ro_ixL hat ?_
    walk_at "ens"
    refine ⟨n, rfl, by omega, by omega, fun _ Γ O => Mt s k Γ O, ⟨r1, r2, g1, g2, rfl, _, _, _, _, _, _, _, _, rfl⟩, ?_, fun Γ O m => m⟩
    clear g1 g2 x7 x8 x9 x10 x11 x12 x13 x14 r1 r2
    rintro i d Γ O hd ⟨r1, r2, g1, g2, rfl, x7, x8, x9, x10, x11, x12, x13, x14, rfl⟩
    obtain ⟨_, rfl⟩ := rgD_get hd
    have l2 := g2.1
    have el2 : (r2.map dP).length = r2.length := List.length_map ..
    walk_at "ens"
    refine so_asg rfl ?_
    walk_at "ens"
    refine next_ok (by rw [el2]; omega) (by rw [el2]; omega) ?_
    intro j j0 j1
    rw [el2] at j1
    refine ⟨lf_int _, ?_⟩
    walk_at "ens"
    refine so_asg rfl ?_
    walk_at "ens"
    intro v v0 v1
    refine ⟨lf_int _, ?_⟩
    have ej : j = (j.toNat : Int) := by omega
    refine so_ifE ?_ (so_ifE ?_ (so_ifE ?_ (so_ifE ?_ (so_next ⟨r1, r2, g1, g2, rfl, _, _, _, _, _, _, _, _, rfl⟩))))
    · walk_at "ens"
      refine ⟨_, rfl, fun c1 => ?_, fun _ z => nomatch z⟩
      walk_at "ens"
      refine ⟨_, rfl, fun c2 => ?_⟩
      have c2' := of_decide_eq_true c2
      rw [el2] at c2'
      refine so_insert (k := 0) rfl ?_
      walk_at "ens"
      refine ⟨j.toNat, by rw [← ej], by omega, by rw [el2]; omega, ?_⟩
      walk_at "ens"
      intro e e0 e1
      walk_at "ens"
      intro t t0 t1
      walk_at "ens"
      refine ⟨by simp [lf, lfAll], r1, _, g1, ins_gq (p := (e, t - 4)) g2 ⟨e0, e1, by show _ ≤ t - 4; omega, by show t - 4 ≤ _; omega⟩ j.toNat (by omega), ?_, _, _, _, _, _, _, _, _, rfl⟩
      rw [← ins_map]
      rfl
    · walk_at "ens"
      refine ⟨_, rfl, fun c1 => ?_, fun _ z => nomatch z⟩
      walk_at "ens"
      refine ⟨_, rfl, fun c2 => ?_⟩
      have c2' := of_decide_eq_true c2
      rw [el2] at c2'
      refine so_pop (k := 0) rfl ?_
      walk_at "ens"
      refine ⟨j.toNat, by rw [← ej], by rw [el2]; omega, by rw [el2]; omega, r1, _, g1, g2.sub (List.eraseIdx_sublist r2 j.toNat), ?_, _, _, _, _, _, _, _, _, rfl⟩
      rw [erase_map]
      rfl
    · walk_at "ens"
      refine ⟨_, rfl, fun c1 => ?_, fun _ z => nomatch z⟩
      walk_at "ens"
      refine ⟨_, rfl, fun c2 => ?_⟩
      have c2' := of_decide_eq_true c2
      rw [el2] at c2'
      have h1 : j.toNat + 1 < r2.length := by omega
      have h0 : j.toNat < r2.length := by omega
      have a1 := at_map dP h1
      rw [show ((j.toNat + 1 : Nat) : Int) = j + 1 by omega] at a1
      have a0 := at_map dP h0
      rw [← ej] at a0
      refine so_asgM ?_
      walk_at "ens"
      refine ro_ixL a1 ?_
      walk_at "ens"
      refine ro_ixL a0 ?_
      walk_at "ens"
      refine ⟨by simp [lf, lfAll], egm_tup rfl (egm_cons (egm_sub (k := 0) rfl ?_))⟩
      walk_at "ens"
      refine ⟨j.toNat, by rw [← ej], by rw [el2]; omega, egm_cons (egm_sub (k := 0) rfl ?_)⟩
      walk_at "ens"
      refine ⟨j.toNat + 1, by rw [show ((j.toNat + 1 : Nat) : Int) = j + 1 by omega], by rw [List.length_set, el2]; omega, egm_nil ?_⟩
      refine ⟨r1, (r2.set j.toNat r2[j.toNat + 1]).set (j.toNat + 1) r2[j.toNat], g1, ⟨by rw [List.length_set, List.length_set]; exact l2, fun x hx => ?_⟩, ?_, _, _, _, _, _, _, _, _, rfl⟩
      · rcases List.mem_or_eq_of_mem_set hx with z | z
        · rcases List.mem_or_eq_of_mem_set z with z | z
          · exact g2.2 x z
          · rw [z]
            exact g2.2 _ (List.getElem_mem _)
        · rw [z]
          exact g2.2 _ (List.getElem_mem _)
      · rw [List.map_set, List.map_set]
        rfl
    · walk_at "ens"
      refine ⟨_, rfl, fun c1 => ?_, fun _ z => nomatch z⟩
      walk_at "ens"
      refine ⟨_, rfl, fun c2 => ?_, fun c2 => ⟨_, rfl, (fun z => nomatch z), (fun _ z => nomatch z)⟩⟩
      walk_at "ens"
      refine ⟨_, rfl, fun c3 => ?_, fun _ z => nomatch z⟩
      have c3' := of_decide_eq_true c3
      rw [el2] at c3'
      have h0 : j.toNat < r2.length := by omega
      have a0 := at_map dP h0
      rw [← ej] at a0
      walk_at "ens"
      refine ⟨_, rfl, fun c4 => ?_⟩
      have c4' := of_decide_eq_true c4
      rw [el2] at c4'
      refine so_insert (k := 0) rfl ?_
      walk_at "ens"
      refine ⟨j.toNat, by rw [← ej], by omega, by rw [el2]; omega, ?_⟩
      walk_at "ens"
      refine ro_ixL a0 ⟨lf_dP _, r1, _, g1, ins_gq g2 (g2.2 _ (List.getElem_mem h0)) j.toNat (by omega), ?_, _, _, _, _, _, _, _, _, rfl⟩
      rw [← ins_map]
      rfl
  clear g1 g2 x7 x8 x9 x10 x11 x12 x13 x14 r1 r2
  rintro Γ O ⟨r1, r2, g1, g2, rfl, x7, x8, x9, x10, x11, x12, x13, x14, rfl⟩
  refine so_ret (EvL.ev (el_lc (ei_list ?_)))
  walk_at "ens"
  refine ⟨fun i acc => acc = ([r1, r2].take i).map fun r => dRow (shR s r), rfl, by show 2 ≤ 100000; omega, ?_, ?_⟩
  · rintro i d acc hd rfl
    obtain ⟨r, hr, rfl⟩ := get_map_some (l := [r1, r2]) (f := fun r : Row => PyData.list (r.map dP)) hd
    have g : GQ r := by
      have hm := List.mem_of_getElem? hr
      rcases List.mem_cons.mp hm with rfl | hm
      · exact g1
      · rw [List.mem_singleton.mp hm]
        exact g2
    walk_at "ens"
    refine et_yes (andT ?_)
    walk_at "ens"
    refine EvL.ev (el_lc (ei_list ?_))
    walk_at "ens"
    have gl := g.1
    refine ⟨fun j acc => acc = (r.take j).map fun p => dP (p.1 + s, p.2), rfl, by rw [List.length_map]; omega, ?_, ?_⟩
    · rintro j d acc hd rfl
      obtain ⟨p, hp, rfl⟩ := get_map_some hd
      walk_at "ens"
      refine et_yes (andT ?_)
      walk_at "ens"
      exact ⟨by simp [lf, lfAll], take_map_snoc (fun p : Int × Int => dP (p.1 + s, p.2)) hp⟩
    · rintro acc rfl
      walk_at "ens"
      have e : r.take (r.map dP).length = r := List.take_of_length_le (by rw [List.length_map]; exact Nat.le_refl _)
      rw [e]
      refine ⟨?_, ?_⟩
      · rw [lf]
        exact lfAll_map _ (fun p => lf_dP _) r
      · have e2 : (r.map fun p : Int × Int => dP (p.1 + s, p.2)) = (shR s r).map dP := by
          unfold shR
          rw [List.map_map]
          rfl
        rw [e2]
        exact take_map_snoc (fun r => dRow (shR s r)) hr
  · rintro acc rfl
    have gd : ∀ r, GQ r → Good (shR s r) := fun r g => ⟨by unfold shR; rw [List.length_map]; exact g.1, fun p hp => by
      obtain ⟨x, hx, rfl⟩ := List.mem_map.mp hp
      obtain ⟨z1, z2, z3, z4⟩ := g.2 x hx
      exact ⟨by show 0 ≤ x.1 + s; omega, by show x.1 + s ≤ 5; omega, z3, z4⟩⟩
    exact h _ _ (gd r1 g1) (gd r2 g2)
end
theorem cal_law_two {P : Program} {w : World} {K : PySem.W.Frag} {mg : Str → Option Value} {base : Heap} {T : List (Addr × Str)} {f : Addr} {fd : FuncData} (F : Fun K "_law_two" "_law_two" s_law_two f fd) (b : Binds K fd p_law_two []) (m : mg "_law_two" = some (.ref f)) (c_law_next : Cal P w K mg base "_law_next" p_law_next L_law_next (sp_law_next K T)) (c_law_crossed : Cal P w K mg base "_law_crossed" p_law_crossed L_law_crossed (sp_law_crossed K T)) (c_law_steps : Cal P w K mg base "_law_steps" p_law_steps L_law_steps (sp_law_steps K T)) (c_law_told_reduction : Cal P w K mg base "_law_told_reduction" p_law_told_reduction L_law_told_reduction (sp_law_told_reduction K T)) (c_law_news : Cal P w K mg base "_law_news" p_law_news L_law_news (sp_law_news K T)) (B : Bi mg) :
    Cal P w K mg base "_law_two" p_law_two L_law_two (sp_law_two K T) :=
  ⟨f, fd, okC F sc_law_two (fun ds P h => by
      unfold C_law_two at h
      first
        | (obtain ⟨_, rfl, _⟩ := h; rfl)
        | (obtain ⟨_, _, rfl, _⟩ := h; rfl)
        | (obtain ⟨_, _, _, rfl, _⟩ := h; rfl)
        | (obtain ⟨_, h, _⟩ := h; rcases h with rfl | rfl <;> rfl)
        | (obtain ⟨rfl, _⟩ := h; rfl)) (fun W eK eT cdv A outer s H E hr => ⟨t_law_two K T, dv_law_two c_law_next c_law_crossed c_law_steps c_law_told_reduction c_law_news B cdv A outer s H E hr, fun ds P h => by
      subst eK
      subst eT
      exact ss_law_two h⟩), b, m, F.kp⟩

/-! ## places -/
def dSide : Side → PyData
  | none => .none
  | some p => dP p
abbrev Place := Side × Side × Int
def dPl (p : Place) : PyData := .tuple [dSide p.1, dSide p.2.1, .int p.2.2]
def C_law_is_side (ds : List PyData) (P : PyData → Prop) : Prop := ∃ u : Side, ds = [dSide u] ∧ ∀ b : Bool, P (.bool b)
def C_law_is_place (ds : List PyData) (P : PyData → Prop) : Prop := ∃ p : Place, ds = [dPl p] ∧ ∀ b : Bool, (b = true → CanBe p.1 p.2.1) → P (.bool b)
def C_law_time_at (ds : List PyData) (P : PyData → Prop) : Prop := ∃ (r : Row) (p : Place), ds = [dRow r, dPl p] ∧ P (.int (timeAt p.1 p.2.1 r p.2.2))
def C_law_told_places (ds : List PyData) (P : PyData → Prop) : Prop := ∃ (r1 r2 : Row), ds = [dRow r1, dRow r2] ∧ r1.length ≤ 8 ∧ r2.length ≤ 8 ∧ ∀ ps : List Place, (∀ p ∈ ps, CanBe p.1 p.2.1) → P (.list (ps.map dPl))
def C_law_separation (ds : List PyData) (P : PyData → Prop) : Prop := ∃ (r1 r2 : Row), ds = [dRow r1, dRow r2] ∧ r1.length ≤ 8 ∧ r2.length ≤ 8 ∧ (∀ (u l : Side) (h : Int), CanBe u l → timeAt u l r1 h = timeAt u l r2 h) ∧ P .none
abbrev sp_law_is_side (K : PySem.W.Frag) (T : List (Addr × Str)) : Sp := spC K T C_law_is_side
abbrev sp_law_is_place (K : PySem.W.Frag) (T : List (Addr × Str)) : Sp := spC K T C_law_is_place
abbrev sp_law_time_at (K : PySem.W.Frag) (T : List (Addr × Str)) : Sp := spC K T C_law_time_at
abbrev sp_law_told_places (K : PySem.W.Frag) (T : List (Addr × Str)) : Sp := spC K T C_law_told_places
abbrev sp_law_separation (K : PySem.W.Frag) (T : List (Addr × Str)) : Sp := spC K T C_law_separation
/-! ### _law_is_side: slots 0 _law_value -/
theorem sc_law_is_side : FnScope N_law_is_side p_law_is_side (defScope s_law_is_side) := ⟨rfl, rfl, rfl, by decide +kernel, rfl, by decide +kernel, by decide +kernel⟩
def t_law_is_side (K : PySem.W.Frag) (T : List (Addr × Str)) : TS :=
  (tSeq (tIfS (tTest (tOp RIsN (tVar 0) (tC .non))) (tRet (tC (.bl true))) tNext)
  (tSeq (tIfS (tOr (tNot (tB (tCB (rIsi K) (tCons (tVar 0) (tCons (tC (.ty "tuple")) tNil))))) (tOr (tTest (tOp rNe (tCB (RLen K) (tCons (tVar 0) tNil)) (tC (.int 2)))) (tOr (tNot (tB (tCall (sp_law_is_integer K T) [] E0 (tCons (tOp (rIxT K) (tVar 0) (tC (.int 0))) tNil)))) (tNot (tB (tCall (sp_law_is_integer K T) [] E0 (tCons (tOp (rIxT K) (tVar 0) (tC (.int 1))) tNil))))))) (tRet (tC (.bl false))) tNext)
  (tRet (tAndV (tChain RLe RLe (tC (.int 0)) (tOp (rIxT K) (tVar 0) (tC (.int 0))) (tC (.int 5))) (tChain RLe RLe (tUn RNeg (tC (.int 2000))) (tOp (rIxT K) (tVar 0) (tC (.int 1))) (tC (.int 2000)))))))
/-- callees: law_is_integer; builtins: isinstance, tuple, len  -/
theorem dv_law_is_side {P : Program} {w : World} {K : PySem.W.Frag} {mg : Str → Option Value} {base : Heap} {T : List (Addr × Str)} {f : Addr} (c_law_is_integer : Cal P w K mg base "_law_is_integer" p_law_is_integer L_law_is_integer (sp_law_is_integer K T)) (B : Bi mg) (cdv : Value) (A : Around) (outer : List PySem.Env) (s : Shared) (H : Hp) (E : XK)
    (hr : Room M_law_is_side (A.deeper (envOfC "_law_is_side" (defScope s_law_is_side) s.heap.objs.size f cdv))) :
    PSs (cxOf CX0 P w K mg base N_law_is_side "_law_is_side" (defScope s_law_is_side) f cdv A outer s H E).nox (defBody s_law_is_side) (t_law_is_side K T) := by
  obtain ⟨f_law_is_integer, fd_law_is_integer, G_law_is_integer, b_law_is_integer, m_law_is_integer, k_law_is_integer⟩ := c_law_is_integer
  have nd := sc_law_is_side.nd
  exact (pss_cons (ps_if (pt_cmpR op_isN (pv 0) pe_non (nomark _)) (pss_one (ps_ret pe_bl)) pss_nil)
  (pss_cons (ps_if (PW.pt (pw_or (pt_not (pt_val (pe_callB call_isi (by rfl) B.isinstance (by decide +kernel) (pa_cons (pv 0) (pa_cons (pe_bltn (v := .ty "tuple") (by rfl) B.tuple (by decide +kernel) rfl) pa_nil))))) (pw_or (pt_cmpR op_ne (pe_callB call_len_seq (by rfl) B.len PySem.boot_len (pa_cons (pv 0) pa_nil)) pe_int (nomark _)) (pw_or (pt_not (pt_val (pe_call G_law_is_integer (hr.mono (by decide)) (by rfl) m_law_is_integer k_law_is_integer b_law_is_integer .nil pass0 (pa_cons (pe_ix ix_tup (pv 0) pe_int (fun _ _ => rfl)) pa_nil)))) (pw_or1 (pt_not (pt_val (pe_call G_law_is_integer (hr.mono (by decide)) (by rfl) m_law_is_integer k_law_is_integer b_law_is_integer .nil pass0 (pa_cons (pe_ix ix_tup (pv 0) pe_int (fun _ _ => rfl)) pa_nil))))))))) (pss_one (ps_ret pe_bl)) pss_nil)
  (pss_one (ps_ret (pe_and (pe_chain op_le op_le pe_int (pe_ix ix_tup (pv 0) pe_int (fun _ _ => rfl)) pe_int) (pe_one (pe_chain op_le op_le (pe_un un_neg pe_int) (pe_ix ix_tup (pv 0) pe_int (fun _ _ => rfl)) pe_int)))))))
/-! ### _law_is_place: slots 0 _law_value, 1 _law_upper, 2 _law_lower, 3 _law_start -/
theorem sc_law_is_place : FnScope N_law_is_place p_law_is_place (defScope s_law_is_place) := ⟨rfl, rfl, rfl, by decide +kernel, rfl, by decide +kernel, by decide +kernel⟩
def t_law_is_place (K : PySem.W.Frag) (T : List (Addr × Str)) : TS :=
  (tSeq (tIfS (tOr (tNot (tB (tCB (rIsi K) (tCons (tVar 0) (tCons (tC (.ty "tuple")) tNil))))) (tOr (tTest (tOp rNe (tCB (RLen K) (tCons (tVar 0) tNil)) (tC (.int 3)))) (tOr (tNot (tB (tCall (sp_law_is_side K T) [] E0 (tCons (tOp (rIxT K) (tVar 0) (tC (.int 0))) tNil)))) (tNot (tB (tCall (sp_law_is_side K T) [] E0 (tCons (tOp (rIxT K) (tVar 0) (tC (.int 1))) tNil))))))) (tRet (tC (.bl false))) tNext)
  (tSeq (tIfS (tOr (tNot (tB (tCall (sp_law_is_integer K T) [] E0 (tCons (tOp (rIxT K) (tVar 0) (tC (.int 2))) tNil)))) (tNot (tTest (tChain RLe RLe (tUn RNeg (tC (.int 10000))) (tOp (rIxT K) (tVar 0) (tC (.int 2))) (tC (.int 10000)))))) (tRet (tC (.bl false))) tNext)
  (tSeq (tAsg (tVar 0) (gTup K 3 (gCons (gName 1) (gCons (gName 2) (gCons (gName 3) gNil)))))
  (tRet (tOrV (tOp RIsN (tVar 1) (tC .non)) (tOrV (tOp RIsN (tVar 2) (tC .non)) (tOrV (tOp rNe (tOp (rIxT K) (tVar 1) (tC (.int 0))) (tOp (rIxT K) (tVar 2) (tC (.int 0)))) (tOp RGe (tOp RAdd (tOp (rIxT K) (tVar 1) (tC (.int 1))) (tOp (rIxT K) (tVar 2) (tC (.int 1)))) (tC (.int 0))))))))))
/-- callees: law_is_integer, law_is_side; builtins: isinstance, tuple, len  -/
theorem dv_law_is_place {P : Program} {w : World} {K : PySem.W.Frag} {mg : Str → Option Value} {base : Heap} {T : List (Addr × Str)} {f : Addr} (c_law_is_integer : Cal P w K mg base "_law_is_integer" p_law_is_integer L_law_is_integer (sp_law_is_integer K T)) (c_law_is_side : Cal P w K mg base "_law_is_side" p_law_is_side L_law_is_side (sp_law_is_side K T)) (B : Bi mg) (cdv : Value) (A : Around) (outer : List PySem.Env) (s : Shared) (H : Hp) (E : XK)
    (hr : Room M_law_is_place (A.deeper (envOfC "_law_is_place" (defScope s_law_is_place) s.heap.objs.size f cdv))) :
    PSs (cxOf CX0 P w K mg base N_law_is_place "_law_is_place" (defScope s_law_is_place) f cdv A outer s H E).nox (defBody s_law_is_place) (t_law_is_place K T) := by
  obtain ⟨f_law_is_integer, fd_law_is_integer, G_law_is_integer, b_law_is_integer, m_law_is_integer, k_law_is_integer⟩ := c_law_is_integer
  obtain ⟨f_law_is_side, fd_law_is_side, G_law_is_side, b_law_is_side, m_law_is_side, k_law_is_side⟩ := c_law_is_side
  have nd := sc_law_is_place.nd
  exact (pss_cons (ps_if (PW.pt (pw_or (pt_not (pt_val (pe_callB call_isi (by rfl) B.isinstance (by decide +kernel) (pa_cons (pv 0) (pa_cons (pe_bltn (v := .ty "tuple") (by rfl) B.tuple (by decide +kernel) rfl) pa_nil))))) (pw_or (pt_cmpR op_ne (pe_callB call_len_seq (by rfl) B.len PySem.boot_len (pa_cons (pv 0) pa_nil)) pe_int (nomark _)) (pw_or (pt_not (pt_val (pe_call G_law_is_side (hr.mono (by decide)) (by rfl) m_law_is_side k_law_is_side b_law_is_side .nil pass0 (pa_cons (pe_ix ix_tup (pv 0) pe_int (fun _ _ => rfl)) pa_nil)))) (pw_or1 (pt_not (pt_val (pe_call G_law_is_side (hr.mono (by decide)) (by rfl) m_law_is_side k_law_is_side b_law_is_side .nil pass0 (pa_cons (pe_ix ix_tup (pv 0) pe_int (fun _ _ => rfl)) pa_nil))))))))) (pss_one (ps_ret pe_bl)) pss_nil)
  (pss_cons (ps_if (PW.pt (pw_or (pt_not (pt_val (pe_call G_law_is_integer (hr.mono (by decide)) (by rfl) m_law_is_integer k_law_is_integer b_law_is_integer .nil pass0 (pa_cons (pe_ix ix_tup (pv 0) pe_int (fun _ _ => rfl)) pa_nil)))) (pw_or1 (pt_not (pt_chain op_le op_le (pe_un un_neg pe_int) (pe_ix ix_tup (pv 0) pe_int (fun _ _ => rfl)) pe_int))))) (pss_one (ps_ret pe_bl)) pss_nil)
  (pss_cons (ps_asg (pv 0) (pg_tup rfl (pgs_cons (pg_name (i := 1) nd rfl (Or.inl rfl)) (pgs_cons (pg_name (i := 2) nd rfl (Or.inl rfl)) (pgs_cons (pg_name (i := 3) nd rfl (Or.inl rfl)) pgs_nil)))))
  (pss_one (ps_ret (pe_or (pe_cmpR op_isN (pv 1) pe_non (nomark _)) (pe_or (pe_cmpR op_isN (pv 2) pe_non (nomark _)) (pe_or (pe_cmpR op_ne (pe_ix ix_tup (pv 1) pe_int (fun _ _ => rfl)) (pe_ix ix_tup (pv 2) pe_int (fun _ _ => rfl)) (nomark _)) (pe_one (pe_cmpR op_ge (pe_op op_add (pe_ix ix_tup (pv 1) pe_int (fun _ _ => rfl)) (pe_ix ix_tup (pv 2) pe_int (fun _ _ => rfl))) pe_int (nomark _)))))))))))
/-! ### _law_time_at: slots 0 _law_row, 1 _law_place, 2 _law_upper, 3 _law_lower, 4 _law_here, 5 _law_event, 6 _law_time -/
theorem sc_law_time_at : FnScope N_law_time_at p_law_time_at (defScope s_law_time_at) := ⟨rfl, rfl, rfl, by decide +kernel, rfl, by decide +kernel, by decide +kernel⟩
def t_law_time_at (K : PySem.W.Frag) (T : List (Addr × Str)) : TS :=
  (tSeq (tAsg (tVar 1) (gTup K 3 (gCons (gName 2) (gCons (gName 3) (gCons (gName 4) gNil)))))
  (tSeq (tFor (iTup K (tVar 0)) (gTup K 2 (gCons (gName 5) (gCons (gName 6) gNil))) (tSeq (tIfS (tAnd (tTest (tOp RNotN (tVar 2) (tC .non))) (tTest (tOp rEq (tOp (rIxT K) (tVar 2) (tC (.int 0))) (tVar 5)))) (tAsg (tCB RMax2 (tCons (tVar 4) (tCons (tOp RSub (tVar 6) (tOp (rIxT K) (tVar 2) (tC (.int 1)))) tNil))) (gName 4)) tNext)
  (tIfS (tAnd (tTest (tOp RNotN (tVar 3) (tC .non))) (tTest (tOp rEq (tOp (rIxT K) (tVar 3) (tC (.int 0))) (tVar 5)))) (tAsg (tCB RMin2 (tCons (tVar 4) (tCons (tOp RAdd (tVar 6) (tOp (rIxT K) (tVar 3) (tC (.int 1)))) tNil))) (gName 4)) tNext)))
  (tRet (tVar 4))))
/-- callees: ; builtins: min, max  -/
theorem dv_law_time_at {P : Program} {w : World} {K : PySem.W.Frag} {mg : Str → Option Value} {base : Heap} {T : List (Addr × Str)} {f : Addr} (B : Bi mg) (cdv : Value) (A : Around) (outer : List PySem.Env) (s : Shared) (H : Hp) (E : XK)
    (hr : Room M_law_time_at (A.deeper (envOfC "_law_time_at" (defScope s_law_time_at) s.heap.objs.size f cdv))) :
    PSs (cxOf CX0 P w K mg base N_law_time_at "_law_time_at" (defScope s_law_time_at) f cdv A outer s H E).nox (defBody s_law_time_at) (t_law_time_at K T) := by
  have nd := sc_law_time_at.nd
  exact (pss_cons (ps_asg (pv 1) (pg_tup rfl (pgs_cons (pg_name (i := 2) nd rfl (Or.inl rfl)) (pgs_cons (pg_name (i := 3) nd rfl (Or.inl rfl)) (pgs_cons (pg_name (i := 4) nd rfl (Or.inl rfl)) pgs_nil)))))
  (pss_cons (ps_for PassesOwn.never rfl (pi_tup (pv 0)) (pg_tup rfl (pgs_cons (pg_name (i := 5) nd rfl (Or.inl rfl)) (pgs_cons (pg_name (i := 6) nd rfl (Or.inl rfl)) pgs_nil))) (pss_cons (ps_if (PW.pt (pw_and (pt_cmpR op_notN (pv 2) pe_non (nomark _)) (pw_and1 (pt_cmpR op_eq (pe_ix ix_tup (pv 2) pe_int (fun _ _ => rfl)) (pv 5) (nomark _))))) (pss_one (ps_set (i := 4) nd rfl (Or.inl rfl) (pe_callB (call_max2 rfl) (by rfl) B.max (by decide +kernel) (pa_cons (pv 4) (pa_cons (pe_op op_sub (pv 6) (pe_ix ix_tup (pv 2) pe_int (fun _ _ => rfl))) pa_nil))))) pss_nil)
  (pss_one (ps_if (PW.pt (pw_and (pt_cmpR op_notN (pv 3) pe_non (nomark _)) (pw_and1 (pt_cmpR op_eq (pe_ix ix_tup (pv 3) pe_int (fun _ _ => rfl)) (pv 5) (nomark _))))) (pss_one (ps_set (i := 4) nd rfl (Or.inl rfl) (pe_callB (call_min2 rfl) (by rfl) B.min (by decide +kernel) (pa_cons (pv 4) (pa_cons (pe_op op_add (pv 6) (pe_ix ix_tup (pv 3) pe_int (fun _ _ => rfl))) pa_nil))))) pss_nil))))
  (pss_one (ps_ret (pv 4)))))
/-! ### _law_told_places: slots 0 _law_first, 1 _law_second, 2 _law_news_here, 3 _law_events, 4 _law_found, 5 _law_upper, 6 _law_lower, 7 _law_bounds, 8 _law_event, 9 _law_time, 10 _law_other, 11 _law_before, 12 _law_bound, 13 _law_place, 14 _law_one, 15 _law_start -/
theorem sc_law_told_places : FnScope N_law_told_places p_law_told_places (defScope s_law_told_places) := ⟨rfl, rfl, rfl, by decide +kernel, rfl, by decide +kernel, by decide +kernel⟩
def t_law_told_places (K : PySem.W.Frag) (T : List (Addr × Str)) : TS :=
  (tSeq (tAsg (tOp (rCatA K) (tVar 0) (tVar 1)) (gName 2))
  (tSeq (tAsg (tCB (rSortedI K) (tCons (tLc (iRng1 (tCons (tC (.int 6)) tNil)) (gName 8) (tTest (tOp (rIn K false) (tVar 8) (tLc (iTup K (tVar 2)) (gTup K 2 (gCons (gName 14) (gCons (gName 9) gNil))) tYes (tVar 14) [14, 9]))) (tVar 8) [8]) tNil)) (gName 3))
  (tSeq (tAsg (tOp rCat (tLc (iList K (tVar 3)) (gName 8) tYes (tTup (tCons (tTup (tCons (tVar 8) (tCons (tC (.int 0)) tNil))) (tCons (tC .non) (tCons (tUn RNeg (tC (.int 10000))) tNil)))) [8]) (tLc (iList K (tVar 3)) (gName 8) tYes (tTup (tCons (tC .non) (tCons (tTup (tCons (tVar 8) (tCons (tC (.int 0)) tNil))) (tCons (tC (.int 10000)) tNil)))) [8])) (gName 4))
  (tSeq (tFor (iList K (tVar 3)) (gName 5) (tFor (iList K (tVar 3)) (gName 6) (tSeq (tAsg (tLst tNil) (gName 7))
  (tSeq (tFor (iTup K (tVar 2)) (gTup K 2 (gCons (gName 8) (gCons (gName 9) gNil))) (tFor (iTup K (tVar 2)) (gTup K 2 (gCons (gName 10) (gCons (gName 11) gNil))) (tIfS (tAnd (tTest (tOp rEq (tVar 8) (tVar 5))) (tTest (tOp rEq (tVar 10) (tVar 6)))) (tAsg (tOp rCat (tVar 7) (tLc (iList K (tLst (tCons (tOp RSub (tVar 9) (tVar 11)) (tCons (tOp RSub (tOp RSub (tVar 9) (tVar 11)) (tC (.int 1))) tNil)))) (gName 12) (tTest (tOp (rIn K true) (tVar 12) (tVar 7))) (tVar 12) [12])) (gName 7)) tNext)))
  (tFor (iList K (tCB (rSortedI K) (tCons (tVar 7) tNil))) (gName 12) (tAsg (tOp rCat (tVar 4) (tLc (iList K (tLst (tCons (tUn RNeg (tC (.int 10000))) (tCons (tC (.int 10000)) tNil)))) (gName 15) tYes (tTup (tCons (tTup (tCons (tVar 5) (tCons (tVar 12) tNil))) (tCons (tTup (tCons (tVar 6) (tCons (tC (.int 0)) tNil))) (tCons (tVar 15) tNil)))) [15])) (gName 4)))))))
  (tRet (tLc (iList K (tVar 4)) (gName 13) (tB (tCall (sp_law_is_place K T) [] E0 (tCons (tVar 13) tNil))) (tVar 13) [13]))))))
/-- callees: law_is_place; builtins: sorted, range  -/
theorem dv_law_told_places {P : Program} {w : World} {K : PySem.W.Frag} {mg : Str → Option Value} {base : Heap} {T : List (Addr × Str)} {f : Addr} (c_law_is_place : Cal P w K mg base "_law_is_place" p_law_is_place L_law_is_place (sp_law_is_place K T)) (B : Bi mg) (cdv : Value) (A : Around) (outer : List PySem.Env) (s : Shared) (H : Hp) (E : XK)
    (hr : Room M_law_told_places (A.deeper (envOfC "_law_told_places" (defScope s_law_told_places) s.heap.objs.size f cdv))) :
    PSs (cxOf CX0 P w K mg base N_law_told_places "_law_told_places" (defScope s_law_told_places) f cdv A outer s H E).nox (defBody s_law_told_places) (t_law_told_places K T) := by
  obtain ⟨f_law_is_place, fd_law_is_place, G_law_is_place, b_law_is_place, m_law_is_place, k_law_is_place⟩ := c_law_is_place
  have nd := sc_law_told_places.nd
  exact (pss_cons (ps_set (i := 2) nd rfl (Or.inr rfl) (pe_op op_catA (pv 0) (pv 1)))
  (pss_cons (ps_set (i := 3) nd rfl (Or.inl rfl) (pe_callB cr_sortedI (by rfl) B.sorted (by decide +kernel) (pa_cons (pe_lc (own := [("_law_event", 8)]) (by rfl) nd (pi_range1 (by rfl) B.range (pa_cons pe_int pa_nil)) (blkOk_by (N := N_law_told_places) (by kernel_rfl)) (fun _ _ _ _ _ => (pg_name (i := 8) nd rfl (Or.inl rfl))) (fun _ _ _ _ _ => (pts_one (pt_cmpR op_in_seq (pv 8) (pe_lc (own := [("_law_one", 14), ("_law_time", 9)]) (by rfl) nd (pi_tup (pv 2)) (blkOk_by (N := N_law_told_places) (by kernel_rfl)) (fun _ _ _ _ _ => (pg_tup rfl (pgs_cons (pg_name (i := 14) nd rfl (Or.inl rfl)) (pgs_cons (pg_name (i := 9) nd rfl (Or.inl rfl)) pgs_nil)))) (fun _ _ _ _ _ => pts_nil) (fun _ _ _ _ _ => (pv 14))) (by rfl)))) (fun _ _ _ _ _ => (pv 8))) pa_nil)))
  (pss_cons (ps_set (i := 4) nd rfl (Or.inl rfl) (pe_op op_cat (pe_lc (own := [("_law_event", 8)]) (by rfl) nd (pi_list (pv 3)) (blkOk_by (N := N_law_told_places) (by kernel_rfl)) (fun _ _ _ _ _ => (pg_name (i := 8) nd rfl (Or.inl rfl))) (fun _ _ _ _ _ => pts_nil) (fun _ _ _ _ _ => (pe_tup (pa_cons (pe_tup (pa_cons (pv 8) (pa_cons pe_int pa_nil))) (pa_cons pe_non (pa_cons (pe_un un_neg pe_int) pa_nil)))))) (pe_lc (own := [("_law_event", 8)]) (by rfl) nd (pi_list (pv 3)) (blkOk_by (N := N_law_told_places) (by kernel_rfl)) (fun _ _ _ _ _ => (pg_name (i := 8) nd rfl (Or.inl rfl))) (fun _ _ _ _ _ => pts_nil) (fun _ _ _ _ _ => (pe_tup (pa_cons pe_non (pa_cons (pe_tup (pa_cons (pv 8) (pa_cons pe_int pa_nil))) (pa_cons pe_int pa_nil))))))))
  (pss_cons (ps_for PassesOwn.never rfl (pi_list (pv 3)) (pg_name (i := 5) nd rfl (Or.inr rfl)) (pss_one (ps_for PassesOwn.never rfl (pi_list (pv 3)) (pg_name (i := 6) nd rfl (Or.inr rfl)) (pss_cons (ps_set (i := 7) nd rfl (Or.inr rfl) (pe_lst pa_nil))
  (pss_cons (ps_for PassesOwn.never rfl (pi_tup (pv 2)) (pg_tup rfl (pgs_cons (pg_name (i := 8) nd rfl (Or.inl rfl)) (pgs_cons (pg_name (i := 9) nd rfl (Or.inl rfl)) pgs_nil))) (pss_one (ps_for PassesOwn.never rfl (pi_tup (pv 2)) (pg_tup rfl (pgs_cons (pg_name (i := 10) nd rfl (Or.inl rfl)) (pgs_cons (pg_name (i := 11) nd rfl (Or.inl rfl)) pgs_nil))) (pss_one (ps_if (PW.pt (pw_and (pt_cmpR op_eq (pv 8) (pv 5) (nomark _)) (pw_and1 (pt_cmpR op_eq (pv 10) (pv 6) (nomark _))))) (pss_one (ps_set (i := 7) nd rfl (Or.inr rfl) (pe_op op_cat (pv 7) (pe_lc (own := [("_law_bound", 12)]) (by rfl) nd (pi_list (pe_lst (pa_cons (pe_op op_sub (pv 9) (pv 11)) (pa_cons (pe_op op_sub (pe_op op_sub (pv 9) (pv 11)) pe_int) pa_nil)))) (blkOk_by (N := N_law_told_places) (by kernel_rfl)) (fun _ _ _ _ _ => (pg_name (i := 12) nd rfl (Or.inl rfl))) (fun _ _ _ _ _ => (pts_one (pt_cmpR op_notIn_seq (pv 12) (pv 7) (by rfl)))) (fun _ _ _ _ _ => (pv 12)))))) pss_nil)))))
  (pss_one (ps_for PassesOwn.never rfl (pi_list (pe_callB cr_sortedI (by rfl) B.sorted (by decide +kernel) (pa_cons (pv 7) pa_nil))) (pg_name (i := 12) nd rfl (Or.inr rfl)) (pss_one (ps_set (i := 4) nd rfl (Or.inl rfl) (pe_op op_cat (pv 4) (pe_lc (own := [("_law_start", 15)]) (by rfl) nd (pi_list (pe_lst (pa_cons (pe_un un_neg pe_int) (pa_cons pe_int pa_nil)))) (blkOk_by (N := N_law_told_places) (by kernel_rfl)) (fun _ _ _ _ _ => (pg_name (i := 15) nd rfl (Or.inl rfl))) (fun _ _ _ _ _ => pts_nil) (fun _ _ _ _ _ => (pe_tup (pa_cons (pe_tup (pa_cons (pv 5) (pa_cons (pv 12) pa_nil))) (pa_cons (pe_tup (pa_cons (pv 6) (pa_cons pe_int pa_nil))) (pa_cons (pv 15) pa_nil))))))))))))))))
  (pss_one (ps_ret (pe_lc (own := [("_law_place", 13)]) (by rfl) nd (pi_list (pv 4)) (blkOk_by (N := N_law_told_places) (by kernel_rfl)) (fun _ _ _ _ _ => (pg_name (i := 13) nd rfl (Or.inl rfl))) (fun _ _ _ _ _ => (pts_one (pt_val (pe_call G_law_is_place (hr.mono (by decide)) (by rfl) m_law_is_place k_law_is_place b_law_is_place .nil pass0 (pa_cons (pv 13) pa_nil))))) (fun _ _ _ _ _ => (pv 13)))))))))
/-! ### _law_separation: slots 0 _law_first, 1 _law_second, 2 _law_place -/
theorem sc_law_separation : FnScope N_law_separation p_law_separation (defScope s_law_separation) := ⟨rfl, rfl, rfl, by decide +kernel, rfl, by decide +kernel, by decide +kernel⟩
def t_law_separation (K : PySem.W.Frag) (T : List (Addr × Str)) : TS :=
  (tSeq (tFor (iList K (tCall (sp_law_told_places K T) [] E0 (tCons (tVar 0) (tCons (tVar 1) tNil)))) (gName 2) (tIfS (tTest (tOp rNe (tCall (sp_law_time_at K T) [] E0 (tCons (tVar 0) (tCons (tVar 2) tNil))) (tCall (sp_law_time_at K T) [] E0 (tCons (tVar 1) (tCons (tVar 2) tNil))))) (tRet (tVar 2)) tNext))
  (tRet (tC .non)))
/-- callees: law_told_places, law_time_at; builtins:   -/
theorem dv_law_separation {P : Program} {w : World} {K : PySem.W.Frag} {mg : Str → Option Value} {base : Heap} {T : List (Addr × Str)} {f : Addr} (c_law_told_places : Cal P w K mg base "_law_told_places" p_law_told_places L_law_told_places (sp_law_told_places K T)) (c_law_time_at : Cal P w K mg base "_law_time_at" p_law_time_at L_law_time_at (sp_law_time_at K T)) (cdv : Value) (A : Around) (outer : List PySem.Env) (s : Shared) (H : Hp) (E : XK)
    (hr : Room M_law_separation (A.deeper (envOfC "_law_separation" (defScope s_law_separation) s.heap.objs.size f cdv))) :
    PSs (cxOf CX0 P w K mg base N_law_separation "_law_separation" (defScope s_law_separation) f cdv A outer s H E).nox (defBody s_law_separation) (t_law_separation K T) := by
  obtain ⟨f_law_told_places, fd_law_told_places, G_law_told_places, b_law_told_places, m_law_told_places, k_law_told_places⟩ := c_law_told_places
  obtain ⟨f_law_time_at, fd_law_time_at, G_law_time_at, b_law_time_at, m_law_time_at, k_law_time_at⟩ := c_law_time_at
  have nd := sc_law_separation.nd
  exact (pss_cons (ps_for PassesOwn.never rfl (pi_list (pe_call G_law_told_places (hr.mono (by decide)) (by rfl) m_law_told_places k_law_told_places b_law_told_places .nil pass0 (pa_cons (pv 0) (pa_cons (pv 1) pa_nil)))) (pg_name (i := 2) nd rfl (Or.inl rfl)) (pss_one (ps_if (pt_cmpR op_ne (pe_call G_law_time_at (hr.mono (by decide)) (by rfl) m_law_time_at k_law_time_at b_law_time_at .nil pass0 (pa_cons (pv 0) (pa_cons (pv 2) pa_nil))) (pe_call G_law_time_at (hr.mono (by decide)) (by rfl) m_law_time_at k_law_time_at b_law_time_at .nil pass0 (pa_cons (pv 1) (pa_cons (pv 2) pa_nil))) (nomark _)) (pss_one (ps_ret (pv 2))) pss_nil)))
  (pss_one (ps_ret pe_non)))
theorem lf_dSide (u : Side) : lf (dSide u) = true := by
  cases u with
  | none => simp [dSide, lf]
  | some p => exact lf_dP p
theorem lf_dPl (p : Place) : lf (dPl p) = true := by simp [dPl, lf, lfAll, lf_dSide]
theorem none_dSide (u : Side) : isNone (dSide u) = u.isNone := by cases u <;> rfl
theorem timeAt_app (u l : Side) : ∀ (a b : Row) (x : Int), timeAt u l (a ++ b) x = timeAt u l b (timeAt u l a x)
  | [], _, _ => rfl
  | p :: a, b, x => timeAt_app u l a b _
theorem ss_seqM {W : Wd} {ts tv : TS} {Γ : Gm} {N : Gm → Prop} {R : PyData → Prop} (M : Gm → Prop) (x : Ss W ts Γ M R) (y : ∀ Γ', M Γ' → Ss W tv Γ' N R) : Ss W (tSeq ts tv) Γ N R := ss_seq fun σ H e am D hn hr => x σ H e am D (fun σ' H' Γ' s a e' m => hn σ' H' Γ' s a e' (y Γ' m)) hr
section
variable {W : Wd} {ds : List PyData} {P : PyData → Prop}
theorem ss_law_is_side (h : C_law_is_side ds P) : Ss W (t_law_is_side W.K W.T) (startG N_law_is_side.length ds) (fun _ => P .none) P := by
  obtain ⟨u, rfl, h⟩ := h
  unfold t_law_is_side
  cases u with
  | none =>
    unfold dSide
    walk_at "ens"
    refine ⟨true, rfl, andT ?_⟩
    walk_at "ens"
    exact h true
  | some p =>
    unfold dSide
    walk_at "ens"
    refine ⟨false, rfl, andF ?_⟩
    walk_at "ens"
    refine ⟨true, kit_tup_tup, true, rfl, orF ?_⟩
    walk_at "ens"
    refine ⟨false, rfl, orF ?_⟩
    walk_at "ens"
    refine ⟨p.1, rfl, true, rfl, orF ?_⟩
    walk_at "ens"
    refine ⟨p.2, rfl, true, rfl, andF ?_⟩
    walk_at "ens"
    refine ⟨_, rfl, fun c1 => ?_, fun c1 => ?_⟩
    · walk_at "ens"
      refine ⟨_, rfl, fun c2 => ?_, fun c2 => h false⟩
      walk_at "ens"
      refine ⟨_, rfl, fun c3 => ?_, fun c3 => h false⟩
      walk_at "ens"
      exact h _
    · exact ⟨_, rfl, (fun z => nomatch z), fun _ => h false⟩
theorem ss_law_is_place (h : C_law_is_place ds P) : Ss W (t_law_is_place W.K W.T) (startG N_law_is_place.length ds) (fun _ => P .none) P := by
  obtain ⟨⟨u, l, x⟩, rfl, h⟩ := h
  have hF : P (.bool false) := h false (fun z => nomatch z)
  unfold t_law_is_place dPl
  walk_at "ens"
  refine ⟨true, kit_tup_tup, true, rfl, orF ?_⟩
  walk_at "ens"
  refine ⟨false, rfl, orF ?_⟩
  walk_at "ens"
  refine ⟨u, rfl, fun b => ⟨b, rfl, ?_⟩⟩
  have fin : ∀ N : Gm → Prop, Ss W (tRet (tC (.bl false))) [some (.tuple [dSide u, dSide l, .int x]), none, none, none] N P := fun N => by
    walk_at "ens"
    exact hF
  cases b with
  | false => exact orT (andT (fin _))
  | true =>
    refine orF ?_
    walk_at "ens"
    refine ⟨l, rfl, fun b => ⟨b, rfl, ?_⟩⟩
    cases b with
    | false => exact andT (fin _)
    | true =>
      refine andF ?_
      walk_at "ens"
      refine ⟨x, rfl, true, rfl, orF ?_⟩
      walk_at "ens"
      refine ⟨_, rfl, fun c1 => ?_, fun c1 => ⟨false, rfl, andT (fin _)⟩⟩
      walk_at "ens"
      refine ⟨_, rfl, fun _ => fin _, fun _ => ?_⟩
      walk_at "ens"
      refine ss_asgG [1, 2, 3] ?_
      walk_at "ens"
      cases u with
      | none =>
        refine ⟨true, rfl, (fun z => nomatch z), fun _ => h true fun _ a b ha => nomatch ha⟩
      | some a =>
        refine ⟨false, rfl, fun _ => ?_, fun z => nomatch z⟩
        walk_at "ens"
        cases l with
        | none => refine ⟨true, rfl, (fun z => nomatch z), fun _ => h true fun _ a b _ hb => nomatch hb⟩
        | some b =>
          refine ⟨false, rfl, fun _ => ?_, fun z => nomatch z⟩
          unfold dSide
          walk_at "ens"
          refine ⟨_, rfl, fun c2 => ?_, fun c2 => h true fun _ a' b' ha hb he => ?_⟩
          · walk_at "ens"
            refine h _ fun c3 a' b' ha hb _ => ?_
            cases ha
            cases hb
            exact of_decide_eq_true c3
          · cases ha
            cases hb
            rw [decide_eq_true he] at c2
            cases c2
theorem ss_law_time_at (h : C_law_time_at ds P) : Ss W (t_law_time_at W.K W.T) (startG N_law_time_at.length ds) (fun _ => P .none) P := by
  obtain ⟨r, ⟨u, l, x⟩, rfl, h⟩ := h
  unfold t_law_time_at dPl dRow
  walk_at "ens"
  refine ss_asgG [2, 3, 4] ?_
  walk_at "ens"
  refine ss_for [5, 6] (ei_tup ?_)
  walk_at "ens"
  refine ⟨fun i Γ => ∃ x5 x6, Γ = [some (.tuple (r.map dP)), some (.tuple [dSide u, dSide l, .int x]), some (dSide u), some (dSide l), some (.int (timeAt u l (r.take i) x)), x5, x6], ⟨_, _, rfl⟩, ?_, ?_⟩
  · rintro i d Γ hd ⟨x5, x6, rfl⟩
    obtain ⟨p, hp, rfl⟩ := get_map_some hd
    have et : timeAt u l (r.take (i + 1)) x = act u l (act u l (timeAt u l (r.take i) x) (true, p.1, p.2)) (false, p.1, p.2) := by
      rw [List.take_add_one, hp, timeAt_app]
      rfl
    dsimp only
    rw [et]
    generalize timeAt u l (r.take i) x = t
    iterate 6 walk_at "en"
    refine ss_seqM (fun Γ => Γ = [some (.tuple (r.map dP)), some (.tuple [dSide u, dSide l, .int x]), some (dSide u), some (dSide l), some (.int (act u l t (true, p.1, p.2))), some (.int p.1), some (.int p.2)]) (ss_if ?_) ?_
    · cases u with
      | none =>
        unfold dSide
        walk_at "ens"
        refine ⟨false, rfl, andF (andF (ss_next rfl))⟩
      | some a =>
        unfold dSide
        walk_at "ens"
        refine ⟨true, rfl, andT ?_⟩
        walk_at "ens"
        refine ⟨_, rfl, fun c => ?_, fun c => ss_next ?_⟩
        · walk_at "ens"
          have c' := of_decide_eq_true c
          simp [act, c']
        · have c' := of_decide_eq_false c
          simp [act, c']
    · rintro Γ rfl
      generalize act u l t (true, p.1, p.2) = t
      refine ss_if ?_
      cases l with
      | none =>
        unfold dSide
        walk_at "ens"
        refine ⟨false, rfl, andF (andF (ss_next ⟨_, _, rfl⟩))⟩
      | some a =>
        unfold dSide
        walk_at "ens"
        refine ⟨true, rfl, andT ?_⟩
        walk_at "ens"
        refine ⟨_, rfl, fun c => ?_, fun c => ss_next ⟨some (.int p.1), some (.int p.2), ?_⟩⟩
        · walk_at "ens"
          have c' := of_decide_eq_true c
          exact ⟨some (.int p.1), some (.int p.2), by simp [act, c']⟩
        · have c' := of_decide_eq_false c
          simp [act, c']
  · rintro Γ ⟨x5, x6, rfl⟩
    walk_at "ens"
    have e : r.take (r.map dP).length = r := List.take_of_length_le (by rw [List.length_map]; exact Nat.le_refl _)
    rw [e]
    exact h
theorem ss_law_separation (h : C_law_separation ds P) : Ss W (t_law_separation W.K W.T) (startG N_law_separation.length ds) (fun _ => P .none) P := by
  obtain ⟨r1, r2, rfl, l1, l2, e, h⟩ := h
  unfold t_law_separation
  walk_at "ens"
  refine ss_for [2] (ei_list ?_)
  walk_at "ens"
  refine ⟨r1, r2, rfl, l1, l2, fun ps hps => ?_⟩
  walk_at "ens"
  refine ⟨fun i Γ => ∃ x, Γ = [some (dRow r1), some (dRow r2), x], ⟨_, rfl⟩, ?_, ?_⟩
  · rintro i d Γ hd ⟨x, rfl⟩
    obtain ⟨p, hp, rfl⟩ := get_map_some hd
    walk_at "ens"
    refine ⟨r1, p, rfl, ?_⟩
    walk_at "ens"
    refine ⟨r2, p, rfl, ?_⟩
    walk_at "ens"
    refine ⟨false, by rw [e p.1 p.2.1 p.2.2 (hps p (List.mem_of_getElem? hp)), decide_eq_true rfl]; rfl, andF ?_⟩
    walk_at "ens"
    exact ⟨_, rfl⟩
  · rintro Γ ⟨x, rfl⟩
    walk_at "ens"
    exact h
end

theorem lf_dPls (ps : List Place) : lfAll (ps.map dPl) = true := lfAll_map dPl lf_dPl ps
def Tp (f1 f2 nw : PyData) (es : List Int) (u l : Option PyData) (ps : List Place) (Γ : Gm) : Prop := ∃ x7 x8 x9 x10 x11 x12 x13 x14 x15, Γ = [some f1, some f2, some nw, some (.list (es.map .int)), some (.list (ps.map dPl)), u, l, x7, x8, x9, x10, x11, x12, x13, x14, x15]
def Tb (f1 f2 nw : PyData) (es : List Int) (u l : Int) (ps : List Place) (bs : List Int) (Γ : Gm) : Prop := ∃ x8 x9 x10 x11 x12 x13 x14 x15, Γ = [some f1, some f2, some nw, some (.list (es.map .int)), some (.list (ps.map dPl)), some (.int u), some (.int l), some (.list (bs.map .int)), x8, x9, x10, x11, x12, x13, x14, x15]
theorem ss_ifE {W : Wd} {tt : TT} {tx ty : TS} {Γ : Gm} {N : Gm → Prop} {R : PyData → Prop} (h : EvT W tt Γ fun b => b = true → Ss W tx Γ N R) (y : Ss W ty Γ N R) : Ss W (tIfS tt tx ty) Γ N R := ss_if fun σ H e am Q q => h σ H e am Q fun b H2 s a p => q b H2 s a ⟨p, fun _ => y⟩
section
variable {W : Wd} {ds : List PyData} {P : PyData → Prop}
theorem ss_law_told_places (h : C_law_told_places ds P) : Ss W (t_law_told_places W.K W.T) (startG N_law_told_places.length ds) (fun _ => P .none) P := by
  obtain ⟨r1, r2, rfl, l1, l2, h⟩ := h
  unfold t_law_told_places dRow
  walk_at "ens"
  refine ro_catT (by rw [List.length_map, List.length_map]; omega) ?_
  rw [← List.map_append]
  have ln : (r1 ++ r2).length ≤ 16 := by
    rw [List.length_append]
    omega
  generalize r1 ++ r2 = nw at *
  generalize PyData.tuple (r1.map dP) = f1
  generalize PyData.tuple (r2.map dP) = f2
  refine ss_seqM (fun Γ => ∃ es : List Int, es.length ≤ 6 ∧ ∃ x4 x5 x6 x7 x8 x9 x10 x11 x12 x13 x14 x15, Γ = [some f1, some f2, some (.tuple (nw.map dP)), some (.list (es.map .int)), x4, x5, x6, x7, x8, x9, x10, x11, x12, x13, x14, x15]) ?_ ?_
  · walk_at "ens"
    refine EvL.ev (el_lc (ei_rng1 ?_))
    walk_at "ens"
    refine ⟨6, rfl, by omega, by omega, fun i acc => ∃ es : List Int, acc = es.map .int ∧ es.length ≤ i, ⟨[], rfl, Nat.le_refl _⟩, by rw [rgD_len]; show 6 ≤ 100000; omega, ?_, ?_⟩
    · rintro i d acc hd ⟨es, rfl, hl⟩
      obtain ⟨hi, rfl⟩ := rgD_get hd
      walk_at "ens"
      refine EvL.ev (el_lc (ei_tup ?_))
      walk_at "ens"
      refine ⟨fun k acc => acc = ((nw.take k).map Prod.fst).map .int, rfl, by rw [List.length_map]; omega, ?_, ?_⟩
      · rintro k d acc hd rfl
        obtain ⟨p, hp, rfl⟩ := get_map_some hd
        walk_at "ens"
        refine et_yes (andT ?_)
        walk_at "ens"
        refine ⟨lf_int _, ?_⟩
        dsimp only
        rw [List.map_map, List.map_map]
        exact take_map_snoc (PyData.int ∘ Prod.fst) hp
      · rintro acc rfl
        refine ro_in ?_
        refine ⟨_, rfl, fun _ => ?_, fun _ => ⟨es, rfl, Nat.le_succ_of_le hl⟩⟩
        walk_at "ens"
        exact ⟨lf_int _, es ++ [_], by rw [List.map_append]; rfl, by rw [List.length_append, List.length_singleton]; omega⟩
    · rintro acc ⟨es, rfl, hl⟩
      rw [rgD_len] at hl
      have hl : es.length ≤ 6 := hl
      walk_at "ens"
      refine RCL.rc (rcl_sortedI fun ns hp _ => ⟨ns, by rw [hp.length_eq]; exact hl, _, _, _, _, _, _, _, _, _, _, _, _, rfl⟩)
  rintro Γ ⟨es, le, x4, x5, x6, x7, x8, x9, x10, x11, x12, x13, x14, x15, rfl⟩
  refine ss_seqM (fun Γ => ∃ ps : List Place, ps.length ≤ 12 ∧ ∃ x5 x6, Tp f1 f2 (.tuple (nw.map dP)) es x5 x6 ps Γ) ?_ ?_
  · walk_at "ens"
    refine EvL.ev (el_lc (ei_list ?_))
    walk_at "ens"
    refine ⟨fun k acc => acc = (es.take k).map fun e => dPl (some (e, 0), none, -10000), rfl, by rw [List.length_map]; omega, ?_, ?_⟩
    · rintro k d acc hd rfl
      obtain ⟨e, he, rfl⟩ := get_map_some hd
      walk_at "ens"
      refine et_yes (andT ?_)
      walk_at "ens"
      exact ⟨by simp [lf, lfAll], take_map_snoc (fun e : Int => dPl (some (e, 0), none, -10000)) he⟩
    · rintro acc rfl
      walk_at "ens"
      refine EvL.ev (el_lc (ei_list ?_))
      walk_at "ens"
      refine ⟨fun k acc => acc = (es.take k).map fun e => dPl (none, some (e, 0), 10000), rfl, by rw [List.length_map]; omega, ?_, ?_⟩
      · rintro k d acc hd rfl
        obtain ⟨e, he, rfl⟩ := get_map_some hd
        walk_at "ens"
        refine et_yes (andT ?_)
        walk_at "ens"
        exact ⟨by simp [lf, lfAll], take_map_snoc (fun e : Int => dPl (none, some (e, 0), 10000)) he⟩
      · rintro acc rfl
        have e : es.take (es.map PyData.int).length = es := List.take_of_length_le (by rw [List.length_map]; exact Nat.le_refl _)
        rw [e]
        refine ro_catL (by rw [List.length_map, List.length_map]; omega) ?_
        refine ⟨(es.map fun e => ((some (e, 0), none, -10000) : Place)) ++ es.map fun e => ((none, some (e, 0), 10000) : Place), by rw [List.length_append, List.length_map, List.length_map]; omega, x5, x6, x7, x8, x9, x10, x11, x12, x13, x14, x15, ?_⟩
        rw [List.map_append, List.map_map, List.map_map]
        rfl
  rintro Γ ⟨ps, lp, x5, x6, x7, x8, x9, x10, x11, x12, x13, x14, x15, rfl⟩
  refine ss_seqM (fun Γ => ∃ (ps : List Place) (x5 x6 : Option PyData), ps.length ≤ 100000 ∧ Tp f1 f2 (.tuple (nw.map dP)) es x5 x6 ps Γ) (ss_for [5] (ei_list ?_)) ?_
  · walk_at "ens"
    refine ⟨fun i Γ => ∃ (ps : List Place) (x5 x6 : Option PyData), ps.length ≤ 12 + i * 6150 ∧ Tp f1 f2 (.tuple (nw.map dP)) es x5 x6 ps Γ, ⟨ps, x5, x6, by omega, _, _, _, _, _, _, _, _, _, rfl⟩, ?_, ?_⟩
    · clear lp x5 x6 x7 x8 x9 x10 x11 x12 x13 x14 x15 ps
      rintro i d Γ hd ⟨ps, x5, x6, lp, x7, x8, x9, x10, x11, x12, x13, x14, x15, rfl⟩
      obtain ⟨u, hu, rfl⟩ := get_map_some hd
      have hi : i < es.length := (List.getElem?_eq_some_iff.mp hu).1
      walk_at "ens"
      refine ss_for [6] (ei_list ?_)
      walk_at "ens"
      refine ⟨fun j Γ => ∃ (ps : List Place) (x6 : Option PyData), ps.length ≤ 12 + i * 6150 + j * 1025 ∧ Tp f1 f2 (.tuple (nw.map dP)) es (some (.int u)) x6 ps Γ, ⟨ps, x6, by omega, _, _, _, _, _, _, _, _, _, rfl⟩, ?_, ?_⟩
      · clear lp x6 x7 x8 x9 x10 x11 x12 x13 x14 x15 ps
        rintro j d Γ hd ⟨ps, x6, lp, x7, x8, x9, x10, x11, x12, x13, x14, x15, rfl⟩
        obtain ⟨l, hu, rfl⟩ := get_map_some hd
        have hj : j < es.length := (List.getElem?_eq_some_iff.mp hu).1
        walk_at "ens"
        refine ss_for [8, 9] (ei_tup ?_)
        walk_at "ens"
        refine ⟨fun a Γ => ∃ bs : List Int, bs.length ≤ 32 * a ∧ Tb f1 f2 (.tuple (nw.map dP)) es u l ps bs Γ, ⟨[], Nat.le_refl _, _, _, _, _, _, _, _, _, rfl⟩, ?_, ?_⟩
        · clear x7 x8 x9 x10 x11 x12 x13 x14 x15
          rintro a d Γ hd ⟨bs, lb, x8, x9, x10, x11, x12, x13, x14, x15, rfl⟩
          obtain ⟨p, hp, rfl⟩ := get_map_some hd
          have ha : a < nw.length := (List.getElem?_eq_some_iff.mp hp).1
          walk_at "ens"
          refine ss_for [10, 11] (ei_tup ?_)
          walk_at "ens"
          refine ⟨fun b Γ => ∃ bs : List Int, bs.length ≤ 32 * a + 2 * b ∧ ∃ x10 x11 x12 x13 x14 x15, Γ = [some f1, some f2, some (.tuple (nw.map dP)), some (.list (es.map .int)), some (.list (ps.map dPl)), some (.int u), some (.int l), some (.list (bs.map .int)), some (.int p.1), some (.int p.2), x10, x11, x12, x13, x14, x15], ⟨bs, by omega, _, _, _, _, _, _, rfl⟩, ?_, ?_⟩
          · clear lb x8 x9 x10 x11 x12 x13 x14 x15 bs
            rintro b d Γ hd ⟨bs, lb, x10, x11, x12, x13, x14, x15, rfl⟩
            obtain ⟨q, hq, rfl⟩ := get_map_some hd
            have hb : b < nw.length := (List.getElem?_eq_some_iff.mp hq).1
            iterate 6 walk_at "en"
            refine ss_ifE ?_ (ss_next ⟨bs, by omega, _, _, _, _, _, _, rfl⟩)
            walk_at "ens"
            refine ⟨_, rfl, fun c1 => ?_, fun _ z => nomatch z⟩
            walk_at "ens"
            refine ⟨_, rfl, fun c2 => ?_⟩
            walk_at "ens"
            refine EvL.ev (el_lc (ei_list ?_))
            walk_at "ens"
            refine ⟨fun k acc => ∃ cs : List Int, acc = cs.map .int ∧ cs.length ≤ k, ⟨[], rfl, Nat.le_refl _⟩, by show 2 ≤ 100000; omega, ?_, ?_⟩
            · rintro k d acc hd ⟨cs, rfl, lc⟩
              obtain ⟨z, hz, rfl⟩ := get_map_some (l := [p.2 - q.2, p.2 - q.2 - 1]) (f := PyData.int) hd
              walk_at "ens"
              refine ro_notIn (ns := bs) ?_
              refine ⟨_, rfl, fun _ => ?_, fun _ => ⟨cs, rfl, Nat.le_succ_of_le lc⟩⟩
              walk_at "ens"
              exact ⟨lf_int _, cs ++ [z], by rw [List.map_append]; rfl, by rw [List.length_append, List.length_singleton]; omega⟩
            · rintro acc ⟨cs, rfl, lc⟩
              have lc : cs.length ≤ 2 := lc
              refine ro_catL (by rw [List.length_map, List.length_map]; omega) ?_
              rw [← List.map_append]
              exact ⟨bs ++ cs, by rw [List.length_append]; omega, _, _, _, _, _, _, rfl⟩
          · rintro Γ ⟨bs, lb, x10, x11, x12, x13, x14, x15, rfl⟩
            rw [List.length_map] at lb
            exact ⟨bs, by omega, _, _, _, _, _, _, _, _, rfl⟩
        · clear x7 x8 x9 x10 x11 x12 x13 x14 x15
          rintro Γ ⟨bs, lb, x8, x9, x10, x11, x12, x13, x14, x15, rfl⟩
          rw [List.length_map] at lb
          refine ss_for [12] (ei_list ?_)
          walk_at "ens"
          refine RCL.rc (rcl_sortedI fun ns hp _ => ⟨_, rfl, ?_⟩)
          have lns : ns.length ≤ 512 := by
            rw [hp.length_eq]
            omega
          refine ⟨fun m Γ => ∃ (qs : List Place) (x6 : Option PyData), qs.length ≤ ps.length + 2 * m ∧ Tp f1 f2 (.tuple (nw.map dP)) es (some (.int u)) (some (.int l)) qs Γ, ⟨ps, none, by omega, _, _, _, _, _, _, _, _, _, rfl⟩, ?_, ?_⟩
          · clear x8 x9 x10 x11 x12 x13 x14 x15
            rintro m d Γ hd ⟨qs, x6, lq, x7, x8, x9, x10, x11, x12, x13, x14, x15, rfl⟩
            obtain ⟨bd, hbd, rfl⟩ := get_map_some hd
            have hm : m < ns.length := (List.getElem?_eq_some_iff.mp hbd).1
            walk_at "ens"
            refine EvL.ev (el_lc (ei_list ?_))
            walk_at "ens"
            refine ⟨fun k acc => acc = (([-10000, 10000] : List Int).take k).map fun st => dPl (some (u, bd), some (l, 0), st), rfl, by show 2 ≤ 100000; omega, ?_, ?_⟩
            · rintro k d acc hd rfl
              obtain ⟨z, hz, rfl⟩ := get_map_some (l := [-10000, 10000]) (f := PyData.int) hd
              walk_at "ens"
              refine et_yes (andT ?_)
              walk_at "ens"
              exact ⟨by simp [lf, lfAll], take_map_snoc (fun st : Int => dPl (some (u, bd), some (l, 0), st)) hz⟩
            · rintro acc rfl
              refine ro_catL (by rw [List.length_map]; show _ + 2 ≤ _; omega) ?_
              refine ⟨qs ++ [(some (u, bd), some (l, 0), -10000), (some (u, bd), some (l, 0), 10000)], none, by rw [List.length_append]; show _ + 2 ≤ _; omega, x7, x8, x9, x10, x11, some (.int bd), x13, x14, x15, ?_⟩
              rw [List.map_append]
              rfl
          · rintro Γ ⟨qs, x6, lq, hΓ⟩
            rw [List.length_map] at lq
            exact ⟨qs, _, by omega, hΓ⟩
      · rintro Γ ⟨qs, x6, lq, hΓ⟩
        rw [List.length_map] at lq
        exact ⟨qs, _, x6, by omega, hΓ⟩
    · rintro Γ ⟨qs, x5, x6, lq, hΓ⟩
      rw [List.length_map] at lq
      exact ⟨qs, _, x6, by omega, hΓ⟩
  clear lp x5 x6 x7 x8 x9 x10 x11 x12 x13 x14 x15 ps
  rintro Γ ⟨ps, x5, x6, lp, x7, x8, x9, x10, x11, x12, x13, x14, x15, rfl⟩
  refine ss_ret (EvL.ev (el_lc (ei_list ?_)))
  walk_at "ens"
  refine ⟨fun k acc => ∃ qs : List Place, acc = qs.map dPl ∧ ∀ q ∈ qs, CanBe q.1 q.2.1, ⟨[], rfl, by simp⟩, by rw [List.length_map]; exact lp, ?_, ?_⟩
  · rintro k d acc hd ⟨qs, rfl, hq⟩
    obtain ⟨p, hp, rfl⟩ := get_map_some hd
    walk_at "ens"
    refine ⟨p, rfl, fun b hb => ⟨b, rfl, fun z => ?_, fun _ => ⟨qs, rfl, hq⟩⟩⟩
    walk_at "ens"
    refine ⟨lf_dPl p, qs ++ [p], by rw [List.map_append]; rfl, fun q hm => ?_⟩
    rcases List.mem_append.mp hm with y | y
    · exact hq q y
    · rw [List.mem_singleton.mp y]
      exact hb z
  · rintro acc ⟨qs, rfl, hq⟩
    exact h qs hq
end
theorem cal_law_is_side {P : Program} {w : World} {K : PySem.W.Frag} {mg : Str → Option Value} {base : Heap} {T : List (Addr × Str)} {f : Addr} {fd : FuncData} (F : Fun K "_law_is_side" "_law_is_side" s_law_is_side f fd) (b : Binds K fd p_law_is_side []) (m : mg "_law_is_side" = some (.ref f)) (c_law_is_integer : Cal P w K mg base "_law_is_integer" p_law_is_integer L_law_is_integer (sp_law_is_integer K T)) (B : Bi mg) :
    Cal P w K mg base "_law_is_side" p_law_is_side L_law_is_side (sp_law_is_side K T) :=
  ⟨f, fd, okC F sc_law_is_side (fun ds P h => by
      unfold C_law_is_side at h
      first
        | (obtain ⟨_, rfl, _⟩ := h; rfl)
        | (obtain ⟨_, _, rfl, _⟩ := h; rfl)
        | (obtain ⟨_, _, _, rfl, _⟩ := h; rfl)
        | (obtain ⟨_, h, _⟩ := h; rcases h with rfl | rfl <;> rfl)
        | (obtain ⟨rfl, _⟩ := h; rfl)) (fun W eK eT cdv A outer s H E hr => ⟨t_law_is_side K T, dv_law_is_side c_law_is_integer B cdv A outer s H E hr, fun ds P h => by
      subst eK
      subst eT
      exact ss_law_is_side h⟩), b, m, F.kp⟩
theorem cal_law_is_place {P : Program} {w : World} {K : PySem.W.Frag} {mg : Str → Option Value} {base : Heap} {T : List (Addr × Str)} {f : Addr} {fd : FuncData} (F : Fun K "_law_is_place" "_law_is_place" s_law_is_place f fd) (b : Binds K fd p_law_is_place []) (m : mg "_law_is_place" = some (.ref f)) (c_law_is_integer : Cal P w K mg base "_law_is_integer" p_law_is_integer L_law_is_integer (sp_law_is_integer K T)) (c_law_is_side : Cal P w K mg base "_law_is_side" p_law_is_side L_law_is_side (sp_law_is_side K T)) (B : Bi mg) :
    Cal P w K mg base "_law_is_place" p_law_is_place L_law_is_place (sp_law_is_place K T) :=
  ⟨f, fd, okC F sc_law_is_place (fun ds P h => by
      unfold C_law_is_place at h
      first
        | (obtain ⟨_, rfl, _⟩ := h; rfl)
        | (obtain ⟨_, _, rfl, _⟩ := h; rfl)
        | (obtain ⟨_, _, _, rfl, _⟩ := h; rfl)
        | (obtain ⟨_, h, _⟩ := h; rcases h with rfl | rfl <;> rfl)
        | (obtain ⟨rfl, _⟩ := h; rfl)) (fun W eK eT cdv A outer s H E hr => ⟨t_law_is_place K T, dv_law_is_place c_law_is_integer c_law_is_side B cdv A outer s H E hr, fun ds P h => by
      subst eK
      subst eT
      exact ss_law_is_place h⟩), b, m, F.kp⟩
theorem cal_law_time_at {P : Program} {w : World} {K : PySem.W.Frag} {mg : Str → Option Value} {base : Heap} {T : List (Addr × Str)} {f : Addr} {fd : FuncData} (F : Fun K "_law_time_at" "_law_time_at" s_law_time_at f fd) (b : Binds K fd p_law_time_at []) (m : mg "_law_time_at" = some (.ref f)) (B : Bi mg) :
    Cal P w K mg base "_law_time_at" p_law_time_at L_law_time_at (sp_law_time_at K T) :=
  ⟨f, fd, okC F sc_law_time_at (fun ds P h => by
      unfold C_law_time_at at h
      first
        | (obtain ⟨_, rfl, _⟩ := h; rfl)
        | (obtain ⟨_, _, rfl, _⟩ := h; rfl)
        | (obtain ⟨_, _, _, rfl, _⟩ := h; rfl)
        | (obtain ⟨_, h, _⟩ := h; rcases h with rfl | rfl <;> rfl)
        | (obtain ⟨rfl, _⟩ := h; rfl)) (fun W eK eT cdv A outer s H E hr => ⟨t_law_time_at K T, dv_law_time_at B cdv A outer s H E hr, fun ds P h => by
      subst eK
      subst eT
      exact ss_law_time_at h⟩), b, m, F.kp⟩
theorem cal_law_told_places {P : Program} {w : World} {K : PySem.W.Frag} {mg : Str → Option Value} {base : Heap} {T : List (Addr × Str)} {f : Addr} {fd : FuncData} (F : Fun K "_law_told_places" "_law_told_places" s_law_told_places f fd) (b : Binds K fd p_law_told_places []) (m : mg "_law_told_places" = some (.ref f)) (c_law_is_place : Cal P w K mg base "_law_is_place" p_law_is_place L_law_is_place (sp_law_is_place K T)) (B : Bi mg) :
    Cal P w K mg base "_law_told_places" p_law_told_places L_law_told_places (sp_law_told_places K T) :=
  ⟨f, fd, okC F sc_law_told_places (fun ds P h => by
      unfold C_law_told_places at h
      first
        | (obtain ⟨_, rfl, _⟩ := h; rfl)
        | (obtain ⟨_, _, rfl, _⟩ := h; rfl)
        | (obtain ⟨_, _, _, rfl, _⟩ := h; rfl)
        | (obtain ⟨_, h, _⟩ := h; rcases h with rfl | rfl <;> rfl)
        | (obtain ⟨rfl, _⟩ := h; rfl)) (fun W eK eT cdv A outer s H E hr => ⟨t_law_told_places K T, dv_law_told_places c_law_is_place B cdv A outer s H E hr, fun ds P h => by
      subst eK
      subst eT
      exact ss_law_told_places h⟩), b, m, F.kp⟩
theorem cal_law_separation {P : Program} {w : World} {K : PySem.W.Frag} {mg : Str → Option Value} {base : Heap} {T : List (Addr × Str)} {f : Addr} {fd : FuncData} (F : Fun K "_law_separation" "_law_separation" s_law_separation f fd) (b : Binds K fd p_law_separation []) (m : mg "_law_separation" = some (.ref f)) (c_law_told_places : Cal P w K mg base "_law_told_places" p_law_told_places L_law_told_places (sp_law_told_places K T)) (c_law_time_at : Cal P w K mg base "_law_time_at" p_law_time_at L_law_time_at (sp_law_time_at K T)) :
    Cal P w K mg base "_law_separation" p_law_separation L_law_separation (sp_law_separation K T) :=
  ⟨f, fd, okC F sc_law_separation (fun ds P h => by
      unfold C_law_separation at h
      first
        | (obtain ⟨_, rfl, _⟩ := h; rfl)
        | (obtain ⟨_, _, rfl, _⟩ := h; rfl)
        | (obtain ⟨_, _, _, rfl, _⟩ := h; rfl)
        | (obtain ⟨_, h, _⟩ := h; rcases h with rfl | rfl <;> rfl)
        | (obtain ⟨rfl, _⟩ := h; rfl)) (fun W eK eT cdv A outer s H E hr => ⟨t_law_separation K T, dv_law_separation c_law_told_places c_law_time_at cdv A outer s H E hr, fun ds P h => by
      subst eK
      subst eT
      exact ss_law_separation h⟩), b, m, F.kp⟩

/-! ## the law -/
/-! ### law: slots 0 _law_script, 1 _law_stream_here, 2 _law_row, 3 _law_kept, 4 _law_due, 5 _law_told, 6 _law_at, 7 _law_turn, 8 _law_some, 9 _law_one, 10 _law_k -/
theorem sc_law : FnScope N_law p_law (defScope s_law) := ⟨rfl, rfl, rfl, by decide +kernel, rfl, by decide +kernel, by decide +kernel⟩
def t_law_rest (K : PySem.W.Frag) (T : List (Addr × Str)) : TS :=
  (tSeq (tAsg (tOp (rIxL K) (tCall (sp_law_two K T) [] E0 (tCons (tVar 1) (tCons (tC (.int 3)) (tCons (tC (.int 8)) tNil)))) (tCall (sp_law_next K T) [] E0 (tCons (tVar 1) (tCons (tC (.int 2)) tNil)))) (gName 2))
  (tSeq (tAsg (tLc (iList K (tOp (rIxL K) (tCall (sp_law_told_reduction K T) [] E0 (tCons (tCall (sp_law_steps K T) [] E0 (tCons (tVar 2) tNil)) tNil)) (tC (.int 1)))) (gName 9) tYes (tOp RDiv (tCB RInt (tCons (tVar 9) tNil)) (tC (.int 2))) [9]) (gName 3))
  (tSeq (tAsg (tCB (RTuple K) (tCons (tLc (iRng1 (tCons (tCB (RLen K) (tCons (tVar 2) tNil)) tNil)) (gName 6) (tTest (tOp (rIn K false) (tVar 6) (tVar 3))) (tOp (rIxT K) (tVar 2) (tVar 6)) [6]) tNil)) (gName 4))
  (tSeq (tAsg (tCall (sp_shortest K T) [] E0 (tCons (tVar 2) tNil)) (gName 5))
  (tSeq (tIfS (tOr (tTest (tOp (rNeD K) (tVar 5) (tVar 4))) (tTest (tOp (rNeD K) (tCall (sp_left_out K T) [] E0 (tCons (tVar 2) tNil)) (tCB (RTuple K) (tCons (tLc (iRng1 (tCons (tCB (RLen K) (tCons (tVar 2) tNil)) tNil)) (gName 6) (tTest (tOp (rIn K true) (tVar 6) (tVar 3))) (tVar 6) [6]) tNil))))) (tRet (tC (.bl false))) tNext)
  (tSeq (tIfS (tOr (tTest (tOp RNotN (tCall (sp_law_separation K T) [] E0 (tCons (tVar 2) (tCons (tVar 5) tNil))) (tC .non))) (tOr (tTest (tOp (rNeD K) (tCall (sp_shortest K T) [] E0 (tCons (tVar 5) tNil)) (tVar 5))) (tTest (tOp (rNeD K) (tCall (sp_left_out K T) [] E0 (tCons (tVar 5) tNil)) (tTup tNil))))) (tRet (tC (.bl false))) tNext)
  (tSeq (tFor (iRng1 (tCons (tCB (RLen K) (tCons (tVar 5) tNil)) tNil)) (gName 6) (tIfS (tB (tCall (sp_are_alike K T) [] E0 (tCons (tVar 2) (tCons (tOp (rCatA K) (tSl (rSlA K) (tVar 5) tNoPart (tPart (tVar 6))) (tSl (rSlA K) (tVar 5) (tPart (tOp RAdd (tVar 6) (tC (.int 1)))) tNoPart)) tNil)))) (tRet (tC (.bl false))) tNext))
  (tSeq (tFor (iRng1 (tCons (tC (.int 10)) tNil)) (gName 7) (tSeq (tAsg (tCB (RTuple K) (tCons (tLc (iRng1 (tCons (tCall (sp_law_next K T) [] E0 (tCons (tVar 1) (tCons (tC (.int 4)) tNil))) tNil)) (gName 10) (tTru K (tVar 2)) (tOp (rIxT K) (tVar 2) (tCall (sp_law_next K T) [] E0 (tCons (tVar 1) (tCons (tCB (RLen K) (tCons (tVar 2) tNil)) tNil)))) [10]) tNil)) (gName 8))
  (tIfS (tAnd (tTest (tOp RLt (tCB (RLen K) (tCons (tVar 8) tNil)) (tCB (RLen K) (tCons (tVar 5) tNil)))) (tB (tCall (sp_are_alike K T) [] E0 (tCons (tVar 2) (tCons (tVar 8) tNil))))) (tRet (tC (.bl false))) tNext)))
  (tRet (tC (.bl true)))))))))))
def t_law (K : PySem.W.Frag) (T : List (Addr × Str)) : TS := tSeq (tAsg (tCall (sp_law_stream K T) [] E0 (tCons (tVar 0) tNil)) (gName 1)) (t_law_rest K T)
/-- callees: are_alike, law_next, law_separation, shortest, left_out, law_steps, law_told_reduction, law_two, law_stream; builtins: range, len, tuple, int  -/
theorem dv_law {P : Program} {w : World} {K : PySem.W.Frag} {mg : Str → Option Value} {base : Heap} {T : List (Addr × Str)} {f : Addr} (c_are_alike : Cal P w K mg base "are_alike" p_are_alike L_are_alike (sp_are_alike K T)) (c_law_next : Cal P w K mg base "_law_next" p_law_next L_law_next (sp_law_next K T)) (c_law_separation : Cal P w K mg base "_law_separation" p_law_separation L_law_separation (sp_law_separation K T)) (c_shortest : Cal P w K mg base "shortest" p_shortest L_shortest (sp_shortest K T)) (c_left_out : Cal P w K mg base "left_out" p_left_out L_left_out (sp_left_out K T)) (c_law_steps : Cal P w K mg base "_law_steps" p_law_steps L_law_steps (sp_law_steps K T)) (c_law_told_reduction : Cal P w K mg base "_law_told_reduction" p_law_told_reduction L_law_told_reduction (sp_law_told_reduction K T)) (c_law_two : Cal P w K mg base "_law_two" p_law_two L_law_two (sp_law_two K T)) (c_law_stream : Cal P w K mg base "_law_stream" p_law_stream L_law_stream (sp_law_stream K T)) (B : Bi mg) (cdv : Value) (A : Around) (outer : List PySem.Env) (s : Shared) (H : Hp) (E : XK)
    (hr : Room M_law (A.deeper (envOfC "law" (defScope s_law) s.heap.objs.size f cdv))) :
    PSs (cxOf CX0 P w K mg base N_law "law" (defScope s_law) f cdv A outer s H E).nox (defBody s_law) (t_law K T) := by
  obtain ⟨f_are_alike, fd_are_alike, G_are_alike, b_are_alike, m_are_alike, k_are_alike⟩ := c_are_alike
  obtain ⟨f_law_next, fd_law_next, G_law_next, b_law_next, m_law_next, k_law_next⟩ := c_law_next
  obtain ⟨f_law_separation, fd_law_separation, G_law_separation, b_law_separation, m_law_separation, k_law_separation⟩ := c_law_separation
  obtain ⟨f_shortest, fd_shortest, G_shortest, b_shortest, m_shortest, k_shortest⟩ := c_shortest
  obtain ⟨f_left_out, fd_left_out, G_left_out, b_left_out, m_left_out, k_left_out⟩ := c_left_out
  obtain ⟨f_law_steps, fd_law_steps, G_law_steps, b_law_steps, m_law_steps, k_law_steps⟩ := c_law_steps
  obtain ⟨f_law_told_reduction, fd_law_told_reduction, G_law_told_reduction, b_law_told_reduction, m_law_told_reduction, k_law_told_reduction⟩ := c_law_told_reduction
  obtain ⟨f_law_two, fd_law_two, G_law_two, b_law_two, m_law_two, k_law_two⟩ := c_law_two
  obtain ⟨f_law_stream, fd_law_stream, G_law_stream, b_law_stream, m_law_stream, k_law_stream⟩ := c_law_stream
  have nd := sc_law.nd
  exact (pss_cons (ps_set (i := 1) nd rfl (Or.inr rfl) (pe_call G_law_stream (hr.mono (by decide)) (by rfl) m_law_stream k_law_stream b_law_stream .nil pass0 (pa_cons (pv 0) pa_nil)))
  (pss_cons (ps_set (i := 2) nd rfl (Or.inr rfl) (pe_ix ix_list (pe_call G_law_two (hr.mono (by decide)) (by rfl) m_law_two k_law_two b_law_two .nil pass0 (pa_cons (pv 1) (pa_cons pe_int (pa_cons pe_int pa_nil)))) (pe_call G_law_next (hr.mono (by decide)) (by rfl) m_law_next k_law_next b_law_next .nil pass0 (pa_cons (pv 1) (pa_cons pe_int pa_nil))) (fun _ _ => rfl)))
  (pss_cons (ps_set (i := 3) nd rfl (Or.inr rfl) (pe_lc (own := [("_law_one", 9)]) (by rfl) nd (pi_list (pe_ix ix_list (pe_call G_law_told_reduction (hr.mono (by decide)) (by rfl) m_law_told_reduction k_law_told_reduction b_law_told_reduction .nil pass0 (pa_cons (pe_call G_law_steps (hr.mono (by decide)) (by rfl) m_law_steps k_law_steps b_law_steps .nil pass0 (pa_cons (pv 2) pa_nil)) pa_nil)) pe_int (fun _ _ => rfl))) (blkOk_by (N := N_law) (by kernel_rfl)) (fun _ _ _ _ _ => (pg_name (i := 9) nd rfl (Or.inl rfl))) (fun _ _ _ _ _ => pts_nil) (fun _ _ _ _ _ => (pe_op op_fdiv (pe_callTy call_int1 (by rfl) B.int (by decide +kernel) (pa_cons (pv 9) pa_nil)) pe_int))))
  (pss_cons (ps_set (i := 4) nd rfl (Or.inl rfl) (pe_callTy call_tuple_of (by rfl) B.tuple (by decide +kernel) (pa_cons (pe_lc (own := [("_law_at", 6)]) (by rfl) nd (pi_range1 (by rfl) B.range (pa_cons (pe_callB call_len_seq (by rfl) B.len PySem.boot_len (pa_cons (pv 2) pa_nil)) pa_nil)) (blkOk_by (N := N_law) (by kernel_rfl)) (fun _ _ _ _ _ => (pg_name (i := 6) nd rfl (Or.inl rfl))) (fun _ _ _ _ _ => (pts_one (pt_cmpR op_in_seq (pv 6) (pv 3) (by rfl)))) (fun _ _ _ _ _ => (pe_ix ix_tup (pv 2) (pv 6) (fun _ _ => rfl)))) pa_nil)))
  (pss_cons (ps_set (i := 5) nd rfl (Or.inl rfl) (pe_call G_shortest (hr.mono (by decide)) (by rfl) m_shortest k_shortest b_shortest .nil pass0 (pa_cons (pv 2) pa_nil)))
  (pss_cons (ps_if (PW.pt (pw_or (pt_cmpR (op_neD hr.units) (pv 5) (pv 4) (nomark _)) (pw_or1 (pt_cmpR (op_neD hr.units) (pe_call G_left_out (hr.mono (by decide)) (by rfl) m_left_out k_left_out b_left_out .nil pass0 (pa_cons (pv 2) pa_nil)) (pe_callTy call_tuple_of (by rfl) B.tuple (by decide +kernel) (pa_cons (pe_lc (own := [("_law_at", 6)]) (by rfl) nd (pi_range1 (by rfl) B.range (pa_cons (pe_callB call_len_seq (by rfl) B.len PySem.boot_len (pa_cons (pv 2) pa_nil)) pa_nil)) (blkOk_by (N := N_law) (by kernel_rfl)) (fun _ _ _ _ _ => (pg_name (i := 6) nd rfl (Or.inl rfl))) (fun _ _ _ _ _ => (pts_one (pt_cmpR op_notIn_seq (pv 6) (pv 3) (by rfl)))) (fun _ _ _ _ _ => (pv 6))) pa_nil)) (nomark _))))) (pss_one (ps_ret pe_bl)) pss_nil)
  (pss_cons (ps_if (PW.pt (pw_or (pt_cmpR op_notN (pe_call G_law_separation (hr.mono (by decide)) (by rfl) m_law_separation k_law_separation b_law_separation .nil pass0 (pa_cons (pv 2) (pa_cons (pv 5) pa_nil))) pe_non (nomark _)) (pw_or (pt_cmpR (op_neD hr.units) (pe_call G_shortest (hr.mono (by decide)) (by rfl) m_shortest k_shortest b_shortest .nil pass0 (pa_cons (pv 5) pa_nil)) (pv 5) (nomark _)) (pw_or1 (pt_cmpR (op_neD hr.units) (pe_call G_left_out (hr.mono (by decide)) (by rfl) m_left_out k_left_out b_left_out .nil pass0 (pa_cons (pv 5) pa_nil)) (pe_tup pa_nil) (nomark _)))))) (pss_one (ps_ret pe_bl)) pss_nil)
  (pss_cons (ps_for PassesOwn.never rfl (pi_range1 (by rfl) B.range (pa_cons (pe_callB call_len_seq (by rfl) B.len PySem.boot_len (pa_cons (pv 5) pa_nil)) pa_nil)) (pg_name (i := 6) nd rfl (Or.inl rfl)) (pss_one (ps_if (pt_val (pe_call G_are_alike (hr.mono (by decide)) (by rfl) m_are_alike k_are_alike b_are_alike .nil pass0 (pa_cons (pv 2) (pa_cons (pe_op op_catA (pe_slice sl_tupA (pv 5) po_none (po_some (pv 6))) (pe_slice sl_tupA (pv 5) (po_some (pe_op op_add (pv 6) pe_int)) po_none)) pa_nil)))) (pss_one (ps_ret pe_bl)) pss_nil)))
  (pss_cons (ps_for PassesOwn.never rfl (pi_range1 (by rfl) B.range (pa_cons pe_int pa_nil)) (pg_name (i := 7) nd rfl (Or.inl rfl)) (pss_cons (ps_set (i := 8) nd rfl (Or.inl rfl) (pe_callTy call_tuple_of (by rfl) B.tuple (by decide +kernel) (pa_cons (pe_lc (own := [("_law_k", 10)]) (by rfl) nd (pi_range1 (by rfl) B.range (pa_cons (pe_call G_law_next (hr.mono (by decide)) (by rfl) m_law_next k_law_next b_law_next .nil pass0 (pa_cons (pv 1) (pa_cons pe_int pa_nil))) pa_nil)) (blkOk_by (N := N_law) (by kernel_rfl)) (fun _ _ _ _ _ => (pg_name (i := 10) nd rfl (Or.inl rfl))) (fun _ _ _ _ _ => (pts_one (pt_truth (pv 2) (by intro _; rfl)))) (fun _ _ _ _ _ => (pe_ix ix_tup (pv 2) (pe_call G_law_next (hr.mono (by decide)) (by rfl) m_law_next k_law_next b_law_next .nil pass0 (pa_cons (pv 1) (pa_cons (pe_callB call_len_seq (by rfl) B.len PySem.boot_len (pa_cons (pv 2) pa_nil)) pa_nil))) (fun _ _ => rfl)))) pa_nil)))
  (pss_one (ps_if (PW.pt (pw_and (pt_cmpR op_lt (pe_callB call_len_seq (by rfl) B.len PySem.boot_len (pa_cons (pv 8) pa_nil)) (pe_callB call_len_seq (by rfl) B.len PySem.boot_len (pa_cons (pv 5) pa_nil)) (nomark _)) (pw_and1 (pt_val (pe_call G_are_alike (hr.mono (by decide)) (by rfl) m_are_alike k_are_alike b_are_alike .nil pass0 (pa_cons (pv 2) (pa_cons (pv 8) pa_nil))))))) (pss_one (ps_ret pe_bl)) pss_nil))))
  (pss_one (ps_ret pe_bl)))))))))))
theorem lay_dP (p : Int × Int) : (dP p).canLay0 = true := by simp [PyData.canLay0, PyData.canLayAll0]
theorem depth_dP (p : Int × Int) : (dP p).depth ≤ 1 := by simp [PyData.depth, PyData.depthAll]
theorem shaped_row (l : Row) : SeqAt.shaped (.tuple (l.map dP)) = true := shaped_tup dP 1 (by omega) lay_dP depth_dP l
theorem shaped_ix (l : List Nat) : SeqAt.shaped (.tuple (dIx l)) = true := shaped_tup dNat 1 (by omega) (fun _ => by simp [dNat, PyData.canLay0]) (fun _ => by simp [dNat, PyData.depth]) l
theorem eqv_row (l : Row) : PyData.eqv (.tuple (l.map dP)) (.tuple (l.map dP)) = true := by
  simp only [PyData.eqv]
  exact eqvAll_refl dP (fun p => by simp [PyData.eqv, PyData.eqvAll]) l
theorem eqv_ix (l : List Nat) : PyData.eqv (.tuple (dIx l)) (.tuple (dIx l)) = true := by
  simp only [PyData.eqv]
  exact eqvAll_refl dNat (fun p => by simp [dNat, PyData.eqv]) l
theorem out_short (r : Row) : outIdx (shortestOf r) = [] := by
  unfold outIdx
  rw [kept_short, List.filter_eq_nil_iff]
  intro a ha
  simp [List.mem_range.mp ha]
theorem short_good {r : Row} (g : Good r) : Good (shortestOf r) := by
  refine ⟨?_, fun p hp => ?_⟩
  · rw [shortest_len]
    have h := List.length_filter_le (fun i => (leftOf (stepsIn r)).any fun a => a / 2 == i) (List.range r.length)
    rw [List.length_range] at h
    exact Nat.le_trans h g.1
  · obtain ⟨i, hi, rfl⟩ := List.mem_map.mp hp
    have := kept_lt hi
    rw [List.getD_eq_getElem?_getD, List.getElem?_eq_getElem this]
    exact g.2 _ (List.getElem_mem _)
theorem no_alike {r rr : Row} (h : rr.length < (shortestOf r).length) {b : Bool} (hb : b = true → SameRem r rr) : b = false := by
  cases b with
  | false => rfl
  | true =>
    have := shortest_least fun s hs => (hb rfl s).mp hs
    omega
theorem kept_dec (r : Row) (k : Nat) (hk : k < r.length) : decide ((k : Int) ∈ (leftOf (stepsIn r)).map fun a : Nat => ((a / 2 : Nat) : Int)) = decide (k ∈ keptIdx r) := by
  refine decide_eq_decide.mpr ?_
  rw [mem_kept, List.mem_map]
  constructor
  · rintro ⟨a, ha, e⟩
    exact ⟨hk, a, ha, by omega⟩
  · rintro ⟨_, a, ha, e⟩
    exact ⟨a, ha, by omega⟩
theorem kept_filter (r : Row) : (List.range r.length).filter (fun i => decide (i ∈ keptIdx r)) = keptIdx r := by
  have e : keptIdx r = (List.range r.length).filter fun i => (leftOf (stepsIn r)).any fun a => a / 2 == i := rfl
  conv => rhs; rw [e]
  refine List.filter_congr fun i hi => ?_
  have hl := List.mem_range.mp hi
  rw [Bool.eq_iff_iff, decide_eq_true_iff, mem_kept, List.any_eq_true]
  constructor
  · rintro ⟨_, a, ha, e⟩
    exact ⟨a, ha, by simp [e]⟩
  · rintro ⟨a, ha, e⟩
    exact ⟨hl, a, ha, by simpa using e⟩
section
variable {W : Wd}
theorem ss_law_rest : Ss W (t_law_rest W.K W.T) [none, some (.dict []), none, none, none, none, none, none, none, none, none] (fun _ => False) (fun d => d = .bool true) := by
  unfold t_law_rest
  walk_at "ens"
  refine ⟨rfl, fun r1 r2 g1 g2 => ?_⟩
  walk_at "ens"
  intro k k0 k1
  have hat : ∃ r, Good r ∧ atI [dRow r1, dRow r2] k = some (.tuple (r.map dP)) := by
    obtain rfl | rfl : k = 0 ∨ k = 1 := by omega
    · exact ⟨r1, g1, rfl⟩
    · exact ⟨r2, g2, rfl⟩
  obtain ⟨r, g, hat⟩ := hat
  refine ro_ixL hat ?_
  have gl := g.1
  walk_at "ens"
  refine EvL.ev (el_lc (ei_list ?_))
  walk_at "ens"
  refine ⟨r, .inl rfl, g.1, ?_⟩
  walk_at "ens"
  refine ⟨stepsIn r, rfl, steps_len16 g.1, fun fs => ?_⟩
  walk_at "ens"
  refine ⟨fun k acc => acc = (((leftOf (stepsIn r)).take k).map fun a : Nat => ((a / 2 : Nat) : Int)).map .int, rfl, ?_, ?_, ?_⟩
  · have := left_len (stepsIn r)
    have := steps_len16 g.1
    unfold dIx
    rw [List.length_map]
    omega
  · rintro i d acc hd rfl
    obtain ⟨a, ha, rfl⟩ := dIx_get hd
    walk_at "ens"
    refine et_yes (andT ?_)
    walk_at "ens"
    refine ro_div ⟨by decide, by decide⟩ ⟨lf_int _, ?_⟩
    have e2 : (a : Int) / 2 = ((a / 2 : Nat) : Int) := by omega
    rw [e2, List.map_map]
    dsimp only
    rw [List.map_map]
    exact take_map_snoc (PyData.int ∘ fun a : Nat => ((a / 2 : Nat) : Int)) ha
  rintro acc rfl
  have e0 : (leftOf (stepsIn r)).take (dIx (leftOf (stepsIn r))).length = leftOf (stepsIn r) := List.take_of_length_le (by unfold dIx; rw [List.length_map]; exact Nat.le_refl _)
  rw [e0]
  have el : (r.map dP).length = r.length := List.length_map ..
  have et : ∀ n : Int, n = ((r.map dP).length : Int) → (List.range r.length).take (rgD 0 n.toNat).length = List.range r.length := fun n hn => List.take_of_length_le (by rw [rgD_len, List.length_range]; omega)
  walk_at "ens"
  refine EvL.ev (el_lc (ei_rng1 ?_))
  walk_at "ens"
  refine ⟨_, rfl, by omega, by omega, fun k acc => acc = ((((List.range r.length).take k).filter fun i => decide (i ∈ keptIdx r)).map fun i => r.getD i (0, 0)).map dP, rfl, by rw [rgD_len]; omega, ?_, ?_⟩
  · rintro k d acc hd rfl
    obtain ⟨hk, rfl⟩ := rgD_get hd
    have hk2 : k < r.length := by omega
    have hr : (List.range r.length)[k]? = some k := List.getElem?_range hk2
    rw [Int.zero_add]
    walk_at "ens"
    refine ro_in (ns := (leftOf (stepsIn r)).map fun a : Nat => ((a / 2 : Nat) : Int)) ?_
    rw [kept_dec r k hk2]
    refine ⟨_, rfl, fun hb => ?_, fun hb => ?_⟩
    · walk_at "ens"
      refine ro_ixT (at_map dP hk2) ⟨lf_dP _, ?_⟩
      show _ ++ [dP r[k]] = ((((List.range r.length).take (k + 1)).filter fun i => decide (i ∈ keptIdx r)).map fun i => r.getD i (0, 0)).map dP
      rw [← filter_snoc_yes (fun i => decide (i ∈ keptIdx r)) hr hb, List.map_append, List.map_append]
      have e : r[k] = r.getD k (0, 0) := by
        rw [List.getD_eq_getElem?_getD, List.getElem?_eq_getElem hk2]
        rfl
      rw [e]
      rfl
    · show _ = ((((List.range r.length).take (k + 1)).filter fun i => decide (i ∈ keptIdx r)).map fun i => r.getD i (0, 0)).map dP
      rw [← filter_snoc_no (fun i => decide (i ∈ keptIdx r)) hr hb]
  rintro acc rfl
  rw [et _ rfl, kept_filter]
  walk_at "ens"
  refine ⟨r, rfl, g, ?_⟩
  have gs := short_good g
  have gsl := gs.1
  have ed : ((keptIdx r).map fun i => r.getD i (0, 0)) = shortestOf r := rfl
  rw [ed]
  unfold dRow
  walk_at "ens"
  refine ro_neD (shaped_row _) (shaped_row _) ?_
  refine ⟨false, by rw [eqv_row]; rfl, orF ?_⟩
  walk_at "ens"
  refine ⟨r, rfl, g, ?_⟩
  walk_at "ens"
  refine EvL.ev (el_lc (ei_rng1 ?_))
  walk_at "ens"
  refine ⟨_, rfl, by omega, by omega, fun k acc => acc = dIx (((List.range r.length).take k).filter fun i => decide (i ∉ keptIdx r)), rfl, by rw [rgD_len]; omega, ?_, ?_⟩
  · rintro k d acc hd rfl
    obtain ⟨hk, rfl⟩ := rgD_get hd
    have hk2 : k < r.length := by omega
    have hr : (List.range r.length)[k]? = some k := List.getElem?_range hk2
    rw [Int.zero_add]
    walk_at "ens"
    refine ro_notIn (ns := (leftOf (stepsIn r)).map fun a : Nat => ((a / 2 : Nat) : Int)) ?_
    rw [kept_dec r k hk2]
    refine ⟨_, rfl, fun hb => ?_, fun hb => ?_⟩
    · walk_at "ens"
      refine ⟨lf_int _, ?_⟩
      have hp : decide (k ∉ keptIdx r) = true := by
        refine decide_eq_true fun z => ?_
        rw [decide_eq_true z] at hb
        cases hb
      show dIx _ ++ [dNat k] = dIx _
      rw [← filter_snoc_yes (fun i => decide (i ∉ keptIdx r)) hr hp]
      unfold dIx
      rw [List.map_append]
      rfl
    · have hp : decide (k ∉ keptIdx r) = false := by
        refine decide_eq_false fun z => ?_
        rw [decide_eq_false z] at hb
        cases hb
      show dIx _ = dIx _
      rw [← filter_snoc_no (fun i => decide (i ∉ keptIdx r)) hr hp]
  rintro acc rfl
  rw [et _ rfl]
  walk_at "ens"
  have eo : ((List.range r.length).filter fun i => decide (i ∉ keptIdx r)) = outIdx r := rfl
  rw [eo]
  refine ro_neD (shaped_ix _) (shaped_ix _) ?_
  refine ⟨false, by rw [eqv_ix]; rfl, andF ?_⟩
  walk_at "ens"
  refine ⟨r, shortestOf r, rfl, gl, gsl, fun u l h c => (short_time c r h).symm, ?_⟩
  walk_at "ens"
  refine ⟨false, rfl, orF ?_⟩
  walk_at "ens"
  refine ⟨shortestOf r, rfl, gs, ?_⟩
  rw [short_short]
  unfold dRow
  walk_at "ens"
  refine ro_neD (shaped_row _) (shaped_row _) ?_
  refine ⟨false, by rw [eqv_row]; rfl, orF ?_⟩
  walk_at "ens"
  refine ⟨shortestOf r, rfl, gs, ?_⟩
  rw [out_short]
  walk_at "ens"
  refine ro_neD (shaped_ix []) (shaped_ix []) ?_
  refine ⟨false, by rw [show (PyData.tuple (dIx [])) = .tuple [] from rfl] at *; rfl, andF ?_⟩
  walk_at "ens"
  have es : ((shortestOf r).map dP).length = (shortestOf r).length := List.length_map ..
  refine ss_for [6] (ei_rng1 ?_)
  walk_at "ens"
  refine ⟨_, rfl, by omega, by omega, fun i Γ => ∃ x3 x4 x6 x7 x8 x9 x10, Γ = [none, some (.dict []), some (.tuple (r.map dP)), x3, x4, some (.tuple ((shortestOf r).map dP)), x6, x7, x8, x9, x10], ⟨_, _, _, _, _, _, _, rfl⟩, ?_, ?_⟩
  · rintro i d Γ hd ⟨x3, x4, x6, x7, x8, x9, x10, rfl⟩
    obtain ⟨hi, rfl⟩ := rgD_get hd
    have hi2 : i < (shortestOf r).length := by omega
    rw [Int.zero_add]
    walk_at "ens"
    have c1 := cut_takeN ((shortestOf r).map dP) i (by omega)
    have c2 := cut_dropN ((shortestOf r).map dP) (i + 1) (by omega)
    rw [show ((i + 1 : Nat) : Int) = (i : Int) + 1 by omega] at c2
    rw [c1, c2, ← List.map_take, ← List.map_drop]
    have lz : ((shortestOf r).take i).length + ((shortestOf r).drop (i + 1)).length < (shortestOf r).length := by
      rw [List.length_take, List.length_drop]
      omega
    refine ro_catT (by rw [List.length_map, List.length_map]; omega) ?_
    rw [← List.map_append]
    walk_at "ens"
    refine ⟨r, (shortestOf r).take i ++ (shortestOf r).drop (i + 1), rfl, g, ⟨by rw [List.length_append]; omega, fun p hp => ?_⟩, fun b hb => ⟨b, rfl, ?_⟩⟩
    · rcases List.mem_append.mp hp with z | z
      · exact gs.2 p (List.mem_of_mem_take z)
      · exact gs.2 p (List.mem_of_mem_drop z)
    · have hf := no_alike (by rw [List.length_append]; exact lz) hb
      subst hf
      refine andF ?_
      walk_at "ens"
      exact ⟨_, _, _, _, _, _, _, rfl⟩
  rintro Γ ⟨x3, x4, x6, x7, x8, x9, x10, rfl⟩
  walk_at "ens"
  refine ss_for [7] (ei_rng1 ?_)
  walk_at "ens"
  refine ⟨10, rfl, by omega, by omega, fun i Γ => ∃ x3 x4 x6 x7 x8 x9 x10, Γ = [none, some (.dict []), some (.tuple (r.map dP)), x3, x4, some (.tuple ((shortestOf r).map dP)), x6, x7, x8, x9, x10], ⟨_, _, _, _, _, _, _, rfl⟩, ?_, ?_⟩
  · clear x3 x4 x6 x7 x8 x9 x10
    rintro i d Γ hd ⟨x3, x4, x6, x7, x8, x9, x10, rfl⟩
    walk_at "ens"
    refine EvL.ev (el_lc (ei_rng1 ?_))
    walk_at "ens"
    intro n n0 n1
    walk_at "ens"
    refine ⟨n, rfl, by omega, by omega, fun k acc => ∃ rr : Row, acc = rr.map dP ∧ rr.length ≤ k ∧ ∀ p ∈ rr, GoodP p, ⟨[], rfl, Nat.le_refl _, by simp⟩, by rw [rgD_len]; omega, ?_, ?_⟩
    · rintro k d acc hd ⟨rr, rfl, hl, hg⟩
      obtain ⟨hk, rfl⟩ := rgD_get hd
      walk_at "ens"
      refine et_truT (ds := r.map dP) ?_
      walk_at "ens"
      refine ⟨rfl, fun hb => ?_, fun _ => ⟨rr, rfl, Nat.le_succ_of_le hl, hg⟩⟩
      have h0 := ne_len hb
      walk_at "ens"
      refine next_ok (by omega) (by omega) ?_
      intro j j0 j1
      rw [el] at j1
      have hj : j.toNat < r.length := by omega
      have hat := at_map dP hj
      rw [Int.toNat_of_nonneg j0] at hat
      refine ro_ixT hat ⟨lf_dP _, rr ++ [r[j.toNat]], by rw [List.map_append]; rfl, by rw [List.length_append, List.length_singleton]; omega, fun p hp => ?_⟩
      rcases List.mem_append.mp hp with z | z
      · exact hg p z
      · rw [List.mem_singleton.mp z]
        exact g.2 _ (List.getElem_mem _)
    · rintro acc ⟨rr, rfl, hl, hg⟩
      rw [rgD_len] at hl
      have er : (rr.map dP).length = rr.length := List.length_map ..
      walk_at "ens"
      refine ⟨_, rfl, fun c => ?_, fun c => andF ?_⟩
      · have c' := of_decide_eq_true c
        rw [er, es] at c'
        walk_at "ens"
        refine ⟨r, rr, rfl, g, ⟨by omega, hg⟩, fun b hb => ⟨b, rfl, ?_⟩⟩
        have hf := no_alike (by omega) hb
        subst hf
        refine andF ?_
        walk_at "ens"
        exact ⟨_, _, _, _, _, _, _, rfl⟩
      · walk_at "ens"
        exact ⟨_, _, _, _, _, _, _, rfl⟩
  rintro Γ ⟨x3, x4, x6, x7, x8, x9, x10, rfl⟩
  walk_at "ens"
  rfl
end

def sp_law (K : PySem.W.Frag) (T : List (Addr × Str)) : Sp := fun vs H Q _ => ∃ (a : Addr) (ns : List Int), vs = [.ref a] ∧ SqL K H a (ns.map V.int) ∧ LamX.Tabs T H ∧ ∀ H', Q (.bl true) H'
theorem tabs_88 {H : Hp} (h : H 88 = some (.tbl #[])) : LamX.Tabs T88 H := fun p hp => by
  rw [List.mem_singleton.mp hp]
  exact LamX.TabS.nil h
theorem funC_mk {K : PySem.W.Frag} {x qual : Str} {st : Stmt} {f c : Addr} {oc : Value} {od an : Option Addr} {osl : Array (Option Value)} {kV doc pm ct : Value} (l : K.lookup f = some ⟨oc, od, .func (PySem.W.fnOf x qual (defArgs st) (defBody st) (defScope st) .none kV doc pm an (.ref c) ct), osl⟩)
    (e : PySem.W.codeIn K (.ref c) qual = true) (k : PySem.W.keepIn K (.ref f) = true) : FunC K x qual st f (PySem.W.fnOf x qual (defArgs st) (defBody st) (defScope st) .none kV doc pm an (.ref c) ct) c := ⟨⟨oc, od, kV, doc, pm, an, ct, osl, rfl, l, e⟩, k⟩
theorem ok_law {P : Program} {w : World} {K : PySem.W.Frag} {mg : Str → Option Value} {base : Heap} {T : List (Addr × Str)} {f : Addr} {fd : FuncData} (F : Fun K "law" "law" s_law f fd)
    (c_are_alike : Cal P w K mg base "are_alike" p_are_alike L_are_alike (sp_are_alike K T)) (c_law_next : Cal P w K mg base "_law_next" p_law_next L_law_next (sp_law_next K T)) (c_law_separation : Cal P w K mg base "_law_separation" p_law_separation L_law_separation (sp_law_separation K T)) (c_shortest : Cal P w K mg base "shortest" p_shortest L_shortest (sp_shortest K T)) (c_left_out : Cal P w K mg base "left_out" p_left_out L_left_out (sp_left_out K T)) (c_law_steps : Cal P w K mg base "_law_steps" p_law_steps L_law_steps (sp_law_steps K T)) (c_law_told_reduction : Cal P w K mg base "_law_told_reduction" p_law_told_reduction L_law_told_reduction (sp_law_told_reduction K T)) (c_law_two : Cal P w K mg base "_law_two" p_law_two L_law_two (sp_law_two K T)) (c_law_stream : Cal P w K mg base "_law_stream" p_law_stream L_law_stream (sp_law_stream K T)) (B : Bi mg) :
    FnOk P w K mg base CX0 L_law f fd p_law (sp_law K T) :=
  F.ok sc_law (fun vs H Q E h => by
      obtain ⟨a, ns, rfl, _⟩ := h
      rfl) (fun cdv A outer s H vs Q E hr h => by
      obtain ⟨a, ns, rfl, hs, hT, q⟩ := h
      refine ⟨t_law K T, dv_law c_are_alike c_law_next c_law_separation c_shortest c_left_out c_law_steps c_law_told_reduction c_law_two c_law_stream B cdv A outer s H E hr, .ref a, rfl, a, _, rfl, hs, fun l p hl hp => ?_⟩
      have np : p ≠ l := fun z => by
        rw [z, upd_same] at hp
        cases hp
      refine ss_law_rest (W := ⟨K, T, some p, l, ns⟩) _ _ ⟨rfl, fun i d hd => ?_⟩ ⟨(hT.ext (same_new hl)).ext (same_new hp), fun r er => ?_⟩ _ (fun _ _ _ _ _ _ z => z.elim) fun v d H' _ _ dt e => ?_
      · match i with
        | 0 => cases hd
        | 1 =>
          cases hd
          exact ⟨_, rfl, .strm rfl⟩
        | 2 => cases hd
        | 3 => cases hd
        | 4 => cases hd
        | 5 => cases hd
        | 6 => cases hd
        | 7 => cases hd
        | 8 => cases hd
        | 9 => cases hd
        | 10 => cases hd
        | i + 11 => simp at hd
      · cases er
        exact ⟨Ne.symm np, by rw [upd_ne (Ne.symm np)]; exact upd_same, 0, 0, upd_same, Int.le_refl 0, Int.le_refl 0⟩
      · subst e
        cases dt
        exact q H')
theorem all_mk {l : PySem.W.OpenLaw} {w : World} {K : PySem.W.Frag} {h : Heap} {mg : Str → Option Value} {fa c88 : Addr} (X : K.In h) (G : h.Ns mainGlobals mg) (hfa : mg "law" = some (.ref fa)) (hT : h.get? 88 = some { cls := .none, data := .fields #[] }) (nT : K.lookup 88 = none) (hC : PySem.W.codeHdIn K c88 88 = true)
    {f_steps_in : Addr} {od_steps_in an_steps_in : Option Addr} {sl_steps_in : Array (Option Value)} {oc_steps_in kV_steps_in dc_steps_in pm_steps_in cd_steps_in ct_steps_in : Value}
    (a_steps_in : PySem.W.nsIn K mainGlobals "steps_in" = some (some (.ref f_steps_in))) (l_steps_in : K.lookup f_steps_in = some ⟨oc_steps_in, od_steps_in, .func (PySem.W.fnOf "steps_in" "steps_in" (defArgs s_steps_in) (defBody s_steps_in) (defScope s_steps_in) .none kV_steps_in dc_steps_in pm_steps_in an_steps_in cd_steps_in ct_steps_in), sl_steps_in⟩) (c_steps_in : PySem.W.codeIn K cd_steps_in "steps_in" = true) (k_steps_in : PySem.W.keepIn K (.ref f_steps_in) = true)
    {f_is_stronger : Addr} {od_is_stronger an_is_stronger : Option Addr} {sl_is_stronger : Array (Option Value)} {oc_is_stronger kV_is_stronger dc_is_stronger pm_is_stronger cd_is_stronger ct_is_stronger : Value}
    (a_is_stronger : PySem.W.nsIn K mainGlobals "is_stronger" = some (some (.ref f_is_stronger))) (l_is_stronger : K.lookup f_is_stronger = some ⟨oc_is_stronger, od_is_stronger, .func (PySem.W.fnOf "is_stronger" "is_stronger" (defArgs s_is_stronger) (defBody s_is_stronger) (defScope s_is_stronger) .none kV_is_stronger dc_is_stronger pm_is_stronger an_is_stronger cd_is_stronger ct_is_stronger), sl_is_stronger⟩) (c_is_stronger : PySem.W.codeIn K cd_is_stronger "is_stronger" = true) (k_is_stronger : PySem.W.keepIn K (.ref f_is_stronger) = true)
    {f_do_commute : Addr} {od_do_commute an_do_commute : Option Addr} {sl_do_commute : Array (Option Value)} {oc_do_commute kV_do_commute dc_do_commute pm_do_commute cd_do_commute ct_do_commute : Value}
    (a_do_commute : PySem.W.nsIn K mainGlobals "do_commute" = some (some (.ref f_do_commute))) (l_do_commute : K.lookup f_do_commute = some ⟨oc_do_commute, od_do_commute, .func (PySem.W.fnOf "do_commute" "do_commute" (defArgs s_do_commute) (defBody s_do_commute) (defScope s_do_commute) .none kV_do_commute dc_do_commute pm_do_commute an_do_commute cd_do_commute ct_do_commute), sl_do_commute⟩) (c_do_commute : PySem.W.codeIn K cd_do_commute "do_commute" = true) (k_do_commute : PySem.W.keepIn K (.ref f_do_commute) = true)
    {f_makes_idle : Addr} {od_makes_idle an_makes_idle : Option Addr} {sl_makes_idle : Array (Option Value)} {oc_makes_idle kV_makes_idle dc_makes_idle pm_makes_idle cd_makes_idle ct_makes_idle : Value}
    (a_makes_idle : PySem.W.nsIn K mainGlobals "makes_idle" = some (some (.ref f_makes_idle))) (l_makes_idle : K.lookup f_makes_idle = some ⟨oc_makes_idle, od_makes_idle, .func (PySem.W.fnOf "makes_idle" "makes_idle" (defArgs s_makes_idle) (defBody s_makes_idle) (defScope s_makes_idle) .none kV_makes_idle dc_makes_idle pm_makes_idle an_makes_idle cd_makes_idle ct_makes_idle), sl_makes_idle⟩) (c_makes_idle : PySem.W.codeIn K cd_makes_idle "makes_idle" = true) (k_makes_idle : PySem.W.keepIn K (.ref f_makes_idle) = true)
    {f_why_idle : Addr} {od_why_idle an_why_idle : Option Addr} {sl_why_idle : Array (Option Value)} {oc_why_idle kV_why_idle dc_why_idle pm_why_idle cd_why_idle ct_why_idle : Value}
    (a_why_idle : PySem.W.nsIn K mainGlobals "why_idle" = some (some (.ref f_why_idle))) (l_why_idle : K.lookup f_why_idle = some ⟨oc_why_idle, od_why_idle, .func (PySem.W.fnOf "why_idle" "why_idle" (defArgs s_why_idle) (defBody s_why_idle) (defScope s_why_idle) .none kV_why_idle dc_why_idle pm_why_idle an_why_idle cd_why_idle ct_why_idle), sl_why_idle⟩) (c_why_idle : PySem.W.codeIn K cd_why_idle "why_idle" = true) (k_why_idle : PySem.W.keepIn K (.ref f_why_idle) = true)
    {f_first_idle : Addr} {od_first_idle an_first_idle : Option Addr} {sl_first_idle : Array (Option Value)} {oc_first_idle kV_first_idle dc_first_idle pm_first_idle cd_first_idle ct_first_idle : Value}
    (a_first_idle : PySem.W.nsIn K mainGlobals "first_idle" = some (some (.ref f_first_idle))) (l_first_idle : K.lookup f_first_idle = some ⟨oc_first_idle, od_first_idle, .func (PySem.W.fnOf "first_idle" "first_idle" (defArgs s_first_idle) (defBody s_first_idle) (defScope s_first_idle) .none kV_first_idle dc_first_idle pm_first_idle an_first_idle cd_first_idle ct_first_idle), sl_first_idle⟩) (c_first_idle : PySem.W.codeIn K cd_first_idle "first_idle" = true) (k_first_idle : PySem.W.keepIn K (.ref f_first_idle) = true)
    {f_reduction_of : Addr} {od_reduction_of an_reduction_of : Option Addr} {sl_reduction_of : Array (Option Value)} {oc_reduction_of kV_reduction_of dc_reduction_of pm_reduction_of cd_reduction_of ct_reduction_of : Value}
    (a_reduction_of : PySem.W.nsIn K mainGlobals "reduction_of" = some (some (.ref f_reduction_of))) (l_reduction_of : K.lookup f_reduction_of = some ⟨oc_reduction_of, od_reduction_of, .func (PySem.W.fnOf "reduction_of" "reduction_of" (defArgs s_reduction_of) (defBody s_reduction_of) (defScope s_reduction_of) .none kV_reduction_of dc_reduction_of pm_reduction_of an_reduction_of cd_reduction_of ct_reduction_of), sl_reduction_of⟩) (c_reduction_of : PySem.W.codeIn K cd_reduction_of "reduction_of" = true) (k_reduction_of : PySem.W.keepIn K (.ref f_reduction_of) = true)
    {f_remaining_of : Addr} {od_remaining_of an_remaining_of : Option Addr} {sl_remaining_of : Array (Option Value)} {oc_remaining_of kV_remaining_of dc_remaining_of pm_remaining_of cd_remaining_of ct_remaining_of : Value}
    (a_remaining_of : PySem.W.nsIn K mainGlobals "remaining_of" = some (some (.ref f_remaining_of))) (l_remaining_of : K.lookup f_remaining_of = some ⟨oc_remaining_of, od_remaining_of, .func (PySem.W.fnOf "remaining_of" "remaining_of" (defArgs s_remaining_of) (defBody s_remaining_of) (defScope s_remaining_of) .none kV_remaining_of dc_remaining_of pm_remaining_of an_remaining_of cd_remaining_of ct_remaining_of), sl_remaining_of⟩) (c_remaining_of : PySem.W.codeIn K cd_remaining_of "remaining_of" = true) (k_remaining_of : PySem.W.keepIn K (.ref f_remaining_of) = true)
    {f_layers_in : Addr} {od_layers_in an_layers_in : Option Addr} {sl_layers_in : Array (Option Value)} {oc_layers_in kV_layers_in dc_layers_in pm_layers_in ct_layers_in : Value}
    (a_layers_in : PySem.W.nsIn K mainGlobals "layers_in" = some (some (.ref f_layers_in))) (l_layers_in : K.lookup f_layers_in = some ⟨oc_layers_in, od_layers_in, .func (PySem.W.fnOf "layers_in" "layers_in" (defArgs s_layers_in) (defBody s_layers_in) (defScope s_layers_in) .none kV_layers_in dc_layers_in pm_layers_in an_layers_in (.ref c88) ct_layers_in), sl_layers_in⟩) (c_layers_in : PySem.W.codeIn K (.ref c88) "layers_in" = true) (k_layers_in : PySem.W.keepIn K (.ref f_layers_in) = true)
    {f_layers_of_row : Addr} {od_layers_of_row an_layers_of_row : Option Addr} {sl_layers_of_row : Array (Option Value)} {oc_layers_of_row kV_layers_of_row dc_layers_of_row pm_layers_of_row cd_layers_of_row ct_layers_of_row : Value}
    (a_layers_of_row : PySem.W.nsIn K mainGlobals "layers_of_row" = some (some (.ref f_layers_of_row))) (l_layers_of_row : K.lookup f_layers_of_row = some ⟨oc_layers_of_row, od_layers_of_row, .func (PySem.W.fnOf "layers_of_row" "layers_of_row" (defArgs s_layers_of_row) (defBody s_layers_of_row) (defScope s_layers_of_row) .none kV_layers_of_row dc_layers_of_row pm_layers_of_row an_layers_of_row cd_layers_of_row ct_layers_of_row), sl_layers_of_row⟩) (c_layers_of_row : PySem.W.codeIn K cd_layers_of_row "layers_of_row" = true) (k_layers_of_row : PySem.W.keepIn K (.ref f_layers_of_row) = true)
    {f_is_alike : Addr} {od_is_alike an_is_alike : Option Addr} {sl_is_alike : Array (Option Value)} {oc_is_alike kV_is_alike dc_is_alike pm_is_alike cd_is_alike ct_is_alike : Value}
    (a_is_alike : PySem.W.nsIn K mainGlobals "is_alike" = some (some (.ref f_is_alike))) (l_is_alike : K.lookup f_is_alike = some ⟨oc_is_alike, od_is_alike, .func (PySem.W.fnOf "is_alike" "is_alike" (defArgs s_is_alike) (defBody s_is_alike) (defScope s_is_alike) .none kV_is_alike dc_is_alike pm_is_alike an_is_alike cd_is_alike ct_is_alike), sl_is_alike⟩) (c_is_alike : PySem.W.codeIn K cd_is_alike "is_alike" = true) (k_is_alike : PySem.W.keepIn K (.ref f_is_alike) = true)
    {f_is_integer : Addr} {od_is_integer an_is_integer : Option Addr} {sl_is_integer : Array (Option Value)} {oc_is_integer kV_is_integer dc_is_integer pm_is_integer cd_is_integer ct_is_integer : Value}
    (a_is_integer : PySem.W.nsIn K mainGlobals "is_integer" = some (some (.ref f_is_integer))) (l_is_integer : K.lookup f_is_integer = some ⟨oc_is_integer, od_is_integer, .func (PySem.W.fnOf "is_integer" "is_integer" (defArgs s_is_integer) (defBody s_is_integer) (defScope s_is_integer) .none kV_is_integer dc_is_integer pm_is_integer an_is_integer cd_is_integer ct_is_integer), sl_is_integer⟩) (c_is_integer : PySem.W.codeIn K cd_is_integer "is_integer" = true) (k_is_integer : PySem.W.keepIn K (.ref f_is_integer) = true)
    {f_is_event_time : Addr} {od_is_event_time an_is_event_time : Option Addr} {sl_is_event_time : Array (Option Value)} {oc_is_event_time kV_is_event_time dc_is_event_time pm_is_event_time cd_is_event_time ct_is_event_time : Value}
    (a_is_event_time : PySem.W.nsIn K mainGlobals "is_event_time" = some (some (.ref f_is_event_time))) (l_is_event_time : K.lookup f_is_event_time = some ⟨oc_is_event_time, od_is_event_time, .func (PySem.W.fnOf "is_event_time" "is_event_time" (defArgs s_is_event_time) (defBody s_is_event_time) (defScope s_is_event_time) .none kV_is_event_time dc_is_event_time pm_is_event_time an_is_event_time cd_is_event_time ct_is_event_time), sl_is_event_time⟩) (c_is_event_time : PySem.W.codeIn K cd_is_event_time "is_event_time" = true) (k_is_event_time : PySem.W.keepIn K (.ref f_is_event_time) = true)
    {f_is_free_row : Addr} {od_is_free_row an_is_free_row : Option Addr} {sl_is_free_row : Array (Option Value)} {oc_is_free_row kV_is_free_row dc_is_free_row pm_is_free_row cd_is_free_row ct_is_free_row : Value}
    (a_is_free_row : PySem.W.nsIn K mainGlobals "is_free_row" = some (some (.ref f_is_free_row))) (l_is_free_row : K.lookup f_is_free_row = some ⟨oc_is_free_row, od_is_free_row, .func (PySem.W.fnOf "is_free_row" "is_free_row" (defArgs s_is_free_row) (defBody s_is_free_row) (defScope s_is_free_row) .none kV_is_free_row dc_is_free_row pm_is_free_row an_is_free_row cd_is_free_row ct_is_free_row), sl_is_free_row⟩) (c_is_free_row : PySem.W.codeIn K cd_is_free_row "is_free_row" = true) (k_is_free_row : PySem.W.keepIn K (.ref f_is_free_row) = true)
    {f_check_row : Addr} {od_check_row an_check_row : Option Addr} {sl_check_row : Array (Option Value)} {oc_check_row kV_check_row dc_check_row pm_check_row cd_check_row ct_check_row : Value}
    (a_check_row : PySem.W.nsIn K mainGlobals "check_row" = some (some (.ref f_check_row))) (l_check_row : K.lookup f_check_row = some ⟨oc_check_row, od_check_row, .func (PySem.W.fnOf "check_row" "check_row" (defArgs s_check_row) (defBody s_check_row) (defScope s_check_row) .none kV_check_row dc_check_row pm_check_row an_check_row cd_check_row ct_check_row), sl_check_row⟩) (c_check_row : PySem.W.codeIn K cd_check_row "check_row" = true) (k_check_row : PySem.W.keepIn K (.ref f_check_row) = true)
    {f_check_rows : Addr} {od_check_rows an_check_rows : Option Addr} {sl_check_rows : Array (Option Value)} {oc_check_rows kV_check_rows dc_check_rows pm_check_rows cd_check_rows ct_check_rows : Value}
    (a_check_rows : PySem.W.nsIn K mainGlobals "check_rows" = some (some (.ref f_check_rows))) (l_check_rows : K.lookup f_check_rows = some ⟨oc_check_rows, od_check_rows, .func (PySem.W.fnOf "check_rows" "check_rows" (defArgs s_check_rows) (defBody s_check_rows) (defScope s_check_rows) .none kV_check_rows dc_check_rows pm_check_rows an_check_rows cd_check_rows ct_check_rows), sl_check_rows⟩) (c_check_rows : PySem.W.codeIn K cd_check_rows "check_rows" = true) (k_check_rows : PySem.W.keepIn K (.ref f_check_rows) = true)
    {f_are_alike : Addr} {od_are_alike an_are_alike : Option Addr} {sl_are_alike : Array (Option Value)} {oc_are_alike kV_are_alike dc_are_alike pm_are_alike cd_are_alike ct_are_alike : Value}
    (a_are_alike : PySem.W.nsIn K mainGlobals "are_alike" = some (some (.ref f_are_alike))) (l_are_alike : K.lookup f_are_alike = some ⟨oc_are_alike, od_are_alike, .func (PySem.W.fnOf "are_alike" "are_alike" (defArgs s_are_alike) (defBody s_are_alike) (defScope s_are_alike) .none kV_are_alike dc_are_alike pm_are_alike an_are_alike cd_are_alike ct_are_alike), sl_are_alike⟩) (c_are_alike : PySem.W.codeIn K cd_are_alike "are_alike" = true) (k_are_alike : PySem.W.keepIn K (.ref f_are_alike) = true)
    {f_law_next : Addr} {od_law_next an_law_next : Option Addr} {sl_law_next : Array (Option Value)} {oc_law_next kV_law_next dc_law_next pm_law_next cd_law_next ct_law_next : Value}
    (a_law_next : PySem.W.nsIn K mainGlobals "_law_next" = some (some (.ref f_law_next))) (l_law_next : K.lookup f_law_next = some ⟨oc_law_next, od_law_next, .func (PySem.W.fnOf "_law_next" "_law_next" (defArgs s_law_next) (defBody s_law_next) (defScope s_law_next) .none kV_law_next dc_law_next pm_law_next an_law_next cd_law_next ct_law_next), sl_law_next⟩) (c_law_next : PySem.W.codeIn K cd_law_next "_law_next" = true) (k_law_next : PySem.W.keepIn K (.ref f_law_next) = true)
    {f_law_is_integer : Addr} {od_law_is_integer an_law_is_integer : Option Addr} {sl_law_is_integer : Array (Option Value)} {oc_law_is_integer kV_law_is_integer dc_law_is_integer pm_law_is_integer cd_law_is_integer ct_law_is_integer : Value}
    (a_law_is_integer : PySem.W.nsIn K mainGlobals "_law_is_integer" = some (some (.ref f_law_is_integer))) (l_law_is_integer : K.lookup f_law_is_integer = some ⟨oc_law_is_integer, od_law_is_integer, .func (PySem.W.fnOf "_law_is_integer" "_law_is_integer" (defArgs s_law_is_integer) (defBody s_law_is_integer) (defScope s_law_is_integer) .none kV_law_is_integer dc_law_is_integer pm_law_is_integer an_law_is_integer cd_law_is_integer ct_law_is_integer), sl_law_is_integer⟩) (c_law_is_integer : PySem.W.codeIn K cd_law_is_integer "_law_is_integer" = true) (k_law_is_integer : PySem.W.keepIn K (.ref f_law_is_integer) = true)
    {f_law_is_side : Addr} {od_law_is_side an_law_is_side : Option Addr} {sl_law_is_side : Array (Option Value)} {oc_law_is_side kV_law_is_side dc_law_is_side pm_law_is_side cd_law_is_side ct_law_is_side : Value}
    (a_law_is_side : PySem.W.nsIn K mainGlobals "_law_is_side" = some (some (.ref f_law_is_side))) (l_law_is_side : K.lookup f_law_is_side = some ⟨oc_law_is_side, od_law_is_side, .func (PySem.W.fnOf "_law_is_side" "_law_is_side" (defArgs s_law_is_side) (defBody s_law_is_side) (defScope s_law_is_side) .none kV_law_is_side dc_law_is_side pm_law_is_side an_law_is_side cd_law_is_side ct_law_is_side), sl_law_is_side⟩) (c_law_is_side : PySem.W.codeIn K cd_law_is_side "_law_is_side" = true) (k_law_is_side : PySem.W.keepIn K (.ref f_law_is_side) = true)
    {f_law_is_place : Addr} {od_law_is_place an_law_is_place : Option Addr} {sl_law_is_place : Array (Option Value)} {oc_law_is_place kV_law_is_place dc_law_is_place pm_law_is_place cd_law_is_place ct_law_is_place : Value}
    (a_law_is_place : PySem.W.nsIn K mainGlobals "_law_is_place" = some (some (.ref f_law_is_place))) (l_law_is_place : K.lookup f_law_is_place = some ⟨oc_law_is_place, od_law_is_place, .func (PySem.W.fnOf "_law_is_place" "_law_is_place" (defArgs s_law_is_place) (defBody s_law_is_place) (defScope s_law_is_place) .none kV_law_is_place dc_law_is_place pm_law_is_place an_law_is_place cd_law_is_place ct_law_is_place), sl_law_is_place⟩) (c_law_is_place : PySem.W.codeIn K cd_law_is_place "_law_is_place" = true) (k_law_is_place : PySem.W.keepIn K (.ref f_law_is_place) = true)
    {f_law_told_places : Addr} {od_law_told_places an_law_told_places : Option Addr} {sl_law_told_places : Array (Option Value)} {oc_law_told_places kV_law_told_places dc_law_told_places pm_law_told_places cd_law_told_places ct_law_told_places : Value}
    (a_law_told_places : PySem.W.nsIn K mainGlobals "_law_told_places" = some (some (.ref f_law_told_places))) (l_law_told_places : K.lookup f_law_told_places = some ⟨oc_law_told_places, od_law_told_places, .func (PySem.W.fnOf "_law_told_places" "_law_told_places" (defArgs s_law_told_places) (defBody s_law_told_places) (defScope s_law_told_places) .none kV_law_told_places dc_law_told_places pm_law_told_places an_law_told_places cd_law_told_places ct_law_told_places), sl_law_told_places⟩) (c_law_told_places : PySem.W.codeIn K cd_law_told_places "_law_told_places" = true) (k_law_told_places : PySem.W.keepIn K (.ref f_law_told_places) = true)
    {f_law_time_at : Addr} {od_law_time_at an_law_time_at : Option Addr} {sl_law_time_at : Array (Option Value)} {oc_law_time_at kV_law_time_at dc_law_time_at pm_law_time_at cd_law_time_at ct_law_time_at : Value}
    (a_law_time_at : PySem.W.nsIn K mainGlobals "_law_time_at" = some (some (.ref f_law_time_at))) (l_law_time_at : K.lookup f_law_time_at = some ⟨oc_law_time_at, od_law_time_at, .func (PySem.W.fnOf "_law_time_at" "_law_time_at" (defArgs s_law_time_at) (defBody s_law_time_at) (defScope s_law_time_at) .none kV_law_time_at dc_law_time_at pm_law_time_at an_law_time_at cd_law_time_at ct_law_time_at), sl_law_time_at⟩) (c_law_time_at : PySem.W.codeIn K cd_law_time_at "_law_time_at" = true) (k_law_time_at : PySem.W.keepIn K (.ref f_law_time_at) = true)
    {f_law_separation : Addr} {od_law_separation an_law_separation : Option Addr} {sl_law_separation : Array (Option Value)} {oc_law_separation kV_law_separation dc_law_separation pm_law_separation cd_law_separation ct_law_separation : Value}
    (a_law_separation : PySem.W.nsIn K mainGlobals "_law_separation" = some (some (.ref f_law_separation))) (l_law_separation : K.lookup f_law_separation = some ⟨oc_law_separation, od_law_separation, .func (PySem.W.fnOf "_law_separation" "_law_separation" (defArgs s_law_separation) (defBody s_law_separation) (defScope s_law_separation) .none kV_law_separation dc_law_separation pm_law_separation an_law_separation cd_law_separation ct_law_separation), sl_law_separation⟩) (c_law_separation : PySem.W.codeIn K cd_law_separation "_law_separation" = true) (k_law_separation : PySem.W.keepIn K (.ref f_law_separation) = true)
    {f_kept_indexes : Addr} {od_kept_indexes an_kept_indexes : Option Addr} {sl_kept_indexes : Array (Option Value)} {oc_kept_indexes kV_kept_indexes dc_kept_indexes pm_kept_indexes cd_kept_indexes ct_kept_indexes : Value}
    (a_kept_indexes : PySem.W.nsIn K mainGlobals "kept_indexes" = some (some (.ref f_kept_indexes))) (l_kept_indexes : K.lookup f_kept_indexes = some ⟨oc_kept_indexes, od_kept_indexes, .func (PySem.W.fnOf "kept_indexes" "kept_indexes" (defArgs s_kept_indexes) (defBody s_kept_indexes) (defScope s_kept_indexes) .none kV_kept_indexes dc_kept_indexes pm_kept_indexes an_kept_indexes cd_kept_indexes ct_kept_indexes), sl_kept_indexes⟩) (c_kept_indexes : PySem.W.codeIn K cd_kept_indexes "kept_indexes" = true) (k_kept_indexes : PySem.W.keepIn K (.ref f_kept_indexes) = true)
    {f_shortest_of : Addr} {od_shortest_of an_shortest_of : Option Addr} {sl_shortest_of : Array (Option Value)} {oc_shortest_of kV_shortest_of dc_shortest_of pm_shortest_of cd_shortest_of ct_shortest_of : Value}
    (a_shortest_of : PySem.W.nsIn K mainGlobals "shortest_of" = some (some (.ref f_shortest_of))) (l_shortest_of : K.lookup f_shortest_of = some ⟨oc_shortest_of, od_shortest_of, .func (PySem.W.fnOf "shortest_of" "shortest_of" (defArgs s_shortest_of) (defBody s_shortest_of) (defScope s_shortest_of) .none kV_shortest_of dc_shortest_of pm_shortest_of an_shortest_of cd_shortest_of ct_shortest_of), sl_shortest_of⟩) (c_shortest_of : PySem.W.codeIn K cd_shortest_of "shortest_of" = true) (k_shortest_of : PySem.W.keepIn K (.ref f_shortest_of) = true)
    {f_shortest : Addr} {od_shortest an_shortest : Option Addr} {sl_shortest : Array (Option Value)} {oc_shortest kV_shortest dc_shortest pm_shortest cd_shortest ct_shortest : Value}
    (a_shortest : PySem.W.nsIn K mainGlobals "shortest" = some (some (.ref f_shortest))) (l_shortest : K.lookup f_shortest = some ⟨oc_shortest, od_shortest, .func (PySem.W.fnOf "shortest" "shortest" (defArgs s_shortest) (defBody s_shortest) (defScope s_shortest) .none kV_shortest dc_shortest pm_shortest an_shortest cd_shortest ct_shortest), sl_shortest⟩) (c_shortest : PySem.W.codeIn K cd_shortest "shortest" = true) (k_shortest : PySem.W.keepIn K (.ref f_shortest) = true)
    {f_left_out : Addr} {od_left_out an_left_out : Option Addr} {sl_left_out : Array (Option Value)} {oc_left_out kV_left_out dc_left_out pm_left_out cd_left_out ct_left_out : Value}
    (a_left_out : PySem.W.nsIn K mainGlobals "left_out" = some (some (.ref f_left_out))) (l_left_out : K.lookup f_left_out = some ⟨oc_left_out, od_left_out, .func (PySem.W.fnOf "left_out" "left_out" (defArgs s_left_out) (defBody s_left_out) (defScope s_left_out) .none kV_left_out dc_left_out pm_left_out an_left_out cd_left_out ct_left_out), sl_left_out⟩) (c_left_out : PySem.W.codeIn K cd_left_out "left_out" = true) (k_left_out : PySem.W.keepIn K (.ref f_left_out) = true)
    {f_law_steps : Addr} {od_law_steps an_law_steps : Option Addr} {sl_law_steps : Array (Option Value)} {oc_law_steps kV_law_steps dc_law_steps pm_law_steps cd_law_steps ct_law_steps : Value}
    (a_law_steps : PySem.W.nsIn K mainGlobals "_law_steps" = some (some (.ref f_law_steps))) (l_law_steps : K.lookup f_law_steps = some ⟨oc_law_steps, od_law_steps, .func (PySem.W.fnOf "_law_steps" "_law_steps" (defArgs s_law_steps) (defBody s_law_steps) (defScope s_law_steps) .none kV_law_steps dc_law_steps pm_law_steps an_law_steps cd_law_steps ct_law_steps), sl_law_steps⟩) (c_law_steps : PySem.W.codeIn K cd_law_steps "_law_steps" = true) (k_law_steps : PySem.W.keepIn K (.ref f_law_steps) = true)
    {f_law_commute : Addr} {od_law_commute an_law_commute : Option Addr} {sl_law_commute : Array (Option Value)} {oc_law_commute kV_law_commute dc_law_commute pm_law_commute cd_law_commute ct_law_commute : Value}
    (a_law_commute : PySem.W.nsIn K mainGlobals "_law_commute" = some (some (.ref f_law_commute))) (l_law_commute : K.lookup f_law_commute = some ⟨oc_law_commute, od_law_commute, .func (PySem.W.fnOf "_law_commute" "_law_commute" (defArgs s_law_commute) (defBody s_law_commute) (defScope s_law_commute) .none kV_law_commute dc_law_commute pm_law_commute an_law_commute cd_law_commute ct_law_commute), sl_law_commute⟩) (c_law_commute : PySem.W.codeIn K cd_law_commute "_law_commute" = true) (k_law_commute : PySem.W.keepIn K (.ref f_law_commute) = true)
    {f_law_idle_by : Addr} {od_law_idle_by an_law_idle_by : Option Addr} {sl_law_idle_by : Array (Option Value)} {oc_law_idle_by kV_law_idle_by dc_law_idle_by pm_law_idle_by cd_law_idle_by ct_law_idle_by : Value}
    (a_law_idle_by : PySem.W.nsIn K mainGlobals "_law_idle_by" = some (some (.ref f_law_idle_by))) (l_law_idle_by : K.lookup f_law_idle_by = some ⟨oc_law_idle_by, od_law_idle_by, .func (PySem.W.fnOf "_law_idle_by" "_law_idle_by" (defArgs s_law_idle_by) (defBody s_law_idle_by) (defScope s_law_idle_by) .none kV_law_idle_by dc_law_idle_by pm_law_idle_by an_law_idle_by cd_law_idle_by ct_law_idle_by), sl_law_idle_by⟩) (c_law_idle_by : PySem.W.codeIn K cd_law_idle_by "_law_idle_by" = true) (k_law_idle_by : PySem.W.keepIn K (.ref f_law_idle_by) = true)
    {f_law_told_reduction : Addr} {od_law_told_reduction an_law_told_reduction : Option Addr} {sl_law_told_reduction : Array (Option Value)} {oc_law_told_reduction kV_law_told_reduction dc_law_told_reduction pm_law_told_reduction cd_law_told_reduction ct_law_told_reduction : Value}
    (a_law_told_reduction : PySem.W.nsIn K mainGlobals "_law_told_reduction" = some (some (.ref f_law_told_reduction))) (l_law_told_reduction : K.lookup f_law_told_reduction = some ⟨oc_law_told_reduction, od_law_told_reduction, .func (PySem.W.fnOf "_law_told_reduction" "_law_told_reduction" (defArgs s_law_told_reduction) (defBody s_law_told_reduction) (defScope s_law_told_reduction) .none kV_law_told_reduction dc_law_told_reduction pm_law_told_reduction an_law_told_reduction cd_law_told_reduction ct_law_told_reduction), sl_law_told_reduction⟩) (c_law_told_reduction : PySem.W.codeIn K cd_law_told_reduction "_law_told_reduction" = true) (k_law_told_reduction : PySem.W.keepIn K (.ref f_law_told_reduction) = true)
    {f_law_crossed : Addr} {od_law_crossed an_law_crossed : Option Addr} {sl_law_crossed : Array (Option Value)} {oc_law_crossed kV_law_crossed dc_law_crossed pm_law_crossed cd_law_crossed ct_law_crossed : Value}
    (a_law_crossed : PySem.W.nsIn K mainGlobals "_law_crossed" = some (some (.ref f_law_crossed))) (l_law_crossed : K.lookup f_law_crossed = some ⟨oc_law_crossed, od_law_crossed, .func (PySem.W.fnOf "_law_crossed" "_law_crossed" (defArgs s_law_crossed) (defBody s_law_crossed) (defScope s_law_crossed) .none kV_law_crossed dc_law_crossed pm_law_crossed an_law_crossed cd_law_crossed ct_law_crossed), sl_law_crossed⟩) (c_law_crossed : PySem.W.codeIn K cd_law_crossed "_law_crossed" = true) (k_law_crossed : PySem.W.keepIn K (.ref f_law_crossed) = true)
    {f_law_news : Addr} {od_law_news an_law_news : Option Addr} {sl_law_news : Array (Option Value)} {oc_law_news kV_law_news dc_law_news pm_law_news cd_law_news ct_law_news : Value}
    (a_law_news : PySem.W.nsIn K mainGlobals "_law_news" = some (some (.ref f_law_news))) (l_law_news : K.lookup f_law_news = some ⟨oc_law_news, od_law_news, .func (PySem.W.fnOf "_law_news" "_law_news" (defArgs s_law_news) (defBody s_law_news) (defScope s_law_news) .none kV_law_news dc_law_news pm_law_news an_law_news cd_law_news ct_law_news), sl_law_news⟩) (c_law_news : PySem.W.codeIn K cd_law_news "_law_news" = true) (k_law_news : PySem.W.keepIn K (.ref f_law_news) = true)
    {f_law_two : Addr} {od_law_two an_law_two : Option Addr} {sl_law_two : Array (Option Value)} {oc_law_two kV_law_two dc_law_two pm_law_two cd_law_two ct_law_two : Value}
    (a_law_two : PySem.W.nsIn K mainGlobals "_law_two" = some (some (.ref f_law_two))) (l_law_two : K.lookup f_law_two = some ⟨oc_law_two, od_law_two, .func (PySem.W.fnOf "_law_two" "_law_two" (defArgs s_law_two) (defBody s_law_two) (defScope s_law_two) .none kV_law_two dc_law_two pm_law_two an_law_two cd_law_two ct_law_two), sl_law_two⟩) (c_law_two : PySem.W.codeIn K cd_law_two "_law_two" = true) (k_law_two : PySem.W.keepIn K (.ref f_law_two) = true)
    {f_law_stream : Addr} {od_law_stream an_law_stream : Option Addr} {sl_law_stream : Array (Option Value)} {oc_law_stream kV_law_stream dc_law_stream pm_law_stream cd_law_stream ct_law_stream : Value}
    (a_law_stream : PySem.W.nsIn K mainGlobals "_law_stream" = some (some (.ref f_law_stream))) (l_law_stream : K.lookup f_law_stream = some ⟨oc_law_stream, od_law_stream, .func (PySem.W.fnOf "_law_stream" "_law_stream" (defArgs s_law_stream) (defBody s_law_stream) (defScope s_law_stream) .none kV_law_stream dc_law_stream pm_law_stream an_law_stream cd_law_stream ct_law_stream), sl_law_stream⟩) (c_law_stream : PySem.W.codeIn K cd_law_stream "_law_stream" = true) (k_law_stream : PySem.W.keepIn K (.ref f_law_stream) = true)
    {f_law : Addr} {od_law an_law : Option Addr} {sl_law : Array (Option Value)} {oc_law kV_law dc_law pm_law cd_law ct_law : Value}
    (a_law : PySem.W.nsIn K mainGlobals "law" = some (some (.ref f_law))) (l_law : K.lookup f_law = some ⟨oc_law, od_law, .func (PySem.W.fnOf "law" "law" (defArgs s_law) (defBody s_law) (defScope s_law) .none kV_law dc_law pm_law an_law cd_law ct_law), sl_law⟩) (c_law : PySem.W.codeIn K cd_law "law" = true) (k_law : PySem.W.keepIn K (.ref f_law) = true)
    (z_len : PySem.W.nsIn K mainGlobals "len" = some none)
    (z_int : PySem.W.nsIn K mainGlobals "int" = some none)
    (z_bool : PySem.W.nsIn K mainGlobals "bool" = some none)
    (z_abs : PySem.W.nsIn K mainGlobals "abs" = some none)
    (z_max : PySem.W.nsIn K mainGlobals "max" = some none)
    (z_min : PySem.W.nsIn K mainGlobals "min" = some none)
    (z_all : PySem.W.nsIn K mainGlobals "all" = some none)
    (z_sorted : PySem.W.nsIn K mainGlobals "sorted" = some none)
    (z_list : PySem.W.nsIn K mainGlobals "list" = some none)
    (z_tuple : PySem.W.nsIn K mainGlobals "tuple" = some none)
    (z_isinstance : PySem.W.nsIn K mainGlobals "isinstance" = some none)
    (z_range : PySem.W.nsIn K mainGlobals "range" = some none)
    (z_enumerate : PySem.W.nsIn K mainGlobals "enumerate" = some none)
    (z_zip : PySem.W.nsIn K mainGlobals "zip" = some none)
    {t_MOST_EVENT : Tok} (z_MOST_EVENT : PySem.W.nsIn K mainGlobals "MOST_EVENT" = some (some (.int 5 t_MOST_EVENT)))
    {t_MOST_TIME : Tok} (z_MOST_TIME : PySem.W.nsIn K mainGlobals "MOST_TIME" = some (some (.int 500 t_MOST_TIME)))
    {t_MOST_NEWS : Tok} (z_MOST_NEWS : PySem.W.nsIn K mainGlobals "MOST_NEWS" = some (some (.int 8 t_MOST_NEWS)))
    : LamX.LawAtS l w K CX0 10 63 "_law_script" mg fa h := by
  have e := hfa.symm.trans (PySem.W.mg_of X G a_law)
  cases e
  have Bb : Bi mg := ⟨PySem.W.mg_none_of X G z_len, PySem.W.mg_none_of X G z_int, PySem.W.mg_none_of X G z_bool, PySem.W.mg_none_of X G z_abs, PySem.W.mg_none_of X G z_max, PySem.W.mg_none_of X G z_min, PySem.W.mg_none_of X G z_all, PySem.W.mg_none_of X G z_sorted, PySem.W.mg_none_of X G z_list, PySem.W.mg_none_of X G z_tuple, PySem.W.mg_none_of X G z_isinstance, PySem.W.mg_none_of X G z_range, PySem.W.mg_none_of X G z_enumerate, PySem.W.mg_none_of X G z_zip, ⟨_, PySem.W.mg_of X G z_MOST_EVENT⟩, ⟨_, PySem.W.mg_of X G z_MOST_TIME⟩, ⟨_, PySem.W.mg_of X G z_MOST_NEWS⟩⟩
  refine ⟨PySem.W.fnOf "law" "law" (defArgs s_law) (defBody s_law) (defScope s_law) .none kV_law dc_law pm_law an_law cd_law ct_law, [(c88, 88)], sp_law K T88, fun p hp => ?_, fun p hp => ?_, fun p hp => ?_, fun s v => .of_eq rfl, fun H a ns _ _ hp hs => ⟨a, ns, rfl, hs, tabs_88 (hp (c88, 88) (.head _)), fun _ => rfl⟩, fun base Kb Gb TBs => ?_⟩
  · rw [List.mem_singleton.mp hp]
    exact hT
  · rw [List.mem_singleton.mp hp]
    exact nT
  · rw [List.mem_singleton.mp hp]
    exact PySem.W.codeHd_of_K X hC
  have TB := TBs (c88, 88) (.head _)
  have F_steps_in := fun_mk (st := s_steps_in) l_steps_in c_steps_in k_steps_in
  have b_steps_in := F_steps_in.binds (ps := p_steps_in) fun _ _ _ _ _ _ us hl => match us, hl with | [_], _ => rfl
  have C_steps_in := cal_steps_in (P := l.prog) (w := w) (base := base) (T := T88) F_steps_in b_steps_in (PySem.W.mg_of X G a_steps_in) Bb
  have F_is_stronger := fun_mk (st := s_is_stronger) l_is_stronger c_is_stronger k_is_stronger
  have b_is_stronger := F_is_stronger.binds (ps := p_is_stronger) fun _ _ _ _ _ _ us hl => match us, hl with | [_, _], _ => rfl
  have C_is_stronger := cal_is_stronger (P := l.prog) (w := w) (base := base) (T := T88) F_is_stronger b_is_stronger (PySem.W.mg_of X G a_is_stronger)
  have F_do_commute := fun_mk (st := s_do_commute) l_do_commute c_do_commute k_do_commute
  have b_do_commute := F_do_commute.binds (ps := p_do_commute) fun _ _ _ _ _ _ us hl => match us, hl with | [_, _], _ => rfl
  have C_do_commute := cal_do_commute (P := l.prog) (w := w) (base := base) (T := T88) F_do_commute b_do_commute (PySem.W.mg_of X G a_do_commute)
  have F_makes_idle := fun_mk (st := s_makes_idle) l_makes_idle c_makes_idle k_makes_idle
  have b_makes_idle := F_makes_idle.binds (ps := p_makes_idle) fun _ _ _ _ _ _ us hl => match us, hl with | [_, _, _], _ => rfl
  have C_makes_idle := cal_makes_idle (P := l.prog) (w := w) (base := base) (T := T88) F_makes_idle b_makes_idle (PySem.W.mg_of X G a_makes_idle) C_is_stronger C_do_commute Bb
  have F_why_idle := fun_mk (st := s_why_idle) l_why_idle c_why_idle k_why_idle
  have b_why_idle := F_why_idle.binds (ps := p_why_idle) fun _ _ _ _ _ _ us hl => match us, hl with | [_, _], _ => rfl
  have C_why_idle := cal_why_idle (P := l.prog) (w := w) (base := base) (T := T88) F_why_idle b_why_idle (PySem.W.mg_of X G a_why_idle) C_makes_idle Bb
  have F_first_idle := fun_mk (st := s_first_idle) l_first_idle c_first_idle k_first_idle
  have b_first_idle := F_first_idle.binds (ps := p_first_idle) fun _ _ _ _ _ _ us hl => match us, hl with | [_], _ => rfl
  have C_first_idle := cal_first_idle (P := l.prog) (w := w) (base := base) (T := T88) F_first_idle b_first_idle (PySem.W.mg_of X G a_first_idle) C_why_idle Bb
  have F_reduction_of := fun_mk (st := s_reduction_of) l_reduction_of c_reduction_of k_reduction_of
  have b_reduction_of := F_reduction_of.binds (ps := p_reduction_of) fun _ _ _ _ _ _ us hl => match us, hl with | [_], _ => rfl
  have C_reduction_of := cal_reduction_of (P := l.prog) (w := w) (base := base) (T := T88) F_reduction_of b_reduction_of (PySem.W.mg_of X G a_reduction_of) C_first_idle Bb
  have F_remaining_of := fun_mk (st := s_remaining_of) l_remaining_of c_remaining_of k_remaining_of
  have b_remaining_of := F_remaining_of.binds (ps := p_remaining_of) fun _ _ _ _ _ _ us hl => match us, hl with | [_], _ => rfl
  have C_remaining_of := cal_remaining_of (P := l.prog) (w := w) (base := base) (T := T88) F_remaining_of b_remaining_of (PySem.W.mg_of X G a_remaining_of) C_reduction_of Bb
  have F_layers_in := fun_mk (st := s_layers_in) l_layers_in c_layers_in k_layers_in
  have b_layers_in := F_layers_in.binds (ps := p_layers_in) fun _ _ _ _ _ _ us hl => match us, hl with | [_], _ => rfl
  have C_layers_in := cal_layers_in (P := l.prog) (w := w) (base := base) (funC_mk (st := s_layers_in) l_layers_in c_layers_in k_layers_in) b_layers_in (PySem.W.mg_of X G a_layers_in) TB C_do_commute Bb
  have F_layers_of_row := fun_mk (st := s_layers_of_row) l_layers_of_row c_layers_of_row k_layers_of_row
  have b_layers_of_row := F_layers_of_row.binds (ps := p_layers_of_row) fun _ _ _ _ _ _ us hl => match us, hl with | [_], _ => rfl
  have C_layers_of_row := cal_layers_of_row (P := l.prog) (w := w) (base := base) (T := T88) F_layers_of_row b_layers_of_row (PySem.W.mg_of X G a_layers_of_row) C_steps_in C_remaining_of C_layers_in
  have F_is_alike := fun_mk (st := s_is_alike) l_is_alike c_is_alike k_is_alike
  have b_is_alike := F_is_alike.binds (ps := p_is_alike) fun _ _ _ _ _ _ us hl => match us, hl with | [_, _], _ => rfl
  have C_is_alike := cal_is_alike (P := l.prog) (w := w) (base := base) (T := T88) F_is_alike b_is_alike (PySem.W.mg_of X G a_is_alike) C_layers_of_row
  have F_is_integer := fun_mk (st := s_is_integer) l_is_integer c_is_integer k_is_integer
  have b_is_integer := F_is_integer.binds (ps := p_is_integer) fun _ _ _ _ _ _ us hl => match us, hl with | [_], _ => rfl
  have C_is_integer := cal_is_integer (P := l.prog) (w := w) (base := base) (T := T88) F_is_integer b_is_integer (PySem.W.mg_of X G a_is_integer) Bb
  have F_is_event_time := fun_mk (st := s_is_event_time) l_is_event_time c_is_event_time k_is_event_time
  have b_is_event_time := F_is_event_time.binds (ps := p_is_event_time) fun _ _ _ _ _ _ us hl => match us, hl with | [_, _], _ => rfl
  have C_is_event_time := cal_is_event_time (P := l.prog) (w := w) (base := base) (T := T88) F_is_event_time b_is_event_time (PySem.W.mg_of X G a_is_event_time) C_is_integer Bb
  have F_is_free_row := fun_mk (st := s_is_free_row) l_is_free_row c_is_free_row k_is_free_row
  have b_is_free_row := F_is_free_row.binds (ps := p_is_free_row) fun _ _ _ _ _ _ us hl => match us, hl with | [_], _ => rfl
  have C_is_free_row := cal_is_free_row (P := l.prog) (w := w) (base := base) (T := T88) F_is_free_row b_is_free_row (PySem.W.mg_of X G a_is_free_row) C_is_event_time Bb
  have F_check_row := fun_mk (st := s_check_row) l_check_row c_check_row k_check_row
  have b_check_row := F_check_row.binds (ps := p_check_row) fun _ _ _ _ _ _ us hl => match us, hl with | [_, _], _ => rfl
  have C_check_row := cal_check_row (P := l.prog) (w := w) (base := base) (T := T88) F_check_row b_check_row (PySem.W.mg_of X G a_check_row) C_is_free_row
  have F_check_rows := fun_mk (st := s_check_rows) l_check_rows c_check_rows k_check_rows
  have b_check_rows := F_check_rows.binds (ps := p_check_rows) fun _ _ _ _ _ _ us hl => match us, hl with | [_, _], _ => rfl
  have C_check_rows := cal_check_rows (P := l.prog) (w := w) (base := base) (T := T88) F_check_rows b_check_rows (PySem.W.mg_of X G a_check_rows) C_check_row
  have F_are_alike := fun_mk (st := s_are_alike) l_are_alike c_are_alike k_are_alike
  have b_are_alike := F_are_alike.binds (ps := p_are_alike) fun _ _ _ _ _ _ us hl => match us, hl with | [_, _], _ => rfl
  have C_are_alike := cal_are_alike (P := l.prog) (w := w) (base := base) (T := T88) F_are_alike b_are_alike (PySem.W.mg_of X G a_are_alike) C_is_alike C_check_rows
  have F_law_next := fun_mk (st := s_law_next) l_law_next c_law_next k_law_next
  have b_law_next := F_law_next.binds (ps := p_law_next) fun _ _ _ _ _ _ us hl => match us, hl with | [_, _], _ => rfl
  have C_law_next := cal_law_next (P := l.prog) (w := w) (base := base) (T := T88) F_law_next b_law_next (PySem.W.mg_of X G a_law_next) Bb
  have F_law_is_integer := fun_mk (st := s_law_is_integer) l_law_is_integer c_law_is_integer k_law_is_integer
  have b_law_is_integer := F_law_is_integer.binds (ps := p_law_is_integer) fun _ _ _ _ _ _ us hl => match us, hl with | [_], _ => rfl
  have C_law_is_integer := cal_law_is_integer (P := l.prog) (w := w) (base := base) (T := T88) F_law_is_integer b_law_is_integer (PySem.W.mg_of X G a_law_is_integer) Bb
  have F_law_is_side := fun_mk (st := s_law_is_side) l_law_is_side c_law_is_side k_law_is_side
  have b_law_is_side := F_law_is_side.binds (ps := p_law_is_side) fun _ _ _ _ _ _ us hl => match us, hl with | [_], _ => rfl
  have C_law_is_side := cal_law_is_side (P := l.prog) (w := w) (base := base) (T := T88) F_law_is_side b_law_is_side (PySem.W.mg_of X G a_law_is_side) C_law_is_integer Bb
  have F_law_is_place := fun_mk (st := s_law_is_place) l_law_is_place c_law_is_place k_law_is_place
  have b_law_is_place := F_law_is_place.binds (ps := p_law_is_place) fun _ _ _ _ _ _ us hl => match us, hl with | [_], _ => rfl
  have C_law_is_place := cal_law_is_place (P := l.prog) (w := w) (base := base) (T := T88) F_law_is_place b_law_is_place (PySem.W.mg_of X G a_law_is_place) C_law_is_integer C_law_is_side Bb
  have F_law_told_places := fun_mk (st := s_law_told_places) l_law_told_places c_law_told_places k_law_told_places
  have b_law_told_places := F_law_told_places.binds (ps := p_law_told_places) fun _ _ _ _ _ _ us hl => match us, hl with | [_, _], _ => rfl
  have C_law_told_places := cal_law_told_places (P := l.prog) (w := w) (base := base) (T := T88) F_law_told_places b_law_told_places (PySem.W.mg_of X G a_law_told_places) C_law_is_place Bb
  have F_law_time_at := fun_mk (st := s_law_time_at) l_law_time_at c_law_time_at k_law_time_at
  have b_law_time_at := F_law_time_at.binds (ps := p_law_time_at) fun _ _ _ _ _ _ us hl => match us, hl with | [_, _], _ => rfl
  have C_law_time_at := cal_law_time_at (P := l.prog) (w := w) (base := base) (T := T88) F_law_time_at b_law_time_at (PySem.W.mg_of X G a_law_time_at) Bb
  have F_law_separation := fun_mk (st := s_law_separation) l_law_separation c_law_separation k_law_separation
  have b_law_separation := F_law_separation.binds (ps := p_law_separation) fun _ _ _ _ _ _ us hl => match us, hl with | [_, _], _ => rfl
  have C_law_separation := cal_law_separation (P := l.prog) (w := w) (base := base) (T := T88) F_law_separation b_law_separation (PySem.W.mg_of X G a_law_separation) C_law_told_places C_law_time_at
  have F_kept_indexes := fun_mk (st := s_kept_indexes) l_kept_indexes c_kept_indexes k_kept_indexes
  have b_kept_indexes := F_kept_indexes.binds (ps := p_kept_indexes) fun _ _ _ _ _ _ us hl => match us, hl with | [_], _ => rfl
  have C_kept_indexes := cal_kept_indexes (P := l.prog) (w := w) (base := base) (T := T88) F_kept_indexes b_kept_indexes (PySem.W.mg_of X G a_kept_indexes) C_steps_in C_reduction_of Bb
  have F_shortest_of := fun_mk (st := s_shortest_of) l_shortest_of c_shortest_of k_shortest_of
  have b_shortest_of := F_shortest_of.binds (ps := p_shortest_of) fun _ _ _ _ _ _ us hl => match us, hl with | [_], _ => rfl
  have C_shortest_of := cal_shortest_of (P := l.prog) (w := w) (base := base) (T := T88) F_shortest_of b_shortest_of (PySem.W.mg_of X G a_shortest_of) C_kept_indexes Bb
  have F_shortest := fun_mk (st := s_shortest) l_shortest c_shortest k_shortest
  have b_shortest := F_shortest.binds (ps := p_shortest) fun _ _ _ _ _ _ us hl => match us, hl with | [_], _ => rfl
  have C_shortest := cal_shortest (P := l.prog) (w := w) (base := base) (T := T88) F_shortest b_shortest (PySem.W.mg_of X G a_shortest) C_shortest_of C_check_row
  have F_left_out := fun_mk (st := s_left_out) l_left_out c_left_out k_left_out
  have b_left_out := F_left_out.binds (ps := p_left_out) fun _ _ _ _ _ _ us hl => match us, hl with | [_], _ => rfl
  have C_left_out := cal_left_out (P := l.prog) (w := w) (base := base) (T := T88) F_left_out b_left_out (PySem.W.mg_of X G a_left_out) C_kept_indexes C_check_row Bb
  have F_law_steps := fun_mk (st := s_law_steps) l_law_steps c_law_steps k_law_steps
  have b_law_steps := F_law_steps.binds (ps := p_law_steps) fun _ _ _ _ _ _ us hl => match us, hl with | [_], _ => rfl
  have C_law_steps := cal_law_steps (P := l.prog) (w := w) (base := base) (T := T88) F_law_steps b_law_steps (PySem.W.mg_of X G a_law_steps) Bb
  have F_law_commute := fun_mk (st := s_law_commute) l_law_commute c_law_commute k_law_commute
  have b_law_commute := F_law_commute.binds (ps := p_law_commute) fun _ _ _ _ _ _ us hl => match us, hl with | [_, _], _ => rfl
  have C_law_commute := cal_law_commute (P := l.prog) (w := w) (base := base) (T := T88) F_law_commute b_law_commute (PySem.W.mg_of X G a_law_commute)
  have F_law_idle_by := fun_mk (st := s_law_idle_by) l_law_idle_by c_law_idle_by k_law_idle_by
  have b_law_idle_by := F_law_idle_by.binds (ps := p_law_idle_by) fun _ _ _ _ _ _ us hl => match us, hl with | [_, _, _], _ => rfl
  have C_law_idle_by := cal_law_idle_by (P := l.prog) (w := w) (base := base) (T := T88) F_law_idle_by b_law_idle_by (PySem.W.mg_of X G a_law_idle_by) C_law_commute Bb
  have F_law_told_reduction := fun_mk (st := s_law_told_reduction) l_law_told_reduction c_law_told_reduction k_law_told_reduction
  have b_law_told_reduction := F_law_told_reduction.binds (ps := p_law_told_reduction) fun _ _ _ _ _ _ us hl => match us, hl with | [_], _ => rfl
  have C_law_told_reduction := cal_law_told_reduction (P := l.prog) (w := w) (base := base) (T := T88) F_law_told_reduction b_law_told_reduction (PySem.W.mg_of X G a_law_told_reduction) C_law_idle_by Bb
  have F_law_crossed := fun_mk (st := s_law_crossed) l_law_crossed c_law_crossed k_law_crossed
  have b_law_crossed := F_law_crossed.binds (ps := p_law_crossed) fun _ _ _ _ _ _ us hl => match us, hl with | [_, _, _], _ => rfl
  have C_law_crossed := cal_law_crossed (P := l.prog) (w := w) (base := base) (T := T88) F_law_crossed b_law_crossed (PySem.W.mg_of X G a_law_crossed) C_law_next Bb
  have F_law_news := fun_mk (st := s_law_news) l_law_news c_law_news k_law_news
  have b_law_news := F_law_news.binds (ps := p_law_news) fun _ _ _ _ _ _ us hl => match us, hl with | [_, _, _], _ => rfl
  have C_law_news := cal_law_news (P := l.prog) (w := w) (base := base) (T := T88) F_law_news b_law_news (PySem.W.mg_of X G a_law_news) C_law_next Bb
  have F_law_two := fun_mk (st := s_law_two) l_law_two c_law_two k_law_two
  have b_law_two := F_law_two.binds (ps := p_law_two) fun _ _ _ _ _ _ us hl => match us, hl with | [_, _, _], _ => rfl
  have C_law_two := cal_law_two (P := l.prog) (w := w) (base := base) (T := T88) F_law_two b_law_two (PySem.W.mg_of X G a_law_two) C_law_next C_law_crossed C_law_steps C_law_told_reduction C_law_news Bb
  have F_law_stream := fun_mk (st := s_law_stream) l_law_stream c_law_stream k_law_stream
  have b_law_stream := F_law_stream.binds (ps := p_law_stream) fun _ _ _ _ _ _ us hl => match us, hl with | [_], _ => rfl
  have C_law_stream := cal_law_stream (P := l.prog) (w := w) (base := base) (T := T88) F_law_stream b_law_stream (PySem.W.mg_of X G a_law_stream) Bb
  exact ok_law (fun_mk (st := s_law) l_law c_law k_law) C_are_alike C_law_next C_law_separation C_shortest C_left_out C_law_steps C_law_told_reduction C_law_two C_law_stream Bb
end Al51
open PySem PySem.W PyProof.Rows
set_option maxHeartbeats 0 in
theorem PySem.Challenge.cw_allbide_k51_whole_shortest_rows_holds : PySem.Challenge.rw_allbide_k51_whole_shortest_rows.Holds := by
  w_on; o_law; k_head; (case hw => w_witness2)
  k_fill
  refine LamX.walk_ofTs (l := PySem.Challenge.rw_allbide_k51_whole_shortest_rows) (n := 63) (k := 10) (x := "_law_script") (CX := fun _ => L2.CX0) rfl (by decide) rfl ⟨rfl, by decide, by decide⟩ (fun w h Y => PySem.W.km_in_of Y) ?F (fun _ _ _ _ _ z => z)
  case F =>
    intro w mg fa h Y KX G hmg
    refine' Al51.all_mk KX G hmg (PySem.W.km_tabs_of Y 88 (by simp)) ?nT ?hC ?a_steps_in ?l_steps_in ?c_steps_in ?k_steps_in ?a_is_stronger ?l_is_stronger ?c_is_stronger ?k_is_stronger ?a_do_commute ?l_do_commute ?c_do_commute ?k_do_commute ?a_makes_idle ?l_makes_idle ?c_makes_idle ?k_makes_idle ?a_why_idle ?l_why_idle ?c_why_idle ?k_why_idle ?a_first_idle ?l_first_idle ?c_first_idle ?k_first_idle ?a_reduction_of ?l_reduction_of ?c_reduction_of ?k_reduction_of ?a_remaining_of ?l_remaining_of ?c_remaining_of ?k_remaining_of ?a_layers_in ?l_layers_in ?c_layers_in ?k_layers_in ?a_layers_of_row ?l_layers_of_row ?c_layers_of_row ?k_layers_of_row ?a_is_alike ?l_is_alike ?c_is_alike ?k_is_alike ?a_is_integer ?l_is_integer ?c_is_integer ?k_is_integer ?a_is_event_time ?l_is_event_time ?c_is_event_time ?k_is_event_time ?a_is_free_row ?l_is_free_row ?c_is_free_row ?k_is_free_row ?a_check_row ?l_check_row ?c_check_row ?k_check_row ?a_check_rows ?l_check_rows ?c_check_rows ?k_check_rows ?a_are_alike ?l_are_alike ?c_are_alike ?k_are_alike ?a_law_next ?l_law_next ?c_law_next ?k_law_next ?a_law_is_integer ?l_law_is_integer ?c_law_is_integer ?k_law_is_integer ?a_law_is_side ?l_law_is_side ?c_law_is_side ?k_law_is_side ?a_law_is_place ?l_law_is_place ?c_law_is_place ?k_law_is_place ?a_law_told_places ?l_law_told_places ?c_law_told_places ?k_law_told_places ?a_law_time_at ?l_law_time_at ?c_law_time_at ?k_law_time_at ?a_law_separation ?l_law_separation ?c_law_separation ?k_law_separation ?a_kept_indexes ?l_kept_indexes ?c_kept_indexes ?k_kept_indexes ?a_shortest_of ?l_shortest_of ?c_shortest_of ?k_shortest_of ?a_shortest ?l_shortest ?c_shortest ?k_shortest ?a_left_out ?l_left_out ?c_left_out ?k_left_out ?a_law_steps ?l_law_steps ?c_law_steps ?k_law_steps ?a_law_commute ?l_law_commute ?c_law_commute ?k_law_commute ?a_law_idle_by ?l_law_idle_by ?c_law_idle_by ?k_law_idle_by ?a_law_told_reduction ?l_law_told_reduction ?c_law_told_reduction ?k_law_told_reduction ?a_law_crossed ?l_law_crossed ?c_law_crossed ?k_law_crossed ?a_law_news ?l_law_news ?c_law_news ?k_law_news ?a_law_two ?l_law_two ?c_law_two ?k_law_two ?a_law_stream ?l_law_stream ?c_law_stream ?k_law_stream ?a_law ?l_law ?c_law ?k_law ?z_len ?z_int ?z_bool ?z_abs ?z_max ?z_min ?z_all ?z_sorted ?z_list ?z_tuple ?z_isinstance ?z_range ?z_enumerate ?z_zip ?z_MOST_EVENT ?z_MOST_TIME ?z_MOST_NEWS
    (case a_steps_in => k_is)
    (case l_steps_in => k_is)
    (case c_steps_in => k_is)
    (case k_steps_in => k_is)
    (case a_is_stronger => k_is)
    (case l_is_stronger => k_is)
    (case c_is_stronger => k_is)
    (case k_is_stronger => k_is)
    (case a_do_commute => k_is)
    (case l_do_commute => k_is)
    (case c_do_commute => k_is)
    (case k_do_commute => k_is)
    (case a_makes_idle => k_is)
    (case l_makes_idle => k_is)
    (case c_makes_idle => k_is)
    (case k_makes_idle => k_is)
    (case a_why_idle => k_is)
    (case l_why_idle => k_is)
    (case c_why_idle => k_is)
    (case k_why_idle => k_is)
    (case a_first_idle => k_is)
    (case l_first_idle => k_is)
    (case c_first_idle => k_is)
    (case k_first_idle => k_is)
    (case a_reduction_of => k_is)
    (case l_reduction_of => k_is)
    (case c_reduction_of => k_is)
    (case k_reduction_of => k_is)
    (case a_remaining_of => k_is)
    (case l_remaining_of => k_is)
    (case c_remaining_of => k_is)
    (case k_remaining_of => k_is)
    (case a_layers_in => k_is)
    (case l_layers_in => k_is)
    (case c_layers_in => k_is)
    (case k_layers_in => k_is)
    (case a_layers_of_row => k_is)
    (case l_layers_of_row => k_is)
    (case c_layers_of_row => k_is)
    (case k_layers_of_row => k_is)
    (case a_is_alike => k_is)
    (case l_is_alike => k_is)
    (case c_is_alike => k_is)
    (case k_is_alike => k_is)
    (case a_is_integer => k_is)
    (case l_is_integer => k_is)
    (case c_is_integer => k_is)
    (case k_is_integer => k_is)
    (case a_is_event_time => k_is)
    (case l_is_event_time => k_is)
    (case c_is_event_time => k_is)
    (case k_is_event_time => k_is)
    (case a_is_free_row => k_is)
    (case l_is_free_row => k_is)
    (case c_is_free_row => k_is)
    (case k_is_free_row => k_is)
    (case a_check_row => k_is)
    (case l_check_row => k_is)
    (case c_check_row => k_is)
    (case k_check_row => k_is)
    (case a_check_rows => k_is)
    (case l_check_rows => k_is)
    (case c_check_rows => k_is)
    (case k_check_rows => k_is)
    (case a_are_alike => k_is)
    (case l_are_alike => k_is)
    (case c_are_alike => k_is)
    (case k_are_alike => k_is)
    (case a_law_next => k_is)
    (case l_law_next => k_is)
    (case c_law_next => k_is)
    (case k_law_next => k_is)
    (case a_law_is_integer => k_is)
    (case l_law_is_integer => k_is)
    (case c_law_is_integer => k_is)
    (case k_law_is_integer => k_is)
    (case a_law_is_side => k_is)
    (case l_law_is_side => k_is)
    (case c_law_is_side => k_is)
    (case k_law_is_side => k_is)
    (case a_law_is_place => k_is)
    (case l_law_is_place => k_is)
    (case c_law_is_place => k_is)
    (case k_law_is_place => k_is)
    (case a_law_told_places => k_is)
    (case l_law_told_places => k_is)
    (case c_law_told_places => k_is)
    (case k_law_told_places => k_is)
    (case a_law_time_at => k_is)
    (case l_law_time_at => k_is)
    (case c_law_time_at => k_is)
    (case k_law_time_at => k_is)
    (case a_law_separation => k_is)
    (case l_law_separation => k_is)
    (case c_law_separation => k_is)
    (case k_law_separation => k_is)
    (case a_kept_indexes => k_is)
    (case l_kept_indexes => k_is)
    (case c_kept_indexes => k_is)
    (case k_kept_indexes => k_is)
    (case a_shortest_of => k_is)
    (case l_shortest_of => k_is)
    (case c_shortest_of => k_is)
    (case k_shortest_of => k_is)
    (case a_shortest => k_is)
    (case l_shortest => k_is)
    (case c_shortest => k_is)
    (case k_shortest => k_is)
    (case a_left_out => k_is)
    (case l_left_out => k_is)
    (case c_left_out => k_is)
    (case k_left_out => k_is)
    (case a_law_steps => k_is)
    (case l_law_steps => k_is)
    (case c_law_steps => k_is)
    (case k_law_steps => k_is)
    (case a_law_commute => k_is)
    (case l_law_commute => k_is)
    (case c_law_commute => k_is)
    (case k_law_commute => k_is)
    (case a_law_idle_by => k_is)
    (case l_law_idle_by => k_is)
    (case c_law_idle_by => k_is)
    (case k_law_idle_by => k_is)
    (case a_law_told_reduction => k_is)
    (case l_law_told_reduction => k_is)
    (case c_law_told_reduction => k_is)
    (case k_law_told_reduction => k_is)
    (case a_law_crossed => k_is)
    (case l_law_crossed => k_is)
    (case c_law_crossed => k_is)
    (case k_law_crossed => k_is)
    (case a_law_news => k_is)
    (case l_law_news => k_is)
    (case c_law_news => k_is)
    (case k_law_news => k_is)
    (case a_law_two => k_is)
    (case l_law_two => k_is)
    (case c_law_two => k_is)
    (case k_law_two => k_is)
    (case a_law_stream => k_is)
    (case l_law_stream => k_is)
    (case c_law_stream => k_is)
    (case k_law_stream => k_is)
    (case a_law => k_is)
    (case l_law => k_is)
    (case c_law => k_is)
    (case k_law => k_is)
    (case z_len => k_is)
    (case z_int => k_is)
    (case z_bool => k_is)
    (case z_abs => k_is)
    (case z_max => k_is)
    (case z_min => k_is)
    (case z_all => k_is)
    (case z_sorted => k_is)
    (case z_list => k_is)
    (case z_tuple => k_is)
    (case z_isinstance => k_is)
    (case z_range => k_is)
    (case z_enumerate => k_is)
    (case z_zip => k_is)
    (case z_MOST_EVENT => k_is)
    (case z_MOST_TIME => k_is)
    (case z_MOST_NEWS => k_is)
    (case nT => kernel_rfl)
    (case hC => kernel_rfl)
