import PyProof.Rows.All
import Wide.All
import OpenK.AllK
import Wide.FinOn
import Open.SpecLaws
import KE.OsGo
import HandS.ForSpec
import HandS.Comp
import HandS.Dict
import HandS.Iter
import HandS.TupAny
import HandS.Zip
import HandS.Strs
import HandS.SetFor
import HandS.Walk
import PyFlatLaws
import PySem.Challenge.RW_holecard_s01_answers
set_option Elab.async false
set_option linter.all false
set_option maxRecDepth 100000
set_option maxHeartbeats 8000000
namespace Hc
open Uw56
/-! ### rising lists -/
theorem mem_put {a x : Nat} : ∀ {l : List Nat}, x ∈ put a l ↔ x = a ∨ x ∈ l
  | [] => by simp [put]
  | b :: l => by
    unfold put
    split
    · simp
    · split
      · rename_i h
        subst h
        simp
      · rw [List.mem_cons, mem_put, List.mem_cons]
        grind
theorem put_up {a : Nat} : ∀ {l : List Nat}, l.Pairwise (· < ·) → (put a l).Pairwise (· < ·)
  | [], _ => by simp [put]
  | b :: l, h => by
    unfold put
    have h2 := List.pairwise_cons.mp h
    split
    · rename_i c
      refine List.pairwise_cons.mpr ⟨fun x hx => ?_, h⟩
      rcases List.mem_cons.mp hx with rfl | hx
      · exact c
      · exact Nat.lt_trans c (h2.1 x hx)
    · split
      · exact h
      · refine List.pairwise_cons.mpr ⟨fun x hx => ?_, put_up h2.2⟩
        rcases mem_put.mp hx with rfl | hx
        · omega
        · exact h2.1 x hx
theorem mem_foldput {x : Nat} : ∀ {l s : List Nat}, x ∈ l.foldl (fun s a => put a s) s ↔ x ∈ l ∨ x ∈ s
  | [], s => by simp
  | a :: l, s => by
    rw [List.foldl_cons, mem_foldput, mem_put, List.mem_cons]
    grind
theorem foldput_up : ∀ {l s : List Nat}, s.Pairwise (· < ·) → (l.foldl (fun s a => put a s) s).Pairwise (· < ·)
  | [], s, h => h
  | a :: l, s, h => by
    rw [List.foldl_cons]
    exact foldput_up (put_up h)
theorem mem_rising {x : Nat} {l : List Nat} : x ∈ rising l ↔ x ∈ l := by
  unfold rising
  rw [mem_foldput]
  simp
theorem rising_up (l : List Nat) : (rising l).Pairwise (· < ·) := foldput_up .nil
theorem up_nodup {l : List Nat} (h : l.Pairwise (· < ·)) : l.Nodup := h.imp fun h => Nat.ne_of_lt h
/-- two rising lists with the same members are one -/
theorem up_ext {l m : List Nat} (h1 : l.Pairwise (· < ·)) (h2 : m.Pairwise (· < ·)) (e : ∀ x, x ∈ l ↔ x ∈ m) : l = m := by
  have p : l.Perm m := (List.perm_ext_iff_of_nodup (up_nodup h1) (up_nodup h2)).mpr e
  exact p.eq_of_pairwise (le := (· < ·)) (fun a b _ _ h1 h2 => absurd h1 (by omega)) h1 h2
theorem rising_self {l : List Nat} (h : l.Pairwise (· < ·)) : rising l = l := up_ext (rising_up l) h fun _ => mem_rising
theorem rising_ext {l m : List Nat} (e : ∀ x, x ∈ l ↔ x ∈ m) : rising l = rising m := up_ext (rising_up l) (rising_up m) fun x => by rw [mem_rising, mem_rising, e]
theorem rising_perm {l : List Nat} (h : l.Nodup) : (rising l).Perm l := (List.perm_ext_iff_of_nodup (up_nodup (rising_up l)) h).mpr fun _ => mem_rising
theorem rising_length {l : List Nat} (h : l.Nodup) : (rising l).length = l.length := (rising_perm h).length_eq
/-- numbers as the program holds them -/
abbrev zs (l : List Nat) : List Int := l.map fun n : Nat => (n : Int)
theorem zs_mem {l : List Nat} {x : Nat} : (x : Int) ∈ zs l ↔ x ∈ l := by
  simp only [zs, List.mem_map]
  constructor
  · rintro ⟨a, h, e⟩
    have : a = x := by omega
    exact this ▸ h
  · exact fun h => ⟨x, h, rfl⟩
/-- what sorted gives of numbers each of which stands once -/
theorem sorted_is {l : List Nat} {m : List Int} (hn : l.Nodup) (hp : m.Perm (zs l)) (hs : m.Pairwise (· ≤ ·)) : m = zs (rising l) := by
  have p2 : (zs (rising l)).Perm (zs l) := (rising_perm hn).map _
  have s2 : (zs (rising l)).Pairwise (· ≤ ·) := by
    unfold zs
    rw [List.pairwise_map]
    exact (rising_up l).imp fun h => by omega
  exact (hp.trans p2.symm).eq_of_pairwise (le := (· ≤ ·)) (fun a b _ _ h1 h2 => by omega) hs s2
/-- sorted, whatever is in it -/
theorem sorted_up {l : List Nat} {m : List Int} (hp : m.Perm (zs l)) (hs : m.Pairwise (· ≤ ·)) (e : m = zs l) : l.Pairwise (· ≤ ·) := by
  subst e
  unfold zs at hs
  rw [List.pairwise_map] at hs
  exact hs.imp fun h => by omega
end Hc
namespace Hc
open Uw56
/-! ### the square -/
def Sz (n : Nat) : Prop := 2 ≤ n ∧ n ≤ 6
theorem Sz.mem {n : Nat} (h : Sz n) : n ∈ [2, 3, 4, 5, 6] := by
  obtain ⟨h1, h2⟩ := h
  simp only [List.mem_cons, List.not_mem_nil, or_false]
  omega
theorem Sz.le {n : Nat} (h : Sz n) : n * n ≤ 36 := by
  have : n * n ≤ 6 * 6 := Nat.mul_le_mul h.2 h.2
  omega
theorem Sz.pos {n : Nat} (h : Sz n) : 4 ≤ n * n := by
  have : 2 * 2 ≤ n * n := Nat.mul_le_mul h.1 h.1
  omega
theorem mem_cells {n k : Nat} : k ∈ cells n ↔ k < n * n := List.mem_range
def flip (n k : Nat) : Nat := k / n * n + (n - 1 - k % n)
theorem sq_facts : ∀ n ∈ [2, 3, 4, 5, 6], ∀ k ∈ cells n, turn n k ∈ cells n ∧ turn n (turn n (turn n (turn n k))) = k ∧ flip n k ∈ cells n ∧ flip n (flip n k) = k ∧
    flip n (turn n k) = turn n (turn n (turn n (flip n k))) ∧ due n (flip n k) = due n k := by decide +kernel
section
variable {n k : Nat}
theorem turn_lt (h : Sz n) (hk : k < n * n) : turn n k < n * n := mem_cells.mp (sq_facts n h.mem k (mem_cells.mpr hk)).1
theorem turn_four (h : Sz n) (hk : k < n * n) : turn n (turn n (turn n (turn n k))) = k := (sq_facts n h.mem k (mem_cells.mpr hk)).2.1
theorem flip_lt (h : Sz n) (hk : k < n * n) : flip n k < n * n := mem_cells.mp (sq_facts n h.mem k (mem_cells.mpr hk)).2.2.1
theorem flip_flip (h : Sz n) (hk : k < n * n) : flip n (flip n k) = k := (sq_facts n h.mem k (mem_cells.mpr hk)).2.2.2.1
theorem flip_turn (h : Sz n) (hk : k < n * n) : flip n (turn n k) = turn n (turn n (turn n (flip n k))) := (sq_facts n h.mem k (mem_cells.mpr hk)).2.2.2.2.1
theorem flip_due (h : Sz n) (hk : k < n * n) : due n (flip n k) = due n k := (sq_facts n h.mem k (mem_cells.mpr hk)).2.2.2.2.2
theorem turns_lt (h : Sz n) : ∀ {t k : Nat}, k < n * n → turns n t k < n * n
  | 0, _, hk => hk
  | t + 1, k, hk => by
    show turns n t (turn n k) < n * n
    exact turns_lt h (turn_lt h hk)
theorem turns_add : ∀ {s t k : Nat}, turns n (s + t) k = turns n t (turns n s k)
  | 0, t, k => by rw [Nat.zero_add]; rfl
  | s + 1, t, k => by
    rw [Nat.add_right_comm]
    exact turns_add (s := s) (t := t) (k := turn n k)
theorem turns_succ {t : Nat} : turns n (t + 1) k = turn n (turns n t k) := turns_add (s := t) (t := 1)
theorem turns_four (h : Sz n) (hk : k < n * n) : turns n 4 k = k := turn_four h hk
/-- only the rest by 4 tells -/
theorem turns_mod (h : Sz n) {t : Nat} (hk : k < n * n) : turns n (t + 4) k = turns n t k := by
  rw [turns_add, turns_four h (turns_lt h hk)]
theorem turn_inj (h : Sz n) {a b : Nat} (ha : a < n * n) (hb : b < n * n) (e : turn n a = turn n b) : a = b := by
  rw [← turn_four h ha, ← turn_four h hb, e]
theorem turns_inj (h : Sz n) : ∀ {t a b : Nat}, a < n * n → b < n * n → turns n t a = turns n t b → a = b
  | 0, _, _, _, _, e => e
  | _ + 1, _, _, ha, hb, e => turn_inj h ha hb (turns_inj h (turn_lt h ha) (turn_lt h hb) e)
theorem flip_inj (h : Sz n) {a b : Nat} (ha : a < n * n) (hb : b < n * n) (e : flip n a = flip n b) : a = b := by
  rw [← flip_flip h ha, ← flip_flip h hb, e]
/-- the program's words for a turn -/
theorem turn_py (hk : k < n * n) : ((k : Int) % n) * n + n - 1 - (k : Int) / n = (turn n k : Nat) := by
  have h1 : k / n < n := Nat.div_lt_of_lt_mul hk
  unfold turn
  rw [← Int.natCast_ediv, ← Int.natCast_emod, ← Int.natCast_mul]
  omega
theorem flip_py (hk : k < n * n) : ((k : Int) / n) * n + n - 1 - (k : Int) % n = (flip n k : Nat) := by
  have h0 : 0 < n := by
    rcases Nat.eq_zero_or_pos n with e | e
    · subst e; simp at hk
    · exact e
  have h1 : k % n < n := Nat.mod_lt _ h0
  unfold flip
  rw [← Int.natCast_ediv, ← Int.natCast_emod, ← Int.natCast_mul]
  omega
end
/-! ### cards that fit -/
theorem mem_seen {c : Card} {t k : Nat} : k ∈ c.seen t ↔ ∃ x ∈ c.holes, turns c.n t x = k := by
  unfold Card.seen
  rw [mem_rising, List.mem_map]
structure Fits (c : Card) : Prop where
  sz : Sz c.n
  up : c.holes.Pairwise (· < ·)
  lt : ∀ x ∈ c.holes, x < c.n * c.n
  one : ∀ k, k < c.n * c.n → c.times k = due c.n k
theorem fault_none {c : Card} : c.fault = none ↔ ∀ k, k < c.n * c.n → c.times k = due c.n k := by
  unfold Card.fault
  rw [List.find?_eq_none]
  constructor
  · intro h k hk
    have := h k (mem_cells.mpr hk)
    simpa using this
  · intro h k hk
    have := h k (mem_cells.mp hk)
    simpa using this
theorem first_fits {n : Nat} (h : Sz n) : Fits (firstCard n) := by
  have q : ∀ n ∈ [2, 3, 4, 5, 6], (firstCard n).holes.Pairwise (· < ·) ∧ (∀ x ∈ (firstCard n).holes, x < n * n) ∧ ∀ k ∈ cells n, (firstCard n).times k = due n k := by decide +kernel
  obtain ⟨q1, q2, q3⟩ := q n h.mem
  exact ⟨h, q1, q2, fun k hk => q3 k (mem_cells.mpr hk)⟩
/-- a truth told of four quarters, counted -/
theorem times_eq {c : Card} {k : Nat} : c.times k = (if k ∈ c.seen 0 then 1 else 0) + (if k ∈ c.seen 1 then 1 else 0) + (if k ∈ c.seen 2 then 1 else 0) + (if k ∈ c.seen 3 then 1 else 0) := by
  unfold Card.times
  rw [show List.range 4 = [0, 1, 2, 3] from rfl]
  simp only [List.filter_cons, List.filter_nil, List.contains_iff_mem]
  by_cases h0 : k ∈ c.seen 0 <;> by_cases h1 : k ∈ c.seen 1 <;> by_cases h2 : k ∈ c.seen 2 <;> by_cases h3 : k ∈ c.seen 3 <;> simp [h0, h1, h2, h3]
theorem seen_eq {c d : Card} {t u : Nat} (h : ∀ k, k ∈ c.seen t ↔ k ∈ d.seen u) : ∀ k, (if k ∈ c.seen t then 1 else 0 : Nat) = if k ∈ d.seen u then 1 else 0 := fun k => by
  by_cases e : k ∈ c.seen t
  · rw [if_pos e, if_pos ((h k).mp e)]
  · rw [if_neg e, if_neg fun z => e ((h k).mpr z)]
/-- the card turned, without turning over -/
theorem turned_holes {c : Card} {t : Nat} : (c.turned t false).holes = c.seen t := rfl
theorem seen_turned {c : Card} {t u k : Nat} : k ∈ (c.turned t false).seen u ↔ k ∈ c.seen (t + u) := by
  rw [mem_seen, mem_seen]
  constructor
  · rintro ⟨x, hx, e⟩
    obtain ⟨y, hy, e2⟩ := mem_seen.mp (show x ∈ c.seen t from hx)
    exact ⟨y, hy, by rw [turns_add, e2]; exact e⟩
  · rintro ⟨y, hy, e⟩
    exact ⟨_, mem_seen.mpr ⟨y, hy, rfl⟩, by rw [turns_add] at e; exact e⟩
theorem Fits.seen_mod {c : Card} (f : Fits c) {t k : Nat} : k ∈ c.seen (t + 4) ↔ k ∈ c.seen t := by
  rw [mem_seen, mem_seen]
  constructor
  · rintro ⟨x, hx, e⟩
    exact ⟨x, hx, by rw [← e, turns_mod f.sz (f.lt x hx)]⟩
  · rintro ⟨x, hx, e⟩
    exact ⟨x, hx, by rw [← e, turns_mod f.sz (f.lt x hx)]⟩
theorem Fits.seen_lt {c : Card} (f : Fits c) {t k : Nat} (h : k ∈ c.seen t) : k < c.n * c.n := by
  obtain ⟨x, hx, rfl⟩ := mem_seen.mp h
  exact turns_lt f.sz (f.lt x hx)
theorem Fits.turned0 {c : Card} (f : Fits c) {t : Nat} (ht : t ≤ 3) : Fits (c.turned t false) := by
  refine ⟨f.sz, rising_up _, fun x hx => f.seen_lt (show x ∈ c.seen t from hx), fun k hk => ?_⟩
  refine Eq.trans ?_ (f.one k hk)
  rw [times_eq, times_eq]
  have e : ∀ u, (if k ∈ (c.turned t false).seen u then 1 else 0 : Nat) = if k ∈ c.seen (t + u) then 1 else 0 := fun u => seen_eq (fun k => seen_turned) k
  rw [e, e, e, e]
  have m : ∀ s, (if k ∈ c.seen (s + 4) then 1 else 0 : Nat) = if k ∈ c.seen s then 1 else 0 := fun s => seen_eq (fun k => f.seen_mod) k
  have m0 := m 0
  have m1 := m 1
  have m2 := m 2
  have h : t = 0 ∨ t = 1 ∨ t = 2 ∨ t = 3 := by omega
  rcases h with rfl | rfl | rfl | rfl
  · rfl
  · simp only [Nat.reduceAdd] at *; omega
  · simp only [Nat.reduceAdd] at *; omega
  · simp only [Nat.reduceAdd] at *; omega
/-- turned over -/
def over (c : Card) : Card := ⟨c.n, rising (c.holes.map (flip c.n))⟩
theorem turned_over {c : Card} {t : Nat} : c.turned t true = over (c.turned t false) := by
  unfold over Card.turned
  refine congrArg (Card.mk c.n) (rising_ext fun x => ?_)
  rw [List.mem_map, List.mem_map]
  constructor
  · rintro ⟨y, hy, e⟩
    exact ⟨_, mem_rising.mpr (List.mem_map.mpr ⟨y, hy, rfl⟩), e⟩
  · rintro ⟨z, hz, e⟩
    obtain ⟨y, hy, rfl⟩ := List.mem_map.mp (mem_rising.mp hz)
    exact ⟨y, hy, e⟩
theorem mem_over {c : Card} {k : Nat} : k ∈ (over c).holes ↔ ∃ x ∈ c.holes, flip c.n x = k := by
  show k ∈ rising _ ↔ _
  rw [mem_rising, List.mem_map]
theorem Fits.seen_over {c : Card} (f : Fits c) {u v k : Nat} (h : u + v = 4 ∨ u + v = 0) (hk : k < c.n * c.n) : k ∈ (over c).seen u ↔ flip c.n k ∈ c.seen v := by
  have fl : ∀ t x, x < c.n * c.n → turns c.n t (flip c.n (turns c.n t x)) = flip c.n x := by
    intro t
    induction t with
    | zero => intro x _; rfl
    | succ t ih =>
      intro x hx
      show turns c.n t (turn c.n (flip c.n (turns c.n (t + 1) x))) = _
      rw [turns_succ, flip_turn f.sz (turns_lt f.sz hx), turn_four f.sz (flip_lt f.sz (turns_lt f.sz hx)), ih x hx]
  have mk : ∀ x, x < c.n * c.n → turns c.n (u + v) x = x := fun x hx => by
    rcases h with h | h
    · rw [h]; exact turns_four f.sz hx
    · rw [h]; rfl
  rw [mem_seen, mem_seen]
  constructor
  · rintro ⟨y, hy, e⟩
    obtain ⟨x, hx, rfl⟩ := mem_over.mp hy
    have lx := f.lt x hx
    refine ⟨x, hx, ?_⟩
    have e' : turns c.n u (flip c.n x) = k := e
    have e2 : x = turns c.n u (turns c.n v x) := by rw [← turns_add, Nat.add_comm, mk x lx]
    rw [e2, fl u _ (turns_lt f.sz lx)] at e'
    rw [← e', flip_flip f.sz (turns_lt f.sz lx)]
  · rintro ⟨x, hx, e⟩
    have lx := f.lt x hx
    refine ⟨flip c.n x, mem_over.mpr ⟨x, hx, rfl⟩, ?_⟩
    show turns c.n u (flip c.n x) = k
    have e2 : x = turns c.n u (turns c.n v x) := by rw [← turns_add, Nat.add_comm, mk x lx]
    rw [e2, fl u _ (turns_lt f.sz lx), e, flip_flip f.sz hk]
theorem Fits.over {c : Card} (f : Fits c) : Fits (over c) := by
  refine ⟨f.sz, rising_up _, fun x hx => ?_, fun k hk => ?_⟩
  · obtain ⟨y, hy, rfl⟩ := mem_over.mp hx
    exact flip_lt f.sz (f.lt y hy)
  · show (Hc.over c).times k = due c.n k
    have hk' : k < c.n * c.n := hk
    rw [← flip_due f.sz hk', ← f.one _ (flip_lt f.sz hk'), times_eq, times_eq]
    have e : ∀ u v, (u + v = 4 ∨ u + v = 0) → (if k ∈ (Hc.over c).seen u then 1 else 0 : Nat) = if flip c.n k ∈ c.seen v then 1 else 0 := fun u v h => by
      have q := f.seen_over (k := k) h hk'
      by_cases z : k ∈ (Hc.over c).seen u
      · rw [if_pos z, if_pos (q.mp z)]
      · rw [if_neg z, if_neg fun y => z (q.mpr y)]
    rw [e 0 0 (.inr rfl), e 1 3 (.inl rfl), e 2 2 (.inl rfl), e 3 1 (.inl rfl)]
    omega
theorem Fits.turned {c : Card} (f : Fits c) {t : Nat} (ht : t ≤ 3) (b : Bool) : Fits (c.turned t b) := by
  cases b with
  | false => exact f.turned0 ht
  | true =>
    rw [turned_over]
    exact (f.turned0 ht).over
/-! ### the order of writing -/
theorem order_eq {c : Card} : c.order = c.seen 0 ++ (c.seen 1 ++ (c.seen 2 ++ (c.seen 3 ++ middle c.n))) := by
  unfold Card.order
  rw [show List.range 4 = [0, 1, 2, 3] from rfl]
  simp only [List.flatMap_cons, List.flatMap_nil, List.append_nil, List.append_assoc]
theorem middle_facts : ∀ n ∈ [2, 3, 4, 5, 6], (middle n).Nodup ∧ ∀ k ∈ middle n, k ∈ cells n := by decide +kernel
theorem count_seen {c : Card} {t k : Nat} : (c.seen t).count k = if k ∈ c.seen t then 1 else 0 := (up_nodup (rising_up _)).count
theorem Fits.order_perm {c : Card} (f : Fits c) : c.order.Perm (cells c.n) := by
  obtain ⟨m1, m2⟩ := middle_facts c.n f.sz.mem
  rw [List.perm_iff_count]
  intro k
  have nc : (cells c.n).Nodup := List.nodup_range
  rw [nc.count, order_eq]
  simp only [List.count_append, count_seen, m1.count]
  by_cases hk : k < c.n * c.n
  · rw [if_pos (mem_cells.mpr hk)]
    have e := f.one k hk
    rw [times_eq] at e
    unfold due at e
    by_cases z : k ∈ middle c.n
    · rw [if_pos (List.contains_iff_mem.mpr z)] at e
      rw [if_pos z]
      omega
    · rw [if_neg fun y => z (List.contains_iff_mem.mp y)] at e
      rw [if_neg z]
      omega
  · rw [if_neg fun z => hk (mem_cells.mp z)]
    have s : ∀ t, (if k ∈ c.seen t then 1 else 0 : Nat) = 0 := fun t => if_neg fun z => hk (f.seen_lt z)
    rw [s, s, s, s, if_neg fun z => hk (mem_cells.mp (m2 k z))]
end Hc
namespace Hc
open Uw56
/-! ### writing: the order is an arrangement of the cells -/
section
variable {c : Card}
theorem Fits.olen (f : Fits c) : c.order.length = c.n * c.n := by
  rw [f.order_perm.length_eq]
  exact List.length_range
theorem Fits.onodup (f : Fits c) : c.order.Nodup := (f.order_perm.nodup_iff).mpr List.nodup_range
theorem Fits.omem (f : Fits c) {k : Nat} : k ∈ c.order ↔ k < c.n * c.n := by rw [f.order_perm.mem_iff, mem_cells]
theorem Fits.idx_lt (f : Fits c) {k : Nat} (hk : k < c.n * c.n) : c.order.idxOf k < c.n * c.n := by
  rw [← f.olen]
  exact List.idxOf_lt_length_of_mem (f.omem.mpr hk)
theorem next_get {i : Nat} (h : i < c.order.length) : c.next i = c.order[i] := by
  unfold Card.next
  simp [h]
theorem Fits.next_lt (f : Fits c) {i : Nat} (h : i < c.n * c.n) : c.next i < c.n * c.n := by
  have hi : i < c.order.length := by rw [f.olen]; exact h
  rw [next_get hi, ← f.omem]
  exact List.getElem_mem hi
theorem Fits.next_idx (f : Fits c) {k : Nat} (hk : k < c.n * c.n) : c.next (c.order.idxOf k) = k := by
  have h : c.order.idxOf k < c.order.length := List.idxOf_lt_length_of_mem (f.omem.mpr hk)
  rw [next_get h]
  exact List.getElem_idxOf h
theorem Fits.idx_next (f : Fits c) {i : Nat} (h : i < c.n * c.n) : c.order.idxOf (c.next i) = i := by
  have hi : i < c.order.length := by rw [f.olen]; exact h
  rw [next_get hi]
  exact f.onodup.idxOf_getElem i hi
theorem Fits.next_inj (f : Fits c) {i j : Nat} (hi : i < c.n * c.n) (hj : j < c.n * c.n) (e : c.next i = c.next j) : i = j := by
  rw [← f.idx_next hi, ← f.idx_next hj, e]
/-- behind i letters are written -/
def wr (c : Card) (t : List Nat) (i : Nat) : List Nat := (cells c.n).map fun k => if c.order.idxOf k < i then t.getD (c.order.idxOf k) 0 else 0
theorem wr_len {t : List Nat} {i : Nat} : (wr c t i).length = c.n * c.n := by simp [wr, cells]
theorem Fits.wr_zero (f : Fits c) {t : List Nat} : wr c t 0 = List.replicate c.order.length 0 := by
  rw [f.olen]
  unfold wr cells
  refine List.ext_getElem (by simp) fun i h1 h2 => ?_
  simp
theorem Fits.wr_succ (f : Fits c) {t : List Nat} {i x : Nat} (hi : i < c.n * c.n) (hx : t[i]? = some x) : (wr c t i).set (c.next i) x = wr c t (i + 1) := by
  unfold wr cells
  refine List.ext_getElem (by simp) fun k h1 h2 => ?_
  have hk : k < c.n * c.n := by simpa using h2
  rw [List.getElem_set]
  simp only [List.getElem_map, List.getElem_range]
  by_cases e : c.next i = k
  · rw [if_pos e]
    subst e
    rw [f.idx_next hi, if_pos (by omega)]
    simp [hx]
  · rw [if_neg e]
    have ne : c.order.idxOf k ≠ i := fun z => e (by rw [← z, f.next_idx hk])
    by_cases l : c.order.idxOf k < i
    · rw [if_pos l, if_pos (by omega)]
    · rw [if_neg l, if_neg (by omega)]
theorem Fits.wr_all (f : Fits c) {t : List Nat} : wr c t (c.n * c.n) = c.write t := by
  unfold wr Card.write
  refine List.map_congr_left fun k hk => ?_
  rw [if_pos (f.idx_lt (mem_cells.mp hk))]
theorem cells_get {n j d : Nat} {g : Nat → Nat} (h : j < n * n) : ((cells n).map g).getD j d = g j := by simp [cells, h]
theorem write_len {t : List Nat} : (c.write t).length = c.n * c.n := by simp [Card.write, cells]
theorem write_get {t : List Nat} {k : Nat} (hk : k < c.n * c.n) : (c.write t).getD k 0 = t.getD (c.order.idxOf k) 0 := by
  unfold Card.write cells
  simp [hk]
theorem Fits.write_next (f : Fits c) {t : List Nat} {i : Nat} (hi : i < c.n * c.n) : (c.write t).getD (c.next i) 0 = t.getD i 0 := by
  rw [write_get (f.next_lt hi), f.idx_next hi]
theorem text_ext {a b : List Nat} {N : Nat} (ha : a.length = N) (hb : b.length = N) (h : ∀ i, i < N → a.getD i 0 = b.getD i 0) : a = b := by
  refine List.ext_getElem (ha.trans hb.symm) fun i h1 h2 => ?_
  have := h i (by omega)
  simpa [h1, h2] using this
/-! ### again and again -/
/-- a place behind so many writings -/
def it (c : Card) : Nat → Nat → Nat
  | 0, i => i
  | k + 1, i => it c k (c.next i)
theorem it_add : ∀ {a b i : Nat}, it c (a + b) i = it c b (it c a i)
  | 0, b, i => by rw [Nat.zero_add]; rfl
  | a + 1, b, i => by
    rw [Nat.add_right_comm]
    exact it_add (a := a) (b := b) (i := c.next i)
theorem it_succ {a i : Nat} : it c (a + 1) i = c.next (it c a i) := it_add (a := a) (b := 1)
theorem Fits.it_lt (f : Fits c) : ∀ {k i : Nat}, i < c.n * c.n → it c k i < c.n * c.n
  | 0, _, h => h
  | k + 1, i, h => by
    show it c k (c.next i) < _
    exact f.it_lt (f.next_lt h)
theorem Fits.it_inj (f : Fits c) : ∀ {k i j : Nat}, i < c.n * c.n → j < c.n * c.n → it c k i = it c k j → i = j
  | 0, _, _, _, _, e => e
  | k + 1, i, j, hi, hj, e => f.next_inj hi hj (f.it_inj (k := k) (f.next_lt hi) (f.next_lt hj) e)
/-- a text written so many times -/
def wrk (c : Card) : Nat → List Nat → List Nat
  | 0, t => t
  | k + 1, t => wrk c k (c.write t)
theorem wrk_succ : ∀ {k : Nat} {t : List Nat}, wrk c (k + 1) t = c.write (wrk c k t)
  | 0, _ => rfl
  | k + 1, t => by
    show wrk c (k + 1) (c.write t) = c.write (wrk c k (c.write t))
    exact wrk_succ
theorem wrk_len {k : Nat} {t : List Nat} (h : t.length = c.n * c.n) : (wrk c k t).length = c.n * c.n := by
  cases k with
  | zero => exact h
  | succ k => rw [wrk_succ]; exact write_len
theorem Fits.wrk_get (f : Fits c) : ∀ {k i : Nat} {t : List Nat}, i < c.n * c.n → (wrk c k t).getD (it c k i) 0 = t.getD i 0
  | 0, _, _, _ => rfl
  | k + 1, i, t, hi => by
    show (wrk c k (c.write t)).getD (it c k (c.next i)) 0 = _
    rw [f.wrk_get (f.next_lt hi), f.write_next hi]
theorem least_of {p : Nat → Prop} : ∀ n, p n → ∃ d, p d ∧ d ≤ n ∧ ∀ e, e < d → ¬ p e := by
  intro n
  induction n using Nat.strongRecOn with
  | ind n ih =>
    intro h
    by_cases z : ∃ e, e < n ∧ p e
    · obtain ⟨e, he, hp⟩ := z
      obtain ⟨d, h1, h2, h3⟩ := ih e he hp
      exact ⟨d, h1, by omega, h3⟩
    · exact ⟨n, h, Nat.le_refl _, fun e he hp => z ⟨e, he, hp⟩⟩
/-- each place comes back -/
theorem Fits.comes_back (f : Fits c) {i : Nat} (hi : i < c.n * c.n) : ∃ d, 1 ≤ d ∧ d ≤ c.n * c.n ∧ it c d i = i ∧ ∀ e, 1 ≤ e → e < d → it c e i ≠ i := by
  have ex : ∃ a b, a < b ∧ b ≤ c.n * c.n ∧ it c a i = it c b i := by
    apply Classical.byContradiction
    intro no
    have nd : ((List.range (c.n * c.n + 1)).map fun k => it c k i).Nodup := by
      unfold List.Nodup
      rw [List.pairwise_map]
      have := List.pairwise_lt_range (n := c.n * c.n + 1)
      refine (List.Pairwise.and_mem.mp this).imp fun {a b} h e => no ⟨a, b, h.2.2, ?_, e⟩
      have := List.mem_range.mp h.2.1
      omega
    have sub : ((List.range (c.n * c.n + 1)).map fun k => it c k i) ⊆ List.range (c.n * c.n) := fun x hx => by
      obtain ⟨k, _, rfl⟩ := List.mem_map.mp hx
      exact List.mem_range.mpr (f.it_lt hi)
    have := nd.length_le_of_subset sub
    simp at this
    omega
  obtain ⟨a, b, hab, hb, e⟩ := ex
  have back : it c (b - a) i = i := by
    refine (f.it_inj (k := a) hi (f.it_lt hi) ?_).symm
    rw [← it_add, e]
    congr 1
    omega
  obtain ⟨d, h1, h2, h3⟩ := least_of (p := fun d => 1 ≤ d ∧ it c d i = i) (b - a) ⟨by omega, back⟩
  exact ⟨d, h1.1, by omega, h1.2, fun e he hd q => h3 e hd ⟨he, q⟩⟩
theorem ringFrom_eq {i d : Nat} (hd : it c d i = i) (hm : ∀ e, 1 ≤ e → e < d → it c e i ≠ i) : ∀ (g a : Nat), a < d → d ≤ a + g → c.ringFrom i g (it c a i) = (List.range (d - a)).map fun b => it c (a + b) i
  | 0, a, h1, h2 => absurd h1 (by omega)
  | g + 1, a, h1, h2 => by
    show it c a i :: (if c.next (it c a i) = i then [] else c.ringFrom i g (c.next (it c a i))) = _
    rw [← it_succ]
    by_cases e : a + 1 = d
    · have ed : d - a = 1 := by omega
      rw [e, hd, if_pos rfl, ed]
      rfl
    · rw [if_neg (hm (a + 1) (by omega) (by omega)), ringFrom_eq hd hm g (a + 1) (by omega) (by omega)]
      have ed : d - a = (d - (a + 1)) + 1 := by omega
      rw [ed, List.range_succ_eq_map, List.map_cons, List.map_map, Nat.add_zero]
      refine congrArg _ (List.map_congr_left fun b _ => ?_)
      show it c (a + 1 + b) i = it c (a + (b + 1)) i
      congr 1
      omega
/-- how many writings till a place is back -/
def per (c : Card) (i : Nat) : Nat := (c.ring i).length
theorem Fits.ring_eq (f : Fits c) {i : Nat} (hi : i < c.n * c.n) : c.ring i = (List.range (per c i)).map fun b => it c b i := by
  obtain ⟨d, h1, h2, h3, h4⟩ := f.comes_back hi
  have e := ringFrom_eq h3 h4 (c.n * c.n) 0 (by omega) (by omega)
  have e' : c.ring i = (List.range d).map fun b => it c b i := by
    refine Eq.trans e ?_
    rw [Nat.sub_zero]
    exact List.map_congr_left fun b _ => by rw [Nat.zero_add]
  have el : per c i = d := by unfold per; rw [e']; simp
  rw [el]
  exact e'
theorem Fits.per_is (f : Fits c) {i : Nat} (hi : i < c.n * c.n) : 1 ≤ per c i ∧ per c i ≤ c.n * c.n ∧ it c (per c i) i = i ∧ ∀ e, 1 ≤ e → e < per c i → it c e i ≠ i := by
  obtain ⟨d, h1, h2, h3, h4⟩ := f.comes_back hi
  have e := ringFrom_eq h3 h4 (c.n * c.n) 0 (by omega) (by omega)
  have el : per c i = d := by
    unfold per
    show (c.ringFrom i (c.n * c.n) (it c 0 i)).length = d
    rw [e]
    simp
  rw [el]
  exact ⟨h1, h2, h3, h4⟩
theorem Fits.it_mul (f : Fits c) {i : Nat} (hi : i < c.n * c.n) : ∀ q, it c (per c i * q) i = i
  | 0 => rfl
  | q + 1 => by rw [Nat.mul_succ, it_add, f.it_mul hi q, (f.per_is hi).2.2.1]
theorem Fits.it_mod (f : Fits c) {i : Nat} (hi : i < c.n * c.n) (m : Nat) : it c m i = it c (m % per c i) i := by
  have e : it c (per c i * (m / per c i) + m % per c i) i = it c (m % per c i) i := by rw [it_add, f.it_mul hi]
  rw [Nat.div_add_mod] at e
  exact e
theorem Fits.it_id (f : Fits c) {i : Nat} (hi : i < c.n * c.n) {m : Nat} : it c m i = i ↔ per c i ∣ m := by
  obtain ⟨h1, _, _, h4⟩ := f.per_is hi
  constructor
  · intro e
    rw [f.it_mod hi] at e
    have lt := Nat.mod_lt m (show 0 < per c i by omega)
    apply Nat.dvd_of_mod_eq_zero
    apply Classical.byContradiction
    intro nz
    exact h4 _ (by omega) lt e
  · rintro ⟨q, rfl⟩
    exact f.it_mul hi q
theorem Fits.per_it (f : Fits c) {i : Nat} (hi : i < c.n * c.n) (a : Nat) : per c (it c a i) = per c i := by
  have h : ∀ m, it c m (it c a i) = it c a i ↔ it c m i = i := fun m => by
    rw [← it_add, Nat.add_comm, it_add]
    constructor
    · exact fun e => f.it_inj (k := a) (f.it_lt hi) hi e
    · exact fun e => by rw [e]
  have ha := f.it_lt (k := a) hi
  apply Nat.dvd_antisymm
  · rw [← f.it_id ha, h, f.it_id hi]; exact Nat.dvd_refl _
  · rw [← f.it_id hi, ← h, f.it_id ha]; exact Nat.dvd_refl _
theorem Fits.mem_ring (f : Fits c) {i j : Nat} (hi : i < c.n * c.n) : j ∈ c.ring i ↔ ∃ a, j = it c a i := by
  rw [f.ring_eq hi, List.mem_map]
  constructor
  · rintro ⟨a, _, e⟩
    exact ⟨a, e.symm⟩
  · rintro ⟨a, e⟩
    exact ⟨a % per c i, List.mem_range.mpr (Nat.mod_lt _ (by have := (f.per_is hi).1; omega)), by rw [e, f.it_mod hi a]⟩
theorem list_min : ∀ {l : List Nat}, l ≠ [] → ∃ m ∈ l, ∀ x ∈ l, m ≤ x
  | [], h => absurd rfl h
  | [a], _ => ⟨a, by simp, by simp⟩
  | a :: b :: l, _ => by
    obtain ⟨m, h1, h2⟩ := list_min (l := b :: l) (by simp)
    by_cases e : a ≤ m
    · refine ⟨a, by simp, fun x hx => ?_⟩
      rcases List.mem_cons.mp hx with rfl | hx
      · exact Nat.le_refl _
      · exact Nat.le_trans e (h2 x hx)
    · refine ⟨m, by simp [h1], fun x hx => ?_⟩
      rcases List.mem_cons.mp hx with rfl | hx
      · omega
      · exact h2 x hx
theorem mem_rings {r : List Nat} : r ∈ c.rings ↔ ∃ i, i < c.n * c.n ∧ r = c.ring i ∧ ∀ j ∈ c.ring i, i ≤ j := by
  unfold Card.rings
  rw [List.mem_filterMap]
  constructor
  · rintro ⟨i, hi, e⟩
    dsimp only at e
    split at e
    · rename_i h
      rw [List.all_eq_true] at h
      exact ⟨i, mem_cells.mp hi, (Option.some.inj e).symm, fun j hj => of_decide_eq_true (h j hj)⟩
    · cases e
  · rintro ⟨i, hi, rfl, h⟩
    refine ⟨i, mem_cells.mpr hi, ?_⟩
    dsimp only
    rw [if_pos]
    rw [List.all_eq_true]
    exact fun j hj => decide_eq_true (h j hj)
/-- each cell's ring, by its least place, is among the rings -/
theorem Fits.ring_of (f : Fits c) {j : Nat} (hj : j < c.n * c.n) : ∃ i, i < c.n * c.n ∧ c.ring i ∈ c.rings ∧ j ∈ c.ring i ∧ per c i = per c j := by
  have hne : c.ring j ≠ [] := by
    intro z
    have h := (f.per_is hj).1
    unfold per at h
    rw [z] at h
    simp at h
  obtain ⟨i, h1, h2⟩ := list_min hne
  obtain ⟨a, rfl⟩ := (f.mem_ring hj).mp h1
  have hi := f.it_lt (k := a) hj
  have back : j = it c (per c j * (a + 1) - a) (it c a j) := by
    rw [← it_add]
    have e : a + (per c j * (a + 1) - a) = per c j * (a + 1) := by
      have h := (f.per_is hj).1
      have : 1 * (a + 1) ≤ per c j * (a + 1) := Nat.mul_le_mul_right _ h
      omega
    rw [e, f.it_mul hj]
  refine ⟨_, hi, mem_rings.mpr ⟨_, hi, rfl, fun x hx => ?_⟩, (f.mem_ring hi).mpr ⟨_, back⟩, f.per_it hj a⟩
  obtain ⟨b, rfl⟩ := (f.mem_ring hi).mp hx
  exact h2 _ ((f.mem_ring hj).mpr ⟨a + b, by rw [it_add]⟩)
theorem foldl_lcm_dvd {m : Nat} : ∀ {l : List Nat} {a : Nat}, l.foldl Nat.lcm a ∣ m ↔ a ∣ m ∧ ∀ x ∈ l, x ∣ m
  | [], a => by simp
  | x :: l, a => by
    rw [List.foldl_cons, foldl_lcm_dvd, Nat.lcm_dvd_iff]
    simp [and_assoc]
theorem Fits.back_dvd (f : Fits c) {m : Nat} : c.back ∣ m ↔ ∀ i, i < c.n * c.n → per c i ∣ m := by
  unfold Card.back
  rw [foldl_lcm_dvd]
  constructor
  · rintro ⟨_, h⟩ j hj
    obtain ⟨i, hi, h1, _, h3⟩ := f.ring_of hj
    rw [← h3]
    exact h _ (List.mem_map.mpr ⟨_, h1, rfl⟩)
  · intro h
    refine ⟨Nat.one_dvd _, fun x hx => ?_⟩
    obtain ⟨r, hr, rfl⟩ := List.mem_map.mp hx
    obtain ⟨i, hi, rfl, _⟩ := mem_rings.mp hr
    exact h i hi
/-- the program's way: cell by cell -/
def lca (c : Card) (i : Nat) : Nat := ((List.range i).map (per c)).foldl Nat.lcm 1
theorem lca_succ {i : Nat} : lca c (i + 1) = Nat.lcm (lca c i) (per c i) := by
  unfold lca
  rw [List.range_succ, List.map_append, List.foldl_append]
  rfl
theorem Fits.lca_all (f : Fits c) : lca c (c.n * c.n) = c.back := by
  apply Nat.dvd_antisymm
  · unfold lca
    rw [foldl_lcm_dvd]
    refine ⟨Nat.one_dvd _, fun x hx => ?_⟩
    obtain ⟨i, hi, rfl⟩ := List.mem_map.mp hx
    exact f.back_dvd.mp (Nat.dvd_refl _) i (List.mem_range.mp hi)
  · rw [f.back_dvd]
    intro i hi
    have h : lca c (c.n * c.n) ∣ lca c (c.n * c.n) := Nat.dvd_refl _
    unfold lca at h ⊢
    exact (foldl_lcm_dvd.mp h).2 _ (List.mem_map.mpr ⟨i, List.mem_range.mpr hi, rfl⟩)
theorem lca_step {a b : Nat} (h : 0 < a) : a / Nat.gcd a b * b = Nat.lcm a b := by
  unfold Nat.lcm
  rw [Nat.mul_comm a b, Nat.mul_div_assoc _ (Nat.gcd_dvd_left a b), Nat.mul_comm]
def bigL : Nat := 144403552893600
theorem bigL_dvd : ∀ x ∈ List.range 37, 0 < x → x ∣ bigL := by decide +kernel
theorem Fits.lca_le (f : Fits c) {i : Nat} (hi : i ≤ c.n * c.n) : 0 < lca c i ∧ lca c i ≤ bigL := by
  have hd : lca c i ∣ bigL := by
    unfold lca
    rw [foldl_lcm_dvd]
    refine ⟨Nat.one_dvd _, fun x hx => ?_⟩
    obtain ⟨j, hj, rfl⟩ := List.mem_map.mp hx
    have hj' : j < c.n * c.n := by have := List.mem_range.mp hj; omega
    obtain ⟨p1, p2, _⟩ := f.per_is hj'
    have := f.sz.le
    exact bigL_dvd _ (List.mem_range.mpr (by omega)) p1
  exact ⟨Nat.pos_of_dvd_of_pos hd (by decide), Nat.le_of_dvd (by decide) hd⟩
theorem Fits.back_pos (f : Fits c) : 0 < c.back ∧ c.back ≤ bigL := by
  rw [← f.lca_all]
  exact f.lca_le (Nat.le_refl _)
/-- MAIN: by rings it is what so many writings make -/
theorem Fits.again_is (f : Fits c) {k : Nat} {t : List Nat} (ht : t.length = c.n * c.n) : c.again k t = wrk c k t := by
  refine text_ext (N := c.n * c.n) (by simp [Card.again, cells]) (wrk_len ht) fun j hj => ?_
  have e : (c.again k t).getD j 0 = match c.rings.find? fun r => r.contains j with
    | none => t.getD j 0
    | some r => t.getD (r.getD ((r.idxOf j + (r.length - k % r.length)) % r.length) 0) 0 := by
    unfold Card.again
    exact cells_get hj
  rw [e]
  obtain ⟨i0, hi0, hr0, hm0, _⟩ := f.ring_of hj
  cases q : c.rings.find? fun r => r.contains j with
  | none =>
    rw [List.find?_eq_none] at q
    exact absurd (List.contains_iff_mem.mpr hm0) (q _ hr0)
  | some r =>
    have hr := List.mem_of_find?_eq_some q
    have hj2 : j ∈ r := List.contains_iff_mem.mp (by simpa using List.find?_some q)
    obtain ⟨i, hi, rfl, _⟩ := mem_rings.mp hr
    dsimp only
    have hlen : (c.ring i).length = per c i := rfl
    have hp := (f.per_is hi).1
    have hidx : (c.ring i).idxOf j < per c i := by rw [← hlen]; exact List.idxOf_lt_length_of_mem hj2
    have hget : ∀ m, m < per c i → (c.ring i).getD m 0 = it c m i := fun m hm => by
      rw [f.ring_eq hi]
      simp [hm]
    have hji : it c ((c.ring i).idxOf j) i = j := by
      rw [← hget _ hidx]
      have := List.getElem_idxOf (xs := c.ring i) (x := j) (by rw [hlen]; exact hidx)
      simpa [hlen, hidx] using this
    rw [hlen]
    generalize hx : (c.ring i).idxOf j = x at *
    have hm : (x + (per c i - k % per c i)) % per c i < per c i := Nat.mod_lt _ (by omega)
    rw [hget _ hm]
    have hk : it c k (it c ((x + (per c i - k % per c i)) % per c i) i) = j := by
      rw [← f.it_mod hi, ← it_add, f.it_mod hi]
      have : (x + (per c i - k % per c i) + k) % per c i = x := by
        have h1 : k % per c i < per c i := Nat.mod_lt _ (by omega)
        have h2 := Nat.div_add_mod k (per c i)
        have h3 : x + (per c i - k % per c i) + k = x + per c i * (k / per c i + 1) := by rw [Nat.mul_succ]; omega
        rw [h3, Nat.add_mul_mod_self_left, Nat.mod_eq_of_lt hidx]
      rw [this, hji]
    have := f.wrk_get (k := k) (t := t) (f.it_lt (k := (x + (per c i - k % per c i)) % per c i) hi)
    rw [hk] at this
    exact this.symm
/-- only the rest by back tells -/
theorem Fits.again_mod (f : Fits c) {k : Nat} {t : List Nat} : c.again (k % c.back) t = c.again k t := by
  unfold Card.again
  refine List.map_congr_left fun j hj => ?_
  cases q : c.rings.find? fun r => r.contains j with
  | none => rfl
  | some r =>
    have hr := List.mem_of_find?_eq_some q
    obtain ⟨i, hi, rfl, _⟩ := mem_rings.mp hr
    have hd : (c.ring i).length ∣ c.back := f.back_dvd.mp (Nat.dvd_refl _) i hi
    dsimp only
    rw [Nat.mod_mod_of_dvd _ hd]
theorem Fits.wrk_is (f : Fits c) {k : Nat} {t : List Nat} (ht : t.length = c.n * c.n) : wrk c (k % c.back) t = c.again k t := by
  rw [← f.again_is ht, f.again_mod]
end
end Hc
namespace Hc
open Uw56
/-! ### the fours -/
/-- the number of the four in which a cell is -/
def orb (n k : Nat) : Option Nat := (orbits n).findIdx? fun o => o.contains k
theorem orb_facts : ∀ n ∈ [2, 3, 4, 5, 6],
    (∀ i, i < (orbits n).length → ∀ x ∈ (orbits n).getD i [], orb n x = some i) ∧
    (∀ k ∈ cells n, k ∈ middle n → orb n k = none) ∧ (∀ k ∈ cells n, k ∉ middle n → (orb n k).isSome = true) ∧
    (∀ o ∈ orbits n, o.Pairwise (· < ·) ∧ o.length = 4 ∧ (∀ x ∈ o, x ∈ cells n ∧ x ∉ middle n ∧ x ≤ o.getD 3 0) ∧ (∀ x ∈ o, ∀ t, t < 4 → turns n t x ∈ o) ∧ ∀ x ∈ o, ∀ k ∈ o, ((List.range 4).filter fun t => turns n t x == k).length = 1) ∧
    4 * (orbits n).length + (middle n).length = n * n ∧ (orbits n).length ≤ 9 := by decide +kernel
section
variable {n : Nat}
theorem orb_mem (h : Sz n) {i : Nat} {o : List Nat} (ho : (orbits n)[i]? = some o) {x : Nat} (hx : x ∈ o) : orb n x = some i := by
  obtain ⟨hi, e⟩ := List.getElem?_eq_some_iff.mp ho
  refine (orb_facts n h.mem).1 i hi x ?_
  simpa [hi, e] using hx
theorem orb_some {i k : Nat} (e : orb n k = some i) : ∃ o, (orbits n)[i]? = some o ∧ k ∈ o := by
  unfold orb at e
  rw [List.findIdx?_eq_some_iff_getElem] at e
  obtain ⟨hi, h1, _⟩ := e
  exact ⟨(orbits n)[i], by simp [hi], List.contains_iff_mem.mp h1⟩
theorem orb_lt {i k : Nat} (e : orb n k = some i) : i < (orbits n).length := by
  obtain ⟨o, h, _⟩ := orb_some e
  exact (List.getElem?_eq_some_iff.mp h).1
theorem orbit_mem {o : List Nat} (ho : o ∈ orbits n) : ∃ i : Nat, (orbits n)[i]? = some o := List.mem_iff_getElem?.mp ho
theorem orbit_unique (h : Sz n) {o p : List Nat} (ho : o ∈ orbits n) (hp : p ∈ orbits n) {x : Nat} (hx : x ∈ o) (hy : x ∈ p) : o = p := by
  obtain ⟨i, hi⟩ := orbit_mem ho
  obtain ⟨j, hj⟩ := orbit_mem hp
  have e1 := orb_mem h hi hx
  have e2 := orb_mem h hj hy
  rw [e1] at e2
  have : i = j := Option.some.inj e2
  subst this
  rw [hi] at hj
  exact Option.some.inj hj
theorem orbit_up (h : Sz n) {o : List Nat} (ho : o ∈ orbits n) : o.Pairwise (· < ·) := ((orb_facts n h.mem).2.2.2.1 o ho).1
theorem orbit_len (h : Sz n) {o : List Nat} (ho : o ∈ orbits n) : o.length = 4 := ((orb_facts n h.mem).2.2.2.1 o ho).2.1
theorem orbit_lt (h : Sz n) {o : List Nat} (ho : o ∈ orbits n) {x : Nat} (hx : x ∈ o) : x < n * n := mem_cells.mp (((orb_facts n h.mem).2.2.2.1 o ho).2.2.1 x hx).1
theorem orbit_mid (h : Sz n) {o : List Nat} (ho : o ∈ orbits n) {x : Nat} (hx : x ∈ o) : x ∉ middle n := (((orb_facts n h.mem).2.2.2.1 o ho).2.2.1 x hx).2.1
theorem orbit_last (h : Sz n) {o : List Nat} (ho : o ∈ orbits n) {x : Nat} (hx : x ∈ o) : x ≤ o.getD 3 0 := (((orb_facts n h.mem).2.2.2.1 o ho).2.2.1 x hx).2.2
theorem orbit_turns (h : Sz n) {o : List Nat} (ho : o ∈ orbits n) {x t : Nat} (hx : x ∈ o) (ht : t < 4) : turns n t x ∈ o := ((orb_facts n h.mem).2.2.2.1 o ho).2.2.2.1 x hx t ht
theorem orbit_one (h : Sz n) {o : List Nat} (ho : o ∈ orbits n) {x k : Nat} (hx : x ∈ o) (hk : k ∈ o) : ((List.range 4).filter fun t => turns n t x == k).length = 1 := ((orb_facts n h.mem).2.2.2.1 o ho).2.2.2.2 x hx k hk
theorem orbits_cells (h : Sz n) : 4 * (orbits n).length + (middle n).length = n * n := (orb_facts n h.mem).2.2.2.2.1
theorem orbits_le (h : Sz n) : (orbits n).length ≤ 9 := (orb_facts n h.mem).2.2.2.2.2
theorem orb_mid (h : Sz n) {k : Nat} (hk : k < n * n) (hm : k ∈ middle n) : orb n k = none := (orb_facts n h.mem).2.1 k (mem_cells.mpr hk) hm
theorem orb_some_of (h : Sz n) {k : Nat} (hk : k < n * n) (hm : k ∉ middle n) : ∃ i, orb n k = some i := Option.isSome_iff_exists.mp ((orb_facts n h.mem).2.2.1 k (mem_cells.mpr hk) hm)
theorem orbits_nodup (h : Sz n) : (orbits n).Nodup := by
  rw [List.nodup_iff_pairwise_ne]
  refine List.pairwise_iff_getElem.mpr fun i j hi hj hij e => ?_
  have mem : (orbits n)[i] ∈ orbits n := List.getElem_mem hi
  have l := orbit_len h mem
  have e1 := orb_mem h (i := i) (o := (orbits n)[i]) (by simp [hi]) (x := (orbits n)[i][0]'(by omega)) (List.getElem_mem _)
  have e2 := orb_mem h (i := j) (o := (orbits n)[j]) (by simp [hj]) (x := (orbits n)[i][0]'(by omega)) (by rw [← e]; exact List.getElem_mem _)
  rw [e1] at e2
  have := Option.some.inj e2
  omega
end
/-! ### choices -/
def Apart (O : List (List Nat)) : Prop := O.Pairwise fun o p => ∀ x ∈ o, x ∉ p
theorem orbits_apart {n : Nat} (h : Sz n) : Apart (orbits n) := by
  refine (List.Pairwise.and_mem.mp (orbits_nodup h)).imp fun {o p} q x hx hy => q.2.2 (orbit_unique h q.1 q.2.1 hx hy)
structure Pick (O : List (List Nat)) (h : List Nat) : Prop where
  up : h.Pairwise (· < ·)
  sub : ∀ x ∈ h, ∃ o ∈ O, x ∈ o
  one : ∀ o ∈ O, ∃ x, x ∈ o ∧ x ∈ h ∧ ∀ y, y ∈ o → y ∈ h → y = x
theorem put_length {k : Nat} : ∀ {s : List Nat}, k ∉ s → (put k s).length = s.length + 1
  | [], _ => rfl
  | b :: l, h => by
    unfold put
    split
    · rfl
    · split
      · rename_i e
        exact absurd (by simp [e]) h
      · show (put k l).length + 1 = _
        rw [put_length fun z => h (List.mem_cons_of_mem _ z)]
        rfl
theorem mem_choices_cons {o : List Nat} {O : List (List Nat)} {h : List Nat} : h ∈ choices (o :: O) ↔ ∃ k ∈ o, ∃ s ∈ choices O, put k s = h := by
  show h ∈ o.flatMap _ ↔ _
  simp only [List.mem_flatMap, List.mem_map]
theorem choices_pick : ∀ {O : List (List Nat)}, Apart O → ∀ {h : List Nat}, h ∈ choices O → Pick O h ∧ h.length = O.length
  | [], _, h, m => by
    have e : h = [] := by simpa [choices] using m
    subst e
    exact ⟨⟨.nil, (fun x hx => nomatch hx), (fun o ho => nomatch ho)⟩, rfl⟩
  | o :: O, a, h, m => by
    obtain ⟨k, hk, s, hs, rfl⟩ := mem_choices_cons.mp m
    obtain ⟨a1, a2⟩ := List.pairwise_cons.mp a
    obtain ⟨⟨p1, p2, p3⟩, l⟩ := choices_pick a2 hs
    have nk : ∀ x ∈ o, x ∉ s := fun x hx z => by
      obtain ⟨p, hp, hxp⟩ := p2 x z
      exact a1 p hp x hx hxp
    refine ⟨⟨put_up p1, fun x hx => ?_, fun p hp => ?_⟩, ?_⟩
    · rcases mem_put.mp hx with rfl | hx
      · exact ⟨o, by simp, hk⟩
      · obtain ⟨p, hp, q⟩ := p2 x hx
        exact ⟨p, by simp [hp], q⟩
    · rcases List.mem_cons.mp hp with rfl | hp
      · refine ⟨k, hk, mem_put.mpr (.inl rfl), fun y hy z => ?_⟩
        rcases mem_put.mp z with e | z
        · exact e
        · exact absurd z (nk y hy)
      · obtain ⟨x, x1, x2, x3⟩ := p3 p hp
        refine ⟨x, x1, mem_put.mpr (.inr x2), fun y hy z => ?_⟩
        rcases mem_put.mp z with rfl | z
        · exact absurd hy (a1 p hp y hk)
        · exact x3 y hy z
    · rw [put_length (nk k hk), l]
      rfl
theorem pick_choices : ∀ {O : List (List Nat)}, Apart O → ∀ {h : List Nat}, Pick O h → h ∈ choices O
  | [], _, h, p => by
    have e : h = [] := by
      cases h with
      | nil => rfl
      | cons x r =>
        obtain ⟨o, ho, _⟩ := p.sub x (by simp)
        cases ho
    subst e
    simp [choices]
  | o :: O, a, h, p => by
    obtain ⟨a1, a2⟩ := List.pairwise_cons.mp a
    obtain ⟨k, k1, k2, k3⟩ := p.one o (by simp)
    refine mem_choices_cons.mpr ⟨k, k1, h.filter (· != k), pick_choices a2 ⟨p.up.filter _, fun x hx => ?_, fun q hq => ?_⟩, ?_⟩
    · obtain ⟨x1, x2⟩ := List.mem_filter.mp hx
      obtain ⟨q, q1, q2⟩ := p.sub x x1
      rcases List.mem_cons.mp q1 with rfl | q1
      · exact absurd (k3 x q2 x1) (by simpa using x2)
      · exact ⟨q, q1, q2⟩
    · obtain ⟨x, x1, x2, x3⟩ := p.one q (by simp [hq])
      refine ⟨x, x1, List.mem_filter.mpr ⟨x2, ?_⟩, fun y y1 y2 => x3 y y1 (List.mem_filter.mp y2).1⟩
      have : x ≠ k := fun e => a1 q hq k k1 (e ▸ x1)
      simpa using this
    · refine up_ext (put_up (p.up.filter _)) p.up fun x => ?_
      rw [mem_put, List.mem_filter]
      constructor
      · rintro (rfl | h)
        · exact k2
        · exact h.1
      · intro hx
        by_cases e : x = k
        · exact .inl e
        · exact .inr ⟨hx, by simpa using e⟩
theorem choices_nodup : ∀ {O : List (List Nat)}, Apart O → (∀ o ∈ O, o.Nodup) → (choices O).Nodup
  | [], _, _ => by simp [choices]
  | o :: O, a, nd => by
    obtain ⟨a1, a2⟩ := List.pairwise_cons.mp a
    have ih := choices_nodup a2 fun p hp => nd p (by simp [hp])
    have nk : ∀ k ∈ o, ∀ s ∈ choices O, k ∉ s := fun k hk s hs z => by
      obtain ⟨p, hp, hxp⟩ := (choices_pick a2 hs).1.sub k z
      exact a1 p hp k hk hxp
    show (o.flatMap fun k => (choices O).map fun s => put k s).Nodup
    unfold List.Nodup
    rw [List.pairwise_flatMap]
    refine ⟨fun k hk => ?_, (List.Pairwise.and_mem.mp (nd o (by simp))).imp fun {k k'} q x hx y hy e => ?_⟩
    · rw [List.pairwise_map]
      refine (List.Pairwise.and_mem.mp ih).imp fun {s s'} q e => q.2.2 ?_
      refine up_ext (choices_pick a2 q.1).1.up (choices_pick a2 q.2.1).1.up fun x => ?_
      have h := congrArg (fun l => x ∈ l) e
      simp only [mem_put, eq_iff_iff] at h
      constructor
      · intro hx
        have ne : x ≠ k := fun z => nk k hk s q.1 (z ▸ hx)
        exact (h.mp (.inr hx)).resolve_left ne
      · intro hx
        have ne : x ≠ k := fun z => nk k hk s' q.2.1 (z ▸ hx)
        exact (h.mpr (.inr hx)).resolve_left ne
    · obtain ⟨s, hs, rfl⟩ := List.mem_map.mp hx
      obtain ⟨s', hs', rfl⟩ := List.mem_map.mp hy
      have : k ∈ put k' s' := e ▸ mem_put.mpr (.inl rfl)
      rcases mem_put.mp this with z | z
      · exact q.2.2 z
      · exact nk k q.1 s' hs' z
/-- each choice is a card that fits -/
theorem pick_fits {n : Nat} (h : Sz n) {e : List Nat} (p : Pick (orbits n) e) : Fits ⟨n, e⟩ := by
  refine ⟨h, p.up, fun x hx => ?_, fun k hk => ?_⟩
  · obtain ⟨o, ho, q⟩ := p.sub x hx
    exact orbit_lt h ho q
  · have hk' : k < n * n := hk
    by_cases hm : k ∈ middle n
    · have e1 : due n k = 0 := by unfold due; rw [if_pos (List.contains_iff_mem.mpr hm)]
      rw [show (Card.mk n e).n = n from rfl, e1]
      unfold Card.times
      rw [List.length_eq_zero_iff, List.filter_eq_nil_iff]
      intro t ht hc
      obtain ⟨x, hx, ex⟩ := mem_seen.mp (List.contains_iff_mem.mp hc)
      obtain ⟨o, ho, q⟩ := p.sub x hx
      have := orbit_turns h ho q (List.mem_range.mp ht)
      exact orbit_mid h ho this (ex ▸ hm)
    · have e1 : due n k = 1 := by unfold due; rw [if_neg fun z => hm (List.contains_iff_mem.mp z)]
      rw [show (Card.mk n e).n = n from rfl, e1]
      obtain ⟨i, hi⟩ := orb_some_of h hk' hm
      obtain ⟨o, ho, hko⟩ := orb_some hi
      have ho' : o ∈ orbits n := List.mem_of_getElem? ho
      obtain ⟨x, x1, x2, x3⟩ := p.one o ho'
      rw [← orbit_one h ho' x1 hko]
      unfold Card.times
      refine congrArg List.length (List.filter_congr fun t ht => ?_)
      rw [Bool.eq_iff_iff, List.contains_iff_mem, mem_seen, beq_iff_eq]
      constructor
      · rintro ⟨y, hy, ey⟩
        obtain ⟨o2, ho2, q⟩ := p.sub y hy
        have hy2 := orbit_turns h ho2 q (List.mem_range.mp ht)
        have ey' : turns n t y = k := ey
        rw [ey'] at hy2
        have eo := orbit_unique h ho' ho2 hko hy2
        subst eo
        rw [← x3 y q hy]
        exact ey
      · intro ex
        exact ⟨x, x2, ex⟩
/-! ### known -/
/-- the program's way in one four -/
def freeOf (o yes no : List Nat) : List Nat :=
  let told := o.filter fun c => yes.contains c
  let free := o.filter fun c => !no.contains c
  if told.length > 0 then told.filter fun c => free.contains c && told.length == 1 else free
theorem freeOf_is {o yes no : List Nat} (up : o.Pairwise (· < ·)) : freeOf o yes no = o.filter fun k => !no.contains k && o.all fun j => j == k || !yes.contains j := by
  unfold freeOf
  dsimp only
  split
  · rename_i hl
    refine up_ext ((up.filter _).filter _) (up.filter _) fun k => ?_
    simp only [List.mem_filter, Bool.and_eq_true, List.contains_iff_mem, Bool.not_eq_true', List.all_eq_true, Bool.or_eq_true, beq_iff_eq, Bool.eq_false_iff, ne_eq]
    constructor
    · rintro ⟨⟨k1, k2⟩, ⟨_, k3⟩, k4⟩
      refine ⟨k1, k3, fun j hj => ?_⟩
      by_cases z : j ∈ yes
      · left
        obtain ⟨x, ex⟩ := List.length_eq_one_iff.mp k4
        have m1 : j ∈ o.filter fun c => yes.contains c := List.mem_filter.mpr ⟨hj, List.contains_iff_mem.mpr z⟩
        have m2 : k ∈ o.filter fun c => yes.contains c := List.mem_filter.mpr ⟨k1, List.contains_iff_mem.mpr k2⟩
        rw [ex] at m1 m2
        rw [List.mem_singleton.mp m1, List.mem_singleton.mp m2]
      · exact .inr z
    · rintro ⟨k1, k2, k3⟩
      obtain ⟨y, hy⟩ := List.exists_mem_of_length_pos hl
      have all : ∀ z ∈ o.filter fun c => yes.contains c, z = k := fun z hz => by
        obtain ⟨z1, z2⟩ := List.mem_filter.mp hz
        exact (k3 z z1).resolve_right fun q => q (List.contains_iff_mem.mp z2)
      have ey := all y hy
      subst ey
      refine ⟨⟨k1, List.contains_iff_mem.mp (List.mem_filter.mp hy).2⟩, ⟨k1, k2⟩, ?_⟩
      have nd := up_nodup (up.filter fun c => yes.contains c)
      have sub : (o.filter fun c => yes.contains c) ⊆ [y] := fun z hz => by rw [all z hz]; simp
      have := nd.length_le_of_subset sub
      rw [List.length_singleton] at this
      exact Nat.le_antisymm this hl
  · rename_i hl
    have h0 : o.filter (fun c => yes.contains c) = [] := by
      apply List.eq_nil_of_length_eq_zero
      omega
    refine List.filter_congr fun k hk => ?_
    have : (o.all fun j => j == k || !yes.contains j) = true := by
      rw [List.all_eq_true]
      intro j hj
      have hj2 := List.filter_eq_nil_iff.mp h0 j hj
      simp only [Bool.not_eq_true] at hj2
      rw [hj2]
      simp
    rw [this, Bool.and_true]
/-- many, first behind some fours -/
def kMany (l : List (List Nat)) : Nat := l.foldl (fun m o => m * o.length) 1
def kFirst (l : List (List Nat)) : List Nat := l.flatMap fun o => o.take 1
theorem kMany_snoc {l : List (List Nat)} {o : List Nat} : kMany (l ++ [o]) = kMany l * o.length := by
  unfold kMany
  rw [List.foldl_append]
  rfl
theorem kFirst_snoc {l : List (List Nat)} {o : List Nat} : kFirst (l ++ [o]) = kFirst l ++ o.take 1 := by simp [kFirst]
theorem open_eq {n : Nat} (h : Sz n) {yes no : List Nat} : open_ n yes no = (orbits n).map fun o => freeOf o yes no := by
  unfold open_
  exact List.map_congr_left fun o ho => (freeOf_is (orbit_up h ho)).symm
theorem freeOf_sub {o yes no : List Nat} {x : Nat} (h : x ∈ freeOf o yes no) : x ∈ o := by
  unfold freeOf at h
  dsimp only at h
  split at h
  · exact (List.mem_filter.mp (List.mem_filter.mp h).1).1
  · exact (List.mem_filter.mp h).1
theorem freeOf_le {o yes no : List Nat} : (freeOf o yes no).length ≤ o.length := by
  unfold freeOf
  dsimp only
  split
  · exact Nat.le_trans (List.length_filter_le ..) (List.length_filter_le ..)
  · exact List.length_filter_le ..
theorem kMany_le : ∀ {l : List (List Nat)} {a : Nat}, (∀ o ∈ l, o.length ≤ 4) → l.foldl (fun m o => m * o.length) a ≤ a * 4 ^ l.length
  | [], a, _ => by simp
  | o :: l, a, h => by
    rw [List.foldl_cons]
    refine Nat.le_trans (kMany_le fun p hp => h p (by simp [hp])) ?_
    rw [List.length_cons, Nat.pow_succ, Nat.mul_comm (4 ^ l.length) 4, ← Nat.mul_assoc]
    exact Nat.mul_le_mul_right _ (Nat.mul_le_mul_left _ (h o (by simp)))
theorem foldl_zero : ∀ {l : List (List Nat)}, l.foldl (fun m o => m * o.length) 0 = 0
  | [] => rfl
  | o :: l => by
    rw [List.foldl_cons, Nat.zero_mul]
    exact foldl_zero
theorem kMany_pos : ∀ {l : List (List Nat)} {a : Nat}, l.foldl (fun m o => m * o.length) a ≠ 0 → ∀ o ∈ l, o ≠ []
  | [], _, _, _, h => nomatch h
  | p :: l, a, h, o, ho => by
    rw [List.foldl_cons] at h
    rcases List.mem_cons.mp ho with rfl | ho
    · intro e
      subst e
      rw [List.length_nil, Nat.mul_zero, foldl_zero] at h
      exact h rfl
    · exact kMany_pos h o ho
theorem kFirst_heads : ∀ {l : List (List Nat)}, (∀ o ∈ l, o ≠ []) → kFirst l = l.map fun o => o.headD 0
  | [], _ => rfl
  | o :: l, h => by
    have ih := kFirst_heads (l := l) fun p hp => h p (by simp [hp])
    cases o with
    | nil => exact absurd rfl (h [] (by simp))
    | cons x r =>
      show [x] ++ kFirst l = x :: l.map _
      rw [ih]
      rfl
theorem kFirst_nodup {n : Nat} (h : Sz n) {yes no : List Nat} : (kFirst ((orbits n).map fun o => freeOf o yes no)).Nodup := by
  unfold kFirst
  unfold List.Nodup
  rw [List.pairwise_flatMap]
  refine ⟨fun o ho => ?_, ?_⟩
  · cases o with
    | nil => simp
    | cons x r => simp
  · rw [List.pairwise_map]
    refine (List.Pairwise.and_mem.mp (orbits_apart h)).imp fun {o p} q x hx y hy e => ?_
    subst e
    exact q.2.2 x (freeOf_sub (List.mem_of_mem_take hx)) (freeOf_sub (List.mem_of_mem_take hy))
/-- what the program hands back is what is due -/
theorem known_is {n : Nat} (h : Sz n) {yes no : List Nat} (hm : ∀ k ∈ middle n, k ∉ yes) : Uw56.known n yes no = kMany ((orbits n).map fun o => freeOf o yes no) := by
  unfold Uw56.known
  rw [if_neg, open_eq h]
  · rfl
  · intro z
    rw [List.any_eq_true] at z
    obtain ⟨k, h1, h2⟩ := z
    exact hm k (List.contains_iff_mem.mp h2) h1
theorem known_mid {n : Nat} {yes no : List Nat} {k : Nat} (hk : k ∈ middle n) (hy : k ∈ yes) : Uw56.known n yes no = 0 := by
  unfold Uw56.known
  rw [if_pos]
  rw [List.any_eq_true]
  exact ⟨k, hy, List.contains_iff_mem.mpr hk⟩
theorem firstKnown_is {n : Nat} (h : Sz n) {yes no : List Nat} (nz : kMany ((orbits n).map fun o => freeOf o yes no) ≠ 0) :
    firstKnown n yes no = rising (kFirst ((orbits n).map fun o => freeOf o yes no)) := by
  unfold firstKnown
  rw [open_eq h, kFirst_heads (kMany_pos nz)]
end Hc
namespace Hc
open Uw56
/-! ### the order of cards -/
theorem less_irrefl : ∀ {a : List Nat}, less a a = false
  | [] => rfl
  | x :: a => by
    show (decide (x < x) || (x == x && less a a)) = false
    rw [less_irrefl]
    simp
theorem less_cons {x y : Nat} {a b : List Nat} : less (x :: a) (y :: b) = true ↔ x < y ∨ (x = y ∧ less a b = true) := by
  show (decide (x < y) || (x == y && less a b)) = true ↔ _
  simp
theorem less_trans : ∀ {a b c : List Nat}, less a b = true → less b c = true → less a c = true
  | _, _, [], _, h => by
    cases ‹List Nat› <;> simp [less] at h
  | _, [], _ :: _, h, _ => by
    cases ‹List Nat› <;> simp [less] at h
  | [], _ :: _, _ :: _, _, _ => rfl
  | x :: a, y :: b, z :: c, h1, h2 => by
    rw [less_cons] at *
    rcases h1 with h1 | ⟨e1, h1⟩
    · rcases h2 with h2 | ⟨e2, h2⟩
      · exact .inl (Nat.lt_trans h1 h2)
      · exact .inl (e2 ▸ h1)
    · rcases h2 with h2 | ⟨e2, h2⟩
      · exact .inl (e1 ▸ h2)
      · exact .inr ⟨e1.trans e2, less_trans h1 h2⟩
theorem less_tri : ∀ {a b : List Nat}, less a b = true ∨ a = b ∨ less b a = true
  | [], [] => .inr (.inl rfl)
  | [], _ :: _ => .inl rfl
  | _ :: _, [] => .inr (.inr rfl)
  | x :: a, y :: b => by
    rw [less_cons, less_cons]
    rcases Nat.lt_trichotomy x y with h | h | h
    · exact .inl (.inl h)
    · subst h
      rcases less_tri (a := a) (b := b) with h | h | h
      · exact .inl (.inr ⟨rfl, h⟩)
      · exact .inr (.inl (by rw [h]))
      · exact .inr (.inr (.inr ⟨rfl, h⟩))
    · exact .inr (.inr (.inl h))
theorem less_app : ∀ {h r s : List Nat} {x y : Nat}, x < y → less (h ++ x :: r) (h ++ y :: s) = true
  | [], _, _, _, _, l => less_cons.mpr (.inl l)
  | _ :: _, _, _, _, _, l => less_cons.mpr (.inr ⟨rfl, less_app l⟩)
/-- the first of some cards is before all others, or one of them -/
theorem firstOf_fold : ∀ {l : List Card} {b : Card}, ∃ x, l.foldl (fun (m : Option Card) c => match m with
  | none => some c
  | some b => if less c.holes b.holes = true then some c else some b) (some b) = some x ∧ (x = b ∨ x ∈ l) ∧ (¬ less b.holes x.holes = true) ∧ ∀ y ∈ l, ¬ less y.holes x.holes = true
  | [], b => ⟨b, rfl, .inl rfl, by rw [less_irrefl]; simp, fun y hy => nomatch hy⟩
  | c :: l, b => by
    rw [List.foldl_cons]
    dsimp only
    by_cases h : less c.holes b.holes = true
    · rw [if_pos h]
      obtain ⟨x, e, m, n1, n2⟩ := firstOf_fold (l := l) (b := c)
      refine ⟨x, e, .inr ?_, fun z => ?_, fun y hy => ?_⟩
      · rcases m with rfl | m
        · simp
        · simp [m]
      · exact n1 (less_trans h z)
      · rcases List.mem_cons.mp hy with rfl | hy
        · exact n1
        · exact n2 y hy
    · rw [if_neg h]
      obtain ⟨x, e, m, n1, n2⟩ := firstOf_fold (l := l) (b := b)
      refine ⟨x, e, ?_, n1, fun y hy => ?_⟩
      · rcases m with m | m
        · exact .inl m
        · exact .inr (by simp [m])
      · rcases List.mem_cons.mp hy with rfl | hy
        · intro z
          rcases less_tri (a := b.holes) (b := x.holes) with q | q | q
          · exact n1 q
          · rw [← q] at z
            exact h z
          · exact h (less_trans z q)
        · exact n2 y hy
theorem firstOf_is {l : List Card} {x : Card} (hx : x ∈ l) (h : ∀ y ∈ l, y ≠ x → less x.holes y.holes = true) : firstOf l = some x := by
  cases l with
  | nil => cases hx
  | cons b l =>
    obtain ⟨z, e, m, n1, n2⟩ := firstOf_fold (l := l) (b := b)
    refine Eq.trans e ?_
    have mz : z ∈ b :: l := by
      rcases m with rfl | m
      · simp
      · simp [m]
    by_cases ne : z = x
    · rw [ne]
    · have := h z mz ne
      rcases List.mem_cons.mp hx with rfl | hx
      · exact absurd this n1
      · exact absurd this (n2 x hx)
/-! ### holes put in, one behind another -/
/-- what may be the next hole, along some cells -/
def nx (n : Nat) (tk : List Nat) (a : Nat) (b : List Nat) : List Nat → List Nat
  | [] => []
  | c :: r => match orb n c with
    | none => nx n tk a b r
    | some o => if tk.contains o = true then nx n tk a b r else
      (if b.getD c 0 = a then [c] else []) ++ if c = ((orbits n).getD o []).getD 3 0 then [] else nx n tk a b r
/-- the first cell behind the last hole -/
def lo (h : List Nat) : Nat := match h.getLast? with
  | none => 0
  | some x => x + 1
def taken (n : Nat) (h : List Nat) : List Nat := h.map fun c => (orb n c).getD 0
def nexts (n : Nat) (a b h : List Nat) : List Nat := nx n (taken n h) (a.getD h.length 0) b (List.range' (lo h) (n * n - lo h))
def leaves (n : Nat) (a b : List Nat) : Nat → List Nat → List (List Nat)
  | 0, h => [h]
  | g + 1, h => (nexts n a b h).flatMap fun c => leaves n a b g (h ++ [c])
/-- how many turns of the program's loop -/
def nodes (n : Nat) (a b : List Nat) : Nat → List Nat → Nat
  | 0, _ => 1
  | g + 1, h => 1 + ((nexts n a b h).map fun c => nodes n a b g (h ++ [c])).sum
section
variable {n a : Nat} {tk b : List Nat}
theorem nx_sub : ∀ {l : List Nat} {c : Nat}, c ∈ nx n tk a b l → c ∈ l ∧ ∃ o, orb n c = some o ∧ o ∉ tk ∧ b.getD c 0 = a
  | [], _, h => nomatch h
  | d :: r, c, h => by
    unfold nx at h
    split at h
    · obtain ⟨h1, h2⟩ := nx_sub h
      exact ⟨by simp [h1], h2⟩
    · rename_i o ho
      split at h
      · obtain ⟨h1, h2⟩ := nx_sub h
        exact ⟨by simp [h1], h2⟩
      · rename_i ht
        rcases List.mem_append.mp h with h | h
        · split at h
          · rename_i e
            have : c = d := by simpa using h
            subst this
            exact ⟨by simp, o, ho, fun z => ht (List.contains_iff_mem.mpr z), e⟩
          · cases h
        · split at h
          · cases h
          · obtain ⟨h1, h2⟩ := nx_sub h
            exact ⟨by simp [h1], h2⟩
theorem nx_up : ∀ {l : List Nat}, l.Pairwise (· < ·) → (nx n tk a b l).Pairwise (· < ·)
  | [], _ => .nil
  | d :: r, h => by
    obtain ⟨h1, h2⟩ := List.pairwise_cons.mp h
    unfold nx
    split
    · exact nx_up h2
    · split
      · exact nx_up h2
      · refine List.pairwise_append.mpr ⟨?_, ?_, fun x hx y hy => ?_⟩
        · split <;> simp
        · split
          · exact .nil
          · exact nx_up h2
        · split at hx
          · have : x = d := by simpa using hx
            subst this
            split at hy
            · cases hy
            · exact h1 y (nx_sub hy).1
          · cases hx
/-- a cell is found if no four must be served before it -/
theorem nx_mem : ∀ {l : List Nat} {c o : Nat}, l.Pairwise (· < ·) → c ∈ l → orb n c = some o → o ∉ tk → b.getD c 0 = a → (∀ d ∈ l, d < c → ∀ p, orb n d = some p → p ∉ tk → d ≠ ((orbits n).getD p []).getD 3 0) → c ∈ nx n tk a b l
  | [], _, _, _, h, _, _, _, _ => nomatch h
  | d :: r, c, o, up, h, ho, ht, e, all => by
    obtain ⟨h1, h2⟩ := List.pairwise_cons.mp up
    have rest : c ∈ r → c ∈ nx n tk a b r := fun hc => nx_mem h2 hc ho ht e fun d hd => all d (List.mem_cons_of_mem _ hd)
    unfold nx
    split
    · rename_i q
      rcases List.mem_cons.mp h with rfl | h
      · rw [ho] at q
        cases q
      · exact rest h
    · rename_i p q
      split
      · rename_i z
        rcases List.mem_cons.mp h with rfl | h
        · rw [ho] at q
          cases q
          exact absurd (List.contains_iff_mem.mp z) ht
        · exact rest h
      · rename_i z
        rcases List.mem_cons.mp h with rfl | h
        · rw [if_pos e]
          simp
        · have hd : d < c := h1 c h
          have := all d (by simp) hd p q fun y => z (List.contains_iff_mem.mpr y)
          rw [if_neg this]
          exact List.mem_append_right _ (rest h)
end
section
variable {n : Nat} {a b : List Nat}
/-- holes put in so far -/
structure Put (n : Nat) (a b h : List Nat) : Prop where
  up : h.Pairwise (· < ·)
  orb : ∀ x ∈ h, ∃ o, orb n x = some o
  dif : (taken n h).Nodup
  let_ : ∀ (i x : Nat), h[i]? = some x → b.getD x 0 = a.getD i 0
theorem put_nil : Put n a b [] := ⟨.nil, (fun x hx => nomatch hx), .nil, (fun i x h => by simp at h)⟩
theorem lo_le {h : List Nat} (up : h.Pairwise (· < ·)) {x : Nat} (hx : x ∈ h) : x < lo h := by
  unfold lo
  cases e : h.getLast? with
  | none =>
    rw [List.getLast?_eq_none_iff] at e
    subst e
    cases hx
  | some y =>
    dsimp only
    obtain ⟨r, rfl⟩ := List.getLast?_eq_some_iff.mp e
    rcases List.mem_append.mp hx with h | h
    · have := (List.pairwise_append.mp up).2.2 x h y (by simp)
      omega
    · have : x = y := by simpa using h
      omega
theorem lo_snoc {h : List Nat} {x : Nat} : lo (h ++ [x]) = x + 1 := by
  unfold lo
  simp
theorem mem_nexts {h : List Nat} {c : Nat} (m : c ∈ nexts n a b h) : lo h ≤ c ∧ c < n * n ∧ ∃ o, orb n c = some o ∧ o ∉ taken n h ∧ b.getD c 0 = a.getD h.length 0 := by
  obtain ⟨h1, h2⟩ := nx_sub m
  rw [List.mem_range'_1] at h1
  exact ⟨h1.1, by omega, h2⟩
theorem Put.next {h : List Nat} {c : Nat} (p : Put n a b h) (m : c ∈ nexts n a b h) : Put n a b (h ++ [c]) := by
  obtain ⟨h1, h2, o, h3, h4, h5⟩ := mem_nexts m
  refine ⟨List.pairwise_append.mpr ⟨p.up, by simp, fun x hx y hy => ?_⟩, fun x hx => ?_, ?_, fun i x e => ?_⟩
  · have e : y = c := by simpa using hy
    have := lo_le p.up hx
    omega
  · rcases List.mem_append.mp hx with hx | hx
    · exact p.orb x hx
    · have e : x = c := by simpa using hx
      exact ⟨o, e ▸ h3⟩
  · unfold taken
    rw [List.map_append, List.nodup_append]
    refine ⟨p.dif, by simp, fun x hx y hy => ?_⟩
    have e : y = o := by simpa [h3] using hy
    intro z
    exact h4 (by rw [← e, ← z]; exact hx)
  · by_cases l : i < h.length
    · rw [List.getElem?_append_left l] at e
      exact p.let_ i x e
    · rw [List.getElem?_append_right (by omega)] at e
      have hi : i = h.length := by
        have := (List.getElem?_eq_some_iff.mp e).1
        simp at this
        omega
      subst hi
      have : c = x := by simpa using e
      rw [← this]
      exact h5
theorem leaves_put : ∀ {g : Nat} {h e : List Nat}, Put n a b h → e ∈ leaves n a b g h → Put n a b e ∧ e.length = h.length + g ∧ ∃ r, e = h ++ r
  | 0, h, e, p, m => by
    have : e = h := by simpa [leaves] using m
    subst this
    exact ⟨p, rfl, [], by simp⟩
  | g + 1, h, e, p, m => by
    obtain ⟨c, hc, m⟩ := List.mem_flatMap.mp (show e ∈ (nexts n a b h).flatMap _ from m)
    obtain ⟨q, l, r, er⟩ := leaves_put (p.next hc) m
    refine ⟨q, ?_, c :: r, by rw [er, List.append_assoc]; rfl⟩
    rw [l, List.length_append, List.length_singleton]
    omega
theorem leaves_less : ∀ {g : Nat} {h : List Nat}, Put n a b h → (leaves n a b g h).Pairwise fun x y => less x y = true
  | 0, h, _ => by simp [leaves]
  | g + 1, h, p => by
    show ((nexts n a b h).flatMap _).Pairwise _
    rw [List.pairwise_flatMap]
    refine ⟨fun c hc => leaves_less (p.next hc), ?_⟩
    have up : (nexts n a b h).Pairwise (· < ·) := nx_up (List.pairwise_lt_range' ..)
    refine (List.Pairwise.and_mem.mp up).imp fun {c d} q x hx y hy => ?_
    obtain ⟨_, _, r, rfl⟩ := leaves_put (p.next q.1) hx
    obtain ⟨_, _, s, rfl⟩ := leaves_put (p.next q.2.1) hy
    rw [List.append_assoc, List.append_assoc]
    exact less_app q.2.2
theorem put_pick (h : Sz n) {e : List Nat} (p : Put n a b e) (l : e.length = (orbits n).length) : Pick (orbits n) e := by
  have mem : ∀ i, i < (orbits n).length → i ∈ taken n e := fun i hi => by
    apply Classical.byContradiction
    intro no
    have nd : (i :: taken n e).Nodup := List.nodup_cons.mpr ⟨no, p.dif⟩
    have sub : i :: taken n e ⊆ List.range (orbits n).length := fun x hx => by
      rw [List.mem_range]
      rcases List.mem_cons.mp hx with rfl | hx
      · exact hi
      · obtain ⟨y, hy, rfl⟩ := List.mem_map.mp hx
        obtain ⟨o, ho⟩ := p.orb y hy
        rw [ho]
        exact orb_lt ho
    have := nd.length_le_of_subset sub
    simp [taken] at this
    omega
  refine ⟨p.up, fun x hx => ?_, fun o ho => ?_⟩
  · obtain ⟨i, hi⟩ := p.orb x hx
    obtain ⟨o, h1, h2⟩ := orb_some hi
    exact ⟨o, List.mem_of_getElem? h1, h2⟩
  · obtain ⟨i, hi⟩ := orbit_mem ho
    have lt := (List.getElem?_eq_some_iff.mp hi).1
    obtain ⟨x, hx, ex⟩ := List.mem_map.mp (mem i lt)
    obtain ⟨j, hj⟩ := p.orb x hx
    rw [hj] at ex
    have : j = i := ex
    subst this
    obtain ⟨o', h1, h2⟩ := orb_some hj
    rw [hi] at h1
    cases h1
    refine ⟨x, h2, hx, fun y hy hye => ?_⟩
    have e1 := orb_mem h hi hy
    -- two places of one number are one
    obtain ⟨s, hs⟩ := List.mem_iff_getElem?.mp hx
    obtain ⟨t, ht⟩ := List.mem_iff_getElem?.mp hye
    have q1 : (taken n e)[s]? = some j := by simp [taken, hs, hj]
    have q2 : (taken n e)[t]? = some j := by simp [taken, ht, e1]
    have lt1 := (List.getElem?_eq_some_iff.mp q1).1
    have := (List.getElem?_inj lt1 p.dif).mp (q1.trans q2.symm)
    subst this
    rw [hs] at ht
    exact (Option.some.inj ht).symm
theorem pick_leaves (h : Sz n) {e : List Nat} (p : Pick (orbits n) e) (lt : ∀ (i x : Nat), e[i]? = some x → b.getD x 0 = a.getD i 0) : ∀ {g : Nat} {k r : List Nat}, e = k ++ r → r.length = g → e ∈ leaves n a b g k
  | 0, k, r, e1, l => by
    have : r = [] := List.eq_nil_of_length_eq_zero l
    subst this
    rw [e1]
    simp [leaves]
  | g + 1, k, r, e1, l => by
    cases r with
    | nil => cases l
    | cons c r =>
      refine List.mem_flatMap.mpr ⟨c, ?_, pick_leaves h p lt (k := k ++ [c]) (r := r) (by rw [e1, List.append_assoc]; rfl) (by simpa using l)⟩
      have up := p.up
      rw [e1] at up
      obtain ⟨u1, u2, u3⟩ := List.pairwise_append.mp up
      obtain ⟨u4, u5⟩ := List.pairwise_cons.mp u2
      have hc : c ∈ e := by rw [e1]; simp
      obtain ⟨o, ho, hco⟩ := p.sub c hc
      obtain ⟨i, hi⟩ := orbit_mem ho
      have hoc := orb_mem h hi hco
      have lc := orbit_lt h ho hco
      have fresh : ∀ y ∈ e, ∀ j, orb n y = some j → j ∉ taken n k → y ∉ k := fun y _ j hj hn hk => hn (List.mem_map.mpr ⟨y, hk, by rw [hj]; rfl⟩)
      have llo : lo k ≤ c := by
        unfold lo
        cases q : k.getLast? with
        | none => simp
        | some y =>
          have := u3 y (List.mem_of_getLast? q) c (by simp)
          exact this
      refine nx_mem (List.pairwise_lt_range' ..) ?_ hoc ?_ ?_ ?_
      · rw [List.mem_range'_1]
        omega
      · intro z
        obtain ⟨y, hy, ey⟩ := List.mem_map.mp z
        have hye : y ∈ e := by rw [e1]; simp [hy]
        obtain ⟨o2, ho2, hyo⟩ := p.sub y hye
        obtain ⟨j, hj⟩ := orbit_mem ho2
        have hjy := orb_mem h hj hyo
        rw [hjy] at ey
        have : j = i := ey
        subst this
        rw [hi] at hj
        cases hj
        obtain ⟨x, x1, x2, x3⟩ := p.one o ho
        have e3 : c = y := (x3 c hco hc).trans (x3 y hyo hye).symm
        have := u3 y hy c (by simp)
        omega
      · have := lt k.length c (by rw [e1]; simp)
        exact this
      · intro d hd hdc q hq hqn ed
        obtain ⟨oq, hoq, hdo⟩ := orb_some hq
        have hoq' := List.mem_of_getElem? hoq
        obtain ⟨y, y1, y2, _⟩ := p.one oq hoq'
        have hyq := orb_mem h hoq y1
        have ny := fresh y y2 q hyq hqn
        have yr : y ∈ c :: r := by
          rw [e1] at y2
          rcases List.mem_append.mp y2 with z | z
          · exact absurd z ny
          · exact z
        have cy : c ≤ y := by
          rcases List.mem_cons.mp yr with z | z
          · omega
          · have := u4 y z; omega
        have le := orbit_last h hoq' y1
        have eg : (orbits n).getD q [] = oq := by simp [hoq]
        rw [eg] at ed
        omega
/-- what the program goes through: the cards that fit and bear the first letters, in order -/
theorem mem_leaves (h : Sz n) {e : List Nat} : e ∈ leaves n a b (orbits n).length [] ↔ Pick (orbits n) e ∧ ∀ (i x : Nat), e[i]? = some x → b.getD x 0 = a.getD i 0 := by
  constructor
  · intro m
    obtain ⟨p, l, _⟩ := leaves_put put_nil m
    rw [List.length_nil, Nat.zero_add] at l
    exact ⟨put_pick h p l, p.let_⟩
  · rintro ⟨p, lt⟩
    have := (choices_pick (orbits_apart h) (pick_choices (orbits_apart h) p)).2
    exact pick_leaves h p lt (k := []) (r := e) rfl this
/-! ### what a card makes of a text -/
theorem makes_iff {c : Card} (f : Fits c) (ha : a.length = c.n * c.n) (hb : b.length = c.n * c.n) : c.makes a b = true ↔ ∀ i, i < c.n * c.n → b.getD (c.next i) 0 = a.getD i 0 := by
  have w : c.write a = b ↔ ∀ i, i < c.n * c.n → b.getD (c.next i) 0 = a.getD i 0 := by
    constructor
    · intro e i hi
      rw [← e, f.write_next hi]
    · intro h
      refine text_ext write_len hb fun k hk => ?_
      rw [write_get hk, ← h _ (f.idx_lt hk), f.next_idx hk]
  unfold Card.makes
  rw [Bool.and_eq_true, beq_iff_eq, w]
  constructor
  · exact fun h => h.2
  · intro h
    refine ⟨?_, h⟩
    rw [List.all_eq_true]
    intro p hp
    obtain ⟨i, hi⟩ := List.mem_iff_getElem?.mp hp
    rw [List.getElem?_zip_eq_some] at hi
    obtain ⟨h1, h2⟩ := hi
    have lt := (List.getElem?_eq_some_iff.mp h2).1
    rw [ha] at lt
    have := h i lt
    rw [beq_iff_eq]
    have e1 : c.next i = p.1 := by
      have hl : i < c.order.length := by rw [f.olen]; exact lt
      have e0 : c.seen 0 = c.holes := by
        unfold Card.seen
        rw [show c.holes.map (turns c.n 0) = c.holes from (List.map_congr_left fun x _ => rfl).trans (List.map_id _)]
        exact rising_self f.up
      unfold Card.next
      rw [order_eq, e0, List.getD_eq_getElem?_getD, List.getElem?_append_left (List.getElem?_eq_some_iff.mp h1).1, h1]
      rfl
    rw [← e1, this, List.getD_eq_getElem?_getD, h2]
    rfl
end
end Hc
namespace Hc
open Uw56
/-! ### guess: what the program's look tells -/
section
variable {n : Nat} {a b : List Nat}
theorem seen_length {c : Card} (f : Fits c) {t : Nat} : (c.seen t).length = c.holes.length := by
  have nd : (c.holes.map (turns c.n t)).Nodup := by
    unfold List.Nodup
    rw [List.pairwise_map]
    exact (List.Pairwise.and_mem.mp (up_nodup f.up)).imp fun h e => h.2.2 (turns_inj f.sz (f.lt _ h.1) (f.lt _ h.2.1) e)
  unfold Card.seen
  rw [rising_length nd, List.length_map]
theorem seen_zero {c : Card} (f : Fits c) : c.seen 0 = c.holes := by
  unfold Card.seen
  rw [show c.holes.map (turns c.n 0) = c.holes from (List.map_congr_left fun x _ => rfl).trans (List.map_id _)]
  exact rising_self f.up
theorem order_get {c : Card} (f : Fits c) {q j : Nat} (hq : q < 4) (hj : j < c.holes.length) : c.order[c.holes.length * q + j]? = (c.seen q)[j]? := by
  have l0 := seen_length f (t := 0)
  have l1 := seen_length f (t := 1)
  have l2 := seen_length f (t := 2)
  have l3 := seen_length f (t := 3)
  rw [order_eq]
  have h : q = 0 ∨ q = 1 ∨ q = 2 ∨ q = 3 := by omega
  rcases h with rfl | rfl | rfl | rfl
  · rw [List.getElem?_append_left (by omega)]
    congr 1
    omega
  · rw [List.getElem?_append_right (by omega), List.getElem?_append_left (by omega)]
    congr 1
    omega
  · rw [List.getElem?_append_right (by omega), List.getElem?_append_right (by omega), List.getElem?_append_left (by omega)]
    congr 1
    omega
  · rw [List.getElem?_append_right (by omega), List.getElem?_append_right (by omega), List.getElem?_append_right (by omega), List.getElem?_append_left (by omega)]
    congr 1
    omega
theorem next_seen {c : Card} (f : Fits c) {q j x : Nat} (hq : q < 4) (hj : j < c.holes.length) (hx : (c.seen q)[j]? = some x) : c.next (c.holes.length * q + j) = x := by
  unfold Card.next
  rw [List.getD_eq_getElem?_getD, order_get f hq hj, hx]
  rfl
theorem next_mid {c : Card} (f : Fits c) {k : Nat} (hk : k ∈ middle c.n) : c.next (c.n * c.n - 1) = k := by
  have hm : ∀ n ∈ [2, 3, 4, 5, 6], ∀ k ∈ middle n, middle n = [k] := by decide +kernel
  have e := hm c.n f.sz.mem k hk
  have l0 := seen_length f (t := 0)
  have l1 := seen_length f (t := 1)
  have l2 := seen_length f (t := 2)
  have l3 := seen_length f (t := 3)
  have ol := f.olen
  rw [order_eq] at ol
  simp only [List.length_append, e, List.length_singleton] at ol
  unfold Card.next
  rw [order_eq, e, List.getD_eq_getElem?_getD, List.getElem?_append_right (by omega), List.getElem?_append_right (by omega), List.getElem?_append_right (by omega), List.getElem?_append_right (by omega)]
  rw [show c.n * c.n - 1 - (c.seen 0).length - (c.seen 1).length - (c.seen 2).length - (c.seen 3).length = 0 by omega]
  rfl
/-- from one place to another one the letters come where they are -/
def goodTo (c : Card) (a b : List Nat) (lo hi : Nat) : Prop := ∀ p, lo ≤ p → p < hi → b.getD (c.next p) 0 = a.getD p 0
theorem goodTo_snoc {c : Card} {lo hi : Nat} (h : goodTo c a b lo hi) (e : b.getD (c.next hi) 0 = a.getD hi 0) : goodTo c a b lo (hi + 1) := fun p h1 h2 => by
  by_cases z : p = hi
  · rw [z]; exact e
  · exact h p h1 (by omega)
instance {c : Card} {lo hi : Nat} : Decidable (goodTo c a b lo hi) := decidable_of_iff ((List.range hi).all fun p => decide (lo ≤ p → b.getD (c.next p) 0 = a.getD p 0) = true) (by
  rw [List.all_eq_true]
  constructor
  · intro h p h1 h2
    have := h p (List.mem_range.mpr h2)
    simp only [decide_eq_true_eq] at this
    exact this h1
  · intro h p hp
    have := h p
    have h2 := List.mem_range.mp hp
    simp only [decide_eq_true_eq]
    exact fun h1 => this h1 h2)
def lookOk (n : Nat) (a b e : List Nat) : Bool := decide (goodTo ⟨n, e⟩ a b e.length (4 * e.length))
def midOk (n : Nat) (a b : List Nat) : Bool := (middle n).all fun k => b.getD k 0 == a.getD (n * n - 1) 0
/-- what is counted, the first of these -/
def look (n : Nat) (a b : List Nat) (s : Nat × List Nat) (e : List Nat) : Nat × List Nat := if lookOk n a b e = true then (s.1 + 1, if s.1 = 0 then e else s.2) else s
theorem look_all : ∀ (l : List (List Nat)) (s : Nat × List Nat), l.foldl (look n a b) s = (s.1 + (l.filter (lookOk n a b)).length, if s.1 = 0 then (l.filter (lookOk n a b)).headD s.2 else s.2)
  | [], s => by
    obtain ⟨x, y⟩ := s
    simp
  | e :: l, s => by
    rw [List.foldl_cons, look_all l]
    by_cases h : lookOk n a b e = true
    · unfold look
      rw [if_pos h]
      simp only [List.filter_cons, if_pos h, List.length_cons]
      refine Prod.ext ?_ ?_
      · show s.1 + 1 + (l.filter (lookOk n a b)).length = s.1 + ((l.filter (lookOk n a b)).length + 1)
        omega
      · simp
    · unfold look
      rw [if_neg h]
      simp only [List.filter_cons, if_neg h]
/-- all cards that the program counts, in order -/
def hits (n : Nat) (a b : List Nat) : List (List Nat) := if midOk n a b = true then (leaves n a b (orbits n).length []).filter (lookOk n a b) else []
theorem makes_hit (h : Sz n) {e : List Nat} (p : Pick (orbits n) e) (le : e.length = (orbits n).length) (ha : a.length = n * n) (hb : b.length = n * n) :
    (Card.mk n e).makes a b = true ↔ (∀ (i x : Nat), e[i]? = some x → b.getD x 0 = a.getD i 0) ∧ lookOk n a b e = true ∧ midOk n a b = true := by
  have f := pick_fits h p
  have oc := orbits_cells h
  rw [makes_iff f ha hb]
  constructor
  · intro g
    refine ⟨fun i x hx => ?_, decide_eq_true fun q h1 h2 => g q ?_, List.all_eq_true.mpr fun k hk => ?_⟩
    · have hi := (List.getElem?_eq_some_iff.mp hx).1
      have e1 : (Card.mk n e).next i = x := by
        have := next_seen f (q := 0) (j := i) (by omega) hi (by rw [seen_zero f]; exact hx)
        rw [Nat.mul_zero, Nat.zero_add] at this
        exact this
      rw [← e1]
      refine g i ?_
      show i < n * n
      omega
    · show q < n * n
      omega
    · rw [beq_iff_eq, ← next_mid f hk]
      have := h.pos
      exact g (n * n - 1) (show n * n - 1 < n * n by omega)
  · rintro ⟨g1, g2, g3⟩ i hi
    have hi' : i < n * n := hi
    by_cases c1 : i < e.length
    · have hx : e[i]? = some e[i] := by simp [c1]
      have e1 : (Card.mk n e).next i = e[i] := by
        have := next_seen f (q := 0) (j := i) (by omega) c1 (by rw [seen_zero f]; exact hx)
        rw [Nat.mul_zero, Nat.zero_add] at this
        exact this
      rw [e1]
      exact g1 i _ hx
    · by_cases c2 : i < 4 * e.length
      · exact of_decide_eq_true g2 i (by omega) c2
      · have hm : ∀ n ∈ [2, 3, 4, 5, 6], (middle n).length ≤ 1 := by decide +kernel
        have hm1 := hm n h.mem
        have lm : (middle n).length = 1 := by omega
        obtain ⟨k, hk⟩ := List.length_eq_one_iff.mp lm
        have hkm : k ∈ middle n := by rw [hk]; simp
        have e1 : i = n * n - 1 := by omega
        have g := List.all_eq_true.mp g3 k hkm
        rw [beq_iff_eq] at g
        rw [e1, ← g]
        exact congrArg (fun z => b.getD z 0) (next_mid f hkm)
theorem mem_hits (h : Sz n) (ha : a.length = n * n) (hb : b.length = n * n) {e : List Nat} : e ∈ hits n a b ↔ e ∈ choices (orbits n) ∧ (Card.mk n e).makes a b = true := by
  unfold hits
  constructor
  · intro m
    split at m
    · rename_i hm
      obtain ⟨m1, m2⟩ := List.mem_filter.mp m
      obtain ⟨p, l⟩ := (mem_leaves h).mp m1
      have mc := pick_choices (orbits_apart h) p
      have le := (choices_pick (orbits_apart h) mc).2
      exact ⟨mc, (makes_hit h p le ha hb).mpr ⟨l, m2, hm⟩⟩
    · cases m
  · rintro ⟨mc, mk⟩
    obtain ⟨p, le⟩ := choices_pick (orbits_apart h) mc
    obtain ⟨g1, g2, g3⟩ := (makes_hit h p le ha hb).mp mk
    rw [if_pos g3]
    exact List.mem_filter.mpr ⟨(mem_leaves h).mpr ⟨p, g1⟩, g2⟩
theorem hits_less : (hits n a b).Pairwise fun x y => less x y = true := by
  unfold hits
  split
  · exact (leaves_less put_nil).filter _
  · exact .nil
theorem hits_nodup : (hits n a b).Nodup := hits_less.imp fun {x y} h e => by
  rw [e, less_irrefl] at h
  cases h
theorem guesses_eq : guesses n a b = ((choices (orbits n)).filter fun e => (Card.mk n e).makes a b).map fun e => ⟨n, e⟩ := by
  unfold guesses cards
  rw [List.filter_map]
  rfl
theorem guess_count (h : Sz n) (ha : a.length = n * n) (hb : b.length = n * n) : (guesses n a b).length = (hits n a b).length := by
  rw [guesses_eq, List.length_map]
  have nd : (choices (orbits n)).Nodup := choices_nodup (orbits_apart h) fun o ho => up_nodup (orbit_up h ho)
  have p : ((choices (orbits n)).filter fun e => (Card.mk n e).makes a b).Perm (hits n a b) :=
    (List.perm_ext_iff_of_nodup (nd.sublist (List.filter_sublist ..)) hits_nodup).mpr fun e => by rw [mem_hits h ha hb, List.mem_filter]
  exact p.length_eq
theorem guess_first (h : Sz n) (ha : a.length = n * n) (hb : b.length = n * n) : (match firstOf (guesses n a b) with
    | none => []
    | some x => x.holes) = (hits n a b).headD [] := by
  have mem : ∀ c : Card, c ∈ guesses n a b ↔ ∃ e ∈ hits n a b, c = ⟨n, e⟩ := fun c => by
    rw [guesses_eq, List.mem_map]
    constructor
    · rintro ⟨e, he, rfl⟩
      exact ⟨e, (mem_hits h ha hb).mpr (List.mem_filter.mp he), rfl⟩
    · rintro ⟨e, he, rfl⟩
      exact ⟨e, List.mem_filter.mpr ((mem_hits h ha hb).mp he), rfl⟩
  have ls := hits_less (n := n) (a := a) (b := b)
  cases q : hits n a b with
  | nil =>
    have : guesses n a b = [] := by
      apply List.eq_nil_of_length_eq_zero
      rw [guess_count h ha hb, q]
      rfl
    rw [this]
    rfl
  | cons x r =>
    rw [q] at ls
    have e : firstOf (guesses n a b) = some ⟨n, x⟩ := firstOf_is ((mem _).mpr ⟨x, by rw [q]; simp, rfl⟩) fun y hy ne => by
      obtain ⟨z, hz, rfl⟩ := (mem y).mp hy
      rw [q] at hz
      rcases List.mem_cons.mp hz with rfl | hz
      · exact absurd rfl ne
      · exact (List.pairwise_cons.mp ls).1 z hz
    rw [e]
    rfl
/-! ### the stack -/
def rem (n : Nat) (a b : List Nat) (S : List (List Nat)) : List (List Nat) := S.reverse.flatMap fun h => leaves n a b ((orbits n).length - h.length) h
def cost (n : Nat) (a b : List Nat) (S : List (List Nat)) : Nat := (S.map fun h => nodes n a b ((orbits n).length - h.length) h).sum
theorem rem_leaf {S : List (List Nat)} {h : List Nat} (l : h.length = (orbits n).length) : rem n a b (S ++ [h]) = h :: rem n a b S := by
  unfold rem
  rw [List.reverse_append, List.reverse_singleton, List.singleton_append, List.flatMap_cons, l, Nat.sub_self]
  rfl
theorem rem_node {S : List (List Nat)} {h : List Nat} (l : h.length < (orbits n).length) : rem n a b (S ++ [h]) = rem n a b (S ++ (nexts n a b h).reverse.map fun c => h ++ [c]) := by
  unfold rem
  rw [List.reverse_append, List.reverse_singleton, List.singleton_append, List.flatMap_cons, List.reverse_append, List.flatMap_append]
  congr 1
  rw [← List.map_reverse, List.reverse_reverse, List.flatMap_map]
  have e : (orbits n).length - h.length = ((orbits n).length - (h.length + 1)) + 1 := by omega
  rw [e]
  show (nexts n a b h).flatMap _ = _
  congr 1
  funext c
  rw [List.length_append, List.length_singleton]
theorem cost_leaf {S : List (List Nat)} {h : List Nat} (l : h.length = (orbits n).length) : cost n a b S < cost n a b (S ++ [h]) := by
  unfold cost
  rw [List.map_append, List.sum_append, List.map_singleton, l, Nat.sub_self]
  show _ < _ + [1].sum
  simp
theorem cost_node {S : List (List Nat)} {h : List Nat} (l : h.length < (orbits n).length) : cost n a b (S ++ (nexts n a b h).reverse.map fun c => h ++ [c]) < cost n a b (S ++ [h]) := by
  unfold cost
  rw [List.map_append, List.sum_append, List.map_append, List.sum_append, List.map_singleton]
  have e : (orbits n).length - h.length = ((orbits n).length - (h.length + 1)) + 1 := by omega
  have e2 : ((List.map (fun c => h ++ [c]) (nexts n a b h).reverse).map fun h => nodes n a b ((orbits n).length - h.length) h).sum = ((nexts n a b h).map fun c => nodes n a b ((orbits n).length - (h.length + 1)) (h ++ [c])).sum := by
    rw [List.map_map, List.map_reverse, List.sum_reverse]
    congr 1
    refine List.map_congr_left fun c _ => ?_
    show nodes n a b ((orbits n).length - (h ++ [c]).length) (h ++ [c]) = _
    rw [List.length_append, List.length_singleton]
  rw [e2, e]
  show _ < _ + [1 + ((nexts n a b h).map fun c => nodes n a b ((orbits n).length - (h.length + 1)) (h ++ [c])).sum].sum
  simp
/-- what stands in the stack -/
structure Stk (n : Nat) (a b : List Nat) (S : List (List Nat)) : Prop where
  put : ∀ h ∈ S, Put n a b h
  le : ∀ h ∈ S, h.length ≤ (orbits n).length
  at_ : ∀ (i : Nat) (h : List Nat), S[i]? = some h → i ≤ 36 * h.length
theorem stk_one : Stk n a b [[]] := by
  refine ⟨fun h hh => ?_, fun h hh => ?_, fun i h e => ?_⟩
  · rw [List.mem_singleton.mp hh]; exact put_nil
  · rw [List.mem_singleton.mp hh]; exact Nat.zero_le _
  · have := (List.getElem?_eq_some_iff.mp e).1
    simp at this
    omega
theorem Stk.pop {S : List (List Nat)} {h : List Nat} (s : Stk n a b (S ++ [h])) : Stk n a b S :=
  ⟨fun k hk => s.put k (by simp [hk]), fun k hk => s.le k (by simp [hk]), fun i k e => s.at_ i k (by rw [List.getElem?_append_left (List.getElem?_eq_some_iff.mp e).1]; exact e)⟩
theorem nexts_len (h : Sz n) {k : List Nat} : (nexts n a b k).length ≤ 36 := by
  have nd : (nexts n a b k).Nodup := up_nodup (nx_up (List.pairwise_lt_range' ..))
  have := nd.length_le_of_subset (l₂ := List.range (n * n)) fun x hx => List.mem_range.mpr (mem_nexts hx).2.1
  rw [List.length_range] at this
  exact Nat.le_trans this h.le
theorem Stk.push (hn : Sz n) {S : List (List Nat)} {h : List Nat} (s : Stk n a b (S ++ [h])) (l : h.length < (orbits n).length) : Stk n a b (S ++ (nexts n a b h).reverse.map fun c => h ++ [c]) := by
  have ph := s.put h (by simp)
  have top := s.at_ S.length h (by simp)
  refine ⟨fun k hk => ?_, fun k hk => ?_, fun i k e => ?_⟩
  · rcases List.mem_append.mp hk with hk | hk
    · exact s.put k (by simp [hk])
    · obtain ⟨c, hc, rfl⟩ := List.mem_map.mp hk
      exact ph.next (List.mem_reverse.mp hc)
  · rcases List.mem_append.mp hk with hk | hk
    · exact s.le k (by simp [hk])
    · obtain ⟨c, hc, rfl⟩ := List.mem_map.mp hk
      rw [List.length_append, List.length_singleton]
      exact l
  · by_cases z : i < S.length
    · rw [List.getElem?_append_left z] at e
      exact s.pop.at_ i k e
    · have hi := (List.getElem?_eq_some_iff.mp e).1
      rw [List.getElem?_append_right (by omega)] at e
      have hk := List.mem_of_getElem? e
      obtain ⟨c, hc, rfl⟩ := List.mem_map.mp hk
      have h36 := nexts_len hn (a := a) (b := b) (k := h)
      rw [List.length_append, List.length_map, List.length_reverse] at hi
      rw [List.length_append, List.length_singleton]
      omega
theorem Stk.len (hn : Sz n) {S : List (List Nat)} (s : Stk n a b S) : S.length ≤ 325 := by
  cases q : S.getLast? with
  | none =>
    rw [List.getLast?_eq_none_iff] at q
    rw [q]
    simp
  | some h =>
    obtain ⟨R, rfl⟩ := List.getLast?_eq_some_iff.mp q
    have h1 := s.at_ R.length h (by simp)
    have h2 := s.le h (by simp)
    have h3 := orbits_le hn
    rw [List.length_append, List.length_singleton]
    omega
end
end Hc
namespace Hc
open PySem PySem.Spec PyProof.Rows L2
open Uw56 (Card turn turns rising orbit orbits firstCard cells due)
/-! ### the text, by places -/
abbrev topS (i : Nat) : Stmt := PySem.Challenge.pw_holecard_s01_answers.main.body.getD i (.Pass ⟨0, 0, 0, 0⟩)
/-- numbers as values -/
abbrev vi (n : Nat) : V := .int (n : Int)
def ni (l : List Nat) : List V := l.map vi
theorem ni_len {l : List Nat} : (ni l).length = l.length := by simp [ni]
theorem ni_ints (l : List Nat) : ni l = (zs l).map V.int := by
  unfold ni zs
  rw [List.map_map]
  rfl
theorem ni_get {l : List Nat} {i x : Nat} (h : l[i]? = some x) : (ni l)[i]? = some (vi x) := by simp [ni, h]
theorem ni_get_inv {l : List Nat} {i : Nat} {v : V} (h : (ni l)[i]? = some v) : ∃ x, l[i]? = some x ∧ v = vi x := by
  unfold ni at h
  rw [List.getElem?_map] at h
  cases e : l[i]? with
  | none => rw [e] at h; cases h
  | some x => rw [e] at h; exact ⟨x, rfl, (Option.some.inj h).symm⟩
theorem ni_app {l m : List Nat} : ni (l ++ m) = ni l ++ ni m := by simp [ni]
theorem ni_snoc {l : List Nat} {x : Nat} : ni l ++ [vi x] = ni (l ++ [x]) := by simp [ni]
theorem small {n : Nat} (h : n ≤ 16000000) : n ≤ sizeLine := Nat.le_trans h (by decide)
theorem smallL {n : Nat} (h : n ≤ 16000000) : n < sizeLine := Nat.lt_of_le_of_lt h (by decide)
/-! ### heaps -/
theorem _root_.L2.Same.new {H H1 : Hp} {p : Addr} {o : HO} (s : Same H H1) (hp : H1 p = none) : Same H (upd H1 p o) := fun b u e => by
  have e1 := s b u e
  rw [upd_ne (ne_of_none e1 hp)]
  exact e1
/-- an object that the caller does not know is changed -/
theorem _root_.L2.Same.own {H H1 : Hp} {p : Addr} {o : HO} (s : Same H H1) (hp : H p = none) : Same H (upd H1 p o) := fun b u e => by
  rw [upd_ne (ne_of_none e hp)]
  exact s b u e
theorem _root_.L2.Same.tup {K : PySem.W.Frag} {H H' : Hp} {a : Addr} {xs : List V} (e : Same H H') (h : SqT K H a xs) : SqT K H' a xs := by
  rcases h with (h | ⟨o, h⟩) | h
  · exact .inl (.inl (e _ _ h))
  · exact .inl (.inr ⟨o, e _ _ h⟩)
  · exact .inr h
/-! ### what stands behind a def's name -/
/-- a def that is called by its name: its promise, at a level -/
def Def (P : Program) (w : World) (K : PySem.W.Frag) (mg : Str → Option Value) (base : Heap) (k : Nat) (x : Str) (ps : List Str) (sp : Sp) : Prop :=
  ∃ (f : Addr) (fd : FuncData), FnOk P w K mg base CX0 k f fd ps sp ∧ mg x = some (.ref f) ∧ PySem.W.keepIn K (.ref f) = true ∧ Binds K fd ps []
/-- the built-ins that the program calls are the built-ins -/
structure Blt (mg : Str → Option Value) : Prop where
  list : mg "list" = none
  range : mg "range" = none
  sorted : mg "sorted" = none
  min : mg "min" = none
  len : mg "len" = none
  int : mg "int" = none
  enumerate : mg "enumerate" = none
  reversed : mg "reversed" = none
  zip : mg "zip" = none
  set : mg "set" = none
/-- a number of the module -/
def Num (mg : Str → Option Value) (x : Str) (z : Int) : Prop := ∃ t, mg x = some (.int z t)
section
variable {P : Program} {w : World} {K : PySem.W.Frag} {mg : Str → Option Value} {base : Heap}
/-! ### turned_cell -/
def spTc : Sp := fun vs H Q _ => ∃ n k : Nat, vs = [vi n, vi k] ∧ Sz n ∧ k < n * n ∧ Q (vi (turn n k)) H
abbrev nTc : List Str := ["size", "cell", "row", "column"]
theorem scTc : FnScope nTc ["size", "cell"] (defScope (topS 2)) := ⟨rfl, rfl, rfl, by decide +kernel, rfl, by decide +kernel, by decide +kernel⟩
theorem ok_tc {f : Addr} {fd : FuncData} (F : Fun K "turned_cell" "turned_cell" (topS 2) f fd) : FnOk P w K mg base CX0 1 f fd ["size", "cell"] spTc := by
  refine F.ok scTc (fun vs H Q E h => ?_) (fun cdv A outer s H vs Q E hr h => ?_)
  · obtain ⟨n, k, rfl, _⟩ := h
    rfl
  · refine ⟨_, pss_cons (ps_set (i := 2) scTc.nd rfl (.inl rfl) (pe_op op_fdiv (pv 1) (pv 0)))
      (pss_cons (ps_set (i := 3) scTc.nd rfl (.inl rfl) (pe_op op_mod (pv 1) (pv 0)))
      (pss_one (ps_ret (pe_op op_sub (pe_op op_sub (pe_op op_add (pe_op op_mul (pv 3) (pv 0)) (pv 0)) pe_int) (pv 2))))), ?_⟩
    obtain ⟨n, k, rfl, hn, hk, q⟩ := h
    have h1 : (0 : Int) < (n : Int) := by have := hn.1; omega
    have h2 : (n : Int) < 1073741824 := by have := hn.2; omega
    have h3 : ((k : Int) % n) < n := Int.emod_lt_of_pos _ h1
    have h4 : 0 ≤ ((k : Int) % n) := Int.emod_nonneg _ (by omega)
    refine ⟨_, rfl, _, rfl, _, _, rfl, rfl, ⟨h1, h2⟩, _, rfl, _, rfl, _, _, rfl, rfl, h1, ?_⟩
    refine ⟨_, rfl, _, rfl, _, _, rfl, rfl, .inl ⟨by omega, by omega⟩, _, rfl, _, _, rfl, rfl, _, _, rfl, rfl, _, rfl, _, _, rfl, rfl, ?_⟩
    exact (congrArg (fun z => Q (V.int z) H) (turn_py hk)).mpr q
end
end Hc
namespace Hc
open PySem PySem.Spec PyProof.Rows L2
open Uw56 (Card turn turns rising orbit orbits firstCard cells due)
/-- [f(x) for x in numbers if p(x)], where nothing that stood is changed -/
theorem lc_fm {K : PySem.W.Frag} {a : Addr} {L : List Nat} {g : TG} {tt : TT} {te : TE} {vs : List Nat} {σ : L2.St} {H1 : Hp} {D : Addr} {Qd : Hp → Prop} (p : Nat → Bool) (f : Nat → V)
    (hL : SqL K H1 a (ni L)) (hD : H1 D = none) (hl : L.length ≤ 16000000)
    (hs : ∀ (i x : Nat) (H : Hp), L[i]? = some x → Same H1 H → g (vi x) (wipe σ vs) H fun σ2 H2 => wipe σ2 vs = wipe σ vs ∧ (∀ R : Bool → Hp → Prop, R (p x) H → tt σ2 H2 R) ∧ (p x = true → ∀ R : VK, R (f x) H → te σ2 H R))
    (mono : ∀ v σ H (Q Q' : L2.St → Hp → Prop), (∀ σ' H', Q σ' H' → Q' σ' H') → g v σ H Q → g v σ H Q')
    (hd : ∀ H, Same H1 H → H D = some (.lst ((L.filter p).map f)) → Qd H) :
    ∃ W : Nat → Nat → Hp → Prop, (∃ m, W 0 m (upd H1 D (.lst []))) ∧ ∀ i m H, W i m H →
      ((Itl K a).stop i H ∧ Qd H) ∨ ((Itl K a).go i H ∧ ∃ Nx : Hp → Prop, (∀ H', Nx H' → ∃ m', m' < m ∧ W (i + 1) m' H') ∧ ∀ x H', (Itl K a).yld i H x H' → g x (wipe σ vs) H' fun σ2 H2 => wipe σ2 vs = wipe σ vs ∧ tt σ2 H2 fun b H3 =>
        if b = true then te σ2 H3 fun y H4 => ∃ acc, H4 D = some (.lst acc) ∧ acc.length < sizeLine ∧ Nx (upd H4 D (.lst (acc ++ [y]))) else Nx H3) := by
  refine lc_list (K := K) (a := a) (xs := ni L) (fun i H => Same H1 H ∧ H D = some (.lst (((L.take i).filter p).map f))) ⟨(Same.refl H1).own hD, upd_same⟩ (fun i H _ h => h.1.seq hL) ?_ ?_
  · rintro i v H hv ⟨s, e⟩
    obtain ⟨x, hx, rfl⟩ := ni_get_inv hv
    refine mono _ _ _ _ _ (fun σ2 H2 ⟨q1, q2, q3⟩ => ⟨q1, q2 _ ?_⟩) (hs i x H hx s)
    have et : L.take (i + 1) = L.take i ++ [x] := by rw [List.take_add_one, hx]; rfl
    have hle : (((L.take i).filter p).map f).length ≤ 16000000 := by
      rw [List.length_map]
      refine Nat.le_trans (List.length_filter_le ..) (Nat.le_trans ?_ hl)
      rw [List.length_take]
      omega
    cases hp : p x with
    | true =>
      refine iteT (q3 hp _ ⟨_, e, smallL hle, s.own hD, ?_⟩)
      rw [upd_same, et, List.filter_append, List.map_append]
      simp [hp]
    | false =>
      refine iteF ⟨s, ?_⟩
      rw [e, et, List.filter_append]
      simp [hp]
  · rintro H ⟨s, e⟩
    rw [ni_len, List.take_length] at e
    exact hd H s e
theorem mono_name {i : Nat} : ∀ v σ H (Q Q' : L2.St → Hp → Prop), (∀ σ' H', Q σ' H' → Q' σ' H') → gName i v σ H Q → gName i v σ H Q' := fun v σ H Q Q' h q => h _ _ q
/-- numbers sorted, each of which stands once -/
theorem sorted_ni {K : PySem.W.Frag} {H : Hp} {a : Addr} {l : List Nat} {Q : VK} (hl : SqL K H a (ni l)) (hn : l.Nodup) (h64 : l.length < 64) (q : ∀ p, H p = none → Q (.ref p) (upd H p (.lst (ni (rising l))))) : rSorted K [V.ref a] H Q := by
  refine ⟨a, zs l, rfl, by rw [← ni_ints]; exact hl, by simpa [zs] using h64, fun ns' p hp hs hf => ?_⟩
  rw [sorted_is hn hp hs, ← ni_ints]
  exact q p hf
theorem nodup_len {n : Nat} (hn : Sz n) {l : List Nat} (nd : l.Nodup) (lt : ∀ x ∈ l, x < n * n) : l.length ≤ 36 := by
  have := nd.length_le_of_subset (l₂ := List.range (n * n)) fun x hx => List.mem_range.mpr (lt x hx)
  rw [List.length_range] at this
  exact Nat.le_trans this hn.le
theorem map_turns_nodup {n t : Nat} (hn : Sz n) {l : List Nat} (nd : l.Nodup) (lt : ∀ x ∈ l, x < n * n) : (l.map (turns n t)).Nodup := by
  unfold List.Nodup
  rw [List.pairwise_map]
  exact (List.Pairwise.and_mem.mp nd).imp fun h e => h.2.2 (turns_inj hn (lt _ h.1) (lt _ h.2.1) e)
theorem map_flip_nodup {n : Nat} (hn : Sz n) {l : List Nat} (nd : l.Nodup) (lt : ∀ x ∈ l, x < n * n) : (l.map (flip n)).Nodup := by
  unfold List.Nodup
  rw [List.pairwise_map]
  exact (List.Pairwise.and_mem.mp nd).imp fun h e => h.2.2 (flip_inj hn (lt _ h.1) (lt _ h.2.1) e)
theorem filter_true {l : List Nat} : l.filter (fun _ => true) = l := by simp
section
variable {P : Program} {w : World} {K : PySem.W.Frag} {mg : Str → Option Value} {base : Heap}
/-! ### turned_over_cell -/
def spTo : Sp := fun vs H Q _ => ∃ n k : Nat, vs = [vi n, vi k] ∧ Sz n ∧ k < n * n ∧ Q (vi (flip n k)) H
theorem scTo : FnScope ["size", "cell"] ["size", "cell"] (defScope (topS 3)) := ⟨rfl, rfl, rfl, by decide +kernel, rfl, by decide +kernel, by decide +kernel⟩
theorem ok_to {f : Addr} {fd : FuncData} (F : Fun K "turned_over_cell" "turned_over_cell" (topS 3) f fd) : FnOk P w K mg base CX0 1 f fd ["size", "cell"] spTo := by
  refine F.ok scTo (fun vs H Q E h => ?_) (fun cdv A outer s H vs Q E hr h => ?_)
  · obtain ⟨n, k, rfl, _⟩ := h
    rfl
  · refine ⟨_, pss_one (ps_ret (pe_op op_sub (pe_op op_sub (pe_op op_add (pe_op op_mul (pe_op op_fdiv (pv 1) (pv 0)) (pv 0)) (pv 0)) pe_int) (pe_op op_mod (pv 1) (pv 0)))), ?_⟩
    obtain ⟨n, k, rfl, hn, hk, q⟩ := h
    have h1 : (0 : Int) < (n : Int) := by have := hn.1; omega
    have h2 : (n : Int) < 1073741824 := by have := hn.2; omega
    have h3 : k < 36 := Nat.lt_of_lt_of_le hk hn.le
    have h4 : (k : Int) / n ≤ k := Int.ediv_le_self _ (by omega)
    have h5 : 0 ≤ (k : Int) / n := Int.ediv_nonneg (by omega) (by omega)
    refine ⟨_, rfl, _, rfl, _, _, rfl, rfl, ⟨h1, h2⟩, _, rfl, _, _, rfl, rfl, .inl ⟨by omega, by omega⟩, _, rfl, _, _, rfl, rfl, _, _, rfl, rfl, _, rfl, _, rfl, _, _, rfl, rfl, h1, _, _, rfl, rfl, ?_⟩
    exact (congrArg (fun z => Q (V.int z) H) (flip_py hk)).mpr q
/-! ### turned_by -/
def spTb (K : PySem.W.Frag) : Sp := fun vs H Q _ => ∃ (n q : Nat) (a : Addr) (l : List Nat), vs = [vi n, .ref a, vi q] ∧ Sz n ∧ (SqL K H a (ni l) ∨ SqT K H a (ni l)) ∧ l.Nodup ∧ (∀ x ∈ l, x < n * n) ∧ q ≤ 3 ∧
  ∀ (H' : Hp) (p : Addr), Same H H' → H p = none → H' p = some (.lst (ni (rising (l.map (turns n q))))) → Q (.ref p) H'
abbrev nTb : List Str := ["size", "holes", "quarters", "found", "turn", "cell"]
theorem scTb : FnScope nTb ["size", "holes", "quarters"] (defScope (topS 4)) := ⟨rfl, rfl, rfl, by decide +kernel, rfl, by decide +kernel, by decide +kernel⟩
theorem ok_tb {f : Addr} {fd : FuncData} (F : Fun K "turned_by" "turned_by" (topS 4) f fd) (T : Blt mg) (D1 : Def P w K mg base 1 "turned_cell" ["size", "cell"] spTc) : FnOk P w K mg base CX0 2 f fd ["size", "holes", "quarters"] (spTb K) := by
  obtain ⟨f1, fd1, G1, m1, k1, b1⟩ := D1
  refine F.ok scTb (fun vs H Q E h => ?_) (fun cdv A outer s H vs Q E hr h => ?_)
  · obtain ⟨n, q, a, l, rfl, _⟩ := h
    rfl
  · refine ⟨_, pss_cons (ps_set (i := 3) scTb.nd rfl (.inl rfl) (pe_callTy call_list_of (by rfl) T.list (by decide +kernel) (pa_cons (pv 1) pa_nil)))
      (pss_cons (ps_for PassesOwn.never rfl (pi_range1 (by rfl) T.range (pa_cons (pv 2) pa_nil)) (pg_name (i := 4) scTb.nd rfl (.inl rfl))
        (pss_one (ps_setLc (i := 3) (own := [("cell", 5)]) (g := gName 5) (tt := tYes) rfl scTb.nd rfl rfl (sw_true rfl rfl rfl (by decide +kernel)) (pi_list (pv 3)) (blkOk_by (N := nTb) (sc := defScope (topS 4)) (by decide +kernel))
          (fun _ _ _ _ _ => pg_name (i := 5) scTb.nd rfl (Or.inl rfl)) (fun _ _ _ _ _ => pts_nil) (fun _ _ _ _ _ => pe_call G1 hr (by rfl) m1 k1 b1 .nil pass0 (pa_cons (pv 0) (pa_cons (pv 5) pa_nil))))))
      (pss_one (ps_ret (pe_callB cr_sorted (by rfl) T.sorted (by decide +kernel) (pa_cons (pv 3) pa_nil))))), ?_⟩
    obtain ⟨n, q, a, l, rfl, hn, hA, nd, lt, hq, k⟩ := h
    have hlen := nodup_len hn nd lt
    refine ⟨_, rfl, a, _, rfl, hA, fun p hp => ?_⟩
    refine ⟨_, rfl, (q : Int), rfl, by omega, by omega, for_range (lo := 0) (n := q) (fun i σ H' => ∃ p v c, σ = [some (vi n), some (.ref a), some (vi q), some (.ref p), v, c] ∧ Same H H' ∧ H p = none ∧ H' p = some (.lst (ni (l.map (turns n i))))) ?_ ?_ ?_⟩
    · refine ⟨p, none, none, rfl, (Same.refl H).new hp, hp, ?_⟩
      rw [upd_same]
      refine congrArg (fun z => some (HO.lst (ni z))) ?_
      exact (List.map_id l).symm
    · rintro i σ H1 hi ⟨p1, v, c, rfl, s1, n1, e1⟩
      refine ⟨_, rfl, p1, rfl, ⟨_, SqL.of e1⟩, fun D hD => ?_⟩
      refine lc_fm (L := l.map (turns n i)) (fun _ => true) (fun x => vi (turn n x)) (SqL.of e1) hD (by rw [List.length_map]; omega) (fun j x H2 hx s2 => ?_) mono_name (fun H2 s2 e2 => ?_)
      · refine ⟨rfl, fun R h => h, fun _ R h => ?_⟩
        refine ⟨_, rfl, _, rfl, n, x, rfl, hn, ?_, h⟩
        obtain ⟨y, hy, rfl⟩ := List.mem_map.mp (List.mem_of_getElem? hx)
        exact turns_lt hn (lt y hy)
      · refine ⟨D, _, c, rfl, s1.trans s2, s1.free hD, ?_⟩
        rw [e2, filter_true]
        refine congrArg (fun z => some (HO.lst z)) ?_
        unfold ni
        rw [List.map_map, List.map_map]
        exact List.map_congr_left fun x _ => congrArg (fun z : Nat => V.int (z : Int)) turns_succ.symm
    · rintro σ H1 ⟨p1, v, c, rfl, s1, n1, e1⟩
      refine ⟨_, rfl, sorted_ni (SqL.of e1) (map_turns_nodup hn nd lt) (by rw [List.length_map]; omega) fun p2 hp2 => ?_⟩
      exact k _ p2 (s1.new hp2) (s1.free hp2) upd_same
end
end Hc
namespace Hc
open PySem PySem.Spec PyProof.Rows L2
open Uw56 (Card turn turns rising orbit orbits firstCard cells due)
/-! ### plain facts -/
def midI (n : Nat) : Int := if n % 2 = 0 then -1 else ((n * n / 2 : Nat) : Int)
theorem mid_facts : ∀ n ∈ [2, 3, 4, 5, 6], ∀ k ∈ cells n, (k ∈ Uw56.middle n ↔ midI n = (k : Int)) := by decide +kernel
theorem mid_iff {n k : Nat} (h : Sz n) (hk : k < n * n) : k ∈ Uw56.middle n ↔ midI n = (k : Int) := mid_facts n h.mem k (mem_cells.mpr hk)
theorem mid_range : ∀ n ∈ [2, 3, 4, 5, 6], -1 ≤ midI n ∧ midI n ≤ 18 ∧ midI n < (n * n : Nat) ∧ (midI n < 0 ↔ Uw56.middle n = []) ∧ (0 ≤ midI n → Uw56.middle n = [(midI n).toNat]) := by decide +kernel
/-- the fours by the least ones below i -/
def orbK (n i : Nat) : List (List Nat) := (List.range i).filterMap fun k => if (Uw56.middle n).contains k = false ∧ (orbit n k).all (fun j => decide (k ≤ j)) = true then some (rising (orbit n k)) else none
theorem orbK_all {n : Nat} : orbK n (n * n) = orbits n := rfl
theorem orbK_yes {n i : Nat} (h1 : i ∉ Uw56.middle n) (h2 : ∀ j ∈ orbit n i, i ≤ j) : orbK n (i + 1) = orbK n i ++ [rising (orbit n i)] := by
  unfold orbK
  rw [List.range_succ, List.filterMap_append]
  have c : ((Uw56.middle n).contains i = false ∧ (orbit n i).all (fun j => decide (i ≤ j)) = true) := by
    refine ⟨?_, ?_⟩
    · rw [Bool.eq_false_iff]
      exact fun z => h1 (List.contains_iff_mem.mp z)
    · rw [List.all_eq_true]
      exact fun j hj => decide_eq_true (h2 j hj)
  simp only [List.filterMap_cons, List.filterMap_nil, if_pos c]
theorem orbK_no {n i : Nat} (h : ¬ (i ∉ Uw56.middle n ∧ ∀ j ∈ orbit n i, i ≤ j)) : orbK n (i + 1) = orbK n i := by
  unfold orbK
  rw [List.range_succ, List.filterMap_append]
  have c : ¬ ((Uw56.middle n).contains i = false ∧ (orbit n i).all (fun j => decide (i ≤ j)) = true) := by
    rintro ⟨z1, z2⟩
    rw [List.all_eq_true] at z2
    refine h ⟨fun z => ?_, fun j hj => of_decide_eq_true (z2 j hj)⟩
    rw [List.contains_iff_mem.mpr z] at z1
    cases z1
  simp only [List.filterMap_cons, List.filterMap_nil, if_neg c, List.append_nil]
theorem orbK_len {n i : Nat} (h : Sz n) (hi : i ≤ n * n) : (orbK n i).length ≤ 36 := by
  unfold orbK
  refine Nat.le_trans (List.length_filterMap_le _ _) ?_
  rw [List.length_range]
  exact Nat.le_trans hi h.le
theorem orbit_facts : ∀ n ∈ [2, 3, 4, 5, 6], (∀ k ∈ cells n, (∀ j ∈ orbit n k, j < n * n) ∧ (k ∉ Uw56.middle n → (orbit n k).Nodup)) ∧ (firstCard n).holes = (orbits n).map fun o => o.getD 0 0 := by decide +kernel
theorem inV_ni {l : List Nat} {k : Nat} : inV (vi k) (ni l) = l.contains k := by
  unfold inV ni
  rw [List.any_map, Bool.eq_iff_iff, List.contains_iff_mem, List.any_eq_true]
  constructor
  · rintro ⟨x, hx, e⟩
    have e1 : ((x : Int) == (k : Int)) = true := e
    have : x = k := by
      have := eq_of_beq e1
      omega
    exact this ▸ hx
  · intro h
    exact ⟨k, h, (beq_self_eq_true (k : Int) : _)⟩
theorem flat_ni {l : List Nat} : (ni l).all flatV = true := by
  rw [List.all_eq_true]
  intro x hx
  obtain ⟨k, _, rfl⟩ := List.mem_map.mp hx
  rfl
theorem vi_eq {a b : Nat} : decide (vi a = vi b) = decide (a = b) := by
  by_cases h : a = b
  · rw [decide_eq_true h, decide_eq_true (congrArg vi h)]
  · rw [decide_eq_false h, decide_eq_false fun z => h (by injection z with z; omega)]
theorem vint_eq {a b : Int} : decide (V.int a = V.int b) = decide (a = b) := by
  by_cases h : a = b
  · rw [decide_eq_true h, decide_eq_true (congrArg V.int h)]
  · rw [decide_eq_false h, decide_eq_false fun z => h (by injection z with z)]
/-- rows of numbers, each at its place -/
def Rws (H : Hp) (ps : List Addr) (O : List (List Nat)) : Prop := ps.length = O.length ∧ ∀ (i : Nat) (a : Addr) (o : List Nat), ps[i]? = some a → O[i]? = some o → H a = some (.lst (ni o))
theorem Rws.nil {H : Hp} : Rws H [] [] := ⟨rfl, fun i a o h => by simp at h⟩
theorem Rws.mono {H H' : Hp} {ps : List Addr} {O : List (List Nat)} (r : Rws H ps O) (s : ∀ a ∈ ps, ∀ o, H a = some o → H' a = some o) : Rws H' ps O :=
  ⟨r.1, fun i a o h1 h2 => s a (List.mem_of_getElem? h1) _ (r.2 i a o h1 h2)⟩
theorem Rws.same {H H' : Hp} {ps : List Addr} {O : List (List Nat)} (r : Rws H ps O) (s : Same H H') : Rws H' ps O := r.mono fun a _ o h => s a o h
theorem Rws.snoc {H : Hp} {ps : List Addr} {O : List (List Nat)} {a : Addr} {o : List Nat} (r : Rws H ps O) (h : H a = some (.lst (ni o))) : Rws H (ps ++ [a]) (O ++ [o]) := by
  refine ⟨by simp [r.1], fun i b u h1 h2 => ?_⟩
  by_cases l : i < ps.length
  · rw [List.getElem?_append_left l] at h1
    rw [List.getElem?_append_left (by rw [← r.1]; exact l)] at h2
    exact r.2 i b u h1 h2
  · have hl := (List.getElem?_eq_some_iff.mp h1).1
    rw [List.length_append, List.length_singleton] at hl
    have e : i = ps.length := by omega
    subst e
    have e1 : a = b := by simpa using h1
    have e2 : o = u := by rw [r.1] at h2; simpa using h2
    rw [← e1, ← e2]
    exact h
theorem Rws.get {H : Hp} {ps : List Addr} {O : List (List Nat)} (r : Rws H ps O) {i : Nat} {a : Addr} (h : ps[i]? = some a) : ∃ o, O[i]? = some o ∧ H a = some (.lst (ni o)) := by
  have hl := (List.getElem?_eq_some_iff.mp h).1
  have hl2 : i < O.length := by rw [← r.1]; exact hl
  exact ⟨O[i], by simp [hl2], r.2 i a _ h (by simp [hl2])⟩
abbrev nr (ps : List Addr) : List V := ps.map V.ref
theorem nr_get {ps : List Addr} {i : Nat} {v : V} (h : (nr ps)[i]? = some v) : ∃ a, ps[i]? = some a ∧ v = .ref a := by
  rw [List.getElem?_map] at h
  cases e : ps[i]? with
  | none => rw [e] at h; cases h
  | some x => rw [e] at h; exact ⟨x, rfl, (Option.some.inj h).symm⟩
section
variable {P : Program} {w : World} {K : PySem.W.Frag} {mg : Str → Option Value} {base : Heap}
/-! ### turned_over -/
def spTv (K : PySem.W.Frag) : Sp := fun vs H Q _ => ∃ (n : Nat) (a : Addr) (l : List Nat), vs = [vi n, .ref a] ∧ Sz n ∧ SqL K H a (ni l) ∧ l.Nodup ∧ (∀ x ∈ l, x < n * n) ∧
  ∀ (H' : Hp) (p : Addr), Same H H' → H p = none → H' p = some (.lst (ni (rising (l.map (flip n))))) → Q (.ref p) H'
abbrev nTv : List Str := ["size", "holes", "cell"]
theorem scTv : FnScope nTv ["size", "holes"] (defScope (topS 5)) := ⟨rfl, rfl, rfl, by decide +kernel, rfl, by decide +kernel, by decide +kernel⟩
theorem ok_tv {f : Addr} {fd : FuncData} (F : Fun K "turned_over" "turned_over" (topS 5) f fd) (T : Blt mg) (D1 : Def P w K mg base 1 "turned_over_cell" ["size", "cell"] spTo) : FnOk P w K mg base CX0 2 f fd ["size", "holes"] (spTv K) := by
  obtain ⟨f1, fd1, G1, m1, k1, b1⟩ := D1
  refine F.ok scTv (fun vs H Q E h => ?_) (fun cdv A outer s H vs Q E hr h => ?_)
  · obtain ⟨n, a, l, rfl, _⟩ := h
    rfl
  · refine ⟨_, pss_one (ps_ret (pe_callB cr_sorted (by rfl) T.sorted (by decide +kernel) (pa_cons (pe_lc (own := [("cell", 2)]) (g := gName 2) (tt := tYes) rfl scTv.nd (pi_list (pv 1)) (blkOk_by (N := nTv) (sc := defScope (topS 5)) (by decide +kernel))
          (fun _ _ _ _ _ => pg_name (i := 2) scTv.nd rfl (Or.inl rfl)) (fun _ _ _ _ _ => pts_nil) (fun _ _ _ _ _ => pe_call G1 hr (by rfl) m1 k1 b1 .nil pass0 (pa_cons (pv 0) (pa_cons (pv 2) pa_nil)))) pa_nil))), ?_⟩
    obtain ⟨n, a, l, rfl, hn, hA, nd, lt, k⟩ := h
    have hlen := nodup_len hn nd lt
    refine ⟨_, rfl, a, rfl, ⟨_, hA⟩, fun D hD => ?_⟩
    refine lc_fm (L := l) (fun _ => true) (fun x => vi (flip n x)) hA hD (by omega) (fun j x H2 hx s2 => ?_) mono_name (fun H2 s2 e2 => ?_)
    · exact ⟨rfl, fun R h => h, fun _ R h => ⟨_, rfl, _, rfl, n, x, rfl, hn, lt x (List.mem_of_getElem? hx), h⟩⟩
    · rw [filter_true] at e2
      have e3 : l.map (fun x => vi (flip n x)) = ni (l.map (flip n)) := by simp [ni]
      rw [e3] at e2
      refine sorted_ni (SqL.of e2) (map_flip_nodup hn nd lt) (by rw [List.length_map]; omega) fun p2 hp2 => ?_
      exact k _ p2 (s2.new hp2) (s2.free hp2) upd_same
/-! ### middle -/
def spMid : Sp := fun vs H Q _ => ∃ n : Nat, vs = [vi n] ∧ Sz n ∧ Q (.int (midI n)) H
theorem scMid : FnScope ["size"] ["size"] (defScope (topS 6)) := ⟨rfl, rfl, rfl, by decide +kernel, rfl, by decide +kernel, by decide +kernel⟩
theorem ok_mid {f : Addr} {fd : FuncData} (F : Fun K "middle" "middle" (topS 6) f fd) : FnOk P w K mg base CX0 1 f fd ["size"] spMid := by
  refine F.ok scMid (fun vs H Q E h => ?_) (fun cdv A outer s H vs Q E hr h => ?_)
  · obtain ⟨n, rfl, _⟩ := h
    rfl
  · refine ⟨_, pss_cons (ps_if (pt_cmpR op_eq (pe_op op_mod (pv 0) pe_int) pe_int (nomark _)) (pss_one (ps_ret (pe_un un_neg pe_int))) pss_nil)
      (pss_one (ps_ret (pe_op op_fdiv (pe_op op_mul (pv 0) (pv 0)) pe_int))), ?_⟩
    obtain ⟨n, rfl, hn, q⟩ := h
    refine ⟨_, rfl, _, _, rfl, rfl, (by show (0 : Int) < 2; decide), rfl, _, rfl, ?_⟩
    show if decide (V.int ((n : Int) % 2) = V.int 0) = true then _ else _
    rw [vint_eq]
    unfold midI at q
    refine ite2 (fun c => ?_) (fun c => ?_)
    · have e : n % 2 = 0 := by
        have := of_decide_eq_true c
        omega
      rw [if_pos e] at q
      exact ⟨_, rfl, q⟩
    · have e : ¬ n % 2 = 0 := fun z => c (decide_eq_true (by omega))
      rw [if_neg e] at q
      refine ⟨_, rfl, _, rfl, _, _, rfl, rfl, .inl ⟨by have := hn.2; omega, by have := hn.2; omega⟩, _, _, rfl, rfl, ⟨by decide, by decide⟩, ?_⟩
      have e2 : ((n : Int) * n) / 2 = ((n * n / 2 : Nat) : Int) := by
        rw [← Int.natCast_mul]
        omega
      exact (congrArg (fun z => Q (V.int z) H) e2).mpr q
/-! ### mates -/
def spMat (K : PySem.W.Frag) : Sp := fun vs H Q _ => ∃ n k : Nat, vs = [vi n, vi k] ∧ Sz n ∧ k < n * n ∧ ∀ (H' : Hp) (p : Addr), Same H H' → H p = none → H' p = some (.lst (ni (orbit n k))) → Q (.ref p) H'
abbrev nMat : List Str := ["size", "cell", "found", "turn"]
theorem scMat : FnScope nMat ["size", "cell"] (defScope (topS 7)) := ⟨rfl, rfl, rfl, by decide +kernel, rfl, by decide +kernel, by decide +kernel⟩
theorem ok_mat {f : Addr} {fd : FuncData} (F : Fun K "mates" "mates" (topS 7) f fd) (T : Blt mg) (mq : Num mg "QUARTERS" 4) (D1 : Def P w K mg base 1 "turned_cell" ["size", "cell"] spTc) : FnOk P w K mg base CX0 2 f fd ["size", "cell"] (spMat K) := by
  obtain ⟨f1, fd1, G1, m1, k1, b1⟩ := D1
  obtain ⟨tq, mq⟩ := mq
  refine F.ok scMat (fun vs H Q E h => ?_) (fun cdv A outer s H vs Q E hr h => ?_)
  · obtain ⟨n, k, rfl, _⟩ := h
    rfl
  · refine ⟨_, pss_cons (ps_set (i := 2) scMat.nd rfl (.inl rfl) (pe_lst (pa_cons (pv 1) pa_nil)))
      (pss_cons (ps_for PassesOwn.never rfl (pi_range1 (by rfl) T.range (pa_cons (pe_op op_sub (pe_glob (v := .int 4) (by rfl) mq ⟨_, rfl⟩) pe_int) pa_nil)) (pg_name (i := 3) scMat.nd rfl (.inl rfl))
        (pss_one (ps_expr (pe_bm PySem.F.plainAttrs_list PySem.F.slot_list_append PySem.F.type_list_append mt_append (pv 2)
          (pa_cons (pe_call G1 hr (by rfl) m1 k1 b1 .nil pass0 (pa_cons (pv 0) (pa_cons (pe_ix ix_list (pv 2) (pe_un un_neg pe_int) (fun _ _ => rfl)) pa_nil))) pa_nil)))))
      (pss_one (ps_ret (pv 2)))), ?_⟩
    obtain ⟨n, k, rfl, hn, hk, q⟩ := h
    refine ⟨_, rfl, by show 1 ≤ sizeLine; decide, fun p hp => ?_⟩
    refine ⟨_, _, rfl, rfl, 3, rfl, by decide, by decide, for_range (lo := 0) (n := 3) (fun i σ H' => ∃ v, σ = [some (vi n), some (vi k), some (.ref p), v] ∧ Same H H' ∧ H' p = some (.lst (ni ((List.range (i + 1)).map fun t => turns n t k)))) ?_ ?_ ?_⟩
    · exact ⟨none, rfl, (Same.refl H).new hp, by rw [upd_same]; rfl⟩
    · rintro i σ H1 hi ⟨v, rfl, s1, e1⟩
      have el : ni ((List.range (i + 1)).map fun t => turns n t k) = ni ((List.range i).map fun t => turns n t k) ++ [vi (turns n i k)] := by
        rw [List.range_succ, List.map_append, ni_app]
        rfl
      refine ⟨_, rfl, .inl ⟨rfl, _, SqL.of e1⟩, _, rfl, _, rfl, _, rfl, p, _, _, _, rfl, rfl, SqL.of e1, by rw [el]; exact atI_last _ _, ?_⟩
      refine ⟨n, turns n i k, rfl, hn, turns_lt hn hk, ?_⟩
      refine ⟨p, _, _, rfl, rfl, e1, by rw [ni_len, List.length_map, List.length_range]; exact smallL (by omega), ?_⟩
      refine ⟨_, rfl, s1.own hp, ?_⟩
      rw [upd_same, ← turns_succ, List.range_succ (n := i + 1), List.map_append, ni_app]
      rfl
    · rintro σ H1 ⟨v, rfl, s1, e1⟩
      exact ⟨_, rfl, q H1 p s1 hp e1⟩
/-! ### all_mates -/
def spAm (K : PySem.W.Frag) : Sp := fun vs H Q _ => ∃ n : Nat, vs = [vi n] ∧ Sz n ∧ ∀ (H' : Hp) (p : Addr) (ps : List Addr), Same H H' → H p = none → H' p = some (.lst (nr ps)) → Rws H' ps (orbits n) → Q (.ref p) H'
abbrev nAm : List Str := ["size", "found", "cell"]
theorem scAm : FnScope nAm ["size"] (defScope (topS 8)) := ⟨rfl, rfl, rfl, by decide +kernel, rfl, by decide +kernel, by decide +kernel⟩
theorem ok_am {f : Addr} {fd : FuncData} (F : Fun K "all_mates" "all_mates" (topS 8) f fd) (T : Blt mg) (D1 : Def P w K mg base 1 "middle" ["size"] spMid) (D2 : Def P w K mg base 2 "mates" ["size", "cell"] (spMat K)) : FnOk P w K mg base CX0 3 f fd ["size"] (spAm K) := by
  obtain ⟨f1, fd1, G1, m1, k1, b1⟩ := D1
  obtain ⟨f2, fd2, G2, m2, k2, b2⟩ := D2
  refine F.ok scAm (fun vs H Q E h => ?_) (fun cdv A outer s H vs Q E hr h => ?_)
  · obtain ⟨n, rfl, _⟩ := h
    rfl
  · have hr1 : Room 1 _ := hr.mono (by decide)
    refine ⟨_, pss_cons (ps_set (i := 1) scAm.nd rfl (.inl rfl) (pe_lst pa_nil))
      (pss_cons (ps_for PassesOwn.never rfl (pi_range1 (by rfl) T.range (pa_cons (pe_op op_mul (pv 0) (pv 0)) pa_nil)) (pg_name (i := 2) scAm.nd rfl (.inl rfl))
        (pss_one (ps_if (PW.pt (pw_and (pt_cmpR op_ne (pv 2) (pe_call G1 hr1 (by rfl) m1 k1 b1 .nil pass0 (pa_cons (pv 0) pa_nil)) (nomark _))
            (pw_and1 (pt_cmpR op_eq (pv 2) (pe_callB (cr_min rfl) (by rfl) T.min (by decide +kernel) (pa_cons (pe_call G2 hr (by rfl) m2 k2 b2 .nil pass0 (pa_cons (pv 0) (pa_cons (pv 2) pa_nil))) pa_nil)) (nomark _)))))
          (pss_one (ps_expr (pe_bm PySem.F.plainAttrs_list PySem.F.slot_list_append PySem.F.type_list_append mt_append (pv 1)
            (pa_cons (pe_callB cr_sorted (by rfl) T.sorted (by decide +kernel) (pa_cons (pe_call G2 hr (by rfl) m2 k2 b2 .nil pass0 (pa_cons (pv 0) (pa_cons (pv 2) pa_nil))) pa_nil)) pa_nil)))) pss_nil)))
      (pss_one (ps_ret (pv 1)))), ?_⟩
    obtain ⟨n, rfl, hn, q⟩ := h
    refine ⟨Nat.zero_le _, fun p hp => ?_⟩
    refine ⟨_, rfl, _, rfl, _, _, rfl, rfl, .inl ⟨by have := hn.2; omega, by have := hn.2; omega⟩, (n : Int) * n, rfl, ?_⟩
    have e0 : (n : Int) * n = ((n * n : Nat) : Int) := by rw [Int.natCast_mul]
    rw [e0]
    have hle := hn.le
    refine ⟨by omega, by omega, for_range (lo := 0) (n := n * n) (fun i σ H' => ∃ v ps, σ = [some (vi n), some (.ref p), v] ∧ Same H H' ∧ H' p = some (.lst (nr ps)) ∧ (∀ a ∈ ps, a ≠ p) ∧ Rws H' ps (orbK n i)) ?_ ?_ ?_⟩
    · exact ⟨none, [], rfl, (Same.refl H).new hp, by rw [upd_same]; rfl, (fun a ha => nomatch ha), Rws.nil⟩
    · rintro i σ H1 hi ⟨v, ps, rfl, s1, e1, ne1, r1⟩
      have hl : ps.length ≤ 36 := by rw [r1.1]; exact orbK_len hn (by omega)
      have stay : ∀ H2, Same H1 H2 → orbK n (i + 1) = orbK n i → ∃ v' ps', [some (vi n), some (.ref p), some (V.int (0 + (i : Int)))] = [some (vi n), some (.ref p), v'] ∧ Same H H2 ∧ H2 p = some (.lst (nr ps')) ∧ (∀ a ∈ ps', a ≠ p) ∧ Rws H2 ps' (orbK n (i + 1)) := fun H2 s2 e => by
        rw [e]
        exact ⟨_, ps, rfl, s1.trans s2, s2 _ _ e1, ne1, r1.same s2⟩
      have ei : V.int (0 + (i : Int)) = vi i := congrArg V.int (Int.zero_add _)
      rw [ei] at stay ⊢
      refine ⟨_, rfl, _, rfl, n, rfl, hn, rfl, _, rfl, ?_⟩
      show if (!decide (V.int (i : Int) = V.int (midI n))) = true then _ else _
      rw [vint_eq]
      refine ite2 (fun c => ?_) (fun c => ?_)
      · have nm : i ∉ Uw56.middle n := fun z => by
          have := (mid_iff hn hi).mp z
          rw [this, decide_eq_true rfl] at c
          cases c
        refine ⟨_, rfl, _, rfl, _, rfl, n, i, rfl, hn, hi, fun H2 p2 s2 n2 e2 => ?_⟩
        have hmem : i ∈ orbit n i := List.mem_map.mpr ⟨0, by simp, rfl⟩
        have ho := ((orbit_facts n hn.mem).1 i (mem_cells.mpr hi))
        refine ⟨p2, zs (orbit n i), rfl, by rw [← ni_ints]; exact SqL.of e2, by simp [orbit], fun m hm hle => ?_⟩
        obtain ⟨m', hm', rfl⟩ := List.mem_map.mp hm
        refine ⟨rfl, _, rfl, ?_⟩
        rw [vi_eq]
        refine ite2 (fun d => ?_) (fun d => ?_)
        · have eim : i = m' := of_decide_eq_true d
          have least : ∀ j ∈ orbit n i, i ≤ j := fun j hj => by
            have := hle j (List.mem_map.mpr ⟨j, hj, rfl⟩)
            omega
          refine ⟨_, rfl, .inl ⟨rfl, _, SqL.of (s2 _ _ e1)⟩, _, rfl, _, rfl, n, i, rfl, hn, hi, fun H3 p3 s3 n3 e3 => ?_⟩
          unfold tNil
          dsimp only
          refine sorted_ni (SqL.of e3) (ho.2 nm) (by simp [orbit]) fun p4 hp4 => ?_
          have s4 : Same H1 (upd H3 p4 (.lst (ni (rising (orbit n i))))) := (s2.trans s3).new hp4
          refine ⟨p, _, _, rfl, rfl, s4 _ _ e1, by rw [List.length_map]; exact smallL (by omega), ?_⟩
          have np : p4 ≠ p := fun z => by
            rw [z] at hp4
            rw [s3 _ _ (s2 _ _ e1)] at hp4
            cases hp4
          refine ⟨_, ps ++ [p4], rfl, (s1.trans s4).own hp, ?_, fun a ha => ?_, ?_⟩
          · rw [upd_same]
            simp [nr]
          · rcases List.mem_append.mp ha with ha | ha
            · exact ne1 a ha
            · rw [List.mem_singleton.mp ha]
              exact np
          · rw [orbK_yes nm least]
            refine Rws.snoc (r1.mono fun a ha o e => ?_) ?_
            · rw [upd_ne (ne1 a ha)]
              exact s4 _ _ e
            · rw [upd_ne np]
              exact upd_same
        · refine stay H2 s2 (orbK_no fun z => d (decide_eq_true ?_))
          have h1 := z.2 m' hm'
          have h2 := hle i (List.mem_map.mpr ⟨i, hmem, rfl⟩)
          omega
      · have im : i ∈ Uw56.middle n := (mid_iff hn hi).mpr (by
          have c' : ¬ ¬ ((i : Int) = midI n) := fun z => c (by rw [decide_eq_false z]; rfl)
          exact (Classical.not_not.mp c').symm)
        refine iteF ?_
        exact stay H1 (Same.refl H1) (orbK_no fun z => z.1 im)
    · rintro σ H1 ⟨v, ps, rfl, s1, e1, ne1, r1⟩
      exact ⟨_, rfl, q H1 p ps s1 hp e1 r1⟩
end
end Hc
namespace Hc
open PySem PySem.Spec PyProof.Rows L2
open Uw56 (Card turn turns rising orbit orbits firstCard cells due)
/-- nothing told wrong ahead of i -/
def okTo (c : Card) (i : Nat) : Prop := ∀ j, j < i → c.times j = due c.n j
theorem okTo_succ {c : Card} {i : Nat} (h : okTo c i) (e : c.times i = due c.n i) : okTo c (i + 1) := fun j hj => by
  by_cases z : j = i
  · rw [z]; exact e
  · exact h j (by omega)
theorem fault_none_of {c : Card} (h : okTo c (c.n * c.n)) : c.fault = none := fault_none.mpr h
theorem fault_some_of {c : Card} {i : Nat} (h : okTo c i) (hi : i < c.n * c.n) (e : c.times i ≠ due c.n i) : c.fault = some i := by
  unfold Card.fault
  rw [List.find?_eq_some_iff_append]
  refine ⟨by simpa using e, List.range i, (List.range' (i + 1) (c.n * c.n - (i + 1))), ?_, fun j hj => ?_⟩
  · unfold cells
    have e1 : i :: List.range' (i + 1) (c.n * c.n - (i + 1)) = List.range' i (c.n * c.n - i) := by
      rw [show c.n * c.n - i = (c.n * c.n - (i + 1)) + 1 by omega, List.range'_succ]
    have e2 := List.range'_append (s := 0) (m := i) (n := c.n * c.n - i) (step := 1)
    rw [Nat.one_mul, Nat.zero_add, show i + (c.n * c.n - i) = c.n * c.n by omega] at e2
    rw [List.range_eq_range', List.range_eq_range', e1, e2]
  · have := h j (List.mem_range.mp hj)
    simpa using this
def faultL (c : Card) : List Nat := match c.fault with
  | none => []
  | some k => [k, c.times k]
section
variable {P : Program} {w : World} {K : PySem.W.Frag} {mg : Str → Option Value} {base : Heap}
/-! ### how_often_seen -/
def spHo (K : PySem.W.Frag) : Sp := fun vs H Q _ => ∃ (n k : Nat) (a : Addr) (l : List Nat), vs = [vi n, .ref a, vi k] ∧ Sz n ∧ SqL K H a (ni l) ∧ l.Nodup ∧ (∀ x ∈ l, x < n * n) ∧
  ∀ H' : Hp, Same H H' → Q (vi ((Card.mk n l).times k)) H'
abbrev nHo : List Str := ["size", "holes", "cell", "quarters"]
theorem scHo : FnScope nHo ["size", "holes", "cell"] (defScope (topS 9)) := ⟨rfl, rfl, rfl, by decide +kernel, rfl, by decide +kernel, by decide +kernel⟩
theorem ok_ho {f : Addr} {fd : FuncData} (F : Fun K "how_often_seen" "how_often_seen" (topS 9) f fd) (T : Blt mg) (mq : Num mg "QUARTERS" 4) (D1 : Def P w K mg base 2 "turned_by" ["size", "holes", "quarters"] (spTb K)) : FnOk P w K mg base CX0 3 f fd ["size", "holes", "cell"] (spHo K) := by
  obtain ⟨f1, fd1, G1, m1, k1, b1⟩ := D1
  obtain ⟨tq, mq⟩ := mq
  refine F.ok scHo (fun vs H Q E h => ?_) (fun cdv A outer s H vs Q E hr h => ?_)
  · obtain ⟨n, k, a, l, rfl, _⟩ := h
    rfl
  · refine ⟨_, pss_one (ps_ret (pe_callB call_len (by rfl) T.len (by decide +kernel) (pa_cons (pe_lc (own := [("quarters", 3)]) (g := gName 3) rfl scHo.nd (pi_range1 (by rfl) T.range (pa_cons (pe_glob (v := .int 4) (by rfl) mq ⟨_, rfl⟩) pa_nil)) (blkOk_by (N := nHo) (sc := defScope (topS 9)) (by decide +kernel))
          (fun _ _ _ _ _ => pg_name (i := 3) scHo.nd rfl (Or.inl rfl)) (fun _ _ _ _ _ => pts_one (pt_cmpR (r := rIn K false) op_in_seq (pv 2) (pe_call G1 hr (by rfl) m1 k1 b1 .nil pass0 (pa_cons (pv 0) (pa_cons (pv 1) (pa_cons (pv 3) pa_nil)))) rfl)) (fun _ _ _ _ _ => pe_int)) pa_nil))), ?_⟩
    obtain ⟨n, k, a, l, rfl, hn, hA, nd, lt, q⟩ := h
    refine ⟨4, rfl, by decide, by decide, fun D hD => ?_⟩
    refine lc_range (lo := 0) (n := 4) (fun i H' => Same H H' ∧ H' D = some (.lst (((List.range i).filter fun t => ((Card.mk n l).seen t).contains k).map fun _ => V.int 1))) ⟨(Same.refl H).new hD, upd_same⟩ ?_ ?_
    · rintro i H1 hi ⟨s1, e1⟩
      have ei : V.int (0 + (i : Int)) = vi i := congrArg V.int (Int.zero_add _)
      rw [ei]
      refine ⟨rfl, _, rfl, _, rfl, _, rfl, _, rfl, n, i, a, l, rfl, hn, .inl (s1.seq hA), nd, lt, by omega, fun H2 p2 s2 n2 e2 => ?_⟩
      refine ⟨p2, _, rfl, .inl (SqL.of e2), rfl, flat_ni, _, rfl, ?_⟩
      show if inV (vi k) (ni (rising (l.map (turns n i)))) = true then _ else _
      rw [inV_ni]
      have hlen : (((List.range i).filter fun t => ((Card.mk n l).seen t).contains k).map fun _ => V.int 1).length ≤ 16000000 := by
        rw [List.length_map]
        refine Nat.le_trans (List.length_filter_le ..) ?_
        rw [List.length_range]
        omega
      refine ite2 (fun c => ?_) (fun c => ?_)
      · refine ⟨_, s2 _ _ e1, smallL hlen, (s1.trans s2).own hD, ?_⟩
        rw [upd_same, List.range_succ, List.filter_append, List.map_append]
        have c' : ((Card.mk n l).seen i).contains k = true := c
        simp only [List.filter_cons, List.filter_nil, if_pos c']
        rfl
      · refine ⟨s1.trans s2, ?_⟩
        rw [s2 _ _ e1, List.range_succ, List.filter_append]
        have c' : ¬ ((Card.mk n l).seen i).contains k = true := c
        simp only [List.filter_cons, List.filter_nil, if_neg c', List.append_nil]
    · rintro H1 ⟨s1, e1⟩
      refine ⟨_, _, rfl, .inl ⟨_, SqL.of e1, rfl⟩, ?_⟩
      rw [List.length_map]
      exact q H1 s1
/-! ### first_wrong_cell -/
def spFw (K : PySem.W.Frag) : Sp := fun vs H Q _ => ∃ (n : Nat) (a : Addr) (l : List Nat), vs = [vi n, .ref a] ∧ Sz n ∧ SqL K H a (ni l) ∧ l.Nodup ∧ (∀ x ∈ l, x < n * n) ∧
  ∀ (H' : Hp) (p : Addr), Same H H' → H p = none → H' p = some (.lst (ni (faultL ⟨n, l⟩))) → Q (.ref p) H'
abbrev nFw : List Str := ["size", "holes", "cell", "often"]
theorem scFw : FnScope nFw ["size", "holes"] (defScope (topS 10)) := ⟨rfl, rfl, rfl, by decide +kernel, rfl, by decide +kernel, by decide +kernel⟩
theorem ok_fw {f : Addr} {fd : FuncData} (F : Fun K "first_wrong_cell" "first_wrong_cell" (topS 10) f fd) (T : Blt mg) (D1 : Def P w K mg base 1 "middle" ["size"] spMid) (D2 : Def P w K mg base 3 "how_often_seen" ["size", "holes", "cell"] (spHo K)) : FnOk P w K mg base CX0 4 f fd ["size", "holes"] (spFw K) := by
  obtain ⟨f1, fd1, G1, m1, k1, b1⟩ := D1
  obtain ⟨f2, fd2, G2, m2, k2, b2⟩ := D2
  refine F.ok scFw (fun vs H Q E h => ?_) (fun cdv A outer s H vs Q E hr h => ?_)
  · obtain ⟨n, a, l, rfl, _⟩ := h
    rfl
  · have hr1 : Room 1 _ := hr.mono (by decide)
    refine ⟨_, pss_cons (ps_for PassesOwn.never rfl (pi_range1 (by rfl) T.range (pa_cons (pe_op op_mul (pv 0) (pv 0)) pa_nil)) (pg_name (i := 2) scFw.nd rfl (.inl rfl))
        (pss_cons (ps_set (i := 3) scFw.nd rfl (.inl rfl) (pe_call G2 hr (by rfl) m2 k2 b2 .nil pass0 (pa_cons (pv 0) (pa_cons (pv 1) (pa_cons (pv 2) pa_nil)))))
        (pss_one (ps_if (pt_cmpR op_ne (pv 3) (pe_callTy call_int1 (by rfl) T.int (by decide +kernel) (pa_cons (pe_cmpR op_ne (pv 2) (pe_call G1 hr1 (by rfl) m1 k1 b1 .nil pass0 (pa_cons (pv 0) pa_nil)) (nomark _)) pa_nil)) (nomark _))
          (pss_one (ps_ret (pe_lst (pa_cons (pv 2) (pa_cons (pv 3) pa_nil))))) pss_nil))))
      (pss_one (ps_ret (pe_lst pa_nil))), ?_⟩
    obtain ⟨n, a, l, rfl, hn, hA, nd, lt, q⟩ := h
    refine ⟨_, rfl, _, rfl, _, _, rfl, rfl, .inl ⟨by have := hn.2; omega, by have := hn.2; omega⟩, (n : Int) * n, rfl, ?_⟩
    have e0 : (n : Int) * n = ((n * n : Nat) : Int) := by rw [Int.natCast_mul]
    rw [e0]
    have hle := hn.le
    refine ⟨by omega, by omega, for_range (lo := 0) (n := n * n) (fun i σ H' => ∃ v u, σ = [some (vi n), some (.ref a), v, u] ∧ Same H H' ∧ okTo ⟨n, l⟩ i) ⟨none, none, rfl, Same.refl H, fun j hj => absurd hj (by omega)⟩ ?_ ?_⟩
    · rintro i σ H1 hi ⟨v, u, rfl, s1, o1⟩
      have ei : V.int (0 + (i : Int)) = vi i := congrArg V.int (Int.zero_add _)
      rw [ei]
      refine ⟨_, rfl, _, rfl, _, rfl, n, i, a, l, rfl, hn, s1.seq hA, nd, lt, fun H2 s2 => ?_⟩
      refine ⟨_, rfl, _, rfl, _, rfl, n, rfl, hn, rfl, .inr ⟨_, rfl, rfl, _, rfl, ?_⟩⟩
      have hd : (if (!decide (V.int (i : Int) = V.int (midI n))) = true then (1 : Int) else 0) = ((due n i : Nat) : Int) := by
        rw [vint_eq]
        unfold due
        by_cases m : i ∈ Uw56.middle n
        · have e := (mid_iff hn hi).mp m
          rw [decide_eq_true e.symm, if_pos (List.contains_iff_mem.mpr m)]
          rfl
        · have e : ¬ (i : Int) = midI n := fun z => m ((mid_iff hn hi).mpr z.symm)
          rw [decide_eq_false e, if_neg fun z => m (List.contains_iff_mem.mp z)]
          rfl
      show if (!decide (vi ((Card.mk n l).times i) = V.int (if (!decide (V.int (i : Int) = V.int (midI n))) = true then (1 : Int) else 0))) = true then _ else _
      rw [hd, show V.int ((due n i : Nat) : Int) = vi (due n i) from rfl, vi_eq]
      refine ite2 (fun c => ?_) (fun c => ?_)
      · have ne : (Card.mk n l).times i ≠ due n i := fun z => by
          rw [decide_eq_true z] at c
          cases c
        refine ⟨_, rfl, _, rfl, by show 2 ≤ sizeLine; decide, fun p hp => ?_⟩
        refine q _ p ((s1.trans s2).new hp) ((s1.trans s2).free hp) ?_
        rw [upd_same]
        unfold faultL
        rw [fault_some_of o1 hi ne]
        rfl
      · have e : (Card.mk n l).times i = due n i := Classical.byContradiction fun z => c (by rw [decide_eq_false z]; rfl)
        exact ⟨_, _, rfl, s1.trans s2, okTo_succ o1 e⟩
    · rintro σ H1 ⟨v, u, rfl, s1, o1⟩
      refine ⟨Nat.zero_le _, fun p hp => ?_⟩
      refine q _ p (s1.new hp) (s1.free hp) ?_
      rw [upd_same]
      unfold faultL
      rw [fault_none_of o1]
      rfl
/-! ### first_card -/
def spFc (K : PySem.W.Frag) : Sp := fun vs H Q _ => ∃ (n : Nat), vs = [vi n] ∧ Sz n ∧ ∀ (H' : Hp) (p : Addr), Same H H' → H p = none → H' p = some (.lst (ni (firstCard n).holes)) → Q (.ref p) H'
abbrev nFc : List Str := ["size", "some"]
theorem scFc : FnScope nFc ["size"] (defScope (topS 11)) := ⟨rfl, rfl, rfl, by decide +kernel, rfl, by decide +kernel, by decide +kernel⟩
theorem ok_fc {f : Addr} {fd : FuncData} (F : Fun K "first_card" "first_card" (topS 11) f fd) (D1 : Def P w K mg base 3 "all_mates" ["size"] (spAm K)) : FnOk P w K mg base CX0 4 f fd ["size"] (spFc K) := by
  obtain ⟨f1, fd1, G1, m1, k1, b1⟩ := D1
  refine F.ok scFc (fun vs H Q E h => ?_) (fun cdv A outer s H vs Q E hr h => ?_)
  · obtain ⟨n, rfl, _⟩ := h
    rfl
  · refine ⟨_, pss_one (ps_ret (pe_lc (own := [("some", 1)]) (g := gName 1) (tt := tYes) rfl scFc.nd (pi_list (pe_call G1 hr (by rfl) m1 k1 b1 .nil pass0 (pa_cons (pv 0) pa_nil))) (blkOk_by (N := nFc) (sc := defScope (topS 11)) (by decide +kernel))
          (fun _ _ _ _ _ => pg_name (i := 1) scFc.nd rfl (Or.inl rfl)) (fun _ _ _ _ _ => pts_nil) (fun _ _ _ _ _ => pe_ix (r := rIxL K) ix_list (pv 1) pe_int (fun _ _ => rfl)))), ?_⟩
    obtain ⟨n, rfl, hn, q⟩ := h
    refine ⟨_, rfl, n, rfl, hn, fun H1 p ps s1 n1 e1 r1 => ?_⟩
    refine ⟨p, rfl, ⟨_, SqL.of e1⟩, fun D hD => ?_⟩
    refine lc_list (K := K) (a := p) (xs := nr ps) (fun i H' => Same H1 H' ∧ H' D = some (.lst (ni (((orbits n).take i).map fun o => o.getD 0 0)))) ⟨(Same.refl H1).new hD, by rw [upd_same]; rfl⟩ (fun i H' _ h => h.1.seq (SqL.of e1)) ?_ ?_
    · rintro i v H2 hv ⟨s2, e2⟩
      obtain ⟨a, ha, rfl⟩ := nr_get hv
      obtain ⟨o, ho, eo⟩ := r1.get ha
      have hom := List.mem_of_getElem? ho
      have lo := orbit_len hn hom
      have h0 : o[0]? = some (o.getD 0 0) := by
        have l0 : 0 < o.length := by omega
        simp [l0]
      refine ⟨rfl, _, rfl, a, _, _, _, rfl, rfl, SqL.of (s2 _ _ eo), at_of (j := 0) rfl (ni_get h0), _, e2, ?_, s2.own hD, ?_⟩
      · rw [ni_len, List.length_map]
        refine smallL ?_
        have := List.length_take_le i (orbits n)
        have h9 := orbits_le hn
        have := List.length_take_le' i (orbits n)
        omega
      · rw [upd_same, List.take_add_one, ho, List.map_append, ni_app]
        rfl
    · rintro H2 ⟨s2, e2⟩
      rw [List.length_map, r1.1, List.take_length, ← (orbit_facts n hn.mem).2] at e2
      exact q H2 D (s1.trans s2) (s1.free hD) e2
end
end Hc
namespace Hc
open PySem PySem.Spec PyProof.Rows L2
open Uw56 (Card turn turns rising orbit orbits firstCard cells due)
theorem flat1 {n : Nat} {v : V} : (List.replicate n [v]).flatten = List.replicate n v := by
  induction n with
  | zero => rfl
  | succ n ih =>
    rw [List.replicate_succ, List.flatten_cons, ih, List.replicate_succ]
    rfl
theorem ni_rep {n k : Nat} : ni (List.replicate n k) = List.replicate n (vi k) := by simp [ni]
theorem ni_set {l : List Nat} {i x : Nat} : (ni l).set i (vi x) = ni (l.set i x) := by simp [ni, List.map_set]
theorem ixN_nat {n j : Nat} (h : j < n) : ixN n (j : Int) = some j := by
  have e : (List.range n)[j]? = some j := by simp [h]
  have := atI_nat e
  unfold atI at this
  rw [List.length_range] at this
  cases q : ixN n (j : Int) with
  | none => rw [q] at this; cases this
  | some i =>
    rw [q] at this
    have : (List.range n)[i]? = some j := this
    obtain ⟨h1, h2⟩ := List.getElem?_eq_some_iff.mp this
    rw [List.getElem_range] at h2
    rw [h2]
theorem seen_len {c : Card} (f : Fits c) {t : Nat} : (c.seen t).length ≤ 36 := nodup_len f.sz (up_nodup (rising_up _)) fun x hx => f.seen_lt hx
theorem flatMap_len {c : Card} (f : Fits c) : ∀ i, ((List.range i).flatMap c.seen).length ≤ i * 36
  | 0 => by simp
  | i + 1 => by
    rw [List.range_succ, List.flatMap_append, List.length_append]
    have := flatMap_len f i
    have := seen_len f (t := i)
    simp only [List.flatMap_cons, List.flatMap_nil, List.append_nil]
    omega
section
variable {P : Program} {w : World} {K : PySem.W.Frag} {mg : Str → Option Value} {base : Heap}
/-! ### writing_order -/
def spWo (K : PySem.W.Frag) : Sp := fun vs H Q _ => ∃ (a : Addr) (c : Card), vs = [vi c.n, .ref a] ∧ Fits c ∧ SqL K H a (ni c.holes) ∧
  ∀ (H' : Hp) (p : Addr), Same H H' → H p = none → H' p = some (.lst (ni c.order)) → Q (.ref p) H'
abbrev nWo : List Str := ["size", "holes", "found", "quarters"]
theorem scWo : FnScope nWo ["size", "holes"] (defScope (topS 16)) := ⟨rfl, rfl, rfl, by decide +kernel, rfl, by decide +kernel, by decide +kernel⟩
theorem ok_wo {f : Addr} {fd : FuncData} (F : Fun K "writing_order" "writing_order" (topS 16) f fd) (T : Blt mg) (mq : Num mg "QUARTERS" 4) (D1 : Def P w K mg base 1 "middle" ["size"] spMid) (D2 : Def P w K mg base 2 "turned_by" ["size", "holes", "quarters"] (spTb K)) : FnOk P w K mg base CX0 3 f fd ["size", "holes"] (spWo K) := by
  obtain ⟨f1, fd1, G1, m1, k1, b1⟩ := D1
  obtain ⟨f2, fd2, G2, m2, k2, b2⟩ := D2
  obtain ⟨tq, mq⟩ := mq
  refine F.ok scWo (fun vs H Q E h => ?_) (fun cdv A outer s H vs Q E hr h => ?_)
  · obtain ⟨a, c, rfl, _⟩ := h
    rfl
  · have hr1 : Room 1 _ := hr.mono (by decide)
    refine ⟨_, pss_cons (ps_set (i := 2) scWo.nd rfl (.inl rfl) (pe_lst pa_nil))
      (pss_cons (ps_for PassesOwn.never rfl (pi_range1 (by rfl) T.range (pa_cons (pe_glob (v := .int 4) (by rfl) mq ⟨_, rfl⟩) pa_nil)) (pg_name (i := 3) scWo.nd rfl (.inl rfl))
        (pss_one (ps_expr (pe_bm PySem.F.plainAttrs_list PySem.F.slot_list_extend PySem.F.type_list_extend mt_extend (pv 2) (pa_cons (pe_call G2 hr (by rfl) m2 k2 b2 .nil pass0 (pa_cons (pv 0) (pa_cons (pv 1) (pa_cons (pv 3) pa_nil)))) pa_nil)))))
      (pss_cons (ps_if (pt_cmpR op_ge (pe_call G1 hr1 (by rfl) m1 k1 b1 .nil pass0 (pa_cons (pv 0) pa_nil)) pe_int (nomark _))
        (pss_one (ps_expr (pe_bm PySem.F.plainAttrs_list PySem.F.slot_list_append PySem.F.type_list_append mt_append (pv 2) (pa_cons (pe_call G1 hr1 (by rfl) m1 k1 b1 .nil pass0 (pa_cons (pv 0) pa_nil)) pa_nil)))) pss_nil)
      (pss_one (ps_ret (pv 2))))), ?_⟩
    obtain ⟨a, c, rfl, fc, hA, q⟩ := h
    refine ⟨Nat.zero_le _, fun p hp => ?_⟩
    refine ⟨4, rfl, by decide, by decide, for_range (lo := 0) (n := 4) (fun i σ H' => ∃ v, σ = [some (vi c.n), some (.ref a), some (.ref p), v] ∧ Same H H' ∧ H' p = some (.lst (ni ((List.range i).flatMap c.seen)))) ?_ ?_ ?_⟩
    · exact ⟨none, rfl, (Same.refl H).new hp, by rw [upd_same]; rfl⟩
    · rintro i σ H1 hi ⟨v, rfl, s1, e1⟩
      have ei : V.int (0 + (i : Int)) = vi i := congrArg V.int (Int.zero_add _)
      rw [ei]
      refine ⟨_, rfl, .inl ⟨rfl, _, SqL.of e1⟩, _, rfl, _, rfl, _, rfl, c.n, i, a, c.holes, rfl, fc.sz, .inl (s1.seq hA), up_nodup fc.up, fc.lt, by omega, fun H2 p2 s2 n2 e2 => ?_⟩
      refine ⟨p, p2, _, _, rfl, rfl, s2 _ _ e1, e2, ?_, _, rfl, (s1.trans s2).own hp, ?_⟩
      · rw [ni_len, ni_len]
        have h1 := flatMap_len fc i
        have h2 := seen_len fc (t := i)
        have h3 : (rising (c.holes.map (turns c.n i))).length ≤ 36 := h2
        exact small (by omega)
      · rw [upd_same, ← ni_app, List.range_succ, List.flatMap_append]
        simp only [List.flatMap_cons, List.flatMap_nil, List.append_nil]
        rfl
    · rintro σ H1 ⟨v, rfl, s1, e1⟩
      refine ⟨_, rfl, c.n, rfl, fc.sz, _, _, rfl, rfl, _, rfl, ?_⟩
      obtain ⟨r1, r2, r3, r4, r5⟩ := mid_range c.n fc.sz.mem
      refine ite2 (fun z => ?_) (fun z => ?_)
      · have z' : 0 ≤ midI c.n := of_decide_eq_true z
        refine ⟨_, rfl, .inl ⟨rfl, _, SqL.of e1⟩, _, rfl, c.n, rfl, fc.sz, p, _, _, rfl, rfl, e1, ?_, ?_⟩
        · rw [ni_len]
          exact smallL (by have := flatMap_len fc 4; omega)
        · refine ⟨_, rfl, q _ p (s1.own hp) hp ?_⟩
          rw [upd_same]
          have em : V.int (midI c.n) = vi (midI c.n).toNat := congrArg V.int (by omega)
          rw [em, ni_snoc, ← r5 z']
          rfl
      · have z' : midI c.n < 0 := by
          have : ¬ 0 ≤ midI c.n := fun y => z (decide_eq_true y)
          omega
        refine ⟨_, rfl, q _ p s1 hp ?_⟩
        rw [e1]
        have : c.order = (List.range 4).flatMap c.seen ++ Uw56.middle c.n := rfl
        rw [this, r4.mp z', List.append_nil]
/-! ### written -/
def spWr (K : PySem.W.Frag) : Sp := fun vs H Q _ => ∃ (a b : Addr) (c : Card) (t : List Nat), vs = [.ref a, .ref b] ∧ Fits c ∧ SqL K H a (ni c.order) ∧ SqL K H b (ni t) ∧ t.length = c.n * c.n ∧
  ∀ (H' : Hp) (p : Addr), Same H H' → H p = none → H' p = some (.lst (ni (c.write t))) → Q (.ref p) H'
abbrev nWr : List Str := ["order", "text", "found", "cell", "letter"]
theorem scWr : FnScope nWr ["order", "text"] (defScope (topS 17)) := ⟨rfl, rfl, rfl, by decide +kernel, rfl, by decide +kernel, by decide +kernel⟩
theorem ok_wr {f : Addr} {fd : FuncData} (F : Fun K "written" "written" (topS 17) f fd) (T : Blt mg) : FnOk P w K mg base CX0 1 f fd ["order", "text"] (spWr K) := by
  refine F.ok scWr (fun vs H Q E h => ?_) (fun cdv A outer s H vs Q E hr h => ?_)
  · obtain ⟨a, b, c, t, rfl, _⟩ := h
    rfl
  · refine ⟨_, pss_cons (ps_set (i := 2) scWr.nd rfl (.inl rfl) (pe_op op_rep (pe_lst (pa_cons pe_int pa_nil)) (pe_callB call_len (by rfl) T.len (by decide +kernel) (pa_cons (pv 0) pa_nil))))
      (pss_cons (ps_for PassesOwn.never rfl (pi_zip (by rfl) T.zip (pa_cons (pv 0) (pa_cons (pv 1) pa_nil))) (pg_tup rfl (pgs_cons (pg_name (i := 3) scWr.nd rfl (.inl rfl)) (pgs_cons (pg_name (i := 4) scWr.nd rfl (.inl rfl)) pgs_nil)))
        (pss_one (ps_asg (pv 4) (pg_sub (pv 2) (pv 3) set_list))))
      (pss_one (ps_ret (pv 2)))), ?_⟩
    obtain ⟨a, b, c, t, rfl, fc, hA, hB, ht, q⟩ := h
    have hle := fc.sz.le
    have ol := fc.olen
    refine ⟨by show 1 ≤ sizeLine; decide, fun p0 hp0 => ?_⟩
    have s0 : Same H (upd H p0 (.lst [.int 0])) := (Same.refl H).new hp0
    refine ⟨_, rfl, _, c.order.length, rfl, .inl ⟨_, s0.seq hA, by rw [ni_len]⟩, ?_⟩
    refine ⟨p0, _, _, rfl, rfl, upd_same, by omega, by omega, by show 1 * _ ≤ _; exact small (by omega), fun p hp => ?_⟩
    have hpp : H p = none := s0.free hp
    have s1 := s0.new (o := .lst (List.replicate (c.order.length : Int).toNat [V.int 0]).flatten) hp
    refine ⟨_, rfl, _, rfl, a, b, _, _, rfl, s1.seq hA, s1.seq hB, ?_⟩
    refine RZ.for_zipL (xs := ni c.order) (ys := ni t) (by rw [ni_len, ni_len, ol, ht]) (fun i σ H' => ∃ u v, σ = [some (.ref a), some (.ref b), some (.ref p), u, v] ∧ Same H H' ∧ H' p = some (.lst (ni (wr c t i)))) ?_ ?_ ?_ ?_
    · refine ⟨none, none, rfl, s1, ?_⟩
      rw [upd_same, fc.wr_zero, ni_rep, flat1]
      rfl
    · rintro i σ H1 ⟨u, v, rfl, s2, e2⟩
      exact ⟨s2.seq hA, s2.seq hB⟩
    · rintro i x y T0 σ H1 hx hy ⟨u, v, rfl, s2, e2⟩ hT
      obtain ⟨k, hk, rfl⟩ := ni_get_inv hx
      obtain ⟨z, hz, rfl⟩ := ni_get_inv hy
      have hi : i < c.n * c.n := by
        rw [← ol]
        exact (List.getElem?_eq_some_iff.mp hk).1
      have ek : c.next i = k := by
        unfold Card.next
        rw [List.getD_eq_getElem?_getD, hk]
        rfl
      have hkn : k < c.n * c.n := ek ▸ fc.next_lt hi
      have npT : p ≠ T0 := ne_of_none e2 hT
      refine ⟨T0, _, rfl, SqT.of upd_same, rfl, _, _, rfl, _, _, rfl, rfl, ?_⟩
      refine ⟨_, rfl, _, rfl, _, rfl, p, _, _, k, rfl, rfl, by rw [upd_ne npT]; exact e2, ixN_nat (by rw [ni_len, wr_len]; exact hkn), ?_⟩
      refine ⟨_, _, rfl, (s2.new hT).own hpp, ?_⟩
      rw [upd_same, ni_set, ← ek, fc.wr_succ hi hz]
    · rintro σ H1 ⟨u, v, rfl, s2, e2⟩
      rw [ni_len, ol, fc.wr_all] at e2
      exact ⟨_, rfl, q H1 p s2 hpp e2⟩
/-! ### read_out -/
def spRo (K : PySem.W.Frag) : Sp := fun vs H Q _ => ∃ (a b : Addr) (c : Card) (t : List Nat), vs = [.ref a, .ref b] ∧ Fits c ∧ SqL K H a (ni c.order) ∧ SqL K H b (ni t) ∧ t.length = c.n * c.n ∧
  ∀ (H' : Hp) (p : Addr), Same H H' → H p = none → H' p = some (.lst (ni (c.read t))) → Q (.ref p) H'
abbrev nRo : List Str := ["order", "text", "cell"]
theorem scRo : FnScope nRo ["order", "text"] (defScope (topS 18)) := ⟨rfl, rfl, rfl, by decide +kernel, rfl, by decide +kernel, by decide +kernel⟩
theorem ok_ro {f : Addr} {fd : FuncData} (F : Fun K "read_out" "read_out" (topS 18) f fd) : FnOk P w K mg base CX0 1 f fd ["order", "text"] (spRo K) := by
  refine F.ok scRo (fun vs H Q E h => ?_) (fun cdv A outer s H vs Q E hr h => ?_)
  · obtain ⟨a, b, c, t, rfl, _⟩ := h
    rfl
  · refine ⟨_, pss_one (ps_ret (pe_lc (own := [("cell", 2)]) (g := gName 2) (tt := tYes) rfl scRo.nd (pi_list (pv 0)) (blkOk_by (N := nRo) (sc := defScope (topS 18)) (by decide +kernel))
          (fun _ _ _ _ _ => pg_name (i := 2) scRo.nd rfl (Or.inl rfl)) (fun _ _ _ _ _ => pts_nil) (fun _ _ _ _ _ => pe_ix (r := rIxL K) ix_list (pv 1) (pv 2) (fun _ _ => rfl)))), ?_⟩
    obtain ⟨a, b, c, t, rfl, fc, hA, hB, ht, q⟩ := h
    have hle := fc.sz.le
    have ol := fc.olen
    refine ⟨_, rfl, a, rfl, ⟨_, hA⟩, fun D hD => ?_⟩
    refine lc_fm (L := c.order) (fun _ => true) (fun x => vi (t.getD x 0)) hA hD (by omega) (fun j x H2 hx s2 => ?_) mono_name (fun H2 s2 e2 => ?_)
    · refine ⟨rfl, fun R h => h, fun _ R h => ?_⟩
      have hx' : x < c.n * c.n := fc.omem.mp (List.mem_of_getElem? hx)
      have ht' : t[x]? = some (t.getD x 0) := by
        have : x < t.length := by omega
        simp [this]
      exact ⟨_, rfl, _, rfl, b, _, _, _, rfl, rfl, s2.seq hB, at_of (j := x) rfl (ni_get ht'), h⟩
    · refine q H2 D s2 hD ?_
      rw [e2, filter_true]
      refine congrArg (fun z => some (HO.lst z)) ?_
      unfold ni Card.read
      rw [List.map_map]
      rfl
/-! ### greatest_divisor -/
def spGd : Sp := fun vs H Q _ => ∃ a b : Nat, vs = [vi a, vi b] ∧ Q (vi (Nat.gcd a b)) H
theorem scGd : FnScope ["one", "other"] ["one", "other"] (defScope (topS 19)) := ⟨rfl, rfl, rfl, by decide +kernel, rfl, by decide +kernel, by decide +kernel⟩
def snd (σ : L2.St) : Nat := match σ with
  | [_, some (.int y)] => y.toNat
  | _ => 0
theorem ok_gd {f : Addr} {fd : FuncData} (F : Fun K "greatest_divisor" "greatest_divisor" (topS 19) f fd) : FnOk P w K mg base CX0 1 f fd ["one", "other"] spGd := by
  refine F.ok scGd (fun vs H Q E h => ?_) (fun cdv A outer s H vs Q E hr h => ?_)
  · obtain ⟨a, b, rfl, _⟩ := h
    rfl
  · refine ⟨_, pss_cons (ps_while PassesOwn.never (pt_cmpR op_gt (pv 1) pe_int (nomark _)) (pss_one (ps_par (i := 0) (j := 1) (by rfl) scGd.nd rfl rfl (by decide) rfl rfl (pa_cons (pv 1) (pa_cons (pe_op op_mod (pv 0) (pv 1)) pa_nil)) (by rfl))))
      (pss_one (ps_ret (pv 0))), ?_⟩
    obtain ⟨a, b, rfl, q⟩ := h
    refine while_by (fun σ H' => ∃ x y : Nat, σ = [some (vi x), some (vi y)] ∧ Nat.gcd x y = Nat.gcd a b ∧ H' = H) (fun σ _ => snd σ) ⟨a, b, rfl, rfl, rfl⟩ ?_ ?_
    · rintro σ H1 ⟨x, y, rfl, e, rfl⟩
      refine ⟨_, rfl, _, _, rfl, rfl, _, rfl, ?_⟩
      refine ite2 (fun c => ?_) (fun c => ?_)
      · have hy : 0 < y := by
          have := of_decide_eq_true c
          omega
        refine ⟨_, rfl, _, rfl, _, rfl, _, _, rfl, rfl, (by show (0 : Int) < (y : Int); omega), _, _, rfl, ⟨y, x % y, ?_, ?_, rfl⟩, ?_⟩
        · show [some (V.int (y : Int)), some (V.int ((x : Int) % (y : Int)))] = _
          rw [← Int.natCast_emod]
        · rw [← e, Nat.gcd_comm x y, Nat.gcd_rec y x, Nat.gcd_comm]
        · show ((x : Int) % (y : Int)).toNat < (y : Int).toNat
          rw [← Int.natCast_emod]
          exact Nat.mod_lt _ hy
      · have hy : y = 0 := by
          have : ¬ (0 : Int) < (y : Int) := fun z => c (decide_eq_true z)
          omega
        subst hy
        rw [Nat.gcd_zero_right] at e
        refine ⟨_, rfl, ?_⟩
        rw [← e] at q
        exact q
    · intro σ H1 Q1 Q2 hm h
      obtain ⟨v, e, i, j, e1, e2, k, e3, h⟩ := h
      exact ⟨v, e, i, j, e1, e2, k, e3, hm _ _ h⟩
/-! ### ring_length -/
def spRl (K : PySem.W.Frag) : Sp := fun vs H Q _ => ∃ (a : Addr) (c : Card) (k : Nat), vs = [.ref a, vi k] ∧ Fits c ∧ SqL K H a (ni c.order) ∧ k < c.n * c.n ∧ Q (vi (per c k)) H
abbrev nRl : List Str := ["order", "cell", "found", "here"]
theorem scRl : FnScope nRl ["order", "cell"] (defScope (topS 20)) := ⟨rfl, rfl, rfl, by decide +kernel, rfl, by decide +kernel, by decide +kernel⟩
def thd (σ : L2.St) : Nat := match σ with
  | [_, _, some (.int y), _] => y.toNat
  | _ => 0
theorem order_at {c : Card} (fc : Fits c) {i : Nat} (hi : i < c.n * c.n) : atI (ni c.order) (i : Int) = some (vi (c.next i)) := by
  have hl : i < c.order.length := by rw [fc.olen]; exact hi
  refine at_of rfl (ni_get ?_)
  rw [next_get hl]
  simp [hl]
theorem ok_rl {f : Addr} {fd : FuncData} (F : Fun K "ring_length" "ring_length" (topS 20) f fd) : FnOk P w K mg base CX0 1 f fd ["order", "cell"] (spRl K) := by
  refine F.ok scRl (fun vs H Q E h => ?_) (fun cdv A outer s H vs Q E hr h => ?_)
  · obtain ⟨a, c, k, rfl, _⟩ := h
    rfl
  · refine ⟨_, pss_cons (ps_set (i := 2) scRl.nd rfl (.inl rfl) pe_int)
      (pss_cons (ps_set (i := 3) scRl.nd rfl (.inl rfl) (pe_ix ix_list (pv 0) (pv 1) (fun _ _ => rfl)))
      (pss_cons (ps_while PassesOwn.never (pt_cmpR op_ne (pv 3) (pv 1) (nomark _)) (pss_cons (ps_set (i := 3) scRl.nd rfl (.inl rfl) (pe_ix ix_list (pv 0) (pv 3) (fun _ _ => rfl)))
        (pss_one (ps_set (i := 2) scRl.nd rfl (.inl rfl) (pe_op op_add (pv 2) pe_int)))))
      (pss_one (ps_ret (pv 2))))), ?_⟩
    obtain ⟨a, c, k, rfl, fc, hA, hk, q⟩ := h
    obtain ⟨p1, p2, p3, p4⟩ := fc.per_is hk
    refine ⟨_, rfl, _, rfl, a, _, _, _, rfl, rfl, hA, order_at fc hk, ?_⟩
    refine while_by (fun σ H' => ∃ m : Nat, σ = [some (.ref a), some (vi k), some (vi m), some (vi (it c m k))] ∧ 1 ≤ m ∧ m ≤ per c k ∧ H' = H) (fun σ _ => per c k - thd σ) ⟨1, rfl, Nat.le_refl _, p1, rfl⟩ ?_ ?_
    · rintro σ H1 ⟨m, rfl, h1, h2, rfl⟩
      refine ⟨_, rfl, _, rfl, rfl, _, rfl, ?_⟩
      rw [vi_eq]
      refine ite2 (fun z => ?_) (fun z => ?_)
      · have ne : it c m k ≠ k := fun y => by
          rw [decide_eq_true y] at z
          cases z
        have lt : m < per c k := by
          rcases Nat.lt_or_ge m (per c k) with y | y
          · exact y
          · have : m = per c k := by omega
            rw [this] at ne
            exact absurd p3 ne
        refine ⟨_, rfl, _, rfl, a, _, _, _, rfl, rfl, hA, order_at fc (fc.it_lt hk), ?_⟩
        refine ⟨_, rfl, _, _, rfl, rfl, ⟨m + 1, ?_, by omega, by omega, rfl⟩, ?_⟩
        · rw [it_succ]
          rfl
        · show per c k - ((m : Int) + 1).toNat < per c k - (m : Int).toNat
          omega
      · have e : it c m k = k := Classical.byContradiction fun y => z (by rw [decide_eq_false y]; rfl)
        have em : m = per c k := by
          rcases Nat.lt_or_ge m (per c k) with y | y
          · exact absurd e (p4 m h1 y)
          · omega
        refine ⟨_, rfl, ?_⟩
        rw [em]
        exact q
    · intro σ H1 Q1 Q2 hm h
      obtain ⟨v, e, v', e', h1, k', e3, h⟩ := h
      exact ⟨v, e, v', e', h1, k', e3, hm _ _ h⟩
/-! ### least_again -/
def spLa (K : PySem.W.Frag) : Sp := fun vs H Q _ => ∃ (a : Addr) (c : Card), vs = [.ref a] ∧ Fits c ∧ SqL K H a (ni c.order) ∧ Q (vi c.back) H
abbrev nLa : List Str := ["order", "found", "cell", "length"]
theorem scLa : FnScope nLa ["order"] (defScope (topS 21)) := ⟨rfl, rfl, rfl, by decide +kernel, rfl, by decide +kernel, by decide +kernel⟩
theorem ok_la {f : Addr} {fd : FuncData} (F : Fun K "least_again" "least_again" (topS 21) f fd) (T : Blt mg) (D1 : Def P w K mg base 1 "ring_length" ["order", "cell"] (spRl K)) (D2 : Def P w K mg base 1 "greatest_divisor" ["one", "other"] spGd) : FnOk P w K mg base CX0 2 f fd ["order"] (spLa K) := by
  obtain ⟨f1, fd1, G1, m1, k1, b1⟩ := D1
  obtain ⟨f2, fd2, G2, m2, k2, b2⟩ := D2
  refine F.ok scLa (fun vs H Q E h => ?_) (fun cdv A outer s H vs Q E hr h => ?_)
  · obtain ⟨a, c, rfl, _⟩ := h
    rfl
  · refine ⟨_, pss_cons (ps_set (i := 1) scLa.nd rfl (.inl rfl) pe_int)
      (pss_cons (ps_for PassesOwn.never rfl (pi_range1 (by rfl) T.range (pa_cons (pe_callB call_len (by rfl) T.len (by decide +kernel) (pa_cons (pv 0) pa_nil)) pa_nil)) (pg_name (i := 2) scLa.nd rfl (.inl rfl))
        (pss_cons (ps_set (i := 3) scLa.nd rfl (.inl rfl) (pe_call G1 hr (by rfl) m1 k1 b1 .nil pass0 (pa_cons (pv 0) (pa_cons (pv 2) pa_nil))))
        (pss_one (ps_set (i := 1) scLa.nd rfl (.inl rfl) (pe_op op_mul (pe_op op_fdiv (pv 1) (pe_call G2 hr (by rfl) m2 k2 b2 .nil pass0 (pa_cons (pv 1) (pa_cons (pv 3) pa_nil)))) (pv 3))))))
      (pss_one (ps_ret (pv 1)))), ?_⟩
    obtain ⟨a, c, rfl, fc, hA, q⟩ := h
    have hle := fc.sz.le
    have ol := fc.olen
    refine ⟨_, rfl, _, c.n * c.n, rfl, .inl ⟨_, hA, by rw [ni_len, ol]⟩, ((c.n * c.n : Nat) : Int), rfl, by omega, by omega, for_range (lo := 0) (n := c.n * c.n) (fun i σ H' => ∃ u v, σ = [some (.ref a), some (vi (lca c i)), u, v] ∧ H' = H) ⟨none, none, rfl, rfl⟩ ?_ ?_⟩
    · rintro i σ H1 hi ⟨u, v, rfl, rfl⟩
      have ei : V.int (0 + (i : Int)) = vi i := congrArg V.int (Int.zero_add _)
      rw [ei]
      obtain ⟨p1, p2, p3, p4⟩ := fc.per_is hi
      obtain ⟨lp, ll⟩ := fc.lca_le (Nat.le_of_lt hi)
      have gpos : 0 < Nat.gcd (lca c i) (per c i) := Nat.gcd_pos_of_pos_left _ lp
      have gle : Nat.gcd (lca c i) (per c i) ≤ per c i := Nat.gcd_le_right _ (by omega)
      refine ⟨_, rfl, _, rfl, a, c, i, rfl, fc, hA, hi, ?_⟩
      refine ⟨_, rfl, _, rfl, _, rfl, lca c i, per c i, rfl, _, _, rfl, rfl, ⟨by omega, by omega⟩, _, rfl, _, _, rfl, rfl, .inl ⟨?_, ?_⟩, some (vi i), some (vi (per c i)), ?_, rfl⟩
      · have h1 : 0 ≤ ((lca c i : Nat) : Int) / ((Nat.gcd (lca c i) (per c i) : Nat) : Int) := Int.ediv_nonneg (by omega) (by omega)
        omega
      · have h1 : ((lca c i : Nat) : Int) / ((Nat.gcd (lca c i) (per c i) : Nat) : Int) ≤ (lca c i : Nat) := Int.ediv_le_self _ (by omega)
        have h2 : ((lca c i : Nat) : Int) ≤ 144403552893600 := by
          have : lca c i ≤ 144403552893600 := ll
          omega
        omega
      · rw [lca_succ, ← lca_step lp]
        rfl
    · rintro σ H1 ⟨u, v, rfl, rfl⟩
      rw [fc.lca_all]
      exact ⟨_, rfl, q⟩
/-! ### written_often -/
def spWt (K : PySem.W.Frag) : Sp := fun vs H Q _ => ∃ (a b : Addr) (c : Card) (k : Nat) (t : List Nat), vs = [.ref a, vi k, .ref b] ∧ Fits c ∧ SqL K H a (ni c.order) ∧ SqL K H b (ni t) ∧ t.length = c.n * c.n ∧
  ∀ (H' : Hp) (p : Addr), Same H H' → H p = none → H' p = some (.lst (ni (c.again k t))) → Q (.ref p) H'
abbrev nWt : List Str := ["order", "many", "text", "found", "turn"]
theorem scWt : FnScope nWt ["order", "many", "text"] (defScope (topS 22)) := ⟨rfl, rfl, rfl, by decide +kernel, rfl, by decide +kernel, by decide +kernel⟩
theorem ok_wt {f : Addr} {fd : FuncData} (F : Fun K "written_often" "written_often" (topS 22) f fd) (T : Blt mg) (D1 : Def P w K mg base 2 "least_again" ["order"] (spLa K)) (D2 : Def P w K mg base 1 "written" ["order", "text"] (spWr K)) : FnOk P w K mg base CX0 3 f fd ["order", "many", "text"] (spWt K) := by
  obtain ⟨f1, fd1, G1, m1, k1, b1⟩ := D1
  obtain ⟨f2, fd2, G2, m2, k2, b2⟩ := D2
  refine F.ok scWt (fun vs H Q E h => ?_) (fun cdv A outer s H vs Q E hr h => ?_)
  · obtain ⟨a, b, c, k, t, rfl, _⟩ := h
    rfl
  · have hr1 : Room 1 _ := hr.mono (by decide)
    refine ⟨_, pss_cons (ps_set (i := 3) scWt.nd rfl (.inl rfl) (pe_callTy call_list_of (by rfl) T.list (by decide +kernel) (pa_cons (pv 2) pa_nil)))
      (pss_cons (ps_for PassesOwn.never rfl (pi_range1 (by rfl) T.range (pa_cons (pe_op op_mod (pv 1) (pe_call G1 hr (by rfl) m1 k1 b1 .nil pass0 (pa_cons (pv 0) pa_nil))) pa_nil)) (pg_name (i := 4) scWt.nd rfl (.inl rfl))
        (pss_one (ps_set (i := 3) scWt.nd rfl (.inl rfl) (pe_call G2 hr1 (by rfl) m2 k2 b2 .nil pass0 (pa_cons (pv 0) (pa_cons (pv 3) pa_nil))))))
      (pss_one (ps_ret (pv 3)))), ?_⟩
    obtain ⟨a, b, c, k, t, rfl, fc, hA, hB, ht, q⟩ := h
    obtain ⟨bp, bl⟩ := fc.back_pos
    refine ⟨_, rfl, b, _, rfl, .inl hB, fun p hp => ?_⟩
    have s0 : Same H (upd H p (.lst (ni t))) := (Same.refl H).new hp
    have lt : k % c.back < c.back := Nat.mod_lt _ bp
    have bl' : c.back ≤ 144403552893600 := bl
    refine ⟨_, rfl, _, rfl, a, c, rfl, fc, s0.seq hA, _, _, rfl, rfl, (by show (0 : Int) < (c.back : Int); omega), ((k % c.back : Nat) : Int), by rw [Int.natCast_emod], by omega, by omega, ?_⟩
    refine for_range (lo := 0) (n := k % c.back) (fun i σ H' => ∃ p1 v, σ = [some (.ref a), some (vi k), some (.ref b), some (.ref p1), v] ∧ Same H H' ∧ H p1 = none ∧ H' p1 = some (.lst (ni (wrk c i t)))) ⟨p, none, rfl, s0, hp, upd_same⟩ ?_ ?_
    · rintro i σ H1 hi ⟨p1, v, rfl, s1, n1, e1⟩
      refine ⟨_, rfl, _, rfl, a, p1, c, wrk c i t, rfl, fc, s1.seq hA, SqL.of e1, wrk_len ht, fun H2 p2 s2 n2 e2 => ?_⟩
      refine ⟨p2, _, rfl, s1.trans s2, s1.free n2, ?_⟩
      rw [e2, wrk_succ]
    · rintro σ H1 ⟨p1, v, rfl, s1, n1, e1⟩
      rw [fc.wrk_is ht] at e1
      exact ⟨_, rfl, q H1 p1 s1 n1 e1⟩
end
end Hc
namespace Hc
open PySem PySem.Spec PyProof.Rows L2
open Uw56 (Card turn turns rising orbit orbits firstCard cells due)
theorem inV_int {l : List Nat} {z : Int} : inV (.int z) (ni l) = true ↔ ∃ x ∈ l, (x : Int) = z := by
  unfold inV ni
  rw [List.any_map, List.any_eq_true]
  constructor
  · rintro ⟨x, hx, e⟩
    have e1 : ((x : Int) == z) = true := e
    exact ⟨x, hx, eq_of_beq e1⟩
  · rintro ⟨x, hx, e⟩
    exact ⟨x, hx, (beq_iff_eq.mpr e : ((x : Int) == z) = true)⟩
theorem cut_first (xs : List V) : cutV xs none (some 1) = xs.take 1 := by
  unfold cutV
  have e : HT.sIx xs.length xs.length (some 1) = min 1 xs.length := HT.sIx_nat xs.length xs.length 1
  rw [e, HT.sIx_none, List.drop_zero, Nat.sub_zero]
  cases xs with
  | nil => rfl
  | cons x r =>
    have e2 : min 1 (x :: r).length = 1 := by
      rw [List.length_cons]
      omega
    rw [e2]
theorem ni_take {l : List Nat} {k : Nat} : ni (l.take k) = (ni l).take k := List.map_take
theorem vi_mul {a b : Nat} : V.int ((a : Int) * (b : Int)) = vi (a * b) := congrArg V.int (Int.natCast_mul a b).symm
abbrev rLenK (K : PySem.W.Frag) : List V → Hp → VK → Prop := fun xs H Q => ∃ x n, xs = [x] ∧ LenV K x H n ∧ Q (.int n) H
def knownL (n : Nat) (yes no : List Nat) : List Nat := if Uw56.known n yes no = 0 then [] else Uw56.firstKnown n yes no
theorem kFirst_le : ∀ {l : List (List Nat)}, (kFirst l).length ≤ l.length
  | [] => Nat.le_refl _
  | o :: l => by
    unfold kFirst
    rw [List.flatMap_cons, List.length_append, List.length_cons]
    have := kFirst_le (l := l)
    unfold kFirst at this
    have h1 := List.length_take_le 1 o
    omega
section
variable {P : Program} {w : World} {K : PySem.W.Frag} {mg : Str → Option Value} {base : Heap}
/-! ### known_cards -/
def spKn (K : PySem.W.Frag) : Sp := fun vs H Q _ => ∃ (n : Nat) (a b : Addr) (yes no : List Nat), vs = [vi n, .ref a, .ref b] ∧ Sz n ∧ SqL K H a (ni yes) ∧ SqL K H b (ni no) ∧
  ∀ (H' : Hp) (p q : Addr), Same H H' → H' p = some (.tup [vi (Uw56.known n yes no), .ref q]) → H' q = some (.lst (ni (knownL n yes no))) → Q (.ref p) H'
abbrev nKn : List Str := ["size", "holes", "others", "many", "first", "some", "told", "free", "cell"]
theorem scKn : FnScope nKn ["size", "holes", "others"] (defScope (topS 14)) := ⟨rfl, rfl, rfl, by decide +kernel, rfl, by decide +kernel, by decide +kernel⟩
theorem ok_kn {f : Addr} {fd : FuncData} (F : Fun K "known_cards" "known_cards" (topS 14) f fd) (T : Blt mg) (D1 : Def P w K mg base 1 "middle" ["size"] spMid) (D2 : Def P w K mg base 3 "all_mates" ["size"] (spAm K)) : FnOk P w K mg base CX0 4 f fd ["size", "holes", "others"] (spKn K) := by
  obtain ⟨f1, fd1, G1, m1, k1, b1⟩ := D1
  obtain ⟨f2, fd2, G2, m2, k2, b2⟩ := D2
  refine F.ok scKn (fun vs H Q E h => ?_) (fun cdv A outer s H vs Q E hr h => ?_)
  · obtain ⟨n, a, b, yes, no, rfl, _⟩ := h
    rfl
  · have hr1 : Room 1 _ := hr.mono (by decide)
    refine ⟨_, pss_cons (ps_if (pt_cmpR op_in_seq (pe_call G1 hr1 (by rfl) m1 k1 b1 .nil pass0 (pa_cons (pv 0) pa_nil)) (pv 1) rfl) (pss_one (ps_ret (pe_tup (pa_cons pe_int (pa_cons (pe_lst pa_nil) pa_nil))))) pss_nil)
      (pss_cons (ps_set (i := 3) scKn.nd rfl (.inl rfl) pe_int)
      (pss_cons (ps_set (i := 4) scKn.nd rfl (.inl rfl) (pe_lst pa_nil))
      (pss_cons (ps_for PassesOwn.never rfl (pi_list (pe_call G2 hr (by rfl) m2 k2 b2 .nil pass0 (pa_cons (pv 0) pa_nil))) (pg_name (i := 5) scKn.nd rfl (.inl rfl))
        (pss_cons (ps_set (i := 6) scKn.nd rfl (.inr rfl) (pe_lc (own := [("cell", 8)]) (g := gName 8) rfl scKn.nd (pi_list (pv 5)) (blkOk_by (N := nKn) (sc := defScope (topS 14)) (by decide +kernel))
          (fun _ _ _ _ _ => pg_name (i := 8) scKn.nd rfl (Or.inl rfl)) (fun _ _ _ _ _ => pts_one (pt_cmpR (r := rIn K false) op_in_seq (pv 8) (pv 1) rfl)) (fun _ _ _ _ _ => pv 8)))
        (pss_cons (ps_set (i := 7) scKn.nd rfl (.inr rfl) (pe_lc (own := [("cell", 8)]) (g := gName 8) rfl scKn.nd (pi_list (pv 5)) (blkOk_by (N := nKn) (sc := defScope (topS 14)) (by decide +kernel))
          (fun _ _ _ _ _ => pg_name (i := 8) scKn.nd rfl (Or.inl rfl)) (fun _ _ _ _ _ => pts_one (pt_cmpR (r := rIn K true) op_notIn_seq (pv 8) (pv 2) rfl)) (fun _ _ _ _ _ => pv 8)))
        (pss_cons (ps_if (pt_cmpR op_gt (pe_callB call_len (by rfl) T.len (by decide +kernel) (pa_cons (pv 6) pa_nil)) pe_int (nomark _))
          (pss_one (ps_set (i := 7) scKn.nd rfl (.inr rfl) (pe_lc (own := [("cell", 8)]) (g := gName 8) rfl scKn.nd (pi_list (pv 6)) (blkOk_by (N := nKn) (sc := defScope (topS 14)) (by decide +kernel))
            (fun _ _ _ _ _ => pg_name (i := 8) scKn.nd rfl (Or.inl rfl)) (fun _ _ _ _ _ => pts_one (PW.pt (pw_and (pt_cmpR (r := rIn K false) op_in_seq (pv 8) (pv 7) rfl) (pw_and1 (pt_cmpR op_eq (pe_callB (r := rLenK K) call_len (by rfl) T.len (by decide +kernel) (pa_cons (pv 6) pa_nil)) pe_int (nomark _)))))) (fun _ _ _ _ _ => pv 8)))) pss_nil)
        (pss_cons (ps_set (i := 3) scKn.nd rfl (.inl rfl) (pe_op op_mul (pv 3) (pe_callB call_len (by rfl) T.len (by decide +kernel) (pa_cons (pv 7) pa_nil))))
        (pss_one (ps_set (i := 4) scKn.nd rfl (.inl rfl) (pe_op op_cat (pv 4) (pe_slice sl_list (pv 7) po_none (po_some pe_int))))))))))
      (pss_cons (ps_if (pt_cmpR op_eq (pv 3) pe_int (nomark _)) (pss_one (ps_ret (pe_tup (pa_cons pe_int (pa_cons (pe_lst pa_nil) pa_nil))))) pss_nil)
      (pss_one (ps_ret (pe_tup (pa_cons (pv 3) (pa_cons (pe_callB cr_sorted (by rfl) T.sorted (by decide +kernel) (pa_cons (pv 4) pa_nil)) pa_nil))))))))), ?_⟩
    obtain ⟨n, a, b, yes, no, rfl, hn, hA, hB, q⟩ := h
    have hle := hn.le
    obtain ⟨r1, r2, r3, r4, r5⟩ := mid_range n hn.mem
    have none0 : Uw56.known n yes no = 0 → ∀ H1, Same H H1 → ∀ p1, H1 p1 = none → ∀ p2, (upd H1 p1 (.lst [])) p2 = none → Q (.ref p2) (upd (upd H1 p1 (.lst [])) p2 (.tup [V.int 0, .ref p1])) := fun e H1 s1 p1 hp1 p2 hp2 => by
      refine q _ p2 p1 ((s1.new hp1).new hp2) ?_ ?_
      · rw [upd_same, e]
        rfl
      · have ne : p1 ≠ p2 := fun z => by
          rw [← z, upd_same] at hp2
          cases hp2
        rw [upd_ne ne, upd_same]
        unfold knownL
        rw [if_pos e]
        rfl
    refine ⟨_, rfl, n, rfl, hn, _, rfl, a, _, rfl, .inl hA, rfl, flat_ni, _, rfl, ?_⟩
    show if inV (.int (midI n)) (ni yes) = true then _ else _
    refine ite2 (fun c => ?_) (fun c => ?_)
    · obtain ⟨x, hx, ex⟩ := inV_int.mp c
      have lx : x < n * n := by omega
      have mx : x ∈ Uw56.middle n := (mid_iff hn lx).mpr ex.symm
      refine ⟨Nat.zero_le _, fun p1 hp1 => ⟨by show 2 ≤ sizeLine; decide, fun p2 hp2 => ?_⟩⟩
      exact none0 (known_mid mx hx) H (Same.refl H) p1 hp1 p2 hp2
    · have hm : ∀ k ∈ Uw56.middle n, k ∉ yes := fun k hk hy => c (inV_int.mpr ⟨k, hy, ((mid_iff hn (mem_cells.mp ((middle_facts n hn.mem).2 k hk))).mp hk).symm⟩)
      have ek := known_is hn (no := no) hm
      have e9 := orbits_le hn
      refine ⟨Nat.zero_le _, fun p0 hp0 => ?_⟩
      have s0 : Same H (upd H p0 (.lst [])) := (Same.refl H).new hp0
      refine ⟨_, rfl, n, rfl, hn, fun H1 pa ps s1 na ea ra => ?_⟩
      have sH : Same H H1 := s0.trans s1
      have ep0 : H1 p0 = some (.lst []) := s1 _ _ upd_same
      refine ⟨pa, rfl, ⟨_, SqL.of ea⟩, for_list (K := K) (a := pa) (xs := nr ps) (fun i σ H' => ∃ pf v5 v6 v7, σ = [some (vi n), some (.ref a), some (.ref b), some (vi (kMany (((orbits n).take i).map fun o => freeOf o yes no))), some (.ref pf), v5, v6, v7, none] ∧
        Same H1 H' ∧ H' pf = some (.lst (ni (kFirst (((orbits n).take i).map fun o => freeOf o yes no))))) ⟨p0, none, none, none, rfl, Same.refl H1, ep0⟩ (fun i σ H' _ ⟨_, _, _, _, _, s2, _⟩ => s2.seq (SqL.of ea)) ?_ ?_⟩
      · rintro i v σ H2 hv ⟨pf, v5, v6, v7, rfl, s2, e2⟩
        obtain ⟨x, hx, rfl⟩ := nr_get hv
        obtain ⟨o, ho, eo⟩ := ra.get hx
        have hom := List.mem_of_getElem? ho
        have lo := orbit_len hn hom
        have exo : H2 x = some (.lst (ni o)) := s2 _ _ eo
        have sA : ∀ {H3}, Same H2 H3 → SqL K H3 a (ni yes) := fun s3 => ((sH.trans s2).trans s3).seq hA
        have sB : ∀ {H3}, Same H2 H3 → SqL K H3 b (ni no) := fun s3 => ((sH.trans s2).trans s3).seq hB
        refine ⟨_, rfl, x, rfl, ⟨_, SqL.of exo⟩, fun D hD => ?_⟩
        refine lc_fm (L := o) (fun c => yes.contains c) vi (SqL.of exo) hD (by omega) (fun j z H3 hz s3 => ⟨rfl, fun R h => ?_, fun _ R h => ⟨_, rfl, h⟩⟩) mono_name (fun H3 s3 e3 => ?_)
        · refine ⟨_, rfl, _, rfl, a, _, rfl, .inl (sA s3), rfl, flat_ni, _, rfl, ?_⟩
          show R (inV (vi z) (ni yes)) H3
          rw [inV_ni]
          exact h
        have exo3 : H3 x = some (.lst (ni o)) := s3 _ _ exo
        refine ⟨_, rfl, x, rfl, ⟨_, SqL.of exo3⟩, fun D2 hD2 => ?_⟩
        refine lc_fm (L := o) (fun c => !no.contains c) vi (SqL.of exo3) hD2 (by omega) (fun j z H4 hz s4 => ⟨rfl, fun R h => ?_, fun _ R h => ⟨_, rfl, h⟩⟩) mono_name (fun H4 s4 e4 => ?_)
        · refine ⟨_, rfl, _, rfl, b, _, rfl, .inl (sB (s3.trans s4)), rfl, flat_ni, _, rfl, ?_⟩
          show R (!inV (vi z) (ni no)) H4
          rw [inV_ni]
          exact h
        have e3' : H4 D = some (.lst (ni (o.filter fun c => yes.contains c))) := s4 _ _ e3
        have e4' : H4 D2 = some (.lst (ni (o.filter fun c => !no.contains c))) := e4
        have tl : (o.filter fun c => yes.contains c).length ≤ 4 := lo ▸ List.length_filter_le ..
        have et : ((orbits n).take (i + 1)).map (fun o => freeOf o yes no) = ((orbits n).take i).map (fun o => freeOf o yes no) ++ [freeOf o yes no] := by
          rw [List.take_add_one, ho, List.map_append]
          rfl
        have hb1 : kMany (((orbits n).take i).map fun o => freeOf o yes no) ≤ 262144 := by
          have h1 := kMany_le (l := ((orbits n).take i).map fun o => freeOf o yes no) (a := 1) fun p hp => by
            obtain ⟨u, hu, rfl⟩ := List.mem_map.mp hp
            exact Nat.le_trans freeOf_le (Nat.le_of_eq (orbit_len hn (List.mem_of_mem_take hu)))
          have h2 : (((orbits n).take i).map fun o => freeOf o yes no).length ≤ 9 := by
            rw [List.length_map]
            exact Nat.le_trans (List.length_take_le' ..) e9
          have h3 : 4 ^ (((orbits n).take i).map fun o => freeOf o yes no).length ≤ 4 ^ 9 := Nat.pow_le_pow_right (by decide) h2
          have h4 : 4 ^ 9 = 262144 := by decide
          unfold kMany
          omega
        have hb2 : (kFirst (((orbits n).take i).map fun o => freeOf o yes no)).length ≤ 9 := by
          refine Nat.le_trans kFirst_le ?_
          rw [List.length_map]
          exact Nat.le_trans (List.length_take_le' ..) e9
        refine ⟨_, rfl, _, (o.filter fun c => yes.contains c).length, rfl, .inl ⟨_, SqL.of e3', by rw [ni_len]⟩, _, _, rfl, rfl, _, rfl, ?_⟩
        refine ite2 (fun d => ?_) (fun d => ?_)
        · have dl : (o.filter fun c => yes.contains c).length > 0 := by
            have := of_decide_eq_true d
            omega
          refine ⟨_, rfl, D, rfl, ⟨_, SqL.of e3'⟩, fun D3 hD3 => ?_⟩
          refine lc_fm (L := o.filter fun c => yes.contains c) (fun c => (o.filter fun c => !no.contains c).contains c && (o.filter fun c => yes.contains c).length == 1) vi (SqL.of e3') hD3 (by omega) (fun j z H5 hz s5 => ⟨rfl, fun R h => ?_, fun _ R h => ⟨_, rfl, h⟩⟩) mono_name (fun H5 s5 e5 => ?_)
          · refine ⟨_, rfl, _, rfl, D2, _, rfl, .inl (SqL.of (s5 _ _ e4')), rfl, flat_ni, _, rfl, ?_⟩
            show if inV (vi z) (ni (o.filter fun c => !no.contains c)) = true then _ else _
            rw [inV_ni]
            refine ite2 (fun u => ?_) (fun u => ?_)
            · refine ⟨_, rfl, _, (o.filter fun c => yes.contains c).length, rfl, .inl ⟨_, SqL.of (s5 _ _ e3'), by rw [ni_len]⟩, rfl, _, rfl, ?_⟩
              show R (decide (vi (o.filter fun c => yes.contains c).length = vi 1)) H5
              rw [vi_eq]
              rw [u, Bool.true_and] at h
              rw [← Bool.beq_eq_decide_eq]
              exact h
            · have u' : (o.filter fun c => !no.contains c).contains z = false := by simpa using u
              rw [u', Bool.false_and] at h
              exact h
          have ef : freeOf o yes no = (o.filter fun c => yes.contains c).filter fun c => (o.filter fun c => !no.contains c).contains c && (o.filter fun c => yes.contains c).length == 1 := by
            unfold freeOf
            dsimp only
            rw [if_pos dl]
          have e5' : H5 D3 = some (.lst (ni (freeOf o yes no))) := by
            rw [ef]
            exact e5
          have s24 : Same H2 H5 := (s3.trans s4).trans s5
          refine ⟨_, rfl, _, rfl, _, (freeOf o yes no).length, rfl, .inl ⟨_, SqL.of e5', by rw [ni_len]⟩, _, _, rfl, rfl, .inl ⟨by omega, by omega⟩, ?_⟩
          have ef5 := s24 _ _ e2
          refine ⟨_, rfl, _, rfl, 1, rfl, D3, _, rfl, SqL.of e5', fun pc hpc => ?_⟩
          have npf : pf ≠ pc := ne_of_none ef5 hpc
          refine ⟨pf, pc, _, _, rfl, rfl, (upd_ne npf).trans ef5, upd_same, ?_, fun pg hpg => ?_⟩
          · rw [cut_first, ni_len, List.length_take, ni_len]
            exact small (by omega)
          · refine ⟨pg, some (.ref x), some (.ref D), some (.ref D3), ?_, (s2.trans s24).trans ((((Same.refl _).new hpc)).new hpg), ?_⟩
            · rw [et, kMany_snoc, ← vi_mul]
              rfl
            · rw [upd_same, cut_first, et, kFirst_snoc, ni_app, ni_take]
        · have dl : ¬ (o.filter fun c => yes.contains c).length > 0 := fun z => d (decide_eq_true (by omega))
          have ef : freeOf o yes no = o.filter fun c => !no.contains c := by
            unfold freeOf
            dsimp only
            rw [if_neg dl]
          have e5' : H4 D2 = some (.lst (ni (freeOf o yes no))) := by
            rw [ef]
            exact e4'
          have s24 : Same H2 H4 := s3.trans s4
          refine ⟨_, rfl, _, rfl, _, (freeOf o yes no).length, rfl, .inl ⟨_, SqL.of e5', by rw [ni_len]⟩, _, _, rfl, rfl, .inl ⟨by omega, by omega⟩, ?_⟩
          have ef5 := s24 _ _ e2
          refine ⟨_, rfl, _, rfl, 1, rfl, D2, _, rfl, SqL.of e5', fun pc hpc => ?_⟩
          have npf : pf ≠ pc := ne_of_none ef5 hpc
          refine ⟨pf, pc, _, _, rfl, rfl, (upd_ne npf).trans ef5, upd_same, ?_, fun pg hpg => ?_⟩
          · rw [cut_first, ni_len, List.length_take, ni_len]
            exact small (by omega)
          · refine ⟨pg, some (.ref x), some (.ref D), some (.ref D2), ?_, (s2.trans s24).trans ((((Same.refl _).new hpc)).new hpg), ?_⟩
            · rw [et, kMany_snoc, ← vi_mul]
              rfl
            · rw [upd_same, cut_first, et, kFirst_snoc, ni_app, ni_take]
      · rintro σ H2 ⟨pf, v5, v6, v7, rfl, s2, e2⟩
        have et : ((orbits n).take (nr ps).length).map (fun o => freeOf o yes no) = (orbits n).map fun o => freeOf o yes no := by
          rw [List.length_map, ra.1, List.take_length]
        rw [et] at e2 ⊢
        rw [← ek]
        refine ⟨_, rfl, rfl, _, rfl, ?_⟩
        show if decide (vi (Uw56.known n yes no) = vi 0) = true then _ else _
        rw [vi_eq]
        refine ite2 (fun d => ?_) (fun d => ?_)
        · refine ⟨Nat.zero_le _, fun p1 hp1 => ⟨by show 2 ≤ sizeLine; decide, fun p2 hp2 => ?_⟩⟩
          exact none0 (of_decide_eq_true d) H2 (sH.trans s2) p1 hp1 p2 hp2
        · have nz : Uw56.known n yes no ≠ 0 := fun z => d (decide_eq_true z)
          refine ⟨_, rfl, _, rfl, ?_⟩
          unfold tNil
          dsimp only
          refine sorted_ni (SqL.of e2) (kFirst_nodup hn) ?_ fun p1 hp1 => ⟨by show 2 ≤ sizeLine; decide, fun p2 hp2 => ?_⟩
          · have h1 := kFirst_le (l := (orbits n).map fun o => freeOf o yes no)
            rw [List.length_map] at h1
            omega
          · have ne : p1 ≠ p2 := fun z => by
              rw [← z, upd_same] at hp2
              cases hp2
            refine q _ p2 p1 (((sH.trans s2).new hp1).new hp2) upd_same ?_
            rw [upd_ne ne, upd_same]
            unfold knownL
            rw [if_neg nz]
            rw [ek] at nz
            rw [firstKnown_is hn nz]
end
end Hc
namespace Hc
open PySem PySem.Spec PyProof.Rows L2
open Uw56 (Card turn turns rising orbit orbits firstCard cells due)
/-! ### a Guess object -/
def gF (n : Nat) (ta oa fa da : Addr) (m : Nat) (fi : Addr) : List (Str × V) := [("size", vi n), ("text", .ref ta), ("other", .ref oa), ("fours", .ref fa), ("four_of", .ref da), ("many", vi m), ("first", .ref fi)]
section
variable {n m k : Nat} {ta oa fa da fi fj : Addr}
theorem gF_size : (gF n ta oa fa da m fi).lookup ("size" : Str) = some (vi n) := by kernel_rfl
theorem gF_text : (gF n ta oa fa da m fi).lookup ("text" : Str) = some (.ref ta) := by kernel_rfl
theorem gF_other : (gF n ta oa fa da m fi).lookup ("other" : Str) = some (.ref oa) := by kernel_rfl
theorem gF_fours : (gF n ta oa fa da m fi).lookup ("fours" : Str) = some (.ref fa) := by kernel_rfl
theorem gF_four_of : (gF n ta oa fa da m fi).lookup ("four_of" : Str) = some (.ref da) := by kernel_rfl
theorem gF_many : (gF n ta oa fa da m fi).lookup ("many" : Str) = some (vi m) := by kernel_rfl
theorem gF_first : (gF n ta oa fa da m fi).lookup ("first" : Str) = some (.ref fi) := by kernel_rfl
theorem gF_m1 : (gF n ta oa fa da m fi).lookup ("is_middle_right" : Str) = none := by kernel_rfl
theorem gF_m2 : (gF n ta oa fa da m fi).lookup ("go_through" : Str) = none := by kernel_rfl
theorem gF_m3 : (gF n ta oa fa da m fi).lookup ("nexts" : Str) = none := by kernel_rfl
theorem gF_m4 : (gF n ta oa fa da m fi).lookup ("look_at" : Str) = none := by kernel_rfl
theorem gF_put_many : putF "many" (vi k) (gF n ta oa fa da m fi) = gF n ta oa fa da k fi := by kernel_rfl
theorem gF_put_first : putF "first" (.ref fj) (gF n ta oa fa da m fi) = gF n ta oa fa da m fj := by kernel_rfl
end
/-- what does not change of it -/
structure GS where
  n : Nat
  a : List Nat
  b : List Nat
  ta : Addr
  oa : Addr
  fa : Addr
  da : Addr
  ps : List Addr
  kvs : List (Key × V)
structure GOk (g : GS) : Prop where
  sz : Sz g.n
  la : g.a.length = g.n * g.n
  lb : g.b.length = g.n * g.n
  dc : ∀ c : Nat, valV g.kvs (Sum.inl (c : Int)) = (orb g.n c).map vi
structure GSt (H : Hp) (g : GS) : Prop where
  ta : H g.ta = some (.lst (ni g.a))
  oa : H g.oa = some (.lst (ni g.b))
  fa : H g.fa = some (.lst (nr g.ps))
  rw : Rws H g.ps (orbits g.n)
  da : H g.da = some (.dK g.kvs)
structure GAt (C : Addr) (H : Hp) (x : Addr) (g : GS) (m : Nat) (L : List Nat) (fi : Addr) : Prop where
  ob : ∃ dx, H x = some (.ins C dx (gF g.n g.ta g.oa g.fa g.da m fi))
  fl : H fi = some (.lst (ni L))
  st : GSt H g
theorem GSt.same {H H' : Hp} {g : GS} (s : GSt H g) (k : Same H H') : GSt H' g := ⟨k _ _ s.ta, k _ _ s.oa, k _ _ s.fa, s.rw.same k, k _ _ s.da⟩
theorem GAt.same {C : Addr} {H H' : Hp} {x : Addr} {g : GS} {m : Nat} {L : List Nat} {fi : Addr} (s : GAt C H x g m L fi) (k : Same H H') : GAt C H' x g m L fi := by
  obtain ⟨⟨dx, h1⟩, h2, st⟩ := s
  exact ⟨⟨dx, k _ _ h1⟩, k _ _ h2, st.same k⟩
/-- the object itself changes, nothing else -/
theorem GSt.but {C : Addr} {H H' : Hp} {g : GS} {x dx : Addr} {fs : List (Str × V)} (s : GSt H g) (hx : H x = some (.ins C dx fs)) (k : ∀ b o, H b = some o → b ≠ x → H' b = some o) : GSt H' g := by
  have ne : ∀ {b o}, H b = some o → (∀ dx fs, o ≠ .ins C dx fs) → b ≠ x := fun {b o} h d e => by
    rw [e, hx] at h
    exact d dx fs (Option.some.inj h).symm
  refine ⟨k _ _ s.ta (ne s.ta fun _ _ z => nomatch z), k _ _ s.oa (ne s.oa fun _ _ z => nomatch z), k _ _ s.fa (ne s.fa fun _ _ z => nomatch z), ⟨s.rw.1, fun i a o h1 h2 => ?_⟩, k _ _ s.da (ne s.da fun _ _ z => nomatch z)⟩
  have := s.rw.2 i a o h1 h2
  exact k _ _ this (ne this fun _ _ z => nomatch z)
/-- what the top has written of the class -/
structure TG (K : PySem.W.Frag) (C : Addr) : Prop where
  cl : Cls K C
  n1 : NoAttr K C "size"
  n2 : NoAttr K C "text"
  n3 : NoAttr K C "other"
  n4 : NoAttr K C "fours"
  n5 : NoAttr K C "four_of"
  n6 : NoAttr K C "many"
  n7 : NoAttr K C "first"
/-- a method of a class: its promise, at a level -/
def Mth (P : Program) (w : World) (K : PySem.W.Frag) (mg : Str → Option Value) (base : Heap) (k : Nat) (C : Addr) (m : Str) (ps : List Str) (sp : Sp) : Prop :=
  ∃ (f : Addr) (fd : FuncData), FnOk P w K mg base CX0 k f fd ps sp ∧ Meth K C m f ∧ Binds K fd ps []
theorem at_neg1 {l : List Nat} {N : Nat} (h : l.length = N) (hN : 0 < N) : atI (ni l) (-1) = some (vi (l.getD (N - 1) 0)) := by
  cases q : l.getLast? with
  | none =>
    rw [List.getLast?_eq_none_iff] at q
    subst q
    simp at h
    omega
  | some x =>
    obtain ⟨r, rfl⟩ := List.getLast?_eq_some_iff.mp q
    have e : (r ++ [x]).getD (N - 1) 0 = x := by
      rw [List.length_append, List.length_singleton] at h
      rw [List.getD_eq_getElem?_getD, show N - 1 = r.length by omega]
      simp
    rw [e, ni_app]
    exact atI_last _ _
theorem at_nat {l : List Nat} {j : Nat} (h : j < l.length) : atI (ni l) (j : Int) = some (vi (l.getD j 0)) := at_of rfl (ni_get (by simp [h]))
theorem midOk_none {n : Nat} {a b : List Nat} (h : Uw56.middle n = []) : midOk n a b = true := by
  unfold midOk
  rw [h]
  rfl
theorem midOk_one {n k : Nat} {a b : List Nat} (h : Uw56.middle n = [k]) : midOk n a b = (b.getD k 0 == a.getD (n * n - 1) 0) := by
  unfold midOk
  rw [h]
  simp
section
variable {P : Program} {w : World} {K : PySem.W.Frag} {mg : Str → Option Value} {base : Heap} {C : Addr}
/-! ### is_middle_right -/
def spMr (C : Addr) : Sp := fun vs H Q _ => ∃ (x : Addr) (g : GS) (m : Nat) (L : List Nat) (fi : Addr), vs = [.ref x] ∧ GAt C H x g m L fi ∧ GOk g ∧ Q (.bl (midOk g.n g.a g.b)) H
abbrev sMr : Stmt := inClass (topS 13) 1
theorem scMr : FnScope ["self"] ["self"] (defScope sMr) := ⟨rfl, rfl, rfl, by decide +kernel, rfl, by decide +kernel, by decide +kernel⟩
theorem ok_mr {f : Addr} {fd : FuncData} (F : Fun K "is_middle_right" "Guess.is_middle_right" sMr f fd) (TC : TG K C) (D1 : Def P w K mg base 1 "middle" ["size"] spMid) : FnOk P w K mg base CX0 2 f fd ["self"] (spMr C) := by
  obtain ⟨f1, fd1, G1, m1, k1, b1⟩ := D1
  refine F.ok scMr (fun vs H Q E h => ?_) (fun cdv A outer s H vs Q E hr h => ?_)
  · obtain ⟨x, g, m, L, fi, rfl, _⟩ := h
    rfl
  · refine ⟨_, pss_one (ps_ret (pe_or (pe_cmpR op_lt (pe_call G1 hr (by rfl) m1 k1 b1 .nil pass0 (pa_cons (pe_fld (pv 0) rfl) pa_nil)) pe_int (nomark _))
      (pe_one (pe_cmpR op_eq (pe_ix ix_list (pe_fld (pv 0) rfl) (pe_un un_neg pe_int) (fun _ _ => rfl)) (pe_ix ix_list (pe_fld (pv 0) rfl) (pe_call G1 hr (by rfl) m1 k1 b1 .nil pass0 (pa_cons (pe_fld (pv 0) rfl) pa_nil)) (fun _ _ => rfl)) (nomark _))))), ?_⟩
    obtain ⟨x, g, m, L, fi, rfl, ⟨⟨dx, hx⟩, hfi, st⟩, ok, q⟩ := h
    obtain ⟨r1, r2, r3, r4, r5⟩ := mid_range g.n ok.sz.mem
    refine ⟨_, rfl, x, C, dx, _, _, rfl, hx, TC.cl, TC.n1, gF_size, g.n, rfl, ok.sz, _, _, rfl, rfl, _, rfl, ?_⟩
    refine ite2 (fun c => ?_) (fun c => ?_)
    · have hz : midI g.n < 0 := of_decide_eq_true c
      rw [midOk_none (r4.mp hz)] at q
      exact q
    · have hz : 0 ≤ midI g.n := by
        have : ¬ midI g.n < 0 := fun z => c (decide_eq_true z)
        omega
      have em := r5 hz
      have hlt : (midI g.n).toNat < g.b.length := by
        rw [ok.lb]
        omega
      have ez : midI g.n = ((midI g.n).toNat : Int) := by omega
      refine ⟨_, rfl, x, C, dx, _, _, rfl, hx, TC.cl, TC.n2, gF_text, _, rfl, g.ta, _, _, _, rfl, rfl, SqL.of st.ta, at_neg1 ok.la (by have := ok.sz.pos; omega), ?_⟩
      refine ⟨_, rfl, x, C, dx, _, _, rfl, hx, TC.cl, TC.n3, gF_other, _, rfl, x, C, dx, _, _, rfl, hx, TC.cl, TC.n1, gF_size, g.n, rfl, ok.sz, g.oa, _, midI g.n, _, rfl, rfl, SqL.of st.oa, by rw [ez]; exact at_nat hlt, rfl, ?_⟩
      show Q (.bl (decide (vi _ = vi _))) H
      rw [vi_eq]
      rw [midOk_one em] at q
      have e : (g.b.getD (midI g.n).toNat 0 == g.a.getD (g.n * g.n - 1) 0) = decide (g.a.getD (g.n * g.n - 1) 0 = g.b.getD (midI g.n).toNat 0) := by
        rw [Bool.beq_eq_decide_eq]
        exact decide_eq_decide.mpr ⟨Eq.symm, Eq.symm⟩
      rw [e] at q
      exact q
/-! ### nexts -/
def spNx (C : Addr) : Sp := fun vs H Q _ => ∃ (x h : Addr) (g : GS) (m : Nat) (L hs : List Nat) (fi : Addr), vs = [.ref x, .ref h] ∧ GAt C H x g m L fi ∧ GOk g ∧ H h = some (.tup (ni hs)) ∧ Put g.n g.a g.b hs ∧ hs.length < (orbits g.n).length ∧
  ∀ (H' : Hp) (p : Addr), Same H H' → H p = none → H' p = some (.lst (ni (nexts g.n g.a g.b hs))) → Q (.ref p) H'
abbrev sNx : Stmt := inClass (topS 13) 3
abbrev nNx : List Str := ["self", "holes", "last", "cell", "taken", "letter", "found"]
theorem scNx : FnScope nNx ["self", "holes"] (defScope sNx) := ⟨rfl, rfl, rfl, by decide +kernel, rfl, by decide +kernel, by decide +kernel⟩
/-- the last hole, if there is one -/
theorem if_last {D : Ends} {h : Addr} {hs : List Nat} {v0 v3 v4 v5 v6 : Option V} {H : Hp} (hh : H h = some (.tup (ni hs)))
    (q : D.nx [v0, some (.ref h), some (.int ((lo hs : Int) - 1)), v3, v4, v5, v6] H) :
    tIfS (tTest (tOp (rI0 fun i j => .bl (decide (j < i))) (tCB (rLenK K) (tCons (tVar 1) tNil)) (tC (.int 0)))) (tAsg (tOp (rIxT K) (tVar 1) (tUn (rU fun i => .int (-i)) (tC (.int 1)))) (gName 2)) tNext D [v0, some (.ref h), some (.int (-1)), v3, v4, v5, v6] H := by
  refine ⟨_, rfl, _, hs.length, rfl, .inr ⟨_, SqT.of hh, by rw [ni_len]⟩, _, _, rfl, rfl, _, rfl, ?_⟩
  refine ite2 (fun c => ?_) (fun c => ?_)
  · have hl : 0 < hs.length := by
      have := of_decide_eq_true c
      omega
    refine ⟨_, rfl, _, rfl, h, _, _, _, rfl, rfl, SqT.of hh, at_neg1 rfl hl, ?_⟩
    have e : ((lo hs : Int) - 1) = ((hs.getD (hs.length - 1) 0 : Nat) : Int) := by
      cases z : hs.getLast? with
      | none =>
        rw [List.getLast?_eq_none_iff] at z
        subst z
        simp at hl
      | some y =>
        obtain ⟨r, rfl⟩ := List.getLast?_eq_some_iff.mp z
        rw [lo_snoc]
        simp
    rw [e] at q
    exact q
  · have hl : hs = [] := by
      apply List.eq_nil_of_length_eq_zero
      have : ¬ (0 : Int) < (hs.length : Int) := fun z => c (decide_eq_true z)
      omega
    subst hl
    exact q
theorem ok_nx {f : Addr} {fd : FuncData} (F : Fun K "nexts" "Guess.nexts" sNx f fd) (T : Blt mg) (TC : TG K C) : FnOk P w K mg base CX0 1 f fd ["self", "holes"] (spNx C) := by
  refine F.ok scNx (fun vs H Q E h => ?_) (fun cdv A outer s H vs Q E hr h => ?_)
  · obtain ⟨x, h, g, m, L, hs, fi, rfl, _⟩ := h
    rfl
  · have hu := hu_of hr
    refine ⟨_, pss_cons (ps_set (i := 2) scNx.nd rfl (.inl rfl) (pe_un un_neg pe_int))
      (pss_cons (ps_if (pt_cmpR op_gt (pe_callB call_len (by rfl) T.len (by decide +kernel) (pa_cons (pv 1) pa_nil)) pe_int (nomark _)) (pss_one (ps_set (i := 2) scNx.nd rfl (.inl rfl) (pe_ix ix_tup (pv 1) (pe_un un_neg pe_int) (fun _ _ => rfl)))) pss_nil)
      (pss_cons (ps_setLc (i := 4) (own := [("cell", 3)]) (g := gName 3) (tt := tYes) (te := tDGet (tFld K (tVar 0) "four_of") (tVar 3)) rfl scNx.nd rfl rfl (sw_true rfl rfl rfl (by decide +kernel)) (pi_tup (pv 1)) (blkOk_by (N := nNx) (sc := defScope sNx) (by decide +kernel))
          (fun _ _ _ _ _ => pg_name (i := 3) scNx.nd rfl (Or.inl rfl)) (fun _ _ _ _ _ => pts_nil) (fun _ _ _ _ _ => pe_dget hu (pe_fld (pv 0) rfl) (pv 3) (fun _ _ => rfl)))
      (pss_cons (ps_set (i := 5) scNx.nd rfl (.inl rfl) (pe_ix ix_list (pe_fld (pv 0) rfl) (pe_callB call_len (by rfl) T.len (by decide +kernel) (pa_cons (pv 1) pa_nil)) (fun _ _ => rfl)))
      (pss_cons (ps_set (i := 6) scNx.nd rfl (.inl rfl) (pe_lst pa_nil))
      (pss_cons (ps_for PassesOwn.never rfl (pi_range2 (by rfl) T.range (pa_cons (pe_op op_add (pv 2) pe_int) (pa_cons (pe_op op_mul (pe_fld (pv 0) rfl) (pe_fld (pv 0) rfl)) pa_nil))) (pg_name (i := 3) scNx.nd rfl (.inl rfl))
        (pss_one (ps_if (PW.pt (pw_and (pt_cmp (pc_din hu (pv 3) (pe_fld (pv 0) rfl)) rfl) (pw_and1 (pt_cmpR op_notIn_seq (pe_dget hu (pe_fld (pv 0) rfl) (pv 3) (fun _ _ => rfl)) (pv 4) rfl))))
          (pss_cons (ps_if (pt_cmpR op_eq (pe_ix ix_list (pe_fld (pv 0) rfl) (pv 3) (fun _ _ => rfl)) (pv 5) (nomark _)) (pss_one (ps_expr (pe_bm PySem.F.plainAttrs_list PySem.F.slot_list_append PySem.F.type_list_append mt_append (pv 6) (pa_cons (pv 3) pa_nil)))) pss_nil)
          (pss_one (ps_if (pt_cmpR op_eq (pv 3) (pe_ix ix_list (pe_ix ix_list (pe_fld (pv 0) rfl) (pe_dget hu (pe_fld (pv 0) rfl) (pv 3) (fun _ _ => rfl)) (fun _ _ => rfl)) (pe_un un_neg pe_int) (fun _ _ => rfl)) (nomark _)) (pss_one (ps_ret (pv 6))) pss_nil)))
          pss_nil)))
      (pss_one (ps_ret (pv 6)))))))), ?_⟩
    obtain ⟨x, h, g, m, L, hs, fi, rfl, ga, ok, hh, pt, hl, q⟩ := h
    obtain ⟨⟨dx, hx⟩, hfi, st⟩ := id ga
    have hle := ok.sz.le
    have h9 := orbits_le ok.sz
    have lN := orbits_cells ok.sz
    have hlh : hs.length < g.n * g.n := by omega
    refine ⟨1, rfl, if_last (K := K) hh ?_⟩
    refine ⟨_, rfl, h, rfl, ⟨_, SqT.of hh⟩, fun D hD => ?_⟩
    refine lc_tup (K := K) (a := h) (xs := ni hs) (fun i H' => Same H H' ∧ H' D = some (.lst (ni (taken g.n (hs.take i))))) ⟨(Same.refl H).new hD, upd_same⟩ (fun i H' _ hw => hw.1.tup (SqT.of hh)) ?_ ?_
    · rintro i v H1 hv ⟨s1, e1⟩
      obtain ⟨c, hc, rfl⟩ := ni_get_inv hv
      obtain ⟨o, ho⟩ := pt.orb c (List.mem_of_getElem? hc)
      have hd : DGet H1 g.da (vi c) (some (vi o)) := by
        have := DGet.k (k := Sum.inl (c : Int)) (s1 _ _ st.da)
        rw [ok.dc, ho] at this
        exact this
      refine ⟨rfl, _, rfl, x, C, dx, _, _, rfl, s1 _ _ hx, TC.cl, TC.n5, gF_four_of, _, rfl, g.da, _, rfl, hd, _, e1, ?_, s1.own hD, ?_⟩
      · rw [ni_len]
        unfold taken
        rw [List.length_map, List.length_take]
        exact smallL (by omega)
      · rw [upd_same, ni_snoc, List.take_add_one, hc]
        unfold taken
        rw [List.map_append]
        simp [ho]
    rintro H1 ⟨s1, e1⟩
    rw [ni_len, List.take_length] at e1
    have st1 := st.same s1
    refine ⟨_, rfl, x, C, dx, _, _, rfl, s1 _ _ hx, TC.cl, TC.n2, gF_text, _, rfl, _, hs.length, rfl, .inr ⟨_, SqT.of (s1 _ _ hh), by rw [ni_len]⟩, g.ta, _, _, _, rfl, rfl, SqL.of st1.ta, at_nat (by rw [ok.la]; exact hlh), ?_⟩
    refine ⟨Nat.zero_le _, fun p hp => ?_⟩
    have s2 : Same H (upd H1 p (.lst [])) := s1.new hp
    have hpH : H p = none := s1.free hp
    have lo_le : lo hs ≤ g.n * g.n := by
      unfold lo
      cases z : hs.getLast? with
      | none => exact Nat.zero_le _
      | some y =>
        obtain ⟨o, ho⟩ := pt.orb y (List.mem_of_getLast? z)
        obtain ⟨u, hu1, hu2⟩ := orb_some ho
        exact orbit_lt ok.sz (List.mem_of_getElem? hu1) hu2
    refine ⟨_, rfl, _, _, rfl, rfl, _, rfl, x, C, dx, _, _, rfl, s2 _ _ hx, TC.cl, TC.n1, gF_size, _, rfl, x, C, dx, _, _, rfl, s2 _ _ hx, TC.cl, TC.n1, gF_size, _, _, rfl, rfl, .inl ⟨by have := ok.sz.2; omega, by have := ok.sz.2; omega⟩, (lo hs : Int), ((g.n * g.n : Nat) : Int), ?_, ⟨by omega, by omega, by omega, by omega⟩, ?_⟩
    · show [V.int ((lo hs : Int) - 1 + 1), V.int ((g.n : Int) * (g.n : Int))] = _
      rw [Int.natCast_mul, show (lo hs : Int) - 1 + 1 = (lo hs : Int) by omega]
    have en : (((g.n * g.n : Nat) : Int) - (lo hs : Int)).toNat = g.n * g.n - lo hs := by omega
    rw [en]
    refine for_range (lo := (lo hs : Int)) (n := g.n * g.n - lo hs) (fun i σ H' => ∃ v3 F, σ = [some (.ref x), some (.ref h), some (.int ((lo hs : Int) - 1)), v3, some (.ref D), some (vi (g.a.getD hs.length 0)), some (.ref p)] ∧ Same H1 H' ∧ H' p = some (.lst (ni F)) ∧ F.length ≤ i ∧
      nexts g.n g.a g.b hs = F ++ nx g.n (taken g.n hs) (g.a.getD hs.length 0) g.b (List.range' (lo hs + i) (g.n * g.n - lo hs - i))) ⟨none, [], rfl, (Same.refl H1).new hp, by rw [upd_same]; rfl, Nat.le_refl _, rfl⟩ ?_ ?_
    · rintro i σ H2 hi ⟨v3, F, rfl, s3, e3, lF, eF⟩
      have ei : V.int ((lo hs : Int) + (i : Int)) = vi (lo hs + i) := congrArg V.int (by omega)
      rw [ei]
      have hcell : lo hs + i < g.n * g.n := by omega
      generalize hc : lo hs + i = c at *
      have er : g.n * g.n - lo hs - i = (g.n * g.n - lo hs - (i + 1)) + 1 := by omega
      have ec : lo hs + (i + 1) = c + 1 := by omega
      rw [er, List.range'_succ] at eF
      have st2 := st1.same s3
      have hx2 := s3 _ _ (s1 _ _ hx)
      have eD := s3 _ _ e1
      have hg : ∀ {H3}, Same H2 H3 → DGet H3 g.da (vi c) ((orb g.n c).map vi) := fun s4 => by
        have := DGet.k (k := Sum.inl (c : Int)) ((st2.same s4).da)
        rw [ok.dc] at this
        exact this
      unfold nx at eF
      refine ⟨_, rfl, _, rfl, x, C, dx, _, _, rfl, hx2, TC.cl, TC.n5, gF_four_of, g.da, _, rfl, hg (Same.refl _), _, rfl, ?_⟩
      cases qo : orb g.n c with
      | none =>
        rw [qo] at eF
        refine iteF (iteF ⟨_, F, rfl, s3, e3, by omega, ?_⟩)
        rw [ec]
        exact eF
      | some o =>
        rw [qo] at eF
        dsimp only at eF
        have hg2 : ∀ {H3}, Same H2 H3 → DGet H3 g.da (vi c) (some (vi o)) := fun s4 => by
          have := hg s4
          rw [qo] at this
          exact this
        refine iteT ?_
        refine ⟨_, rfl, x, C, dx, _, _, rfl, hx2, TC.cl, TC.n5, gF_four_of, _, rfl, g.da, _, rfl, hg2 (Same.refl _), _, rfl, D, _, rfl, .inl (SqL.of eD), rfl, flat_ni, _, rfl, ?_⟩
        show if (!inV (vi o) (ni (taken g.n hs))) = true then _ else _
        rw [inV_ni]
        refine ite2 (fun z => ?_) (fun z => ?_)
        · have z' : ¬ (taken g.n hs).contains o = true := fun y => by
            rw [y] at z
            cases z
          rw [if_neg z'] at eF
          obtain ⟨four, hf1, hf2⟩ := orb_some qo
          have hom := List.mem_of_getElem? hf1
          have l4 := orbit_len ok.sz hom
          obtain ⟨pf, hpf⟩ : ∃ pf, g.ps[o]? = some pf := by
            have := (List.getElem?_eq_some_iff.mp hf1).1
            rw [← st2.rw.1] at this
            exact ⟨g.ps[o], by simp [this]⟩
          have eg : (orbits g.n).getD o [] = four := by simp [hf1]
          have hlast : atI (ni four) (-1) = some (vi (four.getD 3 0)) := at_neg1 l4 (by omega)
          have hps : atI (nr g.ps) ((o : Nat) : Int) = some (.ref pf) := at_of rfl (by simp [hpf])
          rw [eg] at eF
          refine ⟨_, rfl, x, C, dx, _, _, rfl, hx2, TC.cl, TC.n3, gF_other, _, rfl, g.oa, _, _, _, rfl, rfl, SqL.of st2.oa, at_nat (by rw [ok.lb]; exact hcell), _, rfl, rfl, _, rfl, ?_⟩
          show if decide (vi (g.b.getD c 0) = vi (g.a.getD hs.length 0)) = true then _ else _
          rw [vi_eq]
          refine ite2 (fun y => ?_) (fun y => ?_)
          · have y' : g.b.getD c 0 = g.a.getD hs.length 0 := of_decide_eq_true y
            rw [if_pos y'] at eF
            refine ⟨_, rfl, .inl ⟨rfl, _, SqL.of e3⟩, _, rfl, p, _, _, rfl, rfl, e3, by rw [ni_len]; exact smallL (by omega), ?_⟩
            have s4 : Same H1 (upd H2 p (.lst (ni F ++ [vi c]))) := s3.own hp
            have st3 := st1.same s4
            have hx3 := s4 _ _ (s1 _ _ hx)
            have hg3 : DGet (upd H2 p (.lst (ni F ++ [vi c]))) g.da (vi c) (some (vi o)) := by
              have := DGet.k (k := Sum.inl (c : Int)) st3.da
              rw [ok.dc, qo] at this
              exact this
            refine ⟨_, rfl, _, rfl, x, C, dx, _, _, rfl, hx3, TC.cl, TC.n4, gF_fours, _, rfl, x, C, dx, _, _, rfl, hx3, TC.cl, TC.n5, gF_four_of, _, rfl, g.da, _, rfl, hg3, g.fa, _, _, _, rfl, rfl, SqL.of st3.fa, hps, _, rfl, pf, _, _, _, rfl, rfl, SqL.of (st3.rw.2 o pf four hpf hf1), hlast, rfl, _, rfl, ?_⟩
            show if decide (vi c = vi (four.getD 3 0)) = true then _ else _
            rw [vi_eq]
            refine ite2 (fun u => ?_) (fun u => ?_)
            · rw [if_pos (of_decide_eq_true u)] at eF
              refine ⟨_, rfl, q _ p (s1.trans s4) hpH ?_⟩
              rw [upd_same, ni_snoc, eF, List.append_nil]
            · rw [if_neg fun t => u (decide_eq_true t)] at eF
              refine ⟨_, F ++ [c], rfl, s4, by rw [upd_same, ni_snoc], by rw [List.length_append, List.length_singleton]; omega, ?_⟩
              rw [ec, eF, List.append_assoc]
          · have y' : ¬ g.b.getD c 0 = g.a.getD hs.length 0 := fun t => y (decide_eq_true t)
            rw [if_neg y'] at eF
            refine ⟨_, rfl, _, rfl, x, C, dx, _, _, rfl, hx2, TC.cl, TC.n4, gF_fours, _, rfl, x, C, dx, _, _, rfl, hx2, TC.cl, TC.n5, gF_four_of, _, rfl, g.da, _, rfl, hg2 (Same.refl _), g.fa, _, _, _, rfl, rfl, SqL.of st2.fa, hps, _, rfl, pf, _, _, _, rfl, rfl, SqL.of (st2.rw.2 o pf four hpf hf1), hlast, rfl, _, rfl, ?_⟩
            show if decide (vi c = vi (four.getD 3 0)) = true then _ else _
            rw [vi_eq]
            refine ite2 (fun u => ?_) (fun u => ?_)
            · rw [if_pos (of_decide_eq_true u)] at eF
              refine ⟨_, rfl, q _ p (s1.trans s3) hpH ?_⟩
              rw [e3, eF, List.append_nil, List.append_nil]
            · rw [if_neg fun t => u (decide_eq_true t)] at eF
              refine ⟨_, F, rfl, s3, e3, by omega, ?_⟩
              rw [ec]
              exact eF
        · have z' : (taken g.n hs).contains o = true := by
            cases y : (taken g.n hs).contains o with
            | true => rfl
            | false => exact absurd (by rw [y]; rfl) z
          rw [if_pos z'] at eF
          refine ⟨_, F, rfl, s3, e3, by omega, ?_⟩
          rw [ec]
          exact eF
    · rintro σ H2 ⟨v3, F, rfl, s3, e3, lF, eF⟩
      rw [Nat.sub_self] at eF
      refine ⟨_, rfl, q H2 p (s1.trans s3) hpH ?_⟩
      rw [e3, eF]
      exact congrArg (fun z => some (HO.lst (ni z))) (List.append_nil F).symm
end
end Hc
namespace Hc
open PySem PySem.Spec PyProof.Rows L2
open Uw56 (Card turn turns rising orbit orbits firstCard cells due)
/-- all that was tracked but one object is as it was -/
def But (x : Addr) (H H' : Hp) : Prop := ∀ b o, H b = some o → b ≠ x → H' b = some o
theorem But.refl {x : Addr} {H : Hp} : But x H H := fun _ _ e _ => e
theorem _root_.L2.Same.but {x : Addr} {H H' : Hp} (s : Same H H') : But x H H' := fun b o e _ => s b o e
theorem But.trans {x : Addr} {H H1 H2 : Hp} (a : But x H H1) (b : But x H1 H2) : But x H H2 := fun c o e n => b c o (a c o e n) n
theorem But.put {x : Addr} {H H1 : Hp} {o : HO} (a : But x H H1) : But x H (upd H1 x o) := fun c u e n => by
  rw [upd_ne n]
  exact a c u e n
theorem But.own {x p : Addr} {H H1 : Hp} {o : HO} (a : But x H H1) (hp : H p = none) : But x H (upd H1 p o) := fun c u e n => by
  rw [upd_ne (ne_of_none e hp)]
  exact a c u e n
/-- an object of another kind is not the instance -/
theorem ne_ins {H : Hp} {x b C dx : Addr} {fs : List (Str × V)} {o : HO} (hx : H x = some (.ins C dx fs)) (hb : H b = some o) (d : ∀ dx fs, o ≠ .ins C dx fs) : b ≠ x := fun e => by
  rw [e, hx] at hb
  exact d dx fs (Option.some.inj hb).symm
theorem ne_ins_lst {H : Hp} {x b C dx : Addr} {fs : List (Str × V)} {l : List V} (hx : H x = some (.ins C dx fs)) (hb : H b = some (.lst l)) : b ≠ x := ne_ins hx hb fun _ _ z => nomatch z
theorem ne_ins_tup {H : Hp} {x b C dx : Addr} {fs : List (Str × V)} {l : List V} (hx : H x = some (.ins C dx fs)) (hb : H b = some (.tup l)) : b ≠ x := ne_ins hx hb fun _ _ z => nomatch z
section
variable {P : Program} {w : World} {K : PySem.W.Frag} {mg : Str → Option Value} {base : Heap} {C : Addr}
/-! ### look_at -/
def spLk (C : Addr) : Sp := fun vs H Q _ => ∃ (x h : Addr) (g : GS) (m : Nat) (L hs : List Nat) (fi : Addr), vs = [.ref x, .ref h] ∧ GAt C H x g m L fi ∧ GOk g ∧ H h = some (.tup (ni hs)) ∧ Pick (orbits g.n) hs ∧ hs.length = (orbits g.n).length ∧
  ∀ (H' : Hp) (fj : Addr), But x H H' → fj = fi ∨ H fj = none → GAt C H' x g (look g.n g.a g.b (m, L) hs).1 (look g.n g.a g.b (m, L) hs).2 fj → Q .non H'
abbrev sLk : Stmt := inClass (topS 13) 4
abbrev nLk : List Str := ["self", "holes", "at", "quarters", "cell"]
theorem scLk : FnScope nLk ["self", "holes"] (defScope sLk) := ⟨rfl, rfl, rfl, by decide +kernel, rfl, by decide +kernel, by decide +kernel⟩
theorem ok_lk {f : Addr} {fd : FuncData} (F : Fun K "look_at" "Guess.look_at" sLk f fd) (T : Blt mg) (TC : TG K C) (mq : Num mg "QUARTERS" 4) (D1 : Def P w K mg base 2 "turned_by" ["size", "holes", "quarters"] (spTb K)) : FnOk P w K mg base CX0 3 f fd ["self", "holes"] (spLk C) := by
  obtain ⟨f1, fd1, G1, m1, k1, b1⟩ := D1
  obtain ⟨tq, mq⟩ := mq
  refine F.ok scLk (fun vs H Q E h => ?_) (fun cdv A outer s H vs Q E hr h => ?_)
  · obtain ⟨x, h, g, m, L, hs, fi, rfl, _⟩ := h
    rfl
  · refine ⟨_, pss_cons (ps_set (i := 2) scLk.nd rfl (.inl rfl) (pe_callB call_len (by rfl) T.len (by decide +kernel) (pa_cons (pv 1) pa_nil)))
      (pss_cons (ps_for PassesOwn.never rfl (pi_range2 (by rfl) T.range (pa_cons pe_int (pa_cons (pe_glob (v := .int 4) (by rfl) mq ⟨_, rfl⟩) pa_nil))) (pg_name (i := 3) scLk.nd rfl (.inl rfl))
        (pss_one (ps_for PassesOwn.never rfl (pi_list (pe_call G1 hr (by rfl) m1 k1 b1 .nil pass0 (pa_cons (pe_fld (pv 0) rfl) (pa_cons (pv 1) (pa_cons (pv 3) pa_nil))))) (pg_name (i := 4) scLk.nd rfl (.inl rfl))
          (pss_cons (ps_if (pt_cmpR op_ne (pe_ix ix_list (pe_fld (pv 0) rfl) (pv 4) (fun _ _ => rfl)) (pe_ix ix_list (pe_fld (pv 0) rfl) (pv 2) (fun _ _ => rfl)) (nomark _)) (pss_one ps_retN) pss_nil)
          (pss_one (ps_set (i := 2) scLk.nd rfl (.inl rfl) (pe_op op_add (pv 2) pe_int)))))))
      (pss_cons (ps_if (pt_cmpR op_eq (pe_fld (pv 0) rfl) pe_int (nomark _)) (pss_one (ps_fld (pv 0) (pe_callTy call_list_of (by rfl) T.list (by decide +kernel) (pa_cons (pv 1) pa_nil)) rfl)) pss_nil)
      (pss_one (ps_fld (pv 0) (pe_op op_add (pe_fld (pv 0) rfl) pe_int) rfl)))), ?_⟩
    obtain ⟨x, h, g, m, L, hs, fi, rfl, ga, ok, hh, pk, hl, q⟩ := h
    obtain ⟨⟨dx, hx⟩, hfi, st⟩ := id ga
    have hle := ok.sz.le
    have h9 := orbits_le ok.sz
    have lN := orbits_cells ok.sz
    have fc := pick_fits ok.sz pk
    refine ⟨_, rfl, _, hs.length, rfl, .inr ⟨_, SqT.of hh, by rw [ni_len]⟩, 1, 4, rfl, ⟨by decide, by decide, by decide, by decide⟩, ?_⟩
    refine for_range (lo := 1) (n := 3) (fun i σ H' => ∃ v3 v4, σ = [some (.ref x), some (.ref h), some (vi (hs.length * (1 + i))), v3, v4] ∧ Same H H' ∧ goodTo ⟨g.n, hs⟩ g.a g.b hs.length (hs.length * (1 + i))) ⟨none, none, by rw [show hs.length * (1 + 0) = hs.length by omega]; rfl, Same.refl H, fun p h1 h2 => absurd h2 (by omega)⟩ ?_ ?_
    · rintro i σ H1 hi ⟨v3, v4, rfl, s1, g1⟩
      have ei : V.int (1 + (i : Int)) = vi (1 + i) := congrArg V.int (by omega)
      rw [ei]
      refine ⟨_, rfl, x, C, dx, _, _, rfl, s1 _ _ hx, TC.cl, TC.n1, gF_size, _, rfl, _, rfl, g.n, 1 + i, h, hs, rfl, ok.sz, .inr (SqT.of (s1 _ _ hh)), up_nodup pk.up, fc.lt, by omega, fun H2 p2 s2 n2 e2 => ?_⟩
      have e2' : H2 p2 = some (.lst (ni ((Card.mk g.n hs).seen (1 + i)))) := e2
      have lS : ((Card.mk g.n hs).seen (1 + i)).length = hs.length := seen_length fc
      refine ⟨p2, rfl, ⟨_, SqL.of e2'⟩, for_list (K := K) (a := p2) (xs := ni ((Card.mk g.n hs).seen (1 + i))) (fun j σ H' => ∃ v4, σ = [some (.ref x), some (.ref h), some (vi (hs.length * (1 + i) + j)), some (vi (1 + i)), v4] ∧ Same H2 H' ∧ goodTo ⟨g.n, hs⟩ g.a g.b hs.length (hs.length * (1 + i) + j)) ⟨v4, rfl, Same.refl H2, g1⟩ (fun j σ H' _ ⟨_, _, s3, _⟩ => s3.seq (SqL.of e2')) ?_ ?_⟩
      · rintro j v σ H3 hv ⟨v4, rfl, s3, g3⟩
        obtain ⟨c, hc, rfl⟩ := ni_get_inv hv
        have hj : j < hs.length := by
          rw [← lS]
          exact (List.getElem?_eq_some_iff.mp hc).1
        have en : (Card.mk g.n hs).next (hs.length * (1 + i) + j) = c := next_seen fc (by omega) hj hc
        have lc : c < g.n * g.n := fc.seen_lt (List.mem_of_getElem? hc)
        have hat : hs.length * (1 + i) + j < 4 * hs.length := by
          have : hs.length * (1 + i) ≤ hs.length * 3 := Nat.mul_le_mul_left _ (by omega)
          omega
        have s13 := s1.trans (s2.trans s3)
        have st3 := st.same s13
        have hx3 := s13 _ _ hx
        refine ⟨_, rfl, x, C, dx, _, _, rfl, hx3, TC.cl, TC.n3, gF_other, _, rfl, g.oa, _, _, _, rfl, rfl, SqL.of st3.oa, at_nat (by rw [ok.lb]; exact lc), ?_⟩
        refine ⟨_, rfl, x, C, dx, _, _, rfl, hx3, TC.cl, TC.n2, gF_text, _, rfl, g.ta, _, _, _, rfl, rfl, SqL.of st3.ta, at_nat (by rw [ok.la]; omega), rfl, _, rfl, ?_⟩
        show if (!decide (vi (g.b.getD c 0) = vi (g.a.getD (hs.length * (1 + i) + j) 0))) = true then _ else _
        rw [vi_eq]
        refine ite2 (fun z => ?_) (fun z => ?_)
        · have ne : ¬ g.b.getD c 0 = g.a.getD (hs.length * (1 + i) + j) 0 := fun y => by
            rw [decide_eq_true y] at z
            cases z
          have nl : ¬ lookOk g.n g.a g.b hs = true := fun y => by
            have y' : goodTo ⟨g.n, hs⟩ g.a g.b hs.length (4 * hs.length) := of_decide_eq_true y
            have := y' (hs.length * (1 + i) + j) (by have : hs.length * 1 ≤ hs.length * (1 + i) := Nat.mul_le_mul_left _ (by omega); omega) hat
            rw [en] at this
            exact ne this
          have el : look g.n g.a g.b (m, L) hs = (m, L) := if_neg nl
          refine q H3 fi s13.but (.inl rfl) ?_
          rw [el]
          exact ga.same s13
        · have e : g.b.getD c 0 = g.a.getD (hs.length * (1 + i) + j) 0 := Classical.byContradiction fun y => z (by rw [decide_eq_false y]; rfl)
          have g4 : goodTo ⟨g.n, hs⟩ g.a g.b hs.length (hs.length * (1 + i) + j + 1) := goodTo_snoc g3 (by rw [en]; exact e)
          refine ⟨_, rfl, _, _, rfl, rfl, some (vi c), ?_, s3, g4⟩
          rfl
      · rintro σ H3 ⟨v4, rfl, s3, g3⟩
        rw [ni_len, lS] at g3 ⊢
        have e : hs.length * (1 + i) + hs.length = hs.length * (1 + (i + 1)) := by
          rw [← Nat.mul_succ]
          congr 1
        rw [e] at g3 ⊢
        exact ⟨_, _, rfl, s1.trans (s2.trans s3), g3⟩
    · rintro σ H1 ⟨v3, v4, rfl, s1, g1⟩
      have lk : lookOk g.n g.a g.b hs = true := by
        refine decide_eq_true ?_
        rw [show 4 * hs.length = hs.length * (1 + 3) by omega]
        exact g1
      have el : look g.n g.a g.b (m, L) hs = (m + 1, if m = 0 then hs else L) := if_pos lk
      rw [el] at q
      have hx1 := s1 _ _ hx
      refine ⟨_, rfl, x, C, dx, _, _, rfl, hx1, TC.cl, TC.n6, gF_many, rfl, _, rfl, ?_⟩
      show if decide (vi m = vi 0) = true then _ else _
      rw [vi_eq]
      refine ite2 (fun z => ?_) (fun z => ?_)
      · have z' : m = 0 := of_decide_eq_true z
        refine ⟨_, rfl, h, _, rfl, .inr (SqT.of (s1 _ _ hh)), fun p hp => ?_⟩
        have npx : x ≠ p := ne_of_none hx1 hp
        have hx2 : (upd H1 p (.lst (ni hs))) x = some (.ins C dx (gF g.n g.ta g.oa g.fa g.da m fi)) := by
          rw [upd_ne npx]
          exact hx1
        refine ⟨_, rfl, x, C, dx, _, rfl, hx2, TC.cl, TC.n7, by show 7 < 1000; decide, ?_⟩
        rw [gF_put_first]
        refine ⟨_, rfl, x, C, dx, _, _, rfl, upd_same, TC.cl, TC.n6, gF_many, _, _, rfl, rfl, ?_⟩
        refine ⟨_, rfl, x, C, dx, _, rfl, upd_same, TC.cl, TC.n6, by show 7 < 1000; decide, ?_⟩
        have bt : But x H (upd (upd (upd H1 p (.lst (ni hs))) x (.ins C dx (gF g.n g.ta g.oa g.fa g.da m p))) x (.ins C dx (gF g.n g.ta g.oa g.fa g.da (m + 1) p))) := ((s1.new hp).but.put).put
        refine q _ p bt (.inr (s1.free hp)) ⟨⟨dx, ?_⟩, ?_, st.but hx bt⟩
        · exact upd_same
        · rw [upd_ne npx.symm, upd_ne npx.symm, upd_same]
          show some (HO.lst (ni hs)) = some (HO.lst (ni (if m = 0 then hs else L)))
          rw [if_pos z']
      · have z' : ¬ m = 0 := fun y => z (decide_eq_true y)
        refine ⟨_, rfl, x, C, dx, _, _, rfl, hx1, TC.cl, TC.n6, gF_many, _, _, rfl, rfl, ?_⟩
        refine ⟨_, rfl, x, C, dx, _, rfl, hx1, TC.cl, TC.n6, by show 7 < 1000; decide, ?_⟩
        have bt : But x H (upd H1 x (.ins C dx (gF g.n g.ta g.oa g.fa g.da (m + 1) fi))) := s1.but.put
        refine q _ fi bt (.inl rfl) ⟨⟨dx, ?_⟩, ?_, st.but hx bt⟩
        · exact upd_same
        · rw [upd_ne (ne_ins_lst hx hfi), s1 _ _ hfi]
          show some (HO.lst (ni L)) = some (HO.lst (ni (if m = 0 then hs else L)))
          rw [if_neg z']
/-! ### go_through -/
def spGo (C : Addr) : Sp := fun vs H Q _ => ∃ (x : Addr) (g : GS) (fi : Addr), vs = [.ref x] ∧ GAt C H x g 0 [] fi ∧ GOk g ∧
  ∀ (H' : Hp) (fj : Addr), But x H H' → GAt C H' x g (((leaves g.n g.a g.b (orbits g.n).length []).foldl (look g.n g.a g.b) (0, [])).1) (((leaves g.n g.a g.b (orbits g.n).length []).foldl (look g.n g.a g.b) (0, [])).2) fj → Q .non H'
/-- rows of numbers, tuples each at its place -/
def Tws (H : Hp) (ps : List Addr) (S : List (List Nat)) : Prop := ps.length = S.length ∧ ∀ (i : Nat) (a : Addr) (o : List Nat), ps[i]? = some a → S[i]? = some o → H a = some (.tup (ni o))
theorem Tws.mono {H H' : Hp} {ps : List Addr} {O : List (List Nat)} (r : Tws H ps O) (s : ∀ a ∈ ps, ∀ l, H a = some (.tup l) → H' a = some (.tup l)) : Tws H' ps O :=
  ⟨r.1, fun i a o h1 h2 => s a (List.mem_of_getElem? h1) _ (r.2 i a o h1 h2)⟩
theorem Tws.snoc {H : Hp} {ps : List Addr} {O : List (List Nat)} {a : Addr} {o : List Nat} (r : Tws H ps O) (h : H a = some (.tup (ni o))) : Tws H (ps ++ [a]) (O ++ [o]) := by
  refine ⟨by simp [r.1], fun i b u h1 h2 => ?_⟩
  by_cases l : i < ps.length
  · rw [List.getElem?_append_left l] at h1
    rw [List.getElem?_append_left (by rw [← r.1]; exact l)] at h2
    exact r.2 i b u h1 h2
  · have hl := (List.getElem?_eq_some_iff.mp h1).1
    rw [List.length_append, List.length_singleton] at hl
    have e : i = ps.length := by omega
    subst e
    have e1 : a = b := by simpa using h1
    have e2 : o = u := by rw [r.1] at h2; simpa using h2
    rw [← e1, ← e2]
    exact h
theorem Tws.app {H : Hp} {ps qs : List Addr} {O U : List (List Nat)} (r : Tws H ps O) (t : Tws H qs U) : Tws H (ps ++ qs) (O ++ U) := by
  refine ⟨by simp [r.1, t.1], fun i b u h1 h2 => ?_⟩
  by_cases l : i < ps.length
  · rw [List.getElem?_append_left l] at h1
    rw [List.getElem?_append_left (by rw [← r.1]; exact l)] at h2
    exact r.2 i b u h1 h2
  · rw [List.getElem?_append_right (by omega)] at h1
    rw [List.getElem?_append_right (by rw [← r.1]; omega), ← r.1] at h2
    exact t.2 _ b u h1 h2
theorem Tws.split {H : Hp} {ps : List Addr} {O : List (List Nat)} (r : Tws H ps O) (h : 0 < ps.length) : ∃ ps' a O' o, ps = ps' ++ [a] ∧ O = O' ++ [o] ∧ H a = some (.tup (ni o)) ∧ Tws H ps' O' := by
  have h2 : 0 < O.length := by rw [← r.1]; exact h
  cases e1 : ps.getLast? with
  | none =>
    rw [List.getLast?_eq_none_iff] at e1
    subst e1
    simp at h
  | some a =>
    cases e2 : O.getLast? with
    | none =>
      rw [List.getLast?_eq_none_iff] at e2
      subst e2
      simp at h2
    | some o =>
      obtain ⟨ps', rfl⟩ := List.getLast?_eq_some_iff.mp e1
      obtain ⟨O', rfl⟩ := List.getLast?_eq_some_iff.mp e2
      have l : ps'.length = O'.length := by
        have := r.1
        simp only [List.length_append, List.length_singleton] at this
        omega
      refine ⟨ps', a, O', o, rfl, rfl, r.2 ps'.length a o (by simp) (by rw [l]; simp), l, fun i b u h1 h2 => ?_⟩
      have hi := (List.getElem?_eq_some_iff.mp h1).1
      exact r.2 i b u (by rw [List.getElem?_append_left hi]; exact h1) (by rw [List.getElem?_append_left (by omega)]; exact h2)
abbrev sGo : Stmt := inClass (topS 13) 2
abbrev nGo : List Str := ["self", "waiting", "holes", "cell"]
theorem scGo : FnScope nGo ["self"] (defScope sGo) := ⟨rfl, rfl, rfl, by decide +kernel, rfl, by decide +kernel, by decide +kernel⟩
theorem nr_app {ps qs : List Addr} : nr (ps ++ qs) = nr ps ++ nr qs := List.map_append
theorem ok_go {f : Addr} {fd : FuncData} (F : Fun K "go_through" "Guess.go_through" sGo f fd) (T : Blt mg) (TC : TG K C) (M1 : Mth P w K mg base 1 C "nexts" ["self", "holes"] (spNx C)) (M2 : Mth P w K mg base 3 C "look_at" ["self", "holes"] (spLk C)) : FnOk P w K mg base CX0 4 f fd ["self"] (spGo C) := by
  obtain ⟨f1, fd1, G1, m1, b1⟩ := M1
  obtain ⟨f2, fd2, G2, m2, b2⟩ := M2
  refine F.ok scGo (fun vs H Q E h => ?_) (fun cdv A outer s H vs Q E hr h => ?_)
  · obtain ⟨x, g, fi, rfl, _⟩ := h
    rfl
  · have hr1 : Room 1 _ := hr.mono (by decide)
    refine ⟨_, pss_cons (ps_set (i := 1) scGo.nd rfl (.inl rfl) (pe_lst (pa_cons (pe_tup pa_nil) pa_nil)))
      (pss_one (ps_while PassesOwn.never (pt_cmpR op_gt (pe_callB call_len (by rfl) T.len (by decide +kernel) (pa_cons (pv 1) pa_nil)) pe_int (nomark _))
        (pss_cons (ps_set (i := 2) scGo.nd rfl (.inr rfl) (pe_bm0 PySem.F.plainAttrs_list PySem.F.slot_list_pop PySem.F.type_list_pop mt_pop (pv 1)))
        (pss_one (ps_if (pt_cmpR op_eq (pe_callB call_len (by rfl) T.len (by decide +kernel) (pa_cons (pv 2) pa_nil)) (pe_callB call_len (by rfl) T.len (by decide +kernel) (pa_cons (pe_fld (pv 0) rfl) pa_nil)) (nomark _))
          (pss_one (ps_expr (pe_meth (pv 0) TC.cl m2 G2 hr b2 .nil pass0 (pa_cons (pv 2) pa_nil))))
          (pss_one (ps_expr (pe_bm PySem.F.plainAttrs_list PySem.F.slot_list_extend PySem.F.type_list_extend mt_extend (pv 1)
            (pa_cons (pe_lc (own := [("cell", 3)]) (g := gName 3) (tt := tYes) rfl scGo.nd (pi_reversed (by rfl) T.reversed (pa_cons (pe_meth (pv 0) TC.cl m1 G1 hr1 b1 .nil pass0 (pa_cons (pv 2) pa_nil)) pa_nil)) (blkOk_by (N := nGo) (sc := defScope sGo) (by decide +kernel))
              (fun _ _ _ _ _ => pg_name (i := 3) scGo.nd rfl (Or.inl rfl)) (fun _ _ _ _ _ => pts_nil) (fun _ _ _ _ _ => pe_op (r := rCatA K) op_catA (pv 2) (pe_tup (pa_cons (pv 3) pa_nil)))) pa_nil))))))))), ?_⟩
    obtain ⟨x, g, fi0, rfl, ga, ok, q⟩ := h
    have hle := ok.sz.le
    have h9 := orbits_le ok.sz
    obtain ⟨dx0, hx0⟩ := ga.ob
    refine ⟨Nat.zero_le _, fun p0 hp0 => ⟨by show 1 ≤ sizeLine; decide, fun wp hwp => ?_⟩⟩
    have s0 : Same H (upd H p0 (.tup [])) := (Same.refl H).new hp0
    have hwH : H wp = none := s0.free hwp
    have s1 := s0.new (o := .lst [V.ref p0]) hwp
    have n0 : p0 ≠ wp := fun e => by
      rw [← e, upd_same] at hwp
      cases hwp
    refine ⟨fun μ σ H' => ∃ (S : List (List Nat)) (ws : List Addr) (v2 : Option V) (m' : Nat) (L' : List Nat) (fi : Addr), μ = cost g.n g.a g.b S ∧ σ = [some (.ref x), some (.ref wp), v2, none] ∧ But x H H' ∧ H' wp = some (.lst (nr ws)) ∧ Tws H' ws S ∧ fi ≠ wp ∧ GAt C H' x g m' L' fi ∧ Stk g.n g.a g.b S ∧
      (rem g.n g.a g.b S).foldl (look g.n g.a g.b) (m', L') = (leaves g.n g.a g.b (orbits g.n).length []).foldl (look g.n g.a g.b) (0, []), ⟨_, [[]], [p0], none, 0, [], fi0, rfl, rfl, s1.but, upd_same, ⟨rfl, fun i a o h1 h2 => ?_⟩, ne_of_none ga.fl hwH, ga.same s1, stk_one, ?_⟩, ?_⟩
    · have hi := (List.getElem?_eq_some_iff.mp h1).1
      have : i = 0 := by simpa using hi
      subst this
      have e1 : p0 = a := by simpa using h1
      have e2 : ([] : List Nat) = o := by simpa using h2
      rw [← e1, ← e2, upd_ne n0, upd_same]
      rfl
    · show (rem g.n g.a g.b [[]]).foldl _ _ = _
      congr 1
      unfold rem
      simp
    · rintro μ σ H1 ⟨S, ws, v2, m', L', fi, rfl, rfl, bt, ew, tw, nfw, gt, sk, eq⟩
      have hlw : ws.length ≤ 325 := by rw [tw.1]; exact sk.len ok.sz
      obtain ⟨dx, hx⟩ := gt.ob
      refine ⟨_, rfl, _, ws.length, rfl, .inl ⟨_, SqL.of ew, by simp [nr]⟩, _, _, rfl, rfl, _, rfl, ?_⟩
      refine ite2 (fun c => ?_) (fun c => ?_)
      · have hl : 0 < ws.length := by
          have := of_decide_eq_true c
          omega
        obtain ⟨ws', a, S', h, rfl, rfl, ha, tw'⟩ := tw.split hl
        refine ⟨fun σ' H' => ∃ S2 ws2 v2 m2 L2' fj, cost g.n g.a g.b S2 < cost g.n g.a g.b (S' ++ [h]) ∧ σ' = [some (.ref x), some (.ref wp), v2, none] ∧ But x H H' ∧ H' wp = some (.lst (nr ws2)) ∧ Tws H' ws2 S2 ∧ fj ≠ wp ∧ GAt C H' x g m2 L2' fj ∧ Stk g.n g.a g.b S2 ∧
          (rem g.n g.a g.b S2).foldl (look g.n g.a g.b) (m2, L2') = (leaves g.n g.a g.b (orbits g.n).length []).foldl (look g.n g.a g.b) (0, []), fun σ' H' ⟨S2, ws2, v2, m2, L2', fj, h1, h2⟩ => ⟨_, h1, S2, ws2, v2, m2, L2', fj, rfl, h2⟩, ?_⟩
        have nwx : wp ≠ x := ne_ins_lst hx ew
        have nwa : a ≠ wp := ne_of ha ew (fun z => nomatch z)
        have hat := sk.put h (by simp)
        have hal := sk.le h (by simp)
        refine ⟨_, rfl, .inl ⟨rfl, _, SqL.of ew⟩, wp, nr (ws' ++ [a]), .ref a, rfl, rfl, ew, by simp [nr], ?_⟩
        have ed : (nr (ws' ++ [a])).dropLast = nr ws' := by simp [nr]
        rw [ed]
        have bt2 : But x H (upd H1 wp (.lst (nr ws'))) := bt.own hwH
        have ha2 : (upd H1 wp (.lst (nr ws'))) a = some (.tup (ni h)) := by
          rw [upd_ne nwa]
          exact ha
        have tw2 : Tws (upd H1 wp (.lst (nr ws'))) ws' S' := tw'.mono fun b hb l hbl => by
          rw [upd_ne (ne_of hbl ew fun z => nomatch z)]
          exact hbl
        have hx2 : (upd H1 wp (.lst (nr ws'))) x = some (.ins C dx (gF g.n g.ta g.oa g.fa g.da m' fi)) := by
          rw [upd_ne nwx.symm]
          exact hx
        have keepL : ∀ {b l}, b ≠ wp → H1 b = some (.lst l) → (upd H1 wp (.lst (nr ws'))) b = some (.lst l) := fun {b l} n e => by
          rw [upd_ne n]
          exact e
        have old : ∀ {b o}, H b = some o → b ≠ wp := fun {b o} e => ne_of_none e hwH
        have nts : g.ta ≠ wp ∧ g.oa ≠ wp ∧ g.fa ≠ wp ∧ g.da ≠ wp := ⟨old ga.st.ta, old ga.st.oa, old ga.st.fa, old ga.st.da⟩
        have st2 : GSt (upd H1 wp (.lst (nr ws'))) g := by
          refine ⟨keepL nts.1 gt.st.ta, keepL nts.2.1 gt.st.oa, keepL nts.2.2.1 gt.st.fa, ⟨gt.st.rw.1, fun i b o h1 h2 => keepL (old (ga.st.rw.2 i b o h1 h2)) (gt.st.rw.2 i b o h1 h2)⟩, ?_⟩
          rw [upd_ne nts.2.2.2]
          exact gt.st.da
        have gt2 : GAt C (upd H1 wp (.lst (nr ws'))) x g m' L' fi := ⟨⟨dx, hx2⟩, keepL nfw gt.fl, st2⟩
        refine ⟨_, rfl, _, h.length, rfl, .inr ⟨_, SqT.of ha2, by rw [ni_len]⟩, _, rfl, x, C, dx, _, _, rfl, hx2, TC.cl, TC.n4, gF_fours, _, g.ps.length, rfl, .inl ⟨_, SqL.of st2.fa, by simp [nr]⟩, rfl, _, rfl, ?_⟩
        show if decide (vi h.length = vi g.ps.length) = true then _ else _
        rw [vi_eq, st2.rw.1]
        refine ite2 (fun z => ?_) (fun z => ?_)
        · have z' : h.length = (orbits g.n).length := of_decide_eq_true z
          have pk := put_pick ok.sz hat z'
          refine ⟨_, rfl, x, dx, _, rfl, hx2, gF_m4, _, rfl, x, a, g, m', L', h, fi, rfl, gt2, ok, ha2, pk, z', fun H3 fj b3 hj g3 => ?_⟩
          have ne3 : fj ≠ wp := by
            rcases hj with e | e
            · rw [e]; exact nfw
            · exact fun y => by
                rw [y, upd_same] at e
                cases e
          refine ⟨S', ws', _, _, _, fj, cost_leaf z', rfl, bt2.trans b3, b3 _ _ upd_same nwx, tw2.mono fun b hb l hbl => b3 _ _ hbl (ne_ins_tup hx2 hbl), ne3, g3, sk.pop, ?_⟩
          rw [rem_leaf z', List.foldl_cons] at eq
          exact eq
        · have z' : h.length < (orbits g.n).length := by
            have : ¬ h.length = (orbits g.n).length := fun y => z (decide_eq_true y)
            omega
          refine ⟨_, rfl, .inl ⟨rfl, _, SqL.of upd_same⟩, _, rfl, x, dx, _, rfl, hx2, gF_m3, _, rfl, x, a, g, m', L', h, fi, rfl, gt2, ok, ha2, hat, z', fun H3 p3 s3 n3 e3 => ?_⟩
          have lx := nexts_len ok.sz (a := g.a) (b := g.b) (k := h)
          generalize hN : nexts g.n g.a g.b h = N at *
          refine ⟨p3, ni N, rfl, SqL.of e3, fun D hD => ?_⟩
          refine lc_it (walk_rev (K := K) (a := p3) (xs := ni N)) (fun i H' => ∃ qs : List Addr, Same H3 H' ∧ H' D = some (.lst (nr qs)) ∧ Tws H' qs ((N.reverse.take i).map fun c => h ++ [c])) ⟨[], (Same.refl H3).new hD, upd_same, rfl, fun i a o h1 h2 => by simp at h1⟩ (fun i H' _ ⟨_, s4, _⟩ => s4.seq (SqL.of e3)) ?_ ?_
          · rintro i v H4 H4' hi ⟨qs, s4, e4, t4⟩ ⟨rfl, hv⟩
            rw [ni_len] at hi hv
            obtain ⟨c, hc, rfl⟩ := ni_get_inv hv
            have hc2 : N.reverse[i]? = some c := by rw [List.getElem?_reverse hi]; exact hc
            have et : (N.reverse.take (i + 1)).map (fun c => h ++ [c]) = (N.reverse.take i).map (fun c => h ++ [c]) ++ [h ++ [c]] := by
              rw [List.take_add_one, hc2, List.map_append]
              rfl
            have ha4 : H4' a = some (.tup (ni h)) := s4 _ _ (s3 _ _ ha2)
            have lq : qs.length ≤ 36 := by
              rw [t4.1, List.length_map, List.length_take, List.length_reverse]
              omega
            have pack : ∀ H5 y, Same H4' H5 → H5 y = some (.tup (ni (h ++ [c]))) → H4' y = none → ∃ acc, H5 D = some (.lst acc) ∧ acc.length < sizeLine ∧ ∃ qs : List Addr, Same H3 (upd H5 D (.lst (acc ++ [.ref y]))) ∧ (upd H5 D (.lst (acc ++ [.ref y]))) D = some (.lst (nr qs)) ∧ Tws (upd H5 D (.lst (acc ++ [.ref y]))) qs ((N.reverse.take (i + 1)).map fun c => h ++ [c]) := fun H5 y s5 e5 n5 => by
              have nyD : y ≠ D := fun t => by
                rw [t, e4] at n5
                cases n5
              refine ⟨nr qs, s5 _ _ e4, by simp only [nr, List.length_map]; exact smallL (by omega), qs ++ [y], (s4.trans s5).own hD, by rw [upd_same, nr_app]; rfl, ?_⟩
              rw [et]
              refine Tws.snoc (t4.mono fun b hb l hbl => ?_) ?_
              · rw [upd_ne (ne_of hbl e4 fun z => nomatch z)]
                exact s5 _ _ hbl
              · rw [upd_ne nyD]
                exact e5
            refine ⟨rfl, _, rfl, _, rfl, by show 1 ≤ sizeLine; decide, fun p5 hp5 => ?_⟩
            have s5 : Same H4' (upd H4' p5 (.tup [vi c])) := (Same.refl H4').new hp5
            refine ⟨a, p5, ni h, [vi c], rfl, rfl, SqT.of (s5 _ _ ha4), SqT.of upd_same, ?_, fun hn => ?_, (fun _ hn => nomatch hn), fun _ _ p6 hp6 => ?_⟩
            · rw [ni_len]
              exact small (by show h.length + 1 ≤ _; omega)
            · have : h = [] := by
                cases h with
                | nil => rfl
                | cons _ _ => cases hn
              subst this
              exact pack _ p5 s5 upd_same hp5
            · refine pack _ p6 (s5.new hp6) ?_ (s5.free hp6)
              rw [upd_same, ni_app]
              rfl
          · rintro H4 ⟨qs, s4, e4, t4⟩
            rw [ni_len, List.take_of_length_le (Nat.le_of_eq List.length_reverse)] at t4
            have s24 := s3.trans s4
            have ew4 : H4 wp = some (.lst (nr ws')) := s24 _ _ upd_same
            have nDw : D ≠ wp := fun t => by
              rw [t, s3 _ _ upd_same] at hD
              cases hD
            have lq : qs.length ≤ 36 := by
              rw [t4.1, List.length_map, List.length_reverse]
              omega
            refine ⟨wp, D, nr ws', nr qs, rfl, rfl, ew4, e4, ?_, ?_⟩
            · simp only [nr, List.length_map]
              rw [List.length_append] at hlw
              exact small (by omega)
            · refine ⟨S' ++ N.reverse.map fun c => h ++ [c], ws' ++ qs, _, m', L', fi, ?_, rfl, (bt2.trans s24.but).own hwH, by rw [upd_same, nr_app], ?_, nfw, ?_, ?_, ?_⟩
              · rw [← hN]
                exact cost_node z'
              · refine Tws.app ((tw2.mono fun b hb l hbl => s24 _ _ hbl).mono fun b hb l hbl => ?_) (t4.mono fun b hb l hbl => ?_)
                · rw [upd_ne (ne_of hbl ew4 fun z => nomatch z)]
                  exact hbl
                · rw [upd_ne (ne_of hbl ew4 fun z => nomatch z)]
                  exact hbl
              · have g4 := gt2.same s24
                obtain ⟨dx4, hx4⟩ := g4.ob
                refine ⟨⟨dx4, ?_⟩, ?_, ?_⟩
                · rw [upd_ne nwx.symm]
                  exact hx4
                · rw [upd_ne nfw]
                  exact g4.fl
                · have k4 : ∀ {b l}, b ≠ wp → H4 b = some (.lst l) → (upd H4 wp (.lst (nr ws' ++ nr qs))) b = some (.lst l) := fun {b l} n e => by
                    rw [upd_ne n]
                    exact e
                  refine ⟨k4 nts.1 g4.st.ta, k4 nts.2.1 g4.st.oa, k4 nts.2.2.1 g4.st.fa, ⟨g4.st.rw.1, fun i b o h1 h2 => k4 (old (ga.st.rw.2 i b o h1 h2)) (g4.st.rw.2 i b o h1 h2)⟩, ?_⟩
                  rw [upd_ne nts.2.2.2]
                  exact g4.st.da
              · have := sk.push ok.sz z'
                rw [hN] at this
                exact this
              · rw [rem_node z', hN] at eq
                exact eq
      · have hl : ws = [] := by
          apply List.eq_nil_of_length_eq_zero
          have : ¬ (0 : Int) < (ws.length : Int) := fun z => c (decide_eq_true z)
          omega
        subst hl
        have hS : S = [] := List.eq_nil_of_length_eq_zero tw.1.symm
        subst hS
        have e0 : (m', L') = (leaves g.n g.a g.b (orbits g.n).length []).foldl (look g.n g.a g.b) (0, []) := eq
        refine q H1 fi bt ?_
        rw [← e0]
        exact gt
end
end Hc
namespace Hc
open PySem PySem.Spec PyProof.Rows L2
open Uw56 (Card turn turns rising orbit orbits firstCard cells due)
/-! ### Guess.__init__ -/
/-- the fields, as they come -/
def gF5 (n : Nat) (ta oa fa da : Addr) : List (Str × V) := [("size", vi n), ("text", .ref ta), ("other", .ref oa), ("fours", .ref fa), ("four_of", .ref da)]
section
variable {n m : Nat} {ta oa fa da fi : Addr}
theorem gF5_init : putF "four_of" (.ref da) (putF "fours" (.ref fa) (putF "other" (.ref oa) (putF "text" (.ref ta) (putF "size" (vi n) [])))) = gF5 n ta oa fa da := by kernel_rfl
theorem gF5_fours : (gF5 n ta oa fa da).lookup ("fours" : Str) = some (.ref fa) := by kernel_rfl
theorem gF5_four_of : (gF5 n ta oa fa da).lookup ("four_of" : Str) = some (.ref da) := by kernel_rfl
theorem gF5_all : putF "first" (.ref fi) (putF "many" (vi m) (gF5 n ta oa fa da)) = gF n ta oa fa da m fi := by kernel_rfl
theorem gF_l1 : (putF "size" (vi n) []).length = 1 := by kernel_rfl
theorem gF_l2 : (putF "text" (.ref ta) (putF "size" (vi n) [])).length = 2 := by kernel_rfl
theorem gF_l3 : (putF "other" (.ref oa) (putF "text" (.ref ta) (putF "size" (vi n) []))).length = 3 := by kernel_rfl
theorem gF_l4 : (putF "fours" (.ref fa) (putF "other" (.ref oa) (putF "text" (.ref ta) (putF "size" (vi n) [])))).length = 4 := by kernel_rfl
theorem gF_l6 : (putF "many" (vi m) (gF5 n ta oa fa da)).length = 6 := by kernel_rfl
theorem gF_r1 : (putF "size" (vi n) []).lookup ("size" : Str) = some (vi n) := by kernel_rfl
end
/-- the number of a cell's four, as far as they are put in: i fours whole, of the next one j cells -/
def dl (n i j c : Nat) : Option Nat := match orb n c with
  | none => none
  | some k => if k < i ∨ (k = i ∧ c ∈ ((orbits n).getD i []).take j) then some k else none
theorem dl_zero {n c : Nat} : dl n 0 0 c = none := by
  unfold dl
  split
  · rfl
  · rw [if_neg]
    simp
theorem dl_all {n c : Nat} (h : Sz n) : dl n (orbits n).length 0 c = orb n c := by
  unfold dl
  split
  · rename_i e
    exact e.symm
  · rename_i k e
    rw [if_pos (.inl (orb_lt e)), e]
theorem if_iff {A B : Prop} [Decidable A] [Decidable B] {u v : Option Nat} (h : A ↔ B) : (if A then u else v) = if B then u else v := by
  by_cases z : A
  · rw [if_pos z, if_pos (h.mp z)]
  · rw [if_neg z, if_neg fun t => z (h.mpr t)]
theorem dl_next {n i c : Nat} (h : Sz n) (hi : i < (orbits n).length) : dl n i 4 c = dl n (i + 1) 0 c := by
  unfold dl
  split
  · rfl
  · rename_i k e
    obtain ⟨o, ho, hc⟩ := orb_some e
    refine if_iff ⟨fun t => .inl (by omega), fun t => ?_⟩
    have z : k < i + 1 := by
      rcases t with t | ⟨_, t⟩
      · exact t
      · simp at t
    by_cases y : k < i
    · exact .inl y
    · refine .inr ⟨by omega, ?_⟩
      have ek : k = i := by omega
      rw [← ek]
      have eg : (orbits n).getD k [] = o := by simp [ho]
      rw [eg, List.take_of_length_le (Nat.le_of_eq (orbit_len h (List.mem_of_getElem? ho)))]
      exact hc
theorem dl_put {n i j c x : Nat} {o : List Nat} (h : Sz n) (ho : (orbits n)[i]? = some o) (hx : o[j]? = some x) : dl n i (j + 1) c = if c = x then some i else dl n i j c := by
  have hxo := List.mem_of_getElem? hx
  have ex := orb_mem h ho hxo
  have eg : (orbits n).getD i [] = o := by simp [ho]
  by_cases z : c = x
  · subst z
    rw [if_pos rfl]
    unfold dl
    rw [ex]
    dsimp only
    rw [if_pos]
    refine .inr ⟨rfl, ?_⟩
    rw [eg, List.take_add_one, hx]
    simp
  · rw [if_neg z]
    unfold dl
    split
    · rfl
    · rename_i k e
      have : c ∈ ((orbits n).getD i []).take (j + 1) ↔ c ∈ ((orbits n).getD i []).take j := by
        rw [eg, List.take_add_one, hx, List.mem_append]
        simp [z]
      exact if_iff (by rw [this])
theorem inl_inj {a b : Nat} : ((Sum.inl (a : Int) : Key) = Sum.inl (b : Int)) ↔ a = b := by
  constructor
  · intro e
    have := Sum.inl.inj e
    omega
  · exact fun e => by rw [e]
section
variable {P : Program} {w : World} {K : PySem.W.Frag} {mg : Str → Option Value} {base : Heap} {C : Addr}
def spGi (C : Addr) : Sp := fun vs H Q _ => ∃ (x dx ta oa : Addr) (n : Nat) (a b : List Nat), vs = [.ref x, vi n, .ref ta, .ref oa] ∧ H x = some (.ins C dx []) ∧ H ta = some (.lst (ni a)) ∧ H oa = some (.lst (ni b)) ∧ Sz n ∧ a.length = n * n ∧ b.length = n * n ∧
  ∀ (H' : Hp) (g : GS) (fi : Addr), But x H H' → GAt C H' x g (hits n a b).length ((hits n a b).headD []) fi → Q .non H'
abbrev sGi : Stmt := inClass (topS 13) 0
abbrev nGi : List Str := ["self", "size", "text", "other", "number", "some", "cell"]
theorem scGi : FnScope nGi ["self", "size", "text", "other"] (defScope sGi) := ⟨rfl, rfl, rfl, by decide +kernel, rfl, by decide +kernel, by decide +kernel⟩
theorem ok_gi {f : Addr} {fd : FuncData} (F : Fun K "__init__" "Guess.__init__" sGi f fd) (T : Blt mg) (TC : TG K C) (D1 : Def P w K mg base 3 "all_mates" ["size"] (spAm K)) (M1 : Mth P w K mg base 2 C "is_middle_right" ["self"] (spMr C)) (M2 : Mth P w K mg base 4 C "go_through" ["self"] (spGo C)) : FnOk P w K mg base CX0 5 f fd ["self", "size", "text", "other"] (spGi C) := by
  obtain ⟨f0, fd0, G0, m0, k0, b0⟩ := D1
  obtain ⟨f1, fd1, G1, m1, b1⟩ := M1
  obtain ⟨f2, fd2, G2, m2, b2⟩ := M2
  refine F.ok scGi (fun vs H Q E h => ?_) (fun cdv A outer s H vs Q E hr h => ?_)
  · obtain ⟨x, dx, ta, oa, n, a, b, rfl, _⟩ := h
    rfl
  · have hu := hu_of hr
    have hr3 : Room 3 _ := hr.mono (by decide)
    have hr2 : Room 2 _ := hr.mono (by decide)
    refine ⟨_, pss_cons (ps_fld (pv 0) (pv 1) rfl) (pss_cons (ps_fld (pv 0) (pv 2) rfl) (pss_cons (ps_fld (pv 0) (pv 3) rfl)
      (pss_cons (ps_fld (pv 0) (pe_call G0 hr3 (by rfl) m0 k0 b0 .nil pass0 (pa_cons (pv 1) pa_nil)) rfl)
      (pss_cons (ps_fld (pv 0) pe_dnewK rfl)
      (pss_cons (ps_for PassesOwn.never rfl (pi_enum (by rfl) T.enumerate (pa_cons (pe_fld (pv 0) rfl) pa_nil)) (pg_tup rfl (pgs_cons (pg_name (i := 4) scGi.nd rfl (.inl rfl)) (pgs_cons (pg_name (i := 5) scGi.nd rfl (.inl rfl)) pgs_nil)))
        (pss_one (ps_for PassesOwn.never rfl (pi_list (pv 5)) (pg_name (i := 6) scGi.nd rfl (.inl rfl))
          (pss_one (ps_dput hu (pe_fld (pv 0) rfl) (pv 6) (pv 4) rfl)))))
      (pss_cons (ps_fld (pv 0) pe_int rfl) (pss_cons (ps_fld (pv 0) (pe_lst pa_nil) rfl)
      (pss_one (ps_if (pt_val (pe_meth0 (pv 0) TC.cl m1 G1 hr2 b1 .nil pass0)) (pss_one (ps_expr (pe_meth0 (pv 0) TC.cl m2 G2 hr b2 .nil pass0))) pss_nil))))))))), ?_⟩
    obtain ⟨x, dx, ta, oa, n, a, b, rfl, hx, hta, hoa, hn, la, lb, q⟩ := h
    have ntx : ta ≠ x := ne_ins_lst hx hta
    have nox : oa ≠ x := ne_ins_lst hx hoa
    refine ⟨_, rfl, _, rfl, x, C, dx, _, rfl, hx, TC.cl, TC.n1, by show 0 < 1000; decide, ?_⟩
    refine ⟨_, rfl, _, rfl, x, C, dx, _, rfl, upd_same, TC.cl, TC.n2, by rw [gF_l1]; decide, ?_⟩
    refine ⟨_, rfl, _, rfl, x, C, dx, _, rfl, upd_same, TC.cl, TC.n3, by rw [gF_l2]; decide, ?_⟩
    refine ⟨_, rfl, n, rfl, hn, fun H1 fa ps s1 n1 e1 r1 => ?_⟩
    have bt0 : But x H H1 := (((But.refl.put).put).put).trans s1.but
    have hx1 := s1 _ _ (upd_same (H := _) (a := x))
    refine ⟨_, rfl, x, C, dx, _, rfl, hx1, TC.cl, TC.n4, by rw [gF_l3]; decide, ?_⟩
    intro da hda
    have nxa : x ≠ da := ne_of_none upd_same hda
    refine ⟨_, rfl, x, C, dx, _, rfl, (upd_ne nxa).trans upd_same, TC.cl, TC.n5, by rw [gF_l4]; decide, ?_⟩
    rw [gF5_init]
    have nfx : fa ≠ x := ne_ins_lst hx1 e1
    have nda : da ≠ x := nxa.symm
    have hdaH1 : H1 da = none := by
      rw [upd_ne nda] at hda
      exact hda
    generalize hH2 : upd (upd (upd H1 x (HO.ins C dx _)) da (HO.dK [])) x (HO.ins C dx (gF5 n ta oa fa da)) = H2
    have bt2 : But x H1 H2 := by
      rw [← hH2]
      exact ((But.refl.put).own hdaH1).put
    have hx2 : H2 x = some (.ins C dx (gF5 n ta oa fa da)) := by rw [← hH2, upd_same]
    have hd2 : H2 da = some (.dK []) := by rw [← hH2, upd_ne nda, upd_same]
    have ef2 : H2 fa = some (.lst (nr ps)) := bt2 _ _ e1 nfx
    have r2 : Rws H2 ps (orbits n) := ⟨r1.1, fun i u o h1 h2 => bt2 _ _ (r1.2 i u o h1 h2) (ne_ins_lst hx1 (r1.2 i u o h1 h2))⟩
    have lps := r1.1
    have h9 := orbits_le hn
    refine ⟨_, rfl, x, C, dx, _, _, rfl, hx2, TC.cl, TC.n4, gF5_fours, fa, nr ps, rfl, SqL.of ef2, ?_⟩
    refine for_it (walk_enum (K := K) (a := fa) (xs := nr ps)) (fun i σ H' => ∃ v4 v5 v6 kvs, σ = [some (.ref x), some (vi n), some (.ref ta), some (.ref oa), v4, v5, v6] ∧ But da H2 H' ∧ H' da = some (.dK kvs) ∧ kvs.length ≤ 4 * i ∧ ∀ c : Nat, valV kvs (Sum.inl (c : Int)) = (dl n i 0 c).map vi)
      ⟨none, none, none, [], rfl, But.refl, hd2, Nat.le_refl _, fun c => by rw [dl_zero]; rfl⟩ (fun i σ H' _ ⟨_, _, _, _, _, b3, _⟩ => SqL.of (b3 _ _ ef2 (ne_of ef2 hd2 fun z => nomatch z))) ?_ ?_
    · rintro i v σ H3 H3' hi ⟨v4, v5, v6, kvs, rfl, b3, e3, l3, d3⟩ ⟨T0, y, z, rfl, hT, rfl, ey, ez⟩
      obtain ⟨pf, hpf, rfl⟩ := nr_get ez
      have hy : y = vi i := (Option.some.inj ey).symm
      subst hy
      obtain ⟨o, ho, eo⟩ := r2.get hpf
      have hom := List.mem_of_getElem? ho
      have l4 := orbit_len hn hom
      have sT : Same H3 (upd H3 T0 (.tup [vi i, .ref pf])) := (Same.refl H3).new hT
      have eo3 : H3 pf = some (.lst (ni o)) := b3 _ _ eo (ne_of eo hd2 fun z => nomatch z)
      have b3' : But da H2 (upd H3 T0 (.tup [vi i, .ref pf])) := b3.trans sT.but
      refine ⟨T0, _, rfl, SqT.of upd_same, rfl, _, _, rfl, _, _, rfl, rfl, ?_⟩
      refine ⟨_, rfl, pf, rfl, ⟨_, SqL.of (sT _ _ eo3)⟩, for_list (K := K) (a := pf) (xs := ni o) (fun j σ H' => ∃ v6 kvs, σ = [some (.ref x), some (vi n), some (.ref ta), some (.ref oa), some (vi i), some (.ref pf), v6] ∧ But da H2 H' ∧ H' da = some (.dK kvs) ∧ kvs.length ≤ 4 * i + j ∧ ∀ c : Nat, valV kvs (Sum.inl (c : Int)) = (dl n i j c).map vi)
        ⟨v6, kvs, rfl, b3', sT _ _ e3, l3, d3⟩ (fun j σ H' _ ⟨_, _, _, b4, _⟩ => SqL.of (b4 _ _ eo (ne_of eo hd2 fun z => nomatch z))) ?_ ?_⟩
      · rintro j v σ H4 hv ⟨v6, kvs, rfl, b4, e4, l4', d4⟩
        obtain ⟨c, hc, rfl⟩ := ni_get_inv hv
        have hj : j < 4 := by
          rw [← l4]
          exact (List.getElem?_eq_some_iff.mp hc).1
        have hil : i < ps.length := by simpa [nr] using hi
        have hx4 : H4 x = some (.ins C dx (gF5 n ta oa fa da)) := b4 _ _ hx2 nxa
        refine ⟨_, rfl, _, rfl, x, C, dx, _, _, rfl, hx4, TC.cl, TC.n5, gF5_four_of, _, rfl, da, _, rfl, DPut.k (k := Sum.inl (c : Int)) e4 (smallL (by omega)), ?_⟩
        refine ⟨_, _, rfl, b4.put, upd_same, Nat.le_trans (length_putK _ _ _) (by omega), fun c' => ?_⟩
        rw [valV_put, dl_put hn ho hc, d4]
        by_cases z : c' = c
        · rw [if_pos (inl_inj.mpr z), if_pos z]
          rfl
        · rw [if_neg fun t => z (inl_inj.mp t), if_neg z]
      · rintro σ H4 ⟨v6, kvs, rfl, b4, e4, l4', d4⟩
        rw [ni_len, l4] at l4' d4
        refine ⟨_, _, _, kvs, rfl, b4, e4, by omega, fun c => ?_⟩
        rw [d4, dl_next hn (List.getElem?_eq_some_iff.mp ho).1]
    · rintro σ H3 ⟨v4, v5, v6, kvs, rfl, b3, e3, l3, d3⟩
      have lnp : (nr ps).length = (orbits n).length := by rw [List.length_map, lps]
      rw [lnp] at d3
      have hx3 : H3 x = some (.ins C dx (gF5 n ta oa fa da)) := b3 _ _ hx2 nxa
      refine ⟨_, rfl, x, C, dx, _, rfl, hx3, TC.cl, TC.n6, by show 5 < 1000; decide, ?_⟩
      refine ⟨Nat.zero_le _, fun fi hfi => ?_⟩
      have nxi : x ≠ fi := ne_of_none upd_same hfi
      refine ⟨_, rfl, x, C, dx, _, rfl, (upd_ne nxi).trans upd_same, TC.cl, TC.n7, by rw [show V.int 0 = vi 0 from rfl, gF_l6]; decide, ?_⟩
      rw [show V.int 0 = vi 0 from rfl, gF5_all]
      have hfi3 : H3 fi = none := by
        rw [upd_ne nxi.symm] at hfi
        exact hfi
      generalize hH4 : upd (upd (upd H3 x (HO.ins C dx _)) fi (HO.lst [])) x (HO.ins C dx (gF n ta oa fa da 0 fi)) = H4
      have b4 : But x H3 H4 := by
        rw [← hH4]
        exact ((But.refl.put).own hfi3).put
      have hx4 : H4 x = some (.ins C dx (gF n ta oa fa da 0 fi)) := by rw [← hH4, upd_same]
      have hf4 : H4 fi = some (.lst (ni [])) := by
        rw [← hH4, upd_ne nxi.symm, upd_same]
        rfl
      have old : ∀ {u : Addr} {l : List V}, H u = some (.lst l) → H4 u = some (.lst l) := fun {u l} e => by
        have nu : u ≠ x := ne_ins_lst hx e
        have e1' := bt0 _ _ e nu
        have nud : u ≠ da := ne_of_none e1' hdaH1
        exact b4 _ _ (b3 _ _ (bt2 _ _ e1' nu) nud) nu
      have mid : ∀ {u : Addr} {l : List V}, H2 u = some (.lst l) → H4 u = some (.lst l) := fun {u l} e => b4 _ _ (b3 _ _ e (ne_of e hd2 fun z => nomatch z)) (ne_ins_lst hx2 e)
      have hb : But x H H4 := fun u o e nu => by
        have e1' := bt0 _ _ e nu
        have nud : u ≠ da := ne_of_none e1' hdaH1
        exact b4 _ _ (b3 _ _ (bt2 _ _ e1' nu) nud) nu
      let g : GS := ⟨n, a, b, ta, oa, fa, da, ps, kvs⟩
      have ok : GOk g := ⟨hn, la, lb, fun c => by rw [← dl_all hn]; exact d3 c⟩
      have st : GSt H4 g := ⟨old hta, old hoa, mid ef2, ⟨lps, fun i u o h1 h2 => mid (r2.2 i u o h1 h2)⟩, b4 _ _ e3 nda⟩
      have ga : GAt C H4 x g 0 [] fi := ⟨⟨dx, hx4⟩, hf4, st⟩
      refine ⟨_, rfl, x, dx, _, rfl, hx4, gF_m1, x, g, 0, [], fi, rfl, ga, ok, _, rfl, ?_⟩
      refine ite2 (fun c => ?_) (fun c => ?_)
      · refine ⟨_, rfl, x, dx, _, rfl, hx4, gF_m2, x, g, fi, rfl, ga, ok, fun H5 fj b5 g5 => ?_⟩
        refine q H5 g fj (hb.trans b5) ?_
        have eh : hits n a b = (leaves n a b (orbits n).length []).filter (lookOk n a b) := if_pos c
        have ea := look_all (n := n) (a := a) (b := b) (leaves n a b (orbits n).length []) (0, [])
        rw [← eh] at ea
        have g5' : GAt C H5 x g (((leaves n a b (orbits n).length []).foldl (look n a b) (0, [])).1) (((leaves n a b (orbits n).length []).foldl (look n a b) (0, [])).2) fj := g5
        rw [ea] at g5'
        have e1 : (0, ([] : List Nat)).1 + (hits n a b).length = (hits n a b).length := Nat.zero_add _
        rw [e1] at g5'
        exact g5'
      · refine q H4 g fi hb ?_
        have eh : hits n a b = [] := if_neg c
        rw [eh]
        exact ga
end
end Hc
/-! set(xs) of a list of whole numbers: the set of its members. (The library has it of tuples; of lists only without what sorted asks of a set.) -/
namespace Hc
open PySem PySem.Spec PyProof.Rows L2
section
variable {P : Program} {w : World} {A : Around} {E : Value → Shared → Prop} {s : Shared}
/-- a set just made -/
abbrev bornSet (w : World) : Obj := { cls := .type "set", dict := none, data := .set #[] 0 (.fresh 0 0 (!w.params.followText "set-order")) }
/-- what is wanted behind the filling of the set that is made next -/
abbrev FullSet (w : World) (s : Shared) (ns : List Int) (R : Value → Shared → Prop) : Prop :=
  ∀ (hq : Heap) (tq cq : Nat), SetR w hq s.heap.objs.size (fun j => decide (j ∈ ns)) cq → cq ≤ ns.length →
    (∀ b o, s.heap.get? b = some o → hq.get? b = some o) → R (.ref s.heap.objs.size) { s with heap := hq, toks := tq }
set_option maxHeartbeats 8000000 in
theorem set_of_list {l : Addr} {xs : Array Value} (ns : List Int) {R : Value → Shared → Prop} (calm : A.handled = none) (isl : s.heap.IsList l xs) (hints : IntsAre xs.toList ns) (few : ns.length + 1 < scanBound)
    (k : FullSet w s ns R) : wpAny (model P w) A (call (.type "set") [.ref l]) R E s := by
  have size : xs.size = ns.length := by have z := IntsAre.length hints; rwa [Array.length_toList] at z
  obtain ⟨cc, tt, mro⟩ := F.called_set.mro
  have made := F.called_set.made; have sub := F.called_set.sub
  have nt := F.called_set.notType; have cn := F.called_set.canCreate
  refine wpAny_call (codeAny_of_tree ?_)
  show wpAny _ _ (callAny (.type "set") _) _ _ _
  refine wpAny_pure ⟨Code.quiet_builtin _ (by decide +kernel), codeAny_builtin F.entry_type_call ?_⟩
  rw [Around.under_plain (weight_type_call_type "set" [.ref l] []) rfl]
  have ct := F.typeCall_set_1 (.ref l)
  repeat (any_goals (first | assumption | wp_step))
  refine codeAny_mono (code_set_led1 (.ref l) (E := E) (Q₁ := fun ob s1 => ob = .ref s.heap.objs.size ∧ s1 = { s with heap := s.heap.push (bornSet w) }) ⟨rfl, rfl⟩) fun r s1 hr => ?_
  cases r with
  | error e => exact hr
  | ok flow =>
    cases flow with
    | ret ob =>
      obtain ⟨rfl, rfl⟩ := hr
      have gS : (s.heap.push (bornSet w)).get? s.heap.objs.size = some (bornSet w) := Heap.get?_push_size _ rfl
      have tS : Shared.TypeIs { s with heap := s.heap.push (bornSet w) } (.ref s.heap.objs.size) "set" := ⟨_, gS, rfl⟩
      have look := F.called_set.init.lookup; have bind := F.called_set.init.bind (.ref s.heap.objs.size)
      repeat (any_goals (first | assumption | wp_step))
      refine codeAny_mono (codeAny_call_builtin (R := wants (fun r s2 => r = .none ∧ ∃ hq tq cq, s2 = { s with heap := hq, toks := tq } ∧
          SetR w hq s.heap.objs.size (fun j => decide (j ∈ ns)) cq ∧ cq ≤ ns.length ∧ (∀ b o, s.heap.get? b = some o → hq.get? b = some o)) E)
        F.called_set.init.plain F.entry_set_init (check_set_init_1 tS ?_)) fun r2 s2 hr2 => ?_
      · obtain ⟨⟨oc, od, oda, osl⟩, getl, hcl, nl, hdl⟩ := isl
        simp only at hcl hdl; subst hcl; subst hdl
        have getl1 := Heap.get?_push_of_some (bornSet w) getl
        have q1 := F.sub_list_set; have q2 := F.sub_list_frozenset
        have q3 : (Value.type "list" == Value.type "dict") = false := by decide
        have isl1 : (s.heap.push (bornSet w)).IsList l xs := ⟨_, getl1, rfl, nl, rfl⟩
        unfold Builtin.«set.__init__» noKeywords Builtin.Frozenset.updateFrom
        generalize hI : pyIter = IT
        wp_walk
        subst hI
        refine wpAny_pyIter_list isl1 (wpAny_bind (wpAny_runValue ?_))
        have below : l < s.heap.objs.size := Heap.lt_size getl
        have calm3 : A.in1.in1.in1.handled = none := by simp [calm]
        have apart : l ≠ (s.heap.push (bornSet w)).objs.size := by rw [Heap.size_push]; exact Nat.ne_of_lt (Nat.lt_succ_of_lt below)
        have outside : s.heap.objs.size ∉ [(s.heap.push (bornSet w)).objs.size, l] := by
          rw [Heap.size_push]
          simp only [List.mem_cons, List.mem_singleton, List.not_mem_nil, or_false, not_or]
          exact ⟨Nat.ne_of_lt (Nat.lt_succ_self _), Nat.ne_of_gt below⟩
        have items : ∀ (i : Nat) (v : Value), xs[i]? = some v → ∃ z t, ns[i]? = some z ∧ v = .int z t := fun i v hv => by
          have hi : i < ns.length := size ▸ (Array.getElem?_eq_some_iff.mp hv).1
          obtain ⟨t, e⟩ := PyProof.Rows.IntsAre.int_at hints i v (by rw [Array.getElem?_toList]; exact hv)
          refine ⟨ns[i], t, List.getElem?_eq_getElem hi, ?_⟩
          rw [e, List.getD_eq_getElem?_getD, List.getElem?_eq_getElem hi] <;> rfl
        refine set_update_ints ((Walks.list calm3 _ l apart xs).toS) s.heap.objs.size outside ns size few items (xs.size - 0) 0 _ (by omega) (Nat.zero_le _)
          ⟨⟨_, Heap.get?_push_size _ rfl, rfl, rfl⟩, isl1.push _⟩ ⟨0, Nat.le_refl 0, setR_new_at (Heap.get?_push_of_some _ gS)⟩ ?fin
        case fin =>
          rintro ⟨hq, gq, dq, tq, oq⟩ cq moved le full
          obtain rfl : gq = s.gens := moved.gens
          obtain rfl : dq = s.drawn := moved.drawn
          obtain rfl : oq = s.os := moved.os
          show wpAny _ _ _ _ _ _
          refine wpAny_pure ?_
          show wpAny _ _ (ret Value.none) _ _ _
          rw [size] at le
          refine wpAny_pure ⟨rfl, hq, tq, cq, rfl, full, le, fun b o e => ?_⟩
          have lt := Heap.lt_size e
          refine moved.heap b o ?_ (Heap.get?_push_of_some _ (Heap.get?_push_of_some _ e))
          simp only [List.mem_cons, List.mem_singleton, List.not_mem_nil, or_false, not_or, Heap.size_push]
          exact ⟨Nat.ne_of_lt lt, Nat.ne_of_lt (Nat.lt_succ_of_lt lt)⟩
      · cases r2 with
        | error e => exact hr2
        | ok flow2 =>
          cases flow2 with
          | ret r =>
            obtain ⟨rfl, hq, tq, cq, rfl, full, le, kept⟩ := hr2
            repeat (any_goals (first | assumption | wp_step))
            exact k _ _ _ full le kept
          | _ => exact hr2.elim
    | _ => exact hr.elim
end
/-- set(xs), xs a list of whole numbers -/
def rSetI (K : PySem.W.Frag) (w : World) : List V → Hp → VK → Prop := fun vs H Q => ∃ (a : Addr) (ns : List Int), vs = [V.ref a] ∧ SqL K H a (ns.map V.int) ∧ ns.length ≤ 1000 ∧
  ∀ (p : Addr) (n : Nat), H p = none → n ≤ ns.length → Q (.ref p) (upd H p (SetO w p (fun j => decide (j ∈ ns)) n))
theorem cr_setI {X : Cx} (hc : X.calm = true) : CallR X (.type "set") (rSetI X.K X.w) := by
  intro pins s σ H vs us Q I r h
  obtain ⟨a, ns, rfl, hs, hl, q⟩ := h
  obtain ⟨its, rv, pl, _⟩ := I.list hs
  rw [Vals.ref1 r]
  have hi : IntsAre its.toArray.toList ns := ints_of_vals rv
  refine set_of_list ns (I.ok.hd hc) pl.isList hi (by unfold scanBound; omega) fun hq tq cq full le kept => ?_
  exact ⟨.ref _, upd H s.heap.objs.size (SetO X.w s.heap.objs.size (fun j => decide (j ∈ ns)) cq), I.laid kept (Nat.le_refl _) (setO_new full), rfl, q _ _ (I.hok.fresh (Nat.le_refl _)) le⟩
end Hc
namespace Hc
open PySem PySem.Spec PyProof.Rows L2
open Uw56 (Card turn turns rising orbit orbits firstCard cells due)
/-! ### == of lists of numbers -/
theorem eqvAll_ints : ∀ xs ys : List Int, PyData.eqvAll (xs.map PyData.int) (ys.map PyData.int) = decide (xs = ys)
  | [], [] => rfl
  | [], _ :: _ => rfl
  | _ :: _, [] => rfl
  | x :: xs, y :: ys => by
    have ih := eqvAll_ints xs ys
    rw [List.map_cons, List.map_cons, PyData.eqvAll, ih, PyData.eqv]
    rw [Bool.eq_iff_iff, Bool.and_eq_true, beq_iff_eq, decide_eq_true_eq, decide_eq_true_eq, List.cons.injEq]
theorem eqv_ints (xs ys : List Int) : PyData.eqv (.list (xs.map .int)) (.list (ys.map .int)) = decide (xs = ys) := by
  rw [PyData.eqv]
  exact eqvAll_ints xs ys
theorem shaped_ints (xs : List Int) : SeqAt.shaped (.list (xs.map .int)) = true := by
  have h1 : ∀ l : List Int, PyData.canLayAll0 (l.map .int) = true := by
    intro l
    induction l with
    | nil => rfl
    | cons x r ih =>
      rw [List.map_cons, PyData.canLayAll0, ih]
      rfl
  have h2 : ∀ l : List Int, PyData.depthAll (l.map .int) = 0 := by
    intro l
    induction l with
    | nil => rfl
    | cons x r ih =>
      rw [List.map_cons, PyData.depthAll, ih]
      rfl
  unfold SeqAt.shaped
  rw [PyData.canLay0, PyData.depth, h1, h2]
  rfl
theorem dpAll_ints {K : PySem.W.Frag} {H : Hp} : ∀ l : List Int, DpAll K H (l.map V.int) (l.map .int)
  | [] => .nil
  | x :: r => .cons (.int x) (dpAll_ints r)
theorem ne_lists {K : PySem.W.Frag} {H : Hp} {a b : Addr} {xs ys : List Int} {Q : VK} (ha : SqL K H a (xs.map V.int)) (hb : SqL K H b (ys.map V.int)) (q : Q (.bl (!decide (xs = ys))) H) : rNeD K (.ref a) (.ref b) H Q := by
  refine ⟨_, _, .lst ha (dpAll_ints xs), .lst hb (dpAll_ints ys), shaped_ints xs, shaped_ints ys, ?_⟩
  rw [eqv_ints]
  exact q
theorem zs_inj {a b : List Nat} (e : zs a = zs b) : a = b := by
  have h : ∀ l : List Nat, (zs l).map Int.toNat = l := fun l => by
    unfold zs
    rw [List.map_map]
    exact (List.map_congr_left fun x _ => Int.toNat_natCast x).trans (List.map_id _)
  rw [← h a, e, h]
theorem isRising_iff : ∀ l : List Nat, Uw56.isRising l = true ↔ l.Pairwise (· < ·)
  | [] => ⟨fun _ => .nil, fun _ => rfl⟩
  | [a] => ⟨fun _ => by simp, fun _ => rfl⟩
  | a :: b :: l => by
    have ih := isRising_iff (b :: l)
    show (decide (a < b) && Uw56.isRising (b :: l)) = true ↔ _
    rw [Bool.and_eq_true, decide_eq_true_eq, ih]
    constructor
    · rintro ⟨h1, h2⟩
      refine List.pairwise_cons.mpr ⟨fun x hx => ?_, h2⟩
      rcases List.mem_cons.mp hx with rfl | hx
      · exact h1
      · exact Nat.lt_trans h1 ((List.pairwise_cons.mp h2).1 x hx)
    · intro h
      obtain ⟨h1, h2⟩ := List.pairwise_cons.mp h
      exact ⟨h1 b (by simp), h2⟩
/-- sorted(set(l)) == list(l) -/
theorem rising_test {l : List Nat} {ms : List Int} (up : ms.Pairwise (· < ·)) (mem : ∀ k : Int, k ∈ ms ↔ k ∈ zs l) : decide (ms = zs l) = Uw56.isRising l := by
  rw [Bool.eq_iff_iff, decide_eq_true_eq, isRising_iff]
  constructor
  · intro e
    rw [e] at up
    unfold zs at up
    rw [List.pairwise_map] at up
    exact up.imp fun h => by omega
  · intro h
    have up2 : (zs l).Pairwise (· < ·) := by
      unfold zs
      rw [List.pairwise_map]
      exact h.imp fun h => by omega
    have n1 : ms.Nodup := up.imp fun h => by omega
    have n2 : (zs l).Nodup := up2.imp fun h => by omega
    exact ((List.perm_ext_iff_of_nodup n1 n2).mpr mem).eq_of_pairwise (le := (· < ·)) (fun a b _ _ h1 h2 => absurd h1 (by omega)) up up2
/-! ### a House object -/
def hF (n : Nat) (hl : Addr) : List (Str × V) := [("size", vi n), ("holes", .ref hl)]
section
variable {n m : Nat} {hl hm : Addr}
theorem hF_size : (hF n hl).lookup ("size" : Str) = some (vi n) := by kernel_rfl
theorem hF_holes : (hF n hl).lookup ("holes" : Str) = some (.ref hl) := by kernel_rfl
theorem hF_m1 : (hF n hl).lookup ("begins" : Str) = none := by kernel_rfl
theorem hF_m2 : (hF n hl).lookup ("are_cells" : Str) = none := by kernel_rfl
theorem hF_m3 : (hF n hl).lookup ("card" : Str) = none := by kernel_rfl
theorem hF_m4 : (hF n hl).lookup ("is_text" : Str) = none := by kernel_rfl
theorem hF_m5 : (hF n hl).lookup ("now" : Str) = none := by kernel_rfl
theorem hF_m6 : (hF n hl).lookup ("write" : Str) = none := by kernel_rfl
theorem hF_m7 : (hF n hl).lookup ("read" : Str) = none := by kernel_rfl
theorem hF_m8 : (hF n hl).lookup ("again" : Str) = none := by kernel_rfl
theorem hF_m9 : (hF n hl).lookup ("order" : Str) = none := by kernel_rfl
theorem hF_m10 : (hF n hl).lookup ("guess" : Str) = none := by kernel_rfl
theorem hF_m11 : (hF n hl).lookup ("known" : Str) = none := by kernel_rfl
theorem hF_m12 : (hF n hl).lookup ("turned" : Str) = none := by kernel_rfl
theorem hF_put_size : putF "size" (vi m) (hF n hl) = hF m hl := by kernel_rfl
theorem hF_put_holes : putF "holes" (.ref hm) (hF n hl) = hF n hm := by kernel_rfl
theorem hF_new : putF "holes" (.ref hl) (putF "size" (vi n) []) = hF n hl := by kernel_rfl
theorem hF_l1 : (putF "size" (vi n) []).length = 1 := by kernel_rfl
end
structure HAt (C : Addr) (H : Hp) (x : Addr) (c : Card) (hl : Addr) : Prop where
  ob : ∃ dx, H x = some (.ins C dx (hF c.n hl))
  fl : H hl = some (.lst (ni c.holes))
theorem HAt.same {C : Addr} {H H' : Hp} {x : Addr} {c : Card} {hl : Addr} (s : HAt C H x c hl) (k : Same H H') : HAt C H' x c hl := by
  obtain ⟨⟨dx, h1⟩, h2⟩ := s
  exact ⟨⟨dx, k _ _ h1⟩, k _ _ h2⟩
structure TH (K : PySem.W.Frag) (C : Addr) : Prop where
  cl : Cls K C
  n1 : NoAttr K C "size"
  n2 : NoAttr K C "holes"
/-- what a call answers, and what the house is then -/
def Out (C : Addr) (H : Hp) (x hl : Addr) (r : Card × Uw56.Ans) (Q : VK) : Prop := ∀ (H' : Hp) (p hl' : Addr), But x H H' → hl' = hl ∨ H hl' = none → HAt C H' x r.1 hl' → H p = none → H' p = some (.lst ((Uw56Neutral.out r.2).map V.int)) → Q (.ref p) H'
theorem out_ni (z : Int) (l : List Nat) : (Uw56Neutral.out ⟨z, l⟩).map V.int = V.int z :: ni l := by
  unfold Uw56Neutral.out
  rw [List.map_cons, ni_ints]
section
variable {P : Program} {w : World} {K : PySem.W.Frag} {mg : Str → Option Value} {base : Heap} {C : Addr}
/-- an answer without a change -/
theorem Out.stay {H H1 : Hp} {x hl p : Addr} {c : Card} {a : Uw56.Ans} {Q : VK} (q : Out C H x hl (c, a) Q) (ha : HAt C H x c hl) (s : Same H H1) (hp : H p = none) (e : H1 p = some (.lst ((Uw56Neutral.out a).map V.int))) : Q (.ref p) H1 :=
  q H1 p hl s.but (.inl rfl) (ha.same s) hp e
/-! ### __init__ -/
def spHi (C : Addr) : Sp := fun vs H Q _ => ∃ (x dx : Addr), vs = [.ref x] ∧ H x = some (.ins C dx []) ∧ ∀ (H' : Hp) (hl : Addr), But x H H' → H hl = none → HAt C H' x Uw56.init hl → Q .non H'
abbrev sHi : Stmt := inClass (topS 28) 0
theorem scHi : FnScope ["self"] ["self"] (defScope sHi) := ⟨rfl, rfl, rfl, by decide +kernel, rfl, by decide +kernel, by decide +kernel⟩
theorem init_eq : Uw56.init = ⟨2, [0]⟩ := by decide +kernel
theorem ok_hi {f : Addr} {fd : FuncData} (F : Fun K "__init__" "House.__init__" sHi f fd) (TC : TH K C) (ml : Num mg "LEAST_SIZE" 2) : FnOk P w K mg base CX0 1 f fd ["self"] (spHi C) := by
  obtain ⟨tl, ml⟩ := ml
  refine F.ok scHi (fun vs H Q E h => ?_) (fun cdv A outer s H vs Q E hr h => ?_)
  · obtain ⟨x, dx, rfl, _⟩ := h
    rfl
  · refine ⟨_, pss_cons (ps_fld (pv 0) (pe_glob (v := .int 2) (by rfl) ml ⟨_, rfl⟩) rfl) (pss_one (ps_fld (pv 0) (pe_lst (pa_cons pe_int pa_nil)) rfl)), ?_⟩
    obtain ⟨x, dx, rfl, hx, q⟩ := h
    refine ⟨_, rfl, x, C, dx, _, rfl, hx, TC.cl, TC.n1, by show 0 < 1000; decide, ?_⟩
    refine ⟨by show 1 ≤ sizeLine; decide, fun hl hhl => ?_⟩
    have nx : x ≠ hl := ne_of_none upd_same hhl
    refine ⟨_, rfl, x, C, dx, _, rfl, (upd_ne nx).trans upd_same, TC.cl, TC.n2, by rw [show V.int 2 = vi 2 from rfl, hF_l1]; decide, ?_⟩
    rw [show V.int 2 = vi 2 from rfl, hF_new]
    have hlH : H hl = none := by
      rw [upd_ne nx.symm] at hhl
      exact hhl
    refine q _ hl ((But.refl.put).own hlH).put hlH ⟨⟨dx, ?_⟩, ?_⟩
    · rw [init_eq]
      exact upd_same
    · rw [init_eq, upd_ne nx.symm, upd_same]
      rfl
/-! ### begins -/
def spBe (C : Addr) : Sp := fun vs H Q _ => ∃ (x hl : Addr) (c : Card) (n : Nat), vs = [.ref x, vi n] ∧ HAt C H x c hl ∧ Out C H x hl (Uw56.step c (.begins n)) Q
abbrev sBe : Stmt := inClass (topS 28) 1
theorem scBe : FnScope ["self", "size"] ["self", "size"] (defScope sBe) := ⟨rfl, rfl, rfl, by decide +kernel, rfl, by decide +kernel, by decide +kernel⟩
theorem shl_facts : ∀ n ∈ [2, 3, 4, 5, 6], (1 : Int) * 2 ^ (2 * (orbits n).length) = ((4 ^ (n * n / 4) : Nat) : Int) := by decide +kernel
theorem ok_be {f : Addr} {fd : FuncData} (F : Fun K "begins" "House.begins" sBe f fd) (T : Blt mg) (TC : TH K C) (ml : Num mg "LEAST_SIZE" 2) (mm : Num mg "MOST_SIZE" 6) (mw : Num mg "WRONG" (-1)) (D1 : Def P w K mg base 4 "first_card" ["size"] (spFc K)) (D2 : Def P w K mg base 3 "all_mates" ["size"] (spAm K)) : FnOk P w K mg base CX0 5 f fd ["self", "size"] (spBe C) := by
  obtain ⟨f1, fd1, G1, m1, k1, b1⟩ := D1
  obtain ⟨f2, fd2, G2, m2, k2, b2⟩ := D2
  obtain ⟨tl, ml⟩ := ml
  obtain ⟨tm, mm⟩ := mm
  obtain ⟨tw, mw⟩ := mw
  refine F.ok scBe (fun vs H Q E h => ?_) (fun cdv A outer s H vs Q E hr h => ?_)
  · obtain ⟨x, hl, c, n, rfl, _⟩ := h
    rfl
  · have hr3 : Room 3 _ := hr.mono (by decide)
    refine ⟨_, pss_cons (ps_if (pt_not (pt_chain op_le op_le (pe_glob (v := .int 2) (by rfl) ml ⟨_, rfl⟩) (pv 1) (pe_glob (v := .int 6) (by rfl) mm ⟨_, rfl⟩))) (pss_one (ps_ret (pe_lst (pa_cons (pe_glob (v := .int (-1)) (by rfl) mw ⟨_, rfl⟩) pa_nil)))) pss_nil)
      (pss_cons (ps_fld (pv 0) (pv 1) rfl)
      (pss_cons (ps_fld (pv 0) (pe_call G1 hr (by rfl) m1 k1 b1 .nil pass0 (pa_cons (pv 1) pa_nil)) rfl)
      (pss_one (ps_ret (pe_lst (pa_cons (pe_op op_shl pe_int (pe_op op_mul pe_int (pe_callB call_len (by rfl) T.len (by decide +kernel) (pa_cons (pe_call G2 hr3 (by rfl) m2 k2 b2 .nil pass0 (pa_cons (pv 1) pa_nil)) pa_nil)))) pa_nil)))))), ?_⟩
    obtain ⟨x, hl, c, n, rfl, ha, q⟩ := h
    obtain ⟨⟨dx, hx⟩, hh⟩ := id ha
    have wrong : (n < 2 ∨ 6 < n) → ∀ p, H p = none → Q (.ref p) (upd H p (.lst [V.int (-1)])) := fun hn p hp => by
      have e : Uw56.step c (.begins n) = (c, Uw56.ok (-1)) := if_pos hn
      rw [e] at q
      exact q.stay ha ((Same.refl H).new hp) hp upd_same
    have go : ¬ (n < 2 ∨ 6 < n) → True := fun _ => trivial
    refine ⟨_, rfl, _, _, rfl, rfl, _, rfl, ?_⟩
    refine ite2 (fun z => ?_) (fun z => ?_)
    · have z1 : (2 : Int) ≤ (n : Int) := of_decide_eq_true z
      refine ⟨_, _, rfl, rfl, _, rfl, ?_⟩
      show if (!decide ((n : Int) ≤ 6)) = true then _ else _
      refine ite2 (fun y => ?_) (fun y => ?_)
      · have y1 : ¬ (n : Int) ≤ 6 := fun t => by
          rw [decide_eq_true t] at y
          cases y
        exact ⟨by show 1 ≤ sizeLine; decide, fun p hp => wrong (by omega) p hp⟩
      · have y1 : (n : Int) ≤ 6 := Classical.byContradiction fun t => y (by rw [decide_eq_false t]; rfl)
        have hn : Sz n := ⟨by omega, by omega⟩
        have e : Uw56.step c (.begins n) = (firstCard n, Uw56.ok ((4 ^ (n * n / 4) : Nat) : Int)) := if_neg (by unfold Uw56.SIDE; omega)
        rw [e] at q
        refine ⟨_, rfl, _, rfl, x, C, dx, _, rfl, hx, TC.cl, TC.n1, by show 2 < 1000; decide, ?_⟩
        rw [hF_put_size]
        refine ⟨_, rfl, n, rfl, hn, fun H1 p1 s1 n1 e1 => ?_⟩
        refine ⟨_, rfl, x, C, dx, _, rfl, s1 _ _ upd_same, TC.cl, TC.n2, by show 2 < 1000; decide, ?_⟩
        rw [hF_put_holes]
        have np : x ≠ p1 := ne_of_none upd_same n1
        have n1H : H p1 = none := by
          rw [upd_ne np.symm] at n1
          exact n1
        have bt : But x H (upd H1 x (.ins C dx (hF n p1))) := (But.refl.put.trans s1.but).put
        refine ⟨_, rfl, n, rfl, hn, fun H2 p2 ps s2 n2 e2 r2 => ?_⟩
        have lp : (nr ps).length = (orbits n).length := by rw [List.length_map, r2.1]
        have h9 := orbits_le hn
        refine ⟨_, (nr ps).length, rfl, .inl ⟨_, SqL.of e2, rfl⟩, _, _, rfl, rfl, .inl ⟨by decide, by decide⟩, _, _, rfl, rfl, ⟨by omega, by omega, by decide⟩, by show 1 ≤ sizeLine; decide, fun p hp => ?_⟩
        have ep : (1 : Int) * 2 ^ ((2 : Int) * ((nr ps).length : Int)).toNat = ((4 ^ (n * n / 4) : Nat) : Int) := by
          rw [lp, show ((2 : Int) * ((orbits n).length : Int)).toNat = 2 * (orbits n).length by omega]
          exact shl_facts n hn.mem
        have s2' := s2.new (o := .lst [V.int (1 * 2 ^ ((2 : Int) * ((nr ps).length : Int)).toNat)]) hp
        refine q _ p p1 (bt.trans s2'.but) (.inr n1H) ⟨⟨dx, s2' _ _ upd_same⟩, ?_⟩ ?_ ?_
        · refine s2' _ _ ?_
          rw [upd_ne np.symm]
          exact e1
        · have h3 := s2.free hp
          by_cases t : p = x
          · rw [t, upd_same] at h3
            cases h3
          · rw [upd_ne t] at h3
            have h4 := s1.free h3
            rw [upd_ne t] at h4
            exact h4
        · rw [upd_same]
          exact congrArg (fun z => some (HO.lst [V.int z])) ep
    · have z1 : ¬ (2 : Int) ≤ (n : Int) := fun t => z (decide_eq_true t)
      exact ⟨_, rfl, by show 1 ≤ sizeLine; decide, fun p hp => wrong (by omega) p hp⟩
end
end Hc
namespace Hc
open PySem PySem.Spec PyProof.Rows L2
open Uw56 (Card turn turns rising orbit orbits firstCard cells due)
theorem cells_test {n : Nat} {l : List Nat} : decide ((l.filter fun k => decide (n * n ≤ k)).length = 0) = Uw56.areCells n l := by
  rw [Bool.eq_iff_iff, decide_eq_true_eq]
  unfold Uw56.areCells
  rw [List.length_eq_zero_iff, List.filter_eq_nil_iff, List.all_eq_true]
  constructor
  · intro h k hk
    have := h k hk
    simp only [decide_eq_true_eq] at this
    exact decide_eq_true (by omega)
  · intro h k hk
    have := of_decide_eq_true (h k hk)
    simp only [decide_eq_true_eq]
    omega
theorem areCells_lt {n : Nat} {l : List Nat} (h : Uw56.areCells n l = true) : ∀ x ∈ l, x < n * n := fun x hx => of_decide_eq_true (List.all_eq_true.mp h x hx)
section
variable {P : Program} {w : World} {K : PySem.W.Frag} {mg : Str → Option Value} {base : Heap} {C : Addr}
/-! ### are_cells -/
def spAc (K : PySem.W.Frag) (C : Addr) : Sp := fun vs H Q _ => ∃ (x hl a : Addr) (c : Card) (l : List Nat), vs = [.ref x, .ref a] ∧ HAt C H x c hl ∧ Fits c ∧ SqL K H a (ni l) ∧ l.length ≤ 40 ∧ ∀ H', Same H H' → Q (.bl (Uw56.areCells c.n l)) H'
abbrev sAc : Stmt := inClass (topS 28) 2
abbrev nAc : List Str := ["self", "row", "cell"]
theorem scAc : FnScope nAc ["self", "row"] (defScope sAc) := ⟨rfl, rfl, rfl, by decide +kernel, rfl, by decide +kernel, by decide +kernel⟩
theorem ok_ac {f : Addr} {fd : FuncData} (F : Fun K "are_cells" "House.are_cells" sAc f fd) (T : Blt mg) (TC : TH K C) : FnOk P w K mg base CX0 1 f fd ["self", "row"] (spAc K C) := by
  refine F.ok scAc (fun vs H Q E h => ?_) (fun cdv A outer s H vs Q E hr h => ?_)
  · obtain ⟨x, hl, a, c, l, rfl, _⟩ := h
    rfl
  · refine ⟨_, pss_one (ps_ret (pe_cmpR op_eq (pe_callB call_len (by rfl) T.len (by decide +kernel) (pa_cons (pe_lc (own := [("cell", 2)]) (g := gName 2)
        (tt := tTest (tOp (rI0 fun i j => .bl (decide (j ≤ i))) (tVar 2) (tOp (rI CMul fun i j => .int (i * j)) (tFld K (tVar 0) "size") (tFld K (tVar 0) "size")))) rfl scAc.nd (pi_list (pv 1)) (blkOk_by (N := nAc) (sc := defScope sAc) (by decide +kernel))
        (fun _ _ _ _ _ => pg_name (i := 2) scAc.nd rfl (Or.inl rfl)) (fun _ _ _ _ _ => pts_one (pt_cmpR op_ge (pv 2) (pe_op op_mul (pe_fld (pv 0) rfl) (pe_fld (pv 0) rfl)) (nomark _))) (fun _ _ _ _ _ => pv 2)) pa_nil)) pe_int (nomark _))), ?_⟩
    obtain ⟨x, hl, a, c, l, rfl, ⟨⟨dx, hx⟩, hh⟩, fc, hA, lA, q⟩ := h
    refine ⟨_, rfl, a, rfl, ⟨_, hA⟩, fun D hD => ?_⟩
    refine lc_fm (L := l) (fun k => decide (c.n * c.n ≤ k)) vi hA hD (by omega) (fun j z H3 hz s3 => ⟨rfl, fun R h => ?_, fun _ R h => ⟨_, rfl, h⟩⟩) mono_name (fun H3 s3 e3 => ?_)
    · refine ⟨_, rfl, _, rfl, x, C, dx, _, _, rfl, s3 _ _ hx, TC.cl, TC.n1, hF_size, _, rfl, x, C, dx, _, _, rfl, s3 _ _ hx, TC.cl, TC.n1, hF_size, _, _, rfl, rfl, .inl ⟨by have := fc.sz.2; omega, by have := fc.sz.2; omega⟩, _, _, rfl, rfl, _, rfl, ?_⟩
      have e : decide (((c.n : Int) * (c.n : Int)) ≤ (z : Int)) = decide (c.n * c.n ≤ z) := by
        rw [← Int.natCast_mul]
        exact decide_eq_decide.mpr (by omega)
      rw [← e] at h
      exact h
    · refine ⟨_, (l.filter fun k => decide (c.n * c.n ≤ k)).length, rfl, .inl ⟨_, SqL.of e3, by rw [List.length_map]⟩, rfl, ?_⟩
      show Q (.bl (decide (vi (l.filter fun k => decide (c.n * c.n ≤ k)).length = vi 0))) H3
      rw [vi_eq, cells_test]
      exact q H3 s3
/-! ### card -/
def spCa (K : PySem.W.Frag) (C : Addr) : Sp := fun vs H Q _ => ∃ (x hl a : Addr) (c : Card) (l : List Nat), vs = [.ref x, .ref a] ∧ HAt C H x c hl ∧ Fits c ∧ SqL K H a (ni l) ∧ l.length ≤ 40 ∧ Out C H x hl (Uw56.step c (.card l)) Q
abbrev sCa : Stmt := inClass (topS 28) 3
abbrev nCa : List Str := ["self", "holes", "found"]
theorem scCa : FnScope nCa ["self", "holes"] (defScope sCa) := ⟨rfl, rfl, rfl, by decide +kernel, rfl, by decide +kernel, by decide +kernel⟩
theorem ok_ca {f : Addr} {fd : FuncData} (F : Fun K "card" "House.card" sCa f fd) (T : Blt mg) (TC : TH K C) (mw : Num mg "WRONG" (-1)) (md : Num mg "DOESNT_FIT" (-6)) (M1 : Mth P w K mg base 1 C "are_cells" ["self", "row"] (spAc K C)) (D1 : Def P w K mg base 4 "first_wrong_cell" ["size", "holes"] (spFw K)) : FnOk P w K mg base CX0 5 f fd ["self", "holes"] (spCa K C) := by
  obtain ⟨f1, fd1, G1, m1, b1⟩ := M1
  obtain ⟨f2, fd2, G2, m2, k2, b2⟩ := D1
  obtain ⟨tw, mw⟩ := mw
  obtain ⟨td, md⟩ := md
  refine F.ok scCa (fun vs H Q E h => ?_) (fun cdv A outer s H vs Q E hr h => ?_)
  · obtain ⟨x, hl, a, c, l, rfl, _⟩ := h
    rfl
  · have hr1 : Room 1 _ := hr.mono (by decide)
    refine ⟨_, pss_cons (ps_if (PW.pt (pw_or (pt_not (pt_val (pe_meth (pv 0) TC.cl m1 G1 hr1 b1 .nil pass0 (pa_cons (pv 1) pa_nil))))
        (pw_or1 (pt_cmpR (op_neD hr.units) (pe_callB (cr_sortedSet rfl) (by rfl) T.sorted (by decide +kernel) (pa_cons (pe_callTy (cr_setI rfl) (by rfl) T.set (by decide +kernel) (pa_cons (pv 1) pa_nil)) pa_nil)) (pe_callTy call_list_of (by rfl) T.list (by decide +kernel) (pa_cons (pv 1) pa_nil)) (nomark _)))))
        (pss_one (ps_ret (pe_lst (pa_cons (pe_glob (v := .int (-1)) (by rfl) mw ⟨_, rfl⟩) pa_nil)))) pss_nil)
      (pss_cons (ps_set (i := 2) scCa.nd rfl (.inl rfl) (pe_call G2 hr (by rfl) m2 k2 b2 .nil pass0 (pa_cons (pe_fld (pv 0) rfl) (pa_cons (pv 1) pa_nil))))
      (pss_cons (ps_if (pt_cmpR op_gt (pe_callB call_len (by rfl) T.len (by decide +kernel) (pa_cons (pv 2) pa_nil)) pe_int (nomark _)) (pss_one (ps_ret (pe_op op_cat (pe_lst (pa_cons (pe_glob (v := .int (-6)) (by rfl) md ⟨_, rfl⟩) pa_nil)) (pv 2)))) pss_nil)
      (pss_cons (ps_fld (pv 0) (pe_callTy call_list_of (by rfl) T.list (by decide +kernel) (pa_cons (pv 1) pa_nil)) rfl)
      (pss_one (ps_ret (pe_lst (pa_cons pe_int pa_nil))))))), ?_⟩
    obtain ⟨x, hl, a, c, l, rfl, ha, fc, hA, lA, q⟩ := h
    obtain ⟨⟨dx, hx⟩, hh⟩ := id ha
    have wrong : (Uw56.isRising l = false ∨ Uw56.areCells c.n l = false) → ∀ H1, Same H H1 → ∀ p, H1 p = none → Q (.ref p) (upd H1 p (.lst [V.int (-1)])) := fun hn H1 s1 p hp => by
      have e : Uw56.step c (.card l) = (c, Uw56.ok (-1)) := if_pos hn
      rw [e] at q
      exact q.stay ha (s1.new hp) (s1.free hp) upd_same
    refine ⟨_, rfl, x, dx, _, rfl, hx, hF_m2, _, rfl, x, hl, a, c, l, rfl, ha, fc, hA, lA, fun H1 s1 => ⟨_, rfl, ?_⟩⟩
    show if (!Uw56.areCells c.n l) = true then _ else _
    refine ite2 (fun z => ?_) (fun z => ?_)
    · refine iteT ⟨by show 1 ≤ sizeLine; decide, fun p hp => wrong (.inr (by simpa using z)) H1 s1 p hp⟩
    · have hc : Uw56.areCells c.n l = true := by simpa using z
      have hlt := areCells_lt hc
      have hA1 := s1.seq hA
      refine ⟨_, rfl, a, zs l, rfl, by rw [← ni_ints]; exact hA1, by simp only [zs, List.length_map]; omega, fun p1 n hp1 hn1 => ?_⟩
      have hn1' : n ≤ 40 := by simp only [zs, List.length_map] at hn1; omega
      refine ⟨p1, _, n, rfl, upd_same, by omega, fun ms p2 up mem _ hp2 => ?_⟩
      have s2 := (s1.new (o := SetO w p1 (fun j => decide (j ∈ zs l)) n) hp1).new (o := .lst (ms.map V.int)) hp2
      refine ⟨_, rfl, a, ni l, rfl, .inl (s2.seq hA), fun p3 hp3 => ?_⟩
      have np : p2 ≠ p3 := fun t => by
        rw [← t, upd_same] at hp3
        cases hp3
      refine ne_lists (xs := ms) (ys := zs l) (SqL.of ((upd_ne np).trans upd_same)) (SqL.of (by rw [upd_same, ← ni_ints])) ⟨_, rfl, ?_⟩
      have s3 := s2.new (o := .lst (ni l)) hp3
      rw [rising_test up fun k => by rw [mem]; exact decide_eq_true_iff]
      refine ite2 (fun y => ?_) (fun y => ?_)
      · exact ⟨by show 1 ≤ sizeLine; decide, fun p hp => wrong (.inl (by simpa using y)) _ s3 p hp⟩
      · have hr0 : Uw56.isRising l = true := by simpa using y
        have up0 := (isRising_iff l).mp hr0
        have nd := up_nodup up0
        have hst : Uw56.step c (.card l) = match (⟨c.n, l⟩ : Card).fault with
            | some k => (c, ⟨-6, [k, (⟨c.n, l⟩ : Card).times k]⟩)
            | none => (⟨c.n, l⟩, Uw56.ok 0) := if_neg (by rw [hr0, hc]; simp)
        rw [hst] at q
        have hx3 := s3 _ _ hx
        refine ⟨_, rfl, x, C, dx, _, _, rfl, hx3, TC.cl, TC.n1, hF_size, _, rfl, c.n, a, l, rfl, fc.sz, s3.seq hA, nd, hlt, fun H4 p4 s4 n4 e4 => ?_⟩
        have s04 := s3.trans s4
        refine ⟨_, rfl, _, (faultL ⟨c.n, l⟩).length, rfl, .inl ⟨_, SqL.of e4, by rw [ni_len]⟩, _, _, rfl, rfl, _, rfl, ?_⟩
        cases qf : (Card.mk c.n l).fault with
        | some k =>
          rw [qf] at q
          have ef : faultL ⟨c.n, l⟩ = [k, (Card.mk c.n l).times k] := by
            unfold faultL
            rw [qf]
          rw [ef] at e4 ⊢
          refine iteT ⟨by show 1 ≤ sizeLine; decide, fun p5 hp5 => ?_⟩
          have n45 : p4 ≠ p5 := ne_of_none e4 hp5
          refine ⟨_, rfl, p5, p4, _, _, rfl, rfl, upd_same, (upd_ne n45).trans e4, by show 3 ≤ sizeLine; decide, fun p6 hp6 => ?_⟩
          have s6 := (s04.new (o := .lst [V.int (-6)]) hp5).new (o := .lst ([V.int (-6)] ++ ni [k, (Card.mk c.n l).times k])) hp6
          refine q.stay ha s6 ((s04.new hp5).free hp6) ?_
          rw [upd_same]
          rfl
        | none =>
          rw [qf] at q
          have ef : faultL ⟨c.n, l⟩ = [] := by
            unfold faultL
            rw [qf]
          rw [ef] at e4 ⊢
          refine iteF ?_
          refine ⟨_, rfl, a, ni l, rfl, .inl (s04.seq hA), fun p5 hp5 => ?_⟩
          have hx4 := s04 _ _ hx
          have nx5 : x ≠ p5 := ne_of_none hx4 hp5
          refine ⟨_, rfl, x, C, dx, _, rfl, (upd_ne nx5).trans hx4, TC.cl, TC.n2, by show 2 < 1000; decide, ?_⟩
          rw [hF_put_holes]
          refine ⟨by show 1 ≤ sizeLine; decide, fun p6 hp6 => ?_⟩
          have b5 : But x H (upd (upd H4 p5 (.lst (ni l))) x (.ins C dx (hF c.n p5))) := (s04.new hp5).but.put
          have np6 : p6 ≠ x := fun t => by
            rw [t, upd_same] at hp6
            cases hp6
          have h6 : H p6 = none := by
            rw [upd_ne np6] at hp6
            exact (s04.new hp5).free hp6
          have np56 : p5 ≠ p6 := fun t => by
            rw [← t, upd_ne nx5.symm, upd_same] at hp6
            cases hp6
          refine q _ p6 p5 (b5.own h6) (.inr (s04.free hp5)) ⟨⟨dx, ?_⟩, ?_⟩ h6 upd_same
          · rw [upd_ne np6.symm, upd_same]
          · rw [upd_ne np56, upd_ne nx5.symm, upd_same]
end
end Hc
namespace Hc
open PySem PySem.Spec PyProof.Rows L2
open Uw56 (Card turn turns rising orbit orbits firstCard cells due)
theorem isText_iff {c : Card} {l : List Nat} : Uw56.isText c l = decide (l.length = c.n * c.n) := by
  unfold Uw56.isText
  exact Bool.beq_eq_decide_eq ..
section
variable {P : Program} {w : World} {K : PySem.W.Frag} {mg : Str → Option Value} {base : Heap} {C : Addr}
/-! ### is_text -/
def spIt (K : PySem.W.Frag) (C : Addr) : Sp := fun vs H Q _ => ∃ (x hl a : Addr) (c : Card) (l : List Nat), vs = [.ref x, .ref a] ∧ HAt C H x c hl ∧ Fits c ∧ SqL K H a (ni l) ∧ Q (.bl (Uw56.isText c l)) H
abbrev sIt : Stmt := inClass (topS 28) 4
theorem scIt : FnScope ["self", "text"] ["self", "text"] (defScope sIt) := ⟨rfl, rfl, rfl, by decide +kernel, rfl, by decide +kernel, by decide +kernel⟩
theorem ok_it {f : Addr} {fd : FuncData} (F : Fun K "is_text" "House.is_text" sIt f fd) (T : Blt mg) (TC : TH K C) : FnOk P w K mg base CX0 1 f fd ["self", "text"] (spIt K C) := by
  refine F.ok scIt (fun vs H Q E h => ?_) (fun cdv A outer s H vs Q E hr h => ?_)
  · obtain ⟨x, hl, a, c, l, rfl, _⟩ := h
    rfl
  · refine ⟨_, pss_one (ps_ret (pe_cmpR op_eq (pe_callB call_len (by rfl) T.len (by decide +kernel) (pa_cons (pv 1) pa_nil)) (pe_op op_mul (pe_fld (pv 0) rfl) (pe_fld (pv 0) rfl)) (nomark _))), ?_⟩
    obtain ⟨x, hl, a, c, l, rfl, ⟨⟨dx, hx⟩, hh⟩, fc, hA, q⟩ := h
    refine ⟨_, rfl, _, l.length, rfl, .inl ⟨_, hA, by rw [ni_len]⟩, _, rfl, x, C, dx, _, _, rfl, hx, TC.cl, TC.n1, hF_size, _, rfl, x, C, dx, _, _, rfl, hx, TC.cl, TC.n1, hF_size, _, _, rfl, rfl, .inl ⟨by have := fc.sz.2; omega, by have := fc.sz.2; omega⟩, rfl, ?_⟩
    show Q (.bl (decide (vi l.length = V.int ((c.n : Int) * (c.n : Int))))) H
    rw [vi_mul, vi_eq, ← isText_iff]
    exact q
/-! ### now -/
def spNow (C : Addr) : Sp := fun vs H Q _ => ∃ (x hl : Addr) (c : Card), vs = [.ref x] ∧ HAt C H x c hl ∧ Fits c ∧ ∀ (H' : Hp) (p : Addr), Same H H' → H p = none → H' p = some (.lst (ni c.order)) → Q (.ref p) H'
abbrev sNow : Stmt := inClass (topS 28) 5
theorem scNow : FnScope ["self"] ["self"] (defScope sNow) := ⟨rfl, rfl, rfl, by decide +kernel, rfl, by decide +kernel, by decide +kernel⟩
theorem ok_now {f : Addr} {fd : FuncData} (F : Fun K "now" "House.now" sNow f fd) (TC : TH K C) (D1 : Def P w K mg base 3 "writing_order" ["size", "holes"] (spWo K)) : FnOk P w K mg base CX0 4 f fd ["self"] (spNow C) := by
  obtain ⟨f1, fd1, G1, m1, k1, b1⟩ := D1
  refine F.ok scNow (fun vs H Q E h => ?_) (fun cdv A outer s H vs Q E hr h => ?_)
  · obtain ⟨x, hl, c, rfl, _⟩ := h
    rfl
  · refine ⟨_, pss_one (ps_ret (pe_call G1 hr (by rfl) m1 k1 b1 .nil pass0 (pa_cons (pe_fld (pv 0) rfl) (pa_cons (pe_fld (pv 0) rfl) pa_nil)))), ?_⟩
    obtain ⟨x, hl, c, rfl, ⟨⟨dx, hx⟩, hh⟩, fc, q⟩ := h
    exact ⟨_, rfl, x, C, dx, _, _, rfl, hx, TC.cl, TC.n1, hF_size, _, rfl, x, C, dx, _, _, rfl, hx, TC.cl, TC.n2, hF_holes, hl, c, rfl, fc, SqL.of hh, q⟩
/-! ### write, read, again -/
/-- [z] + a list that is new -/
theorem cat_out {x hl p1 : Addr} {H H1 : Hp} {c : Card} {z : Int} {l : List Nat} {Q : VK} (q : Out C H x hl (c, ⟨z, l⟩) Q) (ha : HAt C H x c hl) (p0 : Addr) (s1 : Same H H1) (e0 : H1 p0 = some (.lst [V.int z])) (e1 : H1 p1 = some (.lst (ni l))) (h : l.length ≤ 1000) : rCat (.ref p0) (.ref p1) H1 Q := by
  refine ⟨p0, p1, _, _, rfl, rfl, e0, e1, ?_, fun p hp => ?_⟩
  · rw [ni_len]
    exact small (by show 1 + l.length ≤ _; omega)
  · refine q.stay ha (s1.new hp) (s1.free hp) ?_
    rw [upd_same, out_ni]
    rfl
theorem len_again {c : Card} {k : Nat} {t : List Nat} : (c.again k t).length = c.n * c.n := by simp [Card.again, cells]
def spWri (K : PySem.W.Frag) (C : Addr) : Sp := fun vs H Q _ => ∃ (x hl a : Addr) (c : Card) (l : List Nat), vs = [.ref x, .ref a] ∧ HAt C H x c hl ∧ Fits c ∧ SqL K H a (ni l) ∧ Out C H x hl (Uw56.step c (.write l)) Q
abbrev sWri : Stmt := inClass (topS 28) 6
theorem scWri : FnScope ["self", "text"] ["self", "text"] (defScope sWri) := ⟨rfl, rfl, rfl, by decide +kernel, rfl, by decide +kernel, by decide +kernel⟩
theorem ok_wri {f : Addr} {fd : FuncData} (F : Fun K "write" "House.write" sWri f fd) (TC : TH K C) (mw : Num mg "WRONG" (-1)) (M1 : Mth P w K mg base 1 C "is_text" ["self", "text"] (spIt K C)) (M2 : Mth P w K mg base 4 C "now" ["self"] (spNow C)) (D1 : Def P w K mg base 1 "written" ["order", "text"] (spWr K)) : FnOk P w K mg base CX0 5 f fd ["self", "text"] (spWri K C) := by
  obtain ⟨f1, fd1, G1, m1, b1⟩ := M1
  obtain ⟨f2, fd2, G2, m2, b2⟩ := M2
  obtain ⟨f3, fd3, G3, m3, k3, b3⟩ := D1
  obtain ⟨tw, mw⟩ := mw
  refine F.ok scWri (fun vs H Q E h => ?_) (fun cdv A outer s H vs Q E hr h => ?_)
  · obtain ⟨x, hl, a, c, l, rfl, _⟩ := h
    rfl
  · have hr1 : Room 1 _ := hr.mono (by decide)
    refine ⟨_, pss_cons (ps_if (pt_not (pt_val (pe_meth (pv 0) TC.cl m1 G1 hr1 b1 .nil pass0 (pa_cons (pv 1) pa_nil)))) (pss_one (ps_ret (pe_lst (pa_cons (pe_glob (v := .int (-1)) (by rfl) mw ⟨_, rfl⟩) pa_nil)))) pss_nil)
      (pss_one (ps_ret (pe_op op_cat (pe_lst (pa_cons pe_int pa_nil)) (pe_call G3 hr1 (by rfl) m3 k3 b3 .nil pass0 (pa_cons (pe_meth0 (pv 0) TC.cl m2 G2 hr b2 .nil pass0) (pa_cons (pv 1) pa_nil)))))), ?_⟩
    obtain ⟨x, hl, a, c, l, rfl, ha, fc, hA, q⟩ := h
    obtain ⟨⟨dx, hx⟩, hh⟩ := id ha
    refine ⟨_, rfl, x, dx, _, rfl, hx, hF_m4, _, rfl, x, hl, a, c, l, rfl, ha, fc, hA, _, rfl, ?_⟩
    show if (!Uw56.isText c l) = true then _ else _
    refine ite2 (fun z => ?_) (fun z => ?_)
    · have e : Uw56.step c (.write l) = (c, Uw56.ok (-1)) := congrArg (Prod.mk c) (if_neg (by simpa using z))
      rw [e] at q
      exact ⟨by show 1 ≤ sizeLine; decide, fun p hp => q.stay ha ((Same.refl H).new hp) hp upd_same⟩
    · have z' : Uw56.isText c l = true := by simpa using z
      have e : Uw56.step c (.write l) = (c, ⟨0, c.write l⟩) := congrArg (Prod.mk c) (if_pos z')
      have hlen : l.length = c.n * c.n := by rw [isText_iff] at z'; exact of_decide_eq_true z'
      rw [e] at q
      refine ⟨by show 1 ≤ sizeLine; decide, fun p0 hp0 => ?_⟩
      have s0 : Same H (upd H p0 (.lst [V.int 0])) := (Same.refl H).new hp0
      refine ⟨_, rfl, x, dx, _, rfl, s0 _ _ hx, hF_m5, x, hl, c, rfl, ha.same s0, fc, fun H1 p1 s1 n1 e1 => ⟨_, rfl, p1, a, c, l, rfl, fc, SqL.of e1, (s0.trans s1).seq hA, hlen, fun H2 p2 s2 n2 e2 => ?_⟩⟩
      exact cat_out q ha p0 (s0.trans (s1.trans s2)) (s2 _ _ (s1 _ _ upd_same)) e2 (by rw [write_len]; have := fc.sz.le; omega)
def spRea (K : PySem.W.Frag) (C : Addr) : Sp := fun vs H Q _ => ∃ (x hl a : Addr) (c : Card) (l : List Nat), vs = [.ref x, .ref a] ∧ HAt C H x c hl ∧ Fits c ∧ SqL K H a (ni l) ∧ Out C H x hl (Uw56.step c (.read l)) Q
abbrev sRea : Stmt := inClass (topS 28) 7
theorem scRea : FnScope ["self", "text"] ["self", "text"] (defScope sRea) := ⟨rfl, rfl, rfl, by decide +kernel, rfl, by decide +kernel, by decide +kernel⟩
theorem ok_rea {f : Addr} {fd : FuncData} (F : Fun K "read" "House.read" sRea f fd) (TC : TH K C) (mw : Num mg "WRONG" (-1)) (M1 : Mth P w K mg base 1 C "is_text" ["self", "text"] (spIt K C)) (M2 : Mth P w K mg base 4 C "now" ["self"] (spNow C)) (D1 : Def P w K mg base 1 "read_out" ["order", "text"] (spRo K)) : FnOk P w K mg base CX0 5 f fd ["self", "text"] (spRea K C) := by
  obtain ⟨f1, fd1, G1, m1, b1⟩ := M1
  obtain ⟨f2, fd2, G2, m2, b2⟩ := M2
  obtain ⟨f3, fd3, G3, m3, k3, b3⟩ := D1
  obtain ⟨tw, mw⟩ := mw
  refine F.ok scRea (fun vs H Q E h => ?_) (fun cdv A outer s H vs Q E hr h => ?_)
  · obtain ⟨x, hl, a, c, l, rfl, _⟩ := h
    rfl
  · have hr1 : Room 1 _ := hr.mono (by decide)
    refine ⟨_, pss_cons (ps_if (pt_not (pt_val (pe_meth (pv 0) TC.cl m1 G1 hr1 b1 .nil pass0 (pa_cons (pv 1) pa_nil)))) (pss_one (ps_ret (pe_lst (pa_cons (pe_glob (v := .int (-1)) (by rfl) mw ⟨_, rfl⟩) pa_nil)))) pss_nil)
      (pss_one (ps_ret (pe_op op_cat (pe_lst (pa_cons pe_int pa_nil)) (pe_call G3 hr1 (by rfl) m3 k3 b3 .nil pass0 (pa_cons (pe_meth0 (pv 0) TC.cl m2 G2 hr b2 .nil pass0) (pa_cons (pv 1) pa_nil)))))), ?_⟩
    obtain ⟨x, hl, a, c, l, rfl, ha, fc, hA, q⟩ := h
    obtain ⟨⟨dx, hx⟩, hh⟩ := id ha
    refine ⟨_, rfl, x, dx, _, rfl, hx, hF_m4, _, rfl, x, hl, a, c, l, rfl, ha, fc, hA, _, rfl, ?_⟩
    show if (!Uw56.isText c l) = true then _ else _
    refine ite2 (fun z => ?_) (fun z => ?_)
    · have e : Uw56.step c (.read l) = (c, Uw56.ok (-1)) := congrArg (Prod.mk c) (if_neg (by simpa using z))
      rw [e] at q
      exact ⟨by show 1 ≤ sizeLine; decide, fun p hp => q.stay ha ((Same.refl H).new hp) hp upd_same⟩
    · have z' : Uw56.isText c l = true := by simpa using z
      have e : Uw56.step c (.read l) = (c, ⟨0, c.read l⟩) := congrArg (Prod.mk c) (if_pos z')
      have hlen : l.length = c.n * c.n := by rw [isText_iff] at z'; exact of_decide_eq_true z'
      rw [e] at q
      refine ⟨by show 1 ≤ sizeLine; decide, fun p0 hp0 => ?_⟩
      have s0 : Same H (upd H p0 (.lst [V.int 0])) := (Same.refl H).new hp0
      refine ⟨_, rfl, x, dx, _, rfl, s0 _ _ hx, hF_m5, x, hl, c, rfl, ha.same s0, fc, fun H1 p1 s1 n1 e1 => ⟨_, rfl, p1, a, c, l, rfl, fc, SqL.of e1, (s0.trans s1).seq hA, hlen, fun H2 p2 s2 n2 e2 => ?_⟩⟩
      exact cat_out q ha p0 (s0.trans (s1.trans s2)) (s2 _ _ (s1 _ _ upd_same)) e2 (by unfold Card.read; rw [List.length_map, fc.olen]; have := fc.sz.le; omega)
def spAga (K : PySem.W.Frag) (C : Addr) : Sp := fun vs H Q _ => ∃ (x hl a : Addr) (c : Card) (k : Nat) (l : List Nat), vs = [.ref x, vi k, .ref a] ∧ HAt C H x c hl ∧ Fits c ∧ SqL K H a (ni l) ∧ Out C H x hl (Uw56.step c (.again k l)) Q
abbrev sAga : Stmt := inClass (topS 28) 8
theorem scAga : FnScope ["self", "many", "text"] ["self", "many", "text"] (defScope sAga) := ⟨rfl, rfl, rfl, by decide +kernel, rfl, by decide +kernel, by decide +kernel⟩
theorem ok_aga {f : Addr} {fd : FuncData} (F : Fun K "again" "House.again" sAga f fd) (TC : TH K C) (mw : Num mg "WRONG" (-1)) (M1 : Mth P w K mg base 1 C "is_text" ["self", "text"] (spIt K C)) (M2 : Mth P w K mg base 4 C "now" ["self"] (spNow C)) (D1 : Def P w K mg base 3 "written_often" ["order", "many", "text"] (spWt K)) : FnOk P w K mg base CX0 5 f fd ["self", "many", "text"] (spAga K C) := by
  obtain ⟨f1, fd1, G1, m1, b1⟩ := M1
  obtain ⟨f2, fd2, G2, m2, b2⟩ := M2
  obtain ⟨f3, fd3, G3, m3, k3, b3⟩ := D1
  obtain ⟨tw, mw⟩ := mw
  refine F.ok scAga (fun vs H Q E h => ?_) (fun cdv A outer s H vs Q E hr h => ?_)
  · obtain ⟨x, hl, a, c, k, l, rfl, _⟩ := h
    rfl
  · have hr1 : Room 1 _ := hr.mono (by decide)
    have hr3 : Room 3 _ := hr.mono (by decide)
    refine ⟨_, pss_cons (ps_if (pt_not (pt_val (pe_meth (pv 0) TC.cl m1 G1 hr1 b1 .nil pass0 (pa_cons (pv 2) pa_nil)))) (pss_one (ps_ret (pe_lst (pa_cons (pe_glob (v := .int (-1)) (by rfl) mw ⟨_, rfl⟩) pa_nil)))) pss_nil)
      (pss_one (ps_ret (pe_op op_cat (pe_lst (pa_cons pe_int pa_nil)) (pe_call G3 hr3 (by rfl) m3 k3 b3 .nil pass0 (pa_cons (pe_meth0 (pv 0) TC.cl m2 G2 hr b2 .nil pass0) (pa_cons (pv 1) (pa_cons (pv 2) pa_nil))))))), ?_⟩
    obtain ⟨x, hl, a, c, k, l, rfl, ha, fc, hA, q⟩ := h
    obtain ⟨⟨dx, hx⟩, hh⟩ := id ha
    refine ⟨_, rfl, x, dx, _, rfl, hx, hF_m4, _, rfl, x, hl, a, c, l, rfl, ha, fc, hA, _, rfl, ?_⟩
    show if (!Uw56.isText c l) = true then _ else _
    refine ite2 (fun z => ?_) (fun z => ?_)
    · have e : Uw56.step c (.again k l) = (c, Uw56.ok (-1)) := congrArg (Prod.mk c) (if_neg (by simpa using z))
      rw [e] at q
      exact ⟨by show 1 ≤ sizeLine; decide, fun p hp => q.stay ha ((Same.refl H).new hp) hp upd_same⟩
    · have z' : Uw56.isText c l = true := by simpa using z
      have e : Uw56.step c (.again k l) = (c, ⟨0, c.again k l⟩) := congrArg (Prod.mk c) (if_pos z')
      have hlen : l.length = c.n * c.n := by rw [isText_iff] at z'; exact of_decide_eq_true z'
      rw [e] at q
      refine ⟨by show 1 ≤ sizeLine; decide, fun p0 hp0 => ?_⟩
      have s0 : Same H (upd H p0 (.lst [V.int 0])) := (Same.refl H).new hp0
      refine ⟨_, rfl, x, dx, _, rfl, s0 _ _ hx, hF_m5, x, hl, c, rfl, ha.same s0, fc, fun H1 p1 s1 n1 e1 => ⟨_, rfl, _, rfl, p1, a, c, k, l, rfl, fc, SqL.of e1, (s0.trans s1).seq hA, hlen, fun H2 p2 s2 n2 e2 => ?_⟩⟩
      exact cat_out q ha p0 (s0.trans (s1.trans s2)) (s2 _ _ (s1 _ _ upd_same)) e2 (by rw [len_again]; have := fc.sz.le; omega)
/-! ### order -/
def spOrd (C : Addr) : Sp := fun vs H Q _ => ∃ (x hl : Addr) (c : Card), vs = [.ref x] ∧ HAt C H x c hl ∧ Fits c ∧ Out C H x hl (Uw56.step c .order) Q
abbrev sOrd : Stmt := inClass (topS 28) 9
theorem scOrd : FnScope ["self"] ["self"] (defScope sOrd) := ⟨rfl, rfl, rfl, by decide +kernel, rfl, by decide +kernel, by decide +kernel⟩
theorem ok_ord {f : Addr} {fd : FuncData} (F : Fun K "order" "House.order" sOrd f fd) (TC : TH K C) (M2 : Mth P w K mg base 4 C "now" ["self"] (spNow C)) (D1 : Def P w K mg base 2 "least_again" ["order"] (spLa K)) : FnOk P w K mg base CX0 5 f fd ["self"] (spOrd C) := by
  obtain ⟨f2, fd2, G2, m2, b2⟩ := M2
  obtain ⟨f3, fd3, G3, m3, k3, b3⟩ := D1
  refine F.ok scOrd (fun vs H Q E h => ?_) (fun cdv A outer s H vs Q E hr h => ?_)
  · obtain ⟨x, hl, c, rfl, _⟩ := h
    rfl
  · have hr2 : Room 2 _ := hr.mono (by decide)
    refine ⟨_, pss_one (ps_ret (pe_op op_cat (pe_lst (pa_cons (pe_call G3 hr2 (by rfl) m3 k3 b3 .nil pass0 (pa_cons (pe_meth0 (pv 0) TC.cl m2 G2 hr b2 .nil pass0) pa_nil)) pa_nil)) (pe_meth0 (pv 0) TC.cl m2 G2 hr b2 .nil pass0))), ?_⟩
    obtain ⟨x, hl, c, rfl, ha, fc, q⟩ := h
    obtain ⟨⟨dx, hx⟩, hh⟩ := id ha
    have e : Uw56.step c .order = (c, ⟨(c.back : Nat), c.order⟩) := rfl
    rw [e] at q
    refine ⟨_, rfl, x, dx, _, rfl, hx, hF_m5, x, hl, c, rfl, ha, fc, fun H1 p1 s1 n1 e1 => ⟨p1, c, rfl, fc, SqL.of e1, by show 1 ≤ sizeLine; decide, fun p0 hp0 => ?_⟩⟩
    have s0 := s1.new (o := .lst [vi c.back]) hp0
    refine ⟨_, rfl, x, dx, _, rfl, s0 _ _ hx, hF_m5, x, hl, c, rfl, ha.same s0, fc, fun H2 p2 s2 n2 e2 => ?_⟩
    exact cat_out q ha p0 (s0.trans s2) (s2 _ _ upd_same) e2 (by rw [fc.olen]; have := fc.sz.le; omega)
end
end Hc
namespace Hc
open PySem PySem.Spec PyProof.Rows L2
open Uw56 (Card turn turns rising orbit orbits firstCard cells due)
section
variable {P : Program} {w : World} {K : PySem.W.Frag} {mg : Str → Option Value} {base : Heap} {C CG : Addr}
/-! ### guess -/
def spGue (K : PySem.W.Frag) (C : Addr) : Sp := fun vs H Q _ => ∃ (x hl p q : Addr) (c : Card) (a b : List Nat), vs = [.ref x, .ref p, .ref q] ∧ HAt C H x c hl ∧ Fits c ∧ SqL K H p (ni a) ∧ SqL K H q (ni b) ∧ Out C H x hl (Uw56.step c (.guess a b)) Q
abbrev sGue : Stmt := inClass (topS 28) 10
abbrev nGue : List Str := ["self", "text", "other", "found"]
theorem scGue : FnScope nGue ["self", "text", "other"] (defScope sGue) := ⟨rfl, rfl, rfl, by decide +kernel, rfl, by decide +kernel, by decide +kernel⟩
theorem look_first_len {n : Nat} {a b : List Nat} (h : Sz n) : ((hits n a b).headD []).length ≤ 9 := by
  cases e : hits n a b with
  | nil => exact Nat.zero_le _
  | cons x r =>
    have hx : x ∈ hits n a b := by rw [e]; simp
    unfold hits at hx
    split at hx
    · obtain ⟨_, l, _⟩ := leaves_put put_nil (List.mem_filter.mp hx).1
      have := orbits_le h
      show x.length ≤ 9
      rw [l]
      simpa using this
    · cases hx
theorem ok_gue {f fi : Addr} {fd fdi : FuncData} (F : Fun K "guess" "House.guess" sGue f fd) (T : Blt mg) (TC : TH K C) (TG' : TG K CG) (mw : Num mg "WRONG" (-1)) (mc : mg "Guess" = some (.ref CG)) (M1 : Mth P w K mg base 1 C "is_text" ["self", "text"] (spIt K C))
    (MK : Mk K CG fi) (GI : FnOk P w K mg base CX0 5 fi fdi ["self", "size", "text", "other"] (spGi CG)) (bI : Binds K fdi ["self", "size", "text", "other"] []) : FnOk P w K mg base CX0 7 f fd ["self", "text", "other"] (spGue K C) := by
  obtain ⟨f1, fd1, G1, m1, b1⟩ := M1
  obtain ⟨tw, mw⟩ := mw
  refine F.ok scGue (fun vs H Q E h => ?_) (fun cdv A outer s H vs Q E hr h => ?_)
  · obtain ⟨x, hl, p, q, c, a, b, rfl, _⟩ := h
    rfl
  · have hr1 : Room 1 _ := hr.mono (by decide)
    refine ⟨_, pss_cons (ps_if (PW.pt (pw_or (pt_not (pt_val (pe_meth (pv 0) TC.cl m1 G1 hr1 b1 .nil pass0 (pa_cons (pv 1) pa_nil)))) (pw_or1 (pt_not (pt_val (pe_meth (pv 0) TC.cl m1 G1 hr1 b1 .nil pass0 (pa_cons (pv 2) pa_nil)))))))
        (pss_one (ps_ret (pe_lst (pa_cons (pe_glob (v := .int (-1)) (by rfl) mw ⟨_, rfl⟩) pa_nil)))) pss_nil)
      (pss_cons (ps_set (i := 3) scGue.nd rfl (.inl rfl) (pe_make MK GI hr (by rfl) mc bI .nil pass0 (pa_cons (pe_fld (pv 0) rfl) (pa_cons (pe_callTy call_list_of (by rfl) T.list (by decide +kernel) (pa_cons (pv 1) pa_nil)) (pa_cons (pe_callTy call_list_of (by rfl) T.list (by decide +kernel) (pa_cons (pv 2) pa_nil)) pa_nil)))))
      (pss_one (ps_ret (pe_op op_cat (pe_lst (pa_cons (pe_fld (pv 3) rfl) pa_nil)) (pe_fld (pv 3) rfl))))), ?_⟩
    obtain ⟨x, hl, p, q', c, a, b, rfl, ha, fc, hA, hB, q⟩ := h
    obtain ⟨⟨dx, hx⟩, hh⟩ := id ha
    have wrong : (Uw56.isText c a && Uw56.isText c b) = false → ∀ p, H p = none → Q (.ref p) (upd H p (.lst [V.int (-1)])) := fun z p hp => by
      have e : Uw56.step c (.guess a b) = (c, Uw56.ok (-1)) := congrArg (Prod.mk c) (if_pos z)
      rw [e] at q
      exact q.stay ha ((Same.refl H).new hp) hp upd_same
    refine ⟨_, rfl, x, dx, _, rfl, hx, hF_m4, _, rfl, x, hl, p, c, a, rfl, ha, fc, hA, _, rfl, ?_⟩
    show if (!Uw56.isText c a) = true then _ else _
    refine ite2 (fun z => ?_) (fun z => ?_)
    · have z' : Uw56.isText c a = false := by simpa using z
      refine iteT ⟨by show 1 ≤ sizeLine; decide, fun p hp => wrong (by rw [z']; rfl) p hp⟩
    · have z' : Uw56.isText c a = true := by simpa using z
      refine ⟨_, rfl, x, dx, _, rfl, hx, hF_m4, _, rfl, x, hl, q', c, b, rfl, ha, fc, hB, _, rfl, ?_⟩
      show if (!Uw56.isText c b) = true then _ else _
      refine ite2 (fun y => ?_) (fun y => ?_)
      · have y' : Uw56.isText c b = false := by simpa using y
        exact ⟨by show 1 ≤ sizeLine; decide, fun p hp => wrong (by rw [y', Bool.and_false]) p hp⟩
      · have y' : Uw56.isText c b = true := by simpa using y
        have la : a.length = c.n * c.n := by rw [isText_iff] at z'; exact of_decide_eq_true z'
        have lb : b.length = c.n * c.n := by rw [isText_iff] at y'; exact of_decide_eq_true y'
        have e : Uw56.step c (.guess a b) = (c, ⟨((hits c.n a b).length : Nat), (hits c.n a b).headD []⟩) := by
          refine congrArg (Prod.mk c) ((if_neg (by rw [z', y']; decide)).trans ?_)
          show Uw56.Ans.mk ((Uw56.guesses c.n a b).length : Nat) _ = _
          rw [guess_count fc.sz la lb]
          exact congrArg (Uw56.Ans.mk _) (guess_first fc.sz la lb)
        rw [e] at q
        refine ⟨_, rfl, x, C, dx, _, _, rfl, hx, TC.cl, TC.n1, hF_size, _, rfl, p, _, rfl, .inl hA, fun p1 hp1 => ?_⟩
        have s1 : Same H (upd H p1 (.lst (ni a))) := (Same.refl H).new hp1
        refine ⟨_, rfl, q', _, rfl, .inl (s1.seq hB), fun p2 hp2 => ?_⟩
        have s2 := s1.new (o := .lst (ni b)) hp2
        have n12 : p1 ≠ p2 := fun t => by
          rw [← t, upd_same] at hp2
          cases hp2
        intro g dg hg hdg ndg
        have n1g : p1 ≠ g := fun t => by
          rw [← t, upd_ne n12, upd_same] at hg
          cases hg
        have n1d : p1 ≠ dg := fun t => by
          rw [← t, upd_ne n12, upd_same] at hdg
          cases hdg
        have n2g : p2 ≠ g := fun t => by
          rw [← t, upd_same] at hg
          cases hg
        have n2d : p2 ≠ dg := fun t => by
          rw [← t, upd_same] at hdg
          cases hdg
        refine ⟨g, dg, p1, p2, c.n, a, b, rfl, upd_same, ?_, ?_, fc.sz, la, lb, fun H3 gs fj b3 g3 => ⟨rfl, ?_⟩⟩
        · rw [upd_ne n1g, upd_ne n1d, upd_ne n12, upd_same]
        · rw [upd_ne n2g, upd_ne n2d, upd_same]
        · have hgH : H g = none := s2.free hg
          have hdH : H dg = none := s2.free hdg
          have s3 : Same H H3 := fun u o eu => by
            have nu : u ≠ g := ne_of_none eu hgH
            refine b3 u o ?_ nu
            rw [upd_ne nu, upd_ne (ne_of_none eu hdH)]
            exact s2 u o eu
          obtain ⟨⟨dy, hg3⟩, hf3, _⟩ := g3
          refine ⟨_, rfl, g, CG, dy, _, _, rfl, hg3, TG'.cl, TG'.n6, gF_many, by show 1 ≤ sizeLine; decide, fun p4 hp4 => ?_⟩
          have ng4 : g ≠ p4 := ne_of_none hg3 hp4
          have nf4 : fj ≠ p4 := ne_of_none hf3 hp4
          refine ⟨_, rfl, g, CG, dy, _, _, rfl, (upd_ne ng4).trans hg3, TG'.cl, TG'.n7, gF_first, ?_⟩
          exact cat_out q ha p4 (s3.new hp4) upd_same ((upd_ne nf4).trans hf3) (by have := look_first_len (a := a) (b := b) fc.sz; omega)
/-! ### known -/
def spKno (K : PySem.W.Frag) (C : Addr) : Sp := fun vs H Q _ => ∃ (x hl p q : Addr) (c : Card) (y z : List Nat), vs = [.ref x, .ref p, .ref q] ∧ HAt C H x c hl ∧ Fits c ∧ SqL K H p (ni y) ∧ SqL K H q (ni z) ∧ y.length ≤ 40 ∧ z.length ≤ 40 ∧ Out C H x hl (Uw56.step c (.known y z)) Q
abbrev sKno : Stmt := inClass (topS 28) 11
abbrev nKno : List Str := ["self", "holes", "others", "many", "first"]
theorem scKno : FnScope nKno ["self", "holes", "others"] (defScope sKno) := ⟨rfl, rfl, rfl, by decide +kernel, rfl, by decide +kernel, by decide +kernel⟩
theorem rising_len {l : List Nat} : (rising l).length ≤ l.length := by
  have := (up_nodup (rising_up l)).length_le_of_subset (l₂ := l) fun x hx => mem_rising.mp hx
  exact this
theorem knownL_len {n : Nat} (h : Sz n) {y z : List Nat} : (knownL n y z).length ≤ 9 := by
  unfold knownL
  split
  · exact Nat.zero_le _
  · unfold Uw56.firstKnown
    refine Nat.le_trans rising_len ?_
    unfold Uw56.open_
    rw [List.length_map, List.length_map]
    exact orbits_le h
theorem ok_kno {f : Addr} {fd : FuncData} (F : Fun K "known" "House.known" sKno f fd) (TC : TH K C) (mw : Num mg "WRONG" (-1)) (M1 : Mth P w K mg base 1 C "are_cells" ["self", "row"] (spAc K C)) (D1 : Def P w K mg base 4 "known_cards" ["size", "holes", "others"] (spKn K)) : FnOk P w K mg base CX0 5 f fd ["self", "holes", "others"] (spKno K C) := by
  obtain ⟨f1, fd1, G1, m1, b1⟩ := M1
  obtain ⟨f2, fd2, G2, m2, k2, b2⟩ := D1
  obtain ⟨tw, mw⟩ := mw
  refine F.ok scKno (fun vs H Q E h => ?_) (fun cdv A outer s H vs Q E hr h => ?_)
  · obtain ⟨x, hl, p, q, c, a, b, rfl, _⟩ := h
    rfl
  · have hr1 : Room 1 _ := hr.mono (by decide)
    refine ⟨_, pss_cons (ps_if (PW.pt (pw_or (pt_not (pt_val (pe_meth (pv 0) TC.cl m1 G1 hr1 b1 .nil pass0 (pa_cons (pv 1) pa_nil)))) (pw_or1 (pt_not (pt_val (pe_meth (pv 0) TC.cl m1 G1 hr1 b1 .nil pass0 (pa_cons (pv 2) pa_nil)))))))
        (pss_one (ps_ret (pe_lst (pa_cons (pe_glob (v := .int (-1)) (by rfl) mw ⟨_, rfl⟩) pa_nil)))) pss_nil)
      (pss_cons (ps_asg (pe_call G2 hr (by rfl) m2 k2 b2 .nil pass0 (pa_cons (pe_fld (pv 0) rfl) (pa_cons (pv 1) (pa_cons (pv 2) pa_nil)))) (pg_tup (by rfl) (pgs_cons (pg_name (i := 3) scKno.nd rfl (.inl rfl)) (pgs_cons (pg_name (i := 4) scKno.nd rfl (.inl rfl)) pgs_nil))))
      (pss_one (ps_ret (pe_op op_cat (pe_lst (pa_cons (pv 3) pa_nil)) (pv 4))))), ?_⟩
    obtain ⟨x, hl, p, q', c, y, z, rfl, ha, fc, hA, hB, ly, lz, q⟩ := h
    obtain ⟨⟨dx, hx⟩, hh⟩ := id ha
    have wrong : (Uw56.areCells c.n y && Uw56.areCells c.n z) = false → ∀ H1, Same H H1 → ∀ p, H1 p = none → Q (.ref p) (upd H1 p (.lst [V.int (-1)])) := fun t H1 s1 p hp => by
      have e : Uw56.step c (.known y z) = (c, Uw56.ok (-1)) := congrArg (Prod.mk c) (if_pos t)
      rw [e] at q
      exact q.stay ha (s1.new hp) (s1.free hp) upd_same
    refine ⟨_, rfl, x, dx, _, rfl, hx, hF_m2, _, rfl, x, hl, p, c, y, rfl, ha, fc, hA, ly, fun H1 s1 => ⟨_, rfl, ?_⟩⟩
    show if (!Uw56.areCells c.n y) = true then _ else _
    refine ite2 (fun u => ?_) (fun u => ?_)
    · have u' : Uw56.areCells c.n y = false := by simpa using u
      refine iteT ⟨by show 1 ≤ sizeLine; decide, fun p hp => wrong (by rw [u']; rfl) H1 s1 p hp⟩
    · have u' : Uw56.areCells c.n y = true := by simpa using u
      refine ⟨_, rfl, x, dx, _, rfl, s1 _ _ hx, hF_m2, _, rfl, x, hl, q', c, z, rfl, ha.same s1, fc, s1.seq hB, lz, fun H2 s2 => ⟨_, rfl, ?_⟩⟩
      have s12 := s1.trans s2
      show if (!Uw56.areCells c.n z) = true then _ else _
      refine ite2 (fun v => ?_) (fun v => ?_)
      · have v' : Uw56.areCells c.n z = false := by simpa using v
        exact ⟨by show 1 ≤ sizeLine; decide, fun p hp => wrong (by rw [v', Bool.and_false]) H2 s12 p hp⟩
      · have v' : Uw56.areCells c.n z = true := by simpa using v
        have e : Uw56.step c (.known y z) = (c, ⟨(Uw56.known c.n y z : Nat), knownL c.n y z⟩) := congrArg (Prod.mk c) (if_neg (by rw [u', v']; decide))
        rw [e] at q
        refine ⟨_, rfl, x, C, dx, _, _, rfl, s12 _ _ hx, TC.cl, TC.n1, hF_size, _, rfl, _, rfl, c.n, p, q', y, z, rfl, fc.sz, s12.seq hA, s12.seq hB, fun H3 t p3 s3 et e3 => ?_⟩
        refine ⟨t, _, rfl, SqT.of et, rfl, _, _, rfl, _, _, rfl, rfl, ?_⟩
        refine ⟨_, rfl, by show 1 ≤ sizeLine; decide, fun p4 hp4 => ?_⟩
        refine ⟨_, rfl, cat_out q ha p4 ((s12.trans s3).new hp4) upd_same ((upd_ne (ne_of_none e3 hp4)).trans e3) (by have := knownL_len (y := y) (z := z) fc.sz; omega)⟩
/-! ### turned -/
def spTur (C : Addr) : Sp := fun vs H Q _ => ∃ (x hl : Addr) (c : Card) (t o : Nat), vs = [.ref x, vi t, vi o] ∧ HAt C H x c hl ∧ Fits c ∧ Out C H x hl (Uw56.step c (.turned t o)) Q
abbrev sTur : Stmt := inClass (topS 28) 12
abbrev nTur : List Str := ["self", "quarters", "over"]
theorem scTur : FnScope nTur ["self", "quarters", "over"] (defScope sTur) := ⟨rfl, rfl, rfl, by decide +kernel, rfl, by decide +kernel, by decide +kernel⟩
theorem ok_tur {f : Addr} {fd : FuncData} (F : Fun K "turned" "House.turned" sTur f fd) (TC : TH K C) (mw : Num mg "WRONG" (-1)) (mq : Num mg "QUARTERS" 4) (D1 : Def P w K mg base 2 "turned_by" ["size", "holes", "quarters"] (spTb K)) (D2 : Def P w K mg base 2 "turned_over" ["size", "holes"] (spTv K)) : FnOk P w K mg base CX0 3 f fd nTur (spTur C) := by
  obtain ⟨f1, fd1, G1, m1, k1, b1⟩ := D1
  obtain ⟨f2, fd2, G2, m2, k2, b2⟩ := D2
  obtain ⟨tw, mw⟩ := mw
  obtain ⟨tq, mq⟩ := mq
  refine F.ok scTur (fun vs H Q E h => ?_) (fun cdv A outer s H vs Q E hr h => ?_)
  · obtain ⟨x, hl, c, t, o, rfl, _⟩ := h
    rfl
  · refine ⟨_, pss_cons (ps_if (PW.pt (pw_or (pt_cmpR op_ge (pv 1) (pe_glob (v := .int 4) (by rfl) mq ⟨_, rfl⟩) (nomark _)) (pw_or1 (pt_cmpR op_gt (pv 2) pe_int (nomark _))))) (pss_one (ps_ret (pe_lst (pa_cons (pe_glob (v := .int (-1)) (by rfl) mw ⟨_, rfl⟩) pa_nil)))) pss_nil)
      (pss_cons (ps_fld (pv 0) (pe_call G1 hr (by rfl) m1 k1 b1 .nil pass0 (pa_cons (pe_fld (pv 0) rfl) (pa_cons (pe_fld (pv 0) rfl) (pa_cons (pv 1) pa_nil)))) rfl)
      (pss_cons (ps_if (pt_cmpR op_eq (pv 2) pe_int (nomark _)) (pss_one (ps_fld (pv 0) (pe_call G2 hr (by rfl) m2 k2 b2 .nil pass0 (pa_cons (pe_fld (pv 0) rfl) (pa_cons (pe_fld (pv 0) rfl) pa_nil))) rfl)) pss_nil)
      (pss_one (ps_ret (pe_op op_cat (pe_lst (pa_cons pe_int pa_nil)) (pe_fld (pv 0) rfl)))))), ?_⟩
    obtain ⟨x, hl, c, t, o, rfl, ha, fc, q⟩ := h
    obtain ⟨⟨dx, hx⟩, hh⟩ := id ha
    have wrong : (3 < t ∨ 1 < o) → ∀ p, H p = none → Q (.ref p) (upd H p (.lst [V.int (-1)])) := fun z p hp => by
      have e : Uw56.step c (.turned t o) = (c, Uw56.ok (-1)) := if_pos z
      rw [e] at q
      exact q.stay ha ((Same.refl H).new hp) hp upd_same
    refine ⟨_, rfl, _, _, rfl, rfl, _, rfl, ?_⟩
    refine ite2 (fun z => ?_) (fun z => ?_)
    · have z' : (4 : Int) ≤ (t : Int) := of_decide_eq_true z
      refine iteT ⟨by show 1 ≤ sizeLine; decide, fun p hp => wrong (by omega) p hp⟩
    · have z' : ¬ (4 : Int) ≤ (t : Int) := fun y => z (decide_eq_true y)
      refine ⟨_, rfl, _, _, rfl, rfl, _, rfl, ?_⟩
      refine ite2 (fun y => ?_) (fun y => ?_)
      · have y' : (1 : Int) < (o : Int) := of_decide_eq_true y
        exact ⟨by show 1 ≤ sizeLine; decide, fun p hp => wrong (by omega) p hp⟩
      · have y' : ¬ (1 : Int) < (o : Int) := fun u => y (decide_eq_true u)
        have e : Uw56.step c (.turned t o) = (c.turned t (o == 1), ⟨0, (c.turned t (o == 1)).holes⟩) := if_neg (by omega)
        rw [e] at q
        refine ⟨_, rfl, x, C, dx, _, _, rfl, hx, TC.cl, TC.n1, hF_size, _, rfl, x, C, dx, _, _, rfl, hx, TC.cl, TC.n2, hF_holes, _, rfl, c.n, t, hl, c.holes, rfl, fc.sz, .inl (SqL.of hh), up_nodup fc.up, fc.lt, by omega, fun H1 p1 s1 n1 e1 => ?_⟩
        have e1' : H1 p1 = some (.lst (ni (c.turned t false).holes)) := e1
        have f1' := fc.turned0 (t := t) (by omega)
        refine ⟨_, rfl, x, C, dx, _, rfl, s1 _ _ hx, TC.cl, TC.n2, by show 2 < 1000; decide, ?_⟩
        rw [hF_put_holes]
        have nx1 : x ≠ p1 := ne_of_none hx n1
        have b1' : But x H (upd H1 x (.ins C dx (hF c.n p1))) := s1.but.put
        have ep1 : (upd H1 x (.ins C dx (hF c.n p1))) p1 = some (.lst (ni (c.turned t false).holes)) := (upd_ne nx1.symm).trans e1'
        have fin : ∀ (H2 : Hp) (ph : Addr), But x H H2 → H ph = none → H2 x = some (.ins C dx (hF c.n ph)) → H2 ph = some (.lst (ni (c.turned t (o == 1)).holes)) → (c.turned t (o == 1)).holes.length ≤ 36 → ∀ p0, H2 p0 = none → rCat (.ref p0) (.ref ph) (upd H2 p0 (.lst [V.int 0])) Q := fun H2 ph b2 nh hx2 eh lh p0 hp0 => by
          have nh0 : ph ≠ p0 := ne_of_none eh hp0
          have nx0 : x ≠ p0 := ne_of_none hx2 hp0
          have h0 : H p0 = none := by
            cases v : H p0 with
            | none => rfl
            | some u =>
              rw [b2 _ _ v nx0.symm] at hp0
              cases hp0
          refine ⟨p0, ph, _, _, rfl, rfl, upd_same, (upd_ne nh0).trans eh, ?_, fun p3 hp3 => ?_⟩
          · rw [ni_len]
            exact small (by show 1 + _ ≤ _; omega)
          · have np30 : p3 ≠ p0 := fun v => by
              rw [v, upd_same] at hp3
              cases hp3
            have h3' : H2 p3 = none := by
              rw [upd_ne np30] at hp3
              exact hp3
            have nx3 : x ≠ p3 := ne_of_none hx2 h3'
            have nh3 : ph ≠ p3 := ne_of_none eh h3'
            have h3 : H p3 = none := by
              cases v : H p3 with
              | none => rfl
              | some u =>
                rw [b2 _ _ v nx3.symm] at h3'
                cases h3'
            refine q _ p3 ph ((b2.own h0).own h3) (.inr nh) ⟨⟨dx, ?_⟩, ?_⟩ h3 ?_
            · rw [upd_ne nx3, upd_ne nx0]
              exact hx2
            · rw [upd_ne nh3, upd_ne nh0]
              exact eh
            · rw [upd_same, out_ni]
              rfl
        refine ⟨_, rfl, rfl, _, rfl, ?_⟩
        show if decide (vi o = vi 1) = true then _ else _
        rw [vi_eq]
        refine ite2 (fun u => ?_) (fun u => ?_)
        · have u' : o = 1 := of_decide_eq_true u
          have eo : (o == 1) = true := by rw [u']; rfl
          rw [eo] at fin
          refine ⟨_, rfl, x, C, dx, _, _, rfl, upd_same, TC.cl, TC.n1, hF_size, _, rfl, x, C, dx, _, _, rfl, upd_same, TC.cl, TC.n2, hF_holes, c.n, p1, (c.turned t false).holes, rfl, fc.sz, SqL.of ep1, up_nodup f1'.up, f1'.lt, fun H2 p2 s2 n2 e2 => ?_⟩
          refine ⟨_, rfl, x, C, dx, _, rfl, s2 _ _ upd_same, TC.cl, TC.n2, by show 2 < 1000; decide, ?_⟩
          rw [hF_put_holes]
          have nx2 : x ≠ p2 := ne_of_none upd_same n2
          have n2H : H p2 = none := by
            rw [upd_ne nx2.symm] at n2
            exact s1.free n2
          have f2' := fc.turned (t := t) (by omega) true
          refine ⟨by show 1 ≤ sizeLine; decide, fun p0 hp0 => ⟨_, rfl, x, C, dx, _, _, rfl, ?_, TC.cl, TC.n2, hF_holes (n := c.n) (hl := p2), ?_⟩⟩
          · rw [upd_ne (ne_of_none upd_same hp0)]
            exact upd_same
          · refine fin _ p2 ((b1'.trans s2.but).put) n2H upd_same ?_ (nodup_len f2'.sz (up_nodup f2'.up) f2'.lt) p0 hp0
            rw [upd_ne nx2.symm, e2]
            have : c.turned t true = over (c.turned t false) := turned_over
            rw [this]
            rfl
        · have u' : o = 0 := by
            have : ¬ o = 1 := fun v => u (decide_eq_true v)
            omega
          have eo : (o == 1) = false := by rw [u']; rfl
          rw [eo] at fin
          refine ⟨by show 1 ≤ sizeLine; decide, fun p0 hp0 => ⟨_, rfl, x, C, dx, _, _, rfl, ?_, TC.cl, TC.n2, hF_holes (n := c.n) (hl := p1), ?_⟩⟩
          · rw [upd_ne (ne_of_none upd_same hp0)]
            exact upd_same
          · exact fin _ p1 b1' n1 upd_same ep1 (nodup_len f1'.sz (up_nodup f1'.up) f1'.lt) p0 hp0
end
end Hc
namespace Hc
open Uw56
/-! ### the machine keeps a card that fits -/
theorem init_fits : Fits Uw56.init := first_fits (n := 2) ⟨by decide, by decide⟩
theorem fits_step {c : Card} (f : Fits c) (x : Call) : Fits (Uw56.step c x).1 := by
  cases x with
  | begins n =>
    dsimp only [Uw56.step]
    split
    · exact f
    · rename_i h
      refine first_fits ⟨?_, ?_⟩
      · unfold SIDE at h; omega
      · unfold SIDE at h; omega
  | card l =>
    dsimp only [Uw56.step]
    split
    · exact f
    · rename_i h
      split
      · exact f
      · rename_i e
        have h1 : isRising l = true := by
          cases z : isRising l with
          | true => rfl
          | false => exact absurd (.inl z) h
        have h2 : areCells c.n l = true := by
          cases z : areCells c.n l with
          | true => rfl
          | false => exact absurd (.inr z) h
        refine ⟨f.sz, ?_, fun x hx => of_decide_eq_true (List.all_eq_true.mp h2 x hx), fault_none.mp e⟩
        have up : ∀ l : List Nat, isRising l = true → l.Pairwise (· < ·) := by
          intro l
          induction l with
          | nil => intro _; exact .nil
          | cons a r ih =>
            cases r with
            | nil => intro _; simp
            | cons b r =>
              intro h
              have h' : (decide (a < b) && isRising (b :: r)) = true := h
              rw [Bool.and_eq_true, decide_eq_true_eq] at h'
              have h2 := ih h'.2
              refine List.pairwise_cons.mpr ⟨fun x hx => ?_, h2⟩
              rcases List.mem_cons.mp hx with rfl | hx
              · exact h'.1
              · exact Nat.lt_trans h'.1 ((List.pairwise_cons.mp h2).1 x hx)
        exact up l h1
  | turned t o =>
    dsimp only [Uw56.step]
    split
    · exact f
    · exact f.turned (by omega) _
  | write l => exact f
  | read l => exact f
  | again k l => exact f
  | order => exact f
  | guess a b => exact f
  | known y z => exact f
/-! ### what is handed in -/
abbrev Raw := List (List Int)
def flat (c : Raw) : List Int := (PyUw56.whole c).headD []
/-- a call as the document has it, against what is read -/
inductive Says : Raw → Call → Prop
  | begins (n : Nat) : Says [[0, (n : Int)]] (.begins n)
  | card (l : List Nat) : l.length ≤ 40 → Says [[1], zs l] (.card l)
  | write (l : List Nat) : Says [[2], zs l] (.write l)
  | read (l : List Nat) : Says [[3], zs l] (.read l)
  | again (k : Nat) (l : List Nat) : Says [[4, (k : Int)], zs l] (.again k l)
  | order : Says [[5]] .order
  | guess (a b : List Nat) : Says [[6], zs a, zs b] (.guess a b)
  | known (a b : List Nat) : a.length ≤ 40 → b.length ≤ 40 → Says [[7], zs a, zs b] (.known a b)
  | turned (t o : Nat) : Says [[8, (t : Int), (o : Int)]] (.turned t o)
theorem nat_cast {z : Int} (h : Uw56Neutral.nat z = true) : ∃ n : Nat, z = (n : Int) := by
  unfold Uw56Neutral.nat at h
  rw [Bool.and_eq_true, decide_eq_true_eq] at h
  exact ⟨z.toNat, by omega⟩
theorem nats_cast : ∀ {l : List Int}, l.all Uw56Neutral.nat = true → ∃ m : List Nat, l = zs m
  | [], _ => ⟨[], rfl⟩
  | z :: r, h => by
    rw [List.all_cons, Bool.and_eq_true] at h
    obtain ⟨n, rfl⟩ := nat_cast h.1
    obtain ⟨m, rfl⟩ := nats_cast h.2
    exact ⟨n :: m, rfl⟩
theorem zs_back (m : List Nat) : (zs m).map Int.toNat = m := by
  unfold zs
  rw [List.map_map]
  exact (List.map_congr_left fun x _ => Int.toNat_natCast x).trans (List.map_id _)
theorem zs_len (m : List Nat) : (zs m).length = m.length := by simp [zs]
theorem callOf_all {l : List Int} (h : Uw56Neutral.asked1 l = true) : l.all Uw56Neutral.nat = true ∧ Uw56Neutral.callOf l = Uw56Neutral.callIn (l.map Int.toNat) := by
  unfold Uw56Neutral.asked1 at h
  unfold Uw56Neutral.callOf at *
  by_cases z : l.all Uw56Neutral.nat = false
  · rw [if_pos z] at h
    cases h
  · rw [if_neg z] at *
    exact ⟨by simpa using z, rfl⟩
theorem upTo_some {l : List Nat} {x : Call} (h : (Uw56Neutral.upTo l x).isSome = true) : l.length ≤ 40 ∧ Uw56Neutral.upTo l x = some x := by
  unfold Uw56Neutral.upTo at *
  split at h
  · rename_i q
    exact ⟨q, if_pos q⟩
  · cases h
theorem both_some {n : Nat} {l : List Nat} {g : List Nat → List Nat → Call} (h : (Uw56Neutral.both n l g).isSome = true) : (n ≤ 40 ∧ n ≤ l.length ∧ (l.drop n).length ≤ 40) ∧ Uw56Neutral.both n l g = some (g (l.take n) (l.drop n)) := by
  unfold Uw56Neutral.both at *
  split at h
  · rename_i q
    exact ⟨q, if_pos q⟩
  · cases h
theorem len_two {α : Type} : ∀ {l : List α}, l.length = 2 → ∃ a b, l = [a, b]
  | [a, b], _ => ⟨a, b, rfl⟩
theorem zs_app (a b : List Nat) : zs a ++ zs b = zs (a ++ b) := by simp [zs]
theorem take_app {a b : List Nat} : (a ++ b).take a.length = a ∧ (a ++ b).drop a.length = b := ⟨List.take_left, List.drop_left⟩
/-- each call that is asked says one of the document's calls -/
theorem says_of {c : Raw} (ok : PyFlat.okCall PyUw56.shape c) (h : Uw56Neutral.asked1 (flat c) = true) : ∃ x, Says c x ∧ Uw56Neutral.callOf (flat c) = some x := by
  obtain ⟨p, a, xs, rfl, hs⟩ := ok
  obtain ⟨h1, h2⟩ := callOf_all h
  have h3 : (Uw56Neutral.callOf (flat ((p :: a) :: xs))).isSome = true := h
  unfold PyUw56.shape at hs
  by_cases e0 : p = 0
  · subst e0
    rw [if_pos rfl] at hs
    obtain ⟨la, lx⟩ := Prod.mk.inj (Option.some.inj hs)
    obtain rfl : xs = [] := List.eq_nil_of_length_eq_zero lx.symm
    obtain ⟨z, rfl⟩ := List.length_eq_one_iff.mp la.symm
    have h1' : ([0, z] : List Int).all Uw56Neutral.nat = true := h1
    obtain ⟨n, rfl⟩ := nat_cast (z := z) (by simp only [List.all_cons, List.all_nil, Bool.and_true, Bool.and_eq_true] at h1'; exact h1'.2)
    refine ⟨_, .begins n, h2.trans ?_⟩
    show Uw56Neutral.callIn [0, (n : Int).toNat] = _
    rw [Int.toNat_natCast]
    rfl
  rw [if_neg e0] at hs
  by_cases e1 : p = 1
  · subst e1
    rw [if_pos rfl] at hs
    obtain ⟨la, lx⟩ := Prod.mk.inj (Option.some.inj hs)
    obtain rfl : a = [] := List.eq_nil_of_length_eq_zero la.symm
    obtain ⟨r, rfl⟩ := List.length_eq_one_iff.mp lx.symm
    have h1' : ((1 : Int) :: r).all Uw56Neutral.nat = true := h1
    obtain ⟨m, rfl⟩ := nats_cast (l := r) (by rw [List.all_cons, Bool.and_eq_true] at h1'; exact h1'.2)
    have e : Uw56Neutral.callOf (flat [[1], zs m]) = Uw56Neutral.upTo m (.card m) := h2.trans (by
      show Uw56Neutral.upTo ((zs m).map Int.toNat) (.card ((zs m).map Int.toNat)) = _
      rw [zs_back])
    rw [e] at h3
    obtain ⟨l40, e2⟩ := upTo_some h3
    exact ⟨_, .card m l40, e.trans e2⟩
  rw [if_neg e1] at hs
  by_cases e2 : p = 2
  · subst e2
    rw [if_pos rfl] at hs
    obtain ⟨la, lx⟩ := Prod.mk.inj (Option.some.inj hs)
    obtain rfl : a = [] := List.eq_nil_of_length_eq_zero la.symm
    obtain ⟨r, rfl⟩ := List.length_eq_one_iff.mp lx.symm
    have h1' : ((2 : Int) :: r).all Uw56Neutral.nat = true := h1
    obtain ⟨m, rfl⟩ := nats_cast (l := r) (by rw [List.all_cons, Bool.and_eq_true] at h1'; exact h1'.2)
    have e : Uw56Neutral.callOf (flat [[2], zs m]) = Uw56Neutral.upTo m (.write m) := h2.trans (by
      show Uw56Neutral.upTo ((zs m).map Int.toNat) (.write ((zs m).map Int.toNat)) = _
      rw [zs_back])
    rw [e] at h3
    exact ⟨_, .write m, e.trans (upTo_some h3).2⟩
  rw [if_neg e2] at hs
  by_cases e3 : p = 3
  · subst e3
    rw [if_pos rfl] at hs
    obtain ⟨la, lx⟩ := Prod.mk.inj (Option.some.inj hs)
    obtain rfl : a = [] := List.eq_nil_of_length_eq_zero la.symm
    obtain ⟨r, rfl⟩ := List.length_eq_one_iff.mp lx.symm
    have h1' : ((3 : Int) :: r).all Uw56Neutral.nat = true := h1
    obtain ⟨m, rfl⟩ := nats_cast (l := r) (by rw [List.all_cons, Bool.and_eq_true] at h1'; exact h1'.2)
    have e : Uw56Neutral.callOf (flat [[3], zs m]) = Uw56Neutral.upTo m (.read m) := h2.trans (by
      show Uw56Neutral.upTo ((zs m).map Int.toNat) (.read ((zs m).map Int.toNat)) = _
      rw [zs_back])
    rw [e] at h3
    exact ⟨_, .read m, e.trans (upTo_some h3).2⟩
  rw [if_neg e3] at hs
  by_cases e4 : p = 4
  · subst e4
    rw [if_pos rfl] at hs
    obtain ⟨la, lx⟩ := Prod.mk.inj (Option.some.inj hs)
    obtain ⟨z, rfl⟩ := List.length_eq_one_iff.mp la.symm
    obtain ⟨r, rfl⟩ := List.length_eq_one_iff.mp lx.symm
    have h1' : ((4 : Int) :: z :: r).all Uw56Neutral.nat = true := h1
    rw [List.all_cons, List.all_cons, Bool.and_eq_true, Bool.and_eq_true] at h1'
    obtain ⟨n, rfl⟩ := nat_cast h1'.2.1
    obtain ⟨m, rfl⟩ := nats_cast h1'.2.2
    have e : Uw56Neutral.callOf (flat [[4, (n : Int)], zs m]) = Uw56Neutral.upTo m (.again n m) := h2.trans (by
      show Uw56Neutral.upTo ((zs m).map Int.toNat) (.again (n : Int).toNat ((zs m).map Int.toNat)) = _
      rw [zs_back, Int.toNat_natCast])
    rw [e] at h3
    exact ⟨_, .again n m, e.trans (upTo_some h3).2⟩
  rw [if_neg e4] at hs
  by_cases e5 : p = 5
  · subst e5
    rw [if_pos rfl] at hs
    obtain ⟨la, lx⟩ := Prod.mk.inj (Option.some.inj hs)
    obtain rfl : xs = [] := List.eq_nil_of_length_eq_zero lx.symm
    obtain rfl : a = [] := List.eq_nil_of_length_eq_zero la.symm
    exact ⟨_, .order, h2⟩
  rw [if_neg e5] at hs
  by_cases e6 : p = 6
  · subst e6
    rw [if_pos rfl] at hs
    obtain ⟨la, lx⟩ := Prod.mk.inj (Option.some.inj hs)
    obtain rfl : a = [] := List.eq_nil_of_length_eq_zero la.symm
    obtain ⟨r, s, rfl⟩ := len_two lx.symm
    have h1' : ((6 : Int) :: ([(r.length : Int)] ++ r ++ s)).all Uw56Neutral.nat = true := h1
    rw [List.all_cons, List.all_append, List.all_append, Bool.and_eq_true, Bool.and_eq_true, Bool.and_eq_true] at h1'
    obtain ⟨m, rfl⟩ := nats_cast h1'.2.1.2
    obtain ⟨k, rfl⟩ := nats_cast h1'.2.2
    have e : Uw56Neutral.callOf (flat [[6], zs m, zs k]) = Uw56Neutral.both m.length (m ++ k) .guess := h2.trans (by
      show Uw56Neutral.both ((zs m).length : Int).toNat ((zs m ++ zs k).map Int.toNat) .guess = _
      rw [zs_app, zs_back, Int.toNat_natCast, zs_len])
    rw [e] at h3
    obtain ⟨_, q⟩ := both_some h3
    rw [take_app.1, take_app.2] at q
    exact ⟨_, .guess m k, e.trans q⟩
  rw [if_neg e6] at hs
  by_cases e7 : p = 7
  · subst e7
    rw [if_pos rfl] at hs
    obtain ⟨la, lx⟩ := Prod.mk.inj (Option.some.inj hs)
    obtain rfl : a = [] := List.eq_nil_of_length_eq_zero la.symm
    obtain ⟨r, s, rfl⟩ := len_two lx.symm
    have h1' : ((7 : Int) :: ([(r.length : Int)] ++ r ++ s)).all Uw56Neutral.nat = true := h1
    rw [List.all_cons, List.all_append, List.all_append, Bool.and_eq_true, Bool.and_eq_true, Bool.and_eq_true] at h1'
    obtain ⟨m, rfl⟩ := nats_cast h1'.2.1.2
    obtain ⟨k, rfl⟩ := nats_cast h1'.2.2
    have e : Uw56Neutral.callOf (flat [[7], zs m, zs k]) = Uw56Neutral.both m.length (m ++ k) .known := h2.trans (by
      show Uw56Neutral.both ((zs m).length : Int).toNat ((zs m ++ zs k).map Int.toNat) .known = _
      rw [zs_app, zs_back, Int.toNat_natCast, zs_len])
    rw [e] at h3
    obtain ⟨⟨q1, _, q3⟩, q⟩ := both_some h3
    rw [take_app.1, take_app.2] at q
    rw [take_app.2] at q3
    exact ⟨_, .known m k q1 q3, e.trans q⟩
  rw [if_neg e7] at hs
  by_cases e8 : p = 8
  · subst e8
    rw [if_pos rfl] at hs
    obtain ⟨la, lx⟩ := Prod.mk.inj (Option.some.inj hs)
    obtain rfl : xs = [] := List.eq_nil_of_length_eq_zero lx.symm
    obtain ⟨u, v, rfl⟩ := len_two la.symm
    have h1' : ([8, u, v] : List Int).all Uw56Neutral.nat = true := h1
    simp only [List.all_cons, List.all_nil, Bool.and_true, Bool.and_eq_true] at h1'
    obtain ⟨m, rfl⟩ := nat_cast h1'.2.1
    obtain ⟨k, rfl⟩ := nat_cast h1'.2.2
    refine ⟨_, .turned m k, h2.trans ?_⟩
    show Uw56Neutral.callIn [8, (m : Int).toNat, (k : Int).toNat] = _
    rw [Int.toNat_natCast, Int.toNat_natCast]
    rfl
  rw [if_neg e8] at hs
  cases hs
/-! ### the machine, played -/
def play (s : Card) (cs : List Raw) : List Int := PyFlat.told (PyFlat.played (fun s c => Uw56Neutral.step s (c.headD [])) s (cs.map PyUw56.whole))
theorem play_nil {s : Card} : play s [] = [] := rfl
theorem play_cons {s : Card} {c : Raw} {cs : List Raw} {x : Call} (h : Uw56Neutral.callOf (flat c) = some x) :
    play s (c :: cs) = ((Uw56Neutral.out (Uw56.step s x).2).length : Int) :: (Uw56Neutral.out (Uw56.step s x).2 ++ play (Uw56.step s x).1 cs) := by
  have e : Uw56Neutral.step s (flat c) = ((Uw56.step s x).1, Uw56Neutral.out (Uw56.step s x).2) := by
    unfold Uw56Neutral.step
    rw [h]
  have e1 : (Uw56Neutral.step s (flat c)).1 = (Uw56.step s x).1 := by rw [e]
  have e2 : (Uw56Neutral.step s (flat c)).2 = Uw56Neutral.out (Uw56.step s x).2 := by rw [e]
  rw [← e1, ← e2]
  rfl
/-- what is asked of the list, in full -/
theorem asked_is {l : List Int} (h : PyUw56.answers_asked l = true) : ∃ cs : List Raw, l = PyFlat.put cs ∧ (∀ c ∈ cs, PyFlat.okCall PyUw56.shape c ∧ Uw56Neutral.asked1 (flat c) = true) ∧ PyUw56.answers l = play Uw56.init cs ∧ (PyUw56.answers l).length ≤ 10000000 := by
  unfold PyUw56.answers_asked at h
  cases e : PyFlat.calls PyUw56.shape l.length l with
  | none =>
    rw [e] at h
    cases h
  | some cs =>
    rw [e] at h
    have h' : (!cs.isEmpty && PyFlat.atMost 40 cs && PyInside.calls PyUw56.bound cs && Uw56Neutral.asked ((cs.map PyUw56.whole).map fun c => c.headD []) && PyFlat.short 10000000 (PyUw56.answers l)) = true := h
    rw [Bool.and_eq_true, Bool.and_eq_true] at h'
    obtain ⟨⟨_, h2⟩, h3⟩ := h'
    obtain ⟨p1, p2⟩ := PyFlat.put_calls _ _ _ e
    unfold Uw56Neutral.asked at h2
    rw [Bool.and_eq_true] at h2
    have h4 := List.all_eq_true.mp h2.1
    refine ⟨cs, p1, fun c hc => ⟨p2 c hc, h4 _ ?_⟩, ?_, of_decide_eq_true h3⟩
    · rw [List.map_map]
      exact List.mem_map.mpr ⟨c, hc, rfl⟩
    · unfold PyUw56.answers PyUw56.calls
      rw [e]
      rfl
end Hc
namespace Hc
open PySem PySem.Spec PyProof.Rows L2
open Uw56 (Card turn turns rising orbit orbits firstCard cells due)
/-- lists of numbers, each at its place -/
def RowsAt (H : Hp) (ps : List Addr) (xs : List (List Int)) : Prop := ps.length = xs.length ∧ ∀ (i : Nat) (a : Addr) (r : List Int), ps[i]? = some a → xs[i]? = some r → H a = some (.lst (r.map V.int))
theorem RowsAt.mono {H H' : Hp} {ps : List Addr} {xs : List (List Int)} (r : RowsAt H ps xs) (s : Same H H') : RowsAt H' ps xs := ⟨r.1, fun i a o h1 h2 => s _ _ (r.2 i a o h1 h2)⟩
theorem RowsAt.one {H : Hp} {ps : List Addr} {l : List Nat} (r : RowsAt H ps [zs l]) : ∃ p, ps = [p] ∧ H p = some (.lst (ni l)) := by
  obtain ⟨p, rfl⟩ := List.length_eq_one_iff.mp r.1
  refine ⟨p, rfl, ?_⟩
  rw [ni_ints]
  exact r.2 0 p (zs l) rfl rfl
theorem RowsAt.two {H : Hp} {ps : List Addr} {l m : List Nat} (r : RowsAt H ps [zs l, zs m]) : ∃ p q, ps = [p, q] ∧ H p = some (.lst (ni l)) ∧ H q = some (.lst (ni m)) := by
  obtain ⟨p, q, rfl⟩ := len_two r.1
  refine ⟨p, q, rfl, ?_, ?_⟩
  · rw [ni_ints]
    exact r.2 0 p (zs l) rfl rfl
  · rw [ni_ints]
    exact r.2 1 q (zs m) rfl rfl
theorem kind_no {a b : Int} (h : ¬ a = b) {A B : Prop} (q : B) : if decide (V.int a = V.int b) = true then A else B := by
  rw [vint_eq, if_neg fun z => h (of_decide_eq_true z)]
  exact q
theorem kind_yes {a : Int} {A B : Prop} (q : A) : if decide (V.int a = V.int a) = true then A else B := by
  rw [if_pos (decide_eq_true rfl)]
  exact q
section
variable {P : Program} {w : World} {K : PySem.W.Frag} {mg : Str → Option Value} {base : Heap} {C : Addr}
/-- a call is told to the house -/
def spTd (C : Addr) : Sp := fun vs H Q _ => ∃ (x hl nA rA : Addr) (s : Card) (p : Int) (a : List Int) (xs : List (List Int)) (ps : List Addr) (y : Uw56.Call), vs = [.ref x, .int p, .ref nA, .ref rA] ∧ HAt C H x s hl ∧ Fits s ∧ Says ((p :: a) :: xs) y ∧
  H nA = some (.lst (a.map V.int)) ∧ H rA = some (.lst (nr ps)) ∧ RowsAt H ps xs ∧ Out C H x hl (Uw56.step s y) Q
def spTr (C : Addr) : Sp := fun vs H Q _ => ∃ (x hl nA rA : Addr) (s : Card) (p : Int) (a : List Int) (xs : List (List Int)) (ps : List Addr) (y : Uw56.Call), vs = [.ref x, .int p, .ref nA, .ref rA] ∧ HAt C H x s hl ∧ Fits s ∧ Says ((p :: a) :: xs) y ∧ xs ≠ [] ∧
  H nA = some (.lst (a.map V.int)) ∧ H rA = some (.lst (nr ps)) ∧ RowsAt H ps xs ∧ Out C H x hl (Uw56.step s y) Q
abbrev nTd : List Str := ["house", "kind", "n", "rows"]
theorem scTr : FnScope nTd nTd (defScope (topS 32)) := ⟨rfl, rfl, rfl, by decide +kernel, rfl, by decide +kernel, by decide +kernel⟩
theorem scTd : FnScope nTd nTd (defScope (topS 33)) := ⟨rfl, rfl, rfl, by decide +kernel, rfl, by decide +kernel, by decide +kernel⟩
theorem ok_tr {f : Addr} {fd : FuncData} (F : Fun K "told_of_rows" "told_of_rows" (topS 32) f fd) (TC : TH K C) (M1 : Mth P w K mg base 5 C "card" ["self", "holes"] (spCa K C)) (M2 : Mth P w K mg base 5 C "write" ["self", "text"] (spWri K C)) (M3 : Mth P w K mg base 5 C "read" ["self", "text"] (spRea K C))
    (M4 : Mth P w K mg base 5 C "again" ["self", "many", "text"] (spAga K C)) (M6 : Mth P w K mg base 7 C "guess" ["self", "text", "other"] (spGue K C)) (M7 : Mth P w K mg base 5 C "known" ["self", "holes", "others"] (spKno K C)) : FnOk P w K mg base CX0 8 f fd nTd (spTr C) := by
  obtain ⟨f1, fd1, G1, m1, b1⟩ := M1
  obtain ⟨f2, fd2, G2, m2, b2⟩ := M2
  obtain ⟨f3, fd3, G3, m3, b3⟩ := M3
  obtain ⟨f4, fd4, G4, m4, b4⟩ := M4
  obtain ⟨f6, fd6, G6, m6, b6⟩ := M6
  obtain ⟨f7, fd7, G7, m7, b7⟩ := M7
  refine F.ok scTr (fun vs H Q E h => ?_) (fun cdv A outer s H vs Q E hr h => ?_)
  · obtain ⟨x, hl, nA, rA, s, p, a, xs, ps, y, rfl, _⟩ := h
    rfl
  · have hr5 : Room 5 _ := hr.mono (by decide)
    refine ⟨_, pss_cons (ps_if (pt_cmpR op_eq (pv 1) pe_int (nomark _)) (pss_one (ps_ret (pe_meth (pv 0) TC.cl m1 G1 hr5 b1 .nil pass0 (pa_cons (pe_ix ix_list (pv 3) pe_int (fun _ _ => rfl)) pa_nil)))) pss_nil)
      (pss_cons (ps_if (pt_cmpR op_eq (pv 1) pe_int (nomark _)) (pss_one (ps_ret (pe_meth (pv 0) TC.cl m2 G2 hr5 b2 .nil pass0 (pa_cons (pe_ix ix_list (pv 3) pe_int (fun _ _ => rfl)) pa_nil)))) pss_nil)
      (pss_cons (ps_if (pt_cmpR op_eq (pv 1) pe_int (nomark _)) (pss_one (ps_ret (pe_meth (pv 0) TC.cl m3 G3 hr5 b3 .nil pass0 (pa_cons (pe_ix ix_list (pv 3) pe_int (fun _ _ => rfl)) pa_nil)))) pss_nil)
      (pss_cons (ps_if (pt_cmpR op_eq (pv 1) pe_int (nomark _)) (pss_one (ps_ret (pe_meth (pv 0) TC.cl m4 G4 hr5 b4 .nil pass0 (pa_cons (pe_ix ix_list (pv 2) pe_int (fun _ _ => rfl)) (pa_cons (pe_ix ix_list (pv 3) pe_int (fun _ _ => rfl)) pa_nil))))) pss_nil)
      (pss_cons (ps_if (pt_cmpR op_eq (pv 1) pe_int (nomark _)) (pss_one (ps_ret (pe_meth (pv 0) TC.cl m6 G6 hr b6 .nil pass0 (pa_cons (pe_ix ix_list (pv 3) pe_int (fun _ _ => rfl)) (pa_cons (pe_ix ix_list (pv 3) pe_int (fun _ _ => rfl)) pa_nil))))) pss_nil)
      (pss_one (ps_ret (pe_meth (pv 0) TC.cl m7 G7 hr5 b7 .nil pass0 (pa_cons (pe_ix ix_list (pv 3) pe_int (fun _ _ => rfl)) (pa_cons (pe_ix ix_list (pv 3) pe_int (fun _ _ => rfl)) pa_nil))))))))), ?_⟩
    obtain ⟨x, hl, nA, rA, s, p, a, xs, ps, y, rfl, ha, fs, sy, hne, hn, hro, rw, q⟩ := h
    obtain ⟨⟨dx, hx⟩, hh⟩ := id ha
    cases sy with
    | begins n => exact absurd rfl hne
    | order => exact absurd rfl hne
    | turned t o => exact absurd rfl hne
    | card l l40 =>
      obtain ⟨pa, rfl, e1⟩ := rw.one
      refine ⟨_, rfl, rfl, _, rfl, kind_yes ?_⟩
      exact ⟨_, rfl, x, dx, _, rfl, hx, hF_m3, _, rfl, rA, _, _, _, rfl, rfl, SqL.of hro, at_of (j := 0) rfl rfl, x, hl, pa, s, l, rfl, ha, fs, SqL.of e1, l40, q⟩
    | write l =>
      obtain ⟨pa, rfl, e1⟩ := rw.one
      refine ⟨_, rfl, rfl, _, rfl, kind_no (by decide) ?_⟩
      refine ⟨_, rfl, rfl, _, rfl, kind_yes ?_⟩
      exact ⟨_, rfl, x, dx, _, rfl, hx, hF_m6, _, rfl, rA, _, _, _, rfl, rfl, SqL.of hro, at_of (j := 0) rfl rfl, x, hl, pa, s, l, rfl, ha, fs, SqL.of e1, q⟩
    | read l =>
      obtain ⟨pa, rfl, e1⟩ := rw.one
      refine ⟨_, rfl, rfl, _, rfl, kind_no (by decide) ?_⟩
      refine ⟨_, rfl, rfl, _, rfl, kind_no (by decide) ?_⟩
      refine ⟨_, rfl, rfl, _, rfl, kind_yes ?_⟩
      exact ⟨_, rfl, x, dx, _, rfl, hx, hF_m7, _, rfl, rA, _, _, _, rfl, rfl, SqL.of hro, at_of (j := 0) rfl rfl, x, hl, pa, s, l, rfl, ha, fs, SqL.of e1, q⟩
    | again k l =>
      obtain ⟨pa, rfl, e1⟩ := rw.one
      refine ⟨_, rfl, rfl, _, rfl, kind_no (by decide) ?_⟩
      refine ⟨_, rfl, rfl, _, rfl, kind_no (by decide) ?_⟩
      refine ⟨_, rfl, rfl, _, rfl, kind_no (by decide) ?_⟩
      refine ⟨_, rfl, rfl, _, rfl, kind_yes ?_⟩
      exact ⟨_, rfl, x, dx, _, rfl, hx, hF_m8, _, rfl, nA, _, _, _, rfl, rfl, SqL.of hn, at_of (j := 0) rfl rfl, _, rfl, rA, _, _, _, rfl, rfl, SqL.of hro, at_of (j := 0) rfl rfl, x, hl, pa, s, k, l, rfl, ha, fs, SqL.of e1, q⟩
    | guess u v =>
      obtain ⟨pa, pb, rfl, e1, e2⟩ := rw.two
      refine ⟨_, rfl, rfl, _, rfl, kind_no (by decide) ?_⟩
      refine ⟨_, rfl, rfl, _, rfl, kind_no (by decide) ?_⟩
      refine ⟨_, rfl, rfl, _, rfl, kind_no (by decide) ?_⟩
      refine ⟨_, rfl, rfl, _, rfl, kind_no (by decide) ?_⟩
      refine ⟨_, rfl, rfl, _, rfl, kind_yes ?_⟩
      exact ⟨_, rfl, x, dx, _, rfl, hx, hF_m10, _, rfl, rA, _, _, _, rfl, rfl, SqL.of hro, at_of (j := 0) rfl rfl, _, rfl, rA, _, _, _, rfl, rfl, SqL.of hro, at_of (j := 1) rfl rfl, x, hl, pa, pb, s, u, v, rfl, ha, fs, SqL.of e1, SqL.of e2, q⟩
    | known u v lu lv =>
      obtain ⟨pa, pb, rfl, e1, e2⟩ := rw.two
      refine ⟨_, rfl, rfl, _, rfl, kind_no (by decide) ?_⟩
      refine ⟨_, rfl, rfl, _, rfl, kind_no (by decide) ?_⟩
      refine ⟨_, rfl, rfl, _, rfl, kind_no (by decide) ?_⟩
      refine ⟨_, rfl, rfl, _, rfl, kind_no (by decide) ?_⟩
      refine ⟨_, rfl, rfl, _, rfl, kind_no (by decide) ?_⟩
      exact ⟨_, rfl, x, dx, _, rfl, hx, hF_m11, _, rfl, rA, _, _, _, rfl, rfl, SqL.of hro, at_of (j := 0) rfl rfl, _, rfl, rA, _, _, _, rfl, rfl, SqL.of hro, at_of (j := 1) rfl rfl, x, hl, pa, pb, s, u, v, rfl, ha, fs, SqL.of e1, SqL.of e2, lu, lv, q⟩
theorem ok_td {f : Addr} {fd : FuncData} (F : Fun K "told" "told" (topS 33) f fd) (T : Blt mg) (TC : TH K C) (D1 : Def P w K mg base 8 "told_of_rows" nTd (spTr C)) (M0 : Mth P w K mg base 5 C "begins" ["self", "size"] (spBe C)) (M5 : Mth P w K mg base 5 C "order" ["self"] (spOrd C)) (M8 : Mth P w K mg base 3 C "turned" nTur (spTur C)) : FnOk P w K mg base CX0 9 f fd nTd (spTd C) := by
  obtain ⟨f1, fd1, G1, m1, k1, b1⟩ := D1
  obtain ⟨f0, fd0, G0, m0, b0⟩ := M0
  obtain ⟨f5, fd5, G5, m5, b5⟩ := M5
  obtain ⟨f8, fd8, G8, m8, b8⟩ := M8
  refine F.ok scTd (fun vs H Q E h => ?_) (fun cdv A outer s H vs Q E hr h => ?_)
  · obtain ⟨x, hl, nA, rA, s, p, a, xs, ps, y, rfl, _⟩ := h
    rfl
  · have hr5 : Room 5 _ := hr.mono (by decide)
    have hr3 : Room 3 _ := hr.mono (by decide)
    refine ⟨_, pss_cons (ps_if (pt_cmpR op_gt (pe_callB call_len (by rfl) T.len (by decide +kernel) (pa_cons (pv 3) pa_nil)) pe_int (nomark _)) (pss_one (ps_ret (pe_call G1 hr (by rfl) m1 k1 b1 .nil pass0 (pa_cons (pv 0) (pa_cons (pv 1) (pa_cons (pv 2) (pa_cons (pv 3) pa_nil))))))) pss_nil)
      (pss_cons (ps_if (pt_cmpR op_eq (pv 1) pe_int (nomark _)) (pss_one (ps_ret (pe_meth (pv 0) TC.cl m0 G0 hr5 b0 .nil pass0 (pa_cons (pe_ix ix_list (pv 2) pe_int (fun _ _ => rfl)) pa_nil)))) pss_nil)
      (pss_cons (ps_if (pt_cmpR op_eq (pv 1) pe_int (nomark _)) (pss_one (ps_ret (pe_meth0 (pv 0) TC.cl m5 G5 hr5 b5 .nil pass0))) pss_nil)
      (pss_one (ps_ret (pe_meth (pv 0) TC.cl m8 G8 hr3 b8 .nil pass0 (pa_cons (pe_ix ix_list (pv 2) pe_int (fun _ _ => rfl)) (pa_cons (pe_ix ix_list (pv 2) pe_int (fun _ _ => rfl)) pa_nil))))))), ?_⟩
    obtain ⟨x, hl, nA, rA, s, p, a, xs, ps, y, rfl, ha, fs, sy, hn, hro, rw, q⟩ := h
    obtain ⟨⟨dx, hx⟩, hh⟩ := id ha
    have lps : (nr ps).length = xs.length := by rw [List.length_map, rw.1]
    refine ⟨_, rfl, _, xs.length, rfl, .inl ⟨_, SqL.of hro, lps.symm⟩, _, _, rfl, rfl, _, rfl, ?_⟩
    refine ite2 (fun z => ?_) (fun z => ?_)
    · have z' : (0 : Int) < (xs.length : Int) := of_decide_eq_true z
      have hne : xs ≠ [] := fun e => by
        rw [e] at z'
        exact absurd z' (by decide)
      exact ⟨_, rfl, _, rfl, _, rfl, _, rfl, x, hl, nA, rA, s, p, a, xs, ps, y, rfl, ha, fs, sy, hne, hn, hro, rw, q⟩
    · have z' : xs = [] := by
        apply List.eq_nil_of_length_eq_zero
        have : ¬ (0 : Int) < (xs.length : Int) := fun e => z (decide_eq_true e)
        omega
      subst z'
      cases sy with
      | begins n =>
        refine ⟨_, rfl, rfl, _, rfl, kind_yes ?_⟩
        exact ⟨_, rfl, x, dx, _, rfl, hx, hF_m1, _, rfl, nA, _, _, _, rfl, rfl, SqL.of hn, at_of (j := 0) rfl rfl, x, hl, s, n, rfl, ha, q⟩
      | order =>
        refine ⟨_, rfl, rfl, _, rfl, kind_no (by decide) ?_⟩
        refine ⟨_, rfl, rfl, _, rfl, kind_yes ?_⟩
        exact ⟨_, rfl, x, dx, _, rfl, hx, hF_m9, x, hl, s, rfl, ha, fs, q⟩
      | turned t o =>
        refine ⟨_, rfl, rfl, _, rfl, kind_no (by decide) ?_⟩
        refine ⟨_, rfl, rfl, _, rfl, kind_no (by decide) ?_⟩
        exact ⟨_, rfl, x, dx, _, rfl, hx, hF_m12, _, rfl, nA, _, _, _, rfl, rfl, SqL.of hn, at_of (j := 0) rfl rfl, _, rfl, nA, _, _, _, rfl, rfl, SqL.of hn, at_of (j := 1) rfl rfl, x, hl, s, t, o, rfl, ha, fs, q⟩
end
end Hc
namespace Hc
open PySem PySem.Spec PyProof.Rows L2
open Uw56 (Card turn turns rising orbit orbits firstCard cells due)
/-! ### the list of calls -/
def tabN : List Int := [1, 0, 0, 0, 1, 0, 0, 0, 2]
def tabR : List Int := [0, 1, 1, 1, 1, 0, 2, 2, 0]
theorem says_tab {p : Int} {a : List Int} {xs : List (List Int)} {y : Uw56.Call} (h : Says ((p :: a) :: xs) y) : atI (tabN.map V.int) p = some (.int (a.length : Nat)) ∧ atI (tabR.map V.int) p = some (.int (xs.length : Nat)) := by
  cases h
  · exact ⟨at_of (j := 0) rfl rfl, at_of (j := 0) rfl rfl⟩
  · exact ⟨at_of (j := 1) rfl rfl, at_of (j := 1) rfl rfl⟩
  · exact ⟨at_of (j := 2) rfl rfl, at_of (j := 2) rfl rfl⟩
  · exact ⟨at_of (j := 3) rfl rfl, at_of (j := 3) rfl rfl⟩
  · exact ⟨at_of (j := 4) rfl rfl, at_of (j := 4) rfl rfl⟩
  · exact ⟨at_of (j := 5) rfl rfl, at_of (j := 5) rfl rfl⟩
  · exact ⟨at_of (j := 6) rfl rfl, at_of (j := 6) rfl rfl⟩
  · exact ⟨at_of (j := 7) rfl rfl, at_of (j := 7) rfl rfl⟩
  · exact ⟨at_of (j := 8) rfl rfl, at_of (j := 8) rfl rfl⟩
abbrev vz (l : List Int) : List V := l.map V.int
theorem cut_mid {u v t : List Int} {i j : Int} (hi : i = (u.length : Int)) (hj : j = ((u.length + v.length : Nat) : Int)) : cutV (vz (u ++ (v ++ t))) (some i) (some j) = vz v := by
  subst hi hj
  unfold cutV
  have e1 : HT.sIx (vz (u ++ (v ++ t))).length 0 (some (u.length : Int)) = u.length := by
    rw [HT.sIx_nat, List.length_map]
    simp only [List.length_append]
    omega
  have e2 : HT.sIx (vz (u ++ (v ++ t))).length (vz (u ++ (v ++ t))).length (some ((u.length + v.length : Nat) : Int)) = u.length + v.length := by
    rw [HT.sIx_nat, List.length_map]
    simp only [List.length_append]
    omega
  rw [e1, e2]
  unfold vz
  rw [← List.map_drop, ← List.map_take, List.drop_left, Nat.add_sub_cancel_left, List.take_left]
theorem at_mid {u t : List Int} {z i : Int} (hi : i = (u.length : Int)) : atI (vz (u ++ z :: t)) i = some (.int z) := at_of hi (by simp [vz])
theorem putRows_app : ∀ {A B : List (List Int)}, PyFlat.putRows (A ++ B) = PyFlat.putRows A ++ PyFlat.putRows B
  | [], _ => rfl
  | x :: A, B => by
    show PyFlat.putRow x ++ PyFlat.putRows (A ++ B) = (PyFlat.putRow x ++ PyFlat.putRows A) ++ PyFlat.putRows B
    rw [putRows_app, List.append_assoc]
theorem take_split {α : Type} {l : List α} {i : Nat} {r : α} (h : l[i]? = some r) : l = l.take i ++ r :: l.drop (i + 1) := by
  obtain ⟨hi, e⟩ := List.getElem?_eq_some_iff.mp h
  rw [← e, ← List.drop_eq_getElem_cons hi, List.take_append_drop]
/-- a tuple of numbers of the module -/
def Tab (K : PySem.W.Frag) (mg : Str → Option Value) (x : Str) (ns : List Int) : Prop := ∃ a, mg x = some (.ref a) ∧ ∀ H, SqT K H a (vz ns)
section
variable {P : Program} {w : World} {K : PySem.W.Frag} {mg : Str → Option Value} {base : Heap} {C : Addr}
def spAn (K : PySem.W.Frag) : Sp := fun vs H Q _ => ∃ (a : Addr) (l : List Int), vs = [.ref a] ∧ SqL K H a (vz l) ∧ PyUw56.answers_asked l = true ∧ l.length ≤ 4000 ∧ ∀ (H' : Hp) (p : Addr), H' p = some (.lst (vz (PyUw56.answers l))) → Q (.ref p) H'
abbrev nAn : List Str := ["calls", "house", "found", "at", "kind", "end", "numbers", "rows", "k", "answer"]
theorem scAn : FnScope nAn ["calls"] (defScope (topS 34)) := ⟨rfl, rfl, rfl, by decide +kernel, rfl, by decide +kernel, by decide +kernel⟩
theorem ok_an {f fi : Addr} {fd fdi : FuncData} (F : Fun K "answers" "answers" (topS 34) f fd) (T : Blt mg) (mc : mg "House" = some (.ref C)) (MK : Mk K C fi) (GI : FnOk P w K mg base CX0 1 fi fdi ["self"] (spHi C)) (bI : Binds K fdi ["self"] [])
    (tN : Tab K mg "NUMBERS" tabN) (tR : Tab K mg "ROWS" tabR) (D1 : Def P w K mg base 9 "told" nTd (spTd C)) : FnOk P w K mg base CX0 10 f fd ["calls"] (spAn K) := by
  obtain ⟨f1, fd1, G1, m1, k1, b1⟩ := D1
  obtain ⟨aN, mN, qN⟩ := tN
  obtain ⟨aR, mR, qR⟩ := tR
  refine F.ok scAn (fun vs H Q E h => ?_) (fun cdv A outer s H vs Q E hr h => ?_)
  · obtain ⟨a, l, rfl, _⟩ := h
    rfl
  · have hr2 : Room 2 _ := hr.mono (by decide)
    refine ⟨_, pss_cons (ps_set (i := 1) scAn.nd rfl (.inl rfl) (pe_make0 MK GI hr2 (by rfl) mc bI .nil pass0))
      (pss_cons (ps_set (i := 2) scAn.nd rfl (.inl rfl) (pe_lst pa_nil))
      (pss_cons (ps_set (i := 3) scAn.nd rfl (.inl rfl) pe_int)
      (pss_cons (ps_while PassesOwn.never (pt_cmpR op_lt (pv 3) (pe_callB call_len (by rfl) T.len (by decide +kernel) (pa_cons (pv 0) pa_nil)) (nomark _))
        (pss_cons (ps_set (i := 4) scAn.nd rfl (.inl rfl) (pe_ix ix_list (pv 0) (pv 3) (fun _ _ => rfl)))
        (pss_cons (ps_set (i := 5) scAn.nd rfl (.inl rfl) (pe_op op_add (pe_op op_add (pv 3) pe_int) (pe_ix ix_tup (pe_glob (v := .ref aN) (by rfl) mN rfl) (pv 4) (fun _ _ => rfl))))
        (pss_cons (ps_set (i := 6) scAn.nd rfl (.inl rfl) (pe_slice sl_list (pv 0) (po_some (pe_op op_add (pv 3) pe_int)) (po_some (pv 5))))
        (pss_cons (ps_set (i := 7) scAn.nd rfl (.inl rfl) (pe_lst pa_nil))
        (pss_cons (ps_for PassesOwn.never rfl (pi_range1 (by rfl) T.range (pa_cons (pe_ix ix_tup (pe_glob (v := .ref aR) (by rfl) mR rfl) (pv 4) (fun _ _ => rfl)) pa_nil)) (pg_name (i := 8) scAn.nd rfl (.inl rfl))
          (pss_cons (ps_expr (pe_bm PySem.F.plainAttrs_list PySem.F.slot_list_append PySem.F.type_list_append mt_append (pv 7) (pa_cons (pe_slice sl_list (pv 0) (po_some (pe_op op_add (pv 5) pe_int)) (po_some (pe_op op_add (pe_op op_add (pv 5) pe_int) (pe_ix ix_list (pv 0) (pv 5) (fun _ _ => rfl))))) pa_nil)))
          (pss_one (ps_set (i := 5) scAn.nd rfl (.inl rfl) (pe_op op_add (pe_op op_add (pv 5) pe_int) (pe_ix ix_list (pv 0) (pv 5) (fun _ _ => rfl)))))))
        (pss_cons (ps_set (i := 3) scAn.nd rfl (.inl rfl) (pv 5))
        (pss_cons (ps_set (i := 9) scAn.nd rfl (.inl rfl) (pe_call G1 hr (by rfl) m1 k1 b1 .nil pass0 (pa_cons (pv 1) (pa_cons (pv 4) (pa_cons (pv 6) (pa_cons (pv 7) pa_nil))))))
        (pss_cons (ps_expr (pe_bm PySem.F.plainAttrs_list PySem.F.slot_list_append PySem.F.type_list_append mt_append (pv 2) (pa_cons (pe_callB call_len (by rfl) T.len (by decide +kernel) (pa_cons (pv 9) pa_nil)) pa_nil)))
        (pss_one (ps_expr (pe_bm PySem.F.plainAttrs_list PySem.F.slot_list_extend PySem.F.type_list_extend mt_extend (pv 2) (pa_cons (pv 9) pa_nil)))))))))))))
      (pss_one (ps_ret (pv 2)))))), ?_⟩
    obtain ⟨a0, l, rfl, hA, hask, hl4, q⟩ := h
    obtain ⟨cs0, el, hcs, ean, l7⟩ := asked_is hask
    intro x dx nx nd ne
    refine ⟨x, dx, rfl, upd_same, fun H1 hl0 b0 nh0 g0 => ⟨rfl, ?_⟩⟩
    have s1 : Same H H1 := fun u o eu => by
      have nu : u ≠ x := ne_of_none eu nx
      refine b0 u o ?_ nu
      rw [upd_ne nu, upd_ne (ne_of_none eu nd)]
      exact eu
    refine ⟨Nat.zero_le _, fun fp hfp => ?_⟩
    have nfH : H fp = none := s1.free hfp
    have s2 : Same H (upd H1 fp (.lst [])) := s1.new hfp
    refine ⟨fun μ σ H' => ∃ (pre : List Int) (cs : List Raw) (c : Card) (hl : Addr) (F : List Int) (v4 v5 v6 v7 v8 v9 : Option V), μ = cs.length ∧ σ = [some (.ref a0), some (.ref x), some (.ref fp), some (vi pre.length), v4, v5, v6, v7, v8, v9] ∧ Same H H' ∧
      l = pre ++ PyFlat.put cs ∧ (∀ c ∈ cs, PyFlat.okCall PyUw56.shape c ∧ Uw56Neutral.asked1 (flat c) = true) ∧ H' fp = some (.lst (vz F)) ∧ F ++ play c cs = PyUw56.answers l ∧ HAt C H' x c hl ∧ hl ≠ fp ∧ Fits c,
      ⟨_, [], cs0, Uw56.init, hl0, [], none, none, none, none, none, none, rfl, rfl, s2, el, hcs, upd_same, by rw [ean]; rfl, g0.same ((Same.refl H1).new hfp), ne_of_none g0.fl hfp, init_fits⟩, ?_⟩
    rintro μ σ H2 ⟨pre, cs, c, hl, F, v4, v5, v6, v7, v8, v9, rfl, rfl, sH, eL, hc, ef, eF, ga, nhf, fc⟩
    have hA2 := sH.seq hA
    obtain ⟨⟨dy, hx⟩, hh⟩ := id ga
    refine ⟨_, rfl, _, rfl, _, l.length, rfl, .inl ⟨_, hA2, by simp [vz]⟩, _, _, rfl, rfl, _, rfl, ?_⟩
    cases cs with
    | nil =>
      have e0 : l = pre := by rw [eL]; exact List.append_nil _
      refine ite2 (fun z => ?_) (fun _ => ?_)
      · have := of_decide_eq_true z
        rw [e0] at this
        exact absurd this (by omega)
      · refine ⟨_, rfl, q H2 fp ?_⟩
        rw [ef, ← eF, play_nil, List.append_nil]
    | cons r rest =>
      obtain ⟨okc, ask1⟩ := hc r (by simp)
      obtain ⟨y, sy, ey⟩ := says_of okc ask1
      obtain ⟨p, a, xs, rfl, _⟩ := okc
      obtain ⟨tabn, tabr⟩ := says_tab sy
      have eL2 : l = pre ++ (p :: (a ++ (PyFlat.putRows xs ++ PyFlat.put rest))) := by
        rw [eL]
        congr 1
        show (p :: a) ++ PyFlat.putRows xs ++ PyFlat.put rest = _
        rw [List.append_assoc]
        rfl
      have hlen : pre.length + 1 + a.length + (PyFlat.putRows xs).length + (PyFlat.put rest).length = l.length := by
        rw [eL2]
        simp only [List.length_append, List.length_cons]
        omega
      refine ite2 (fun _ => ?_) (fun z => absurd (decide_eq_true (by omega)) z)
      refine ⟨fun σ' H' => ∃ (pre : List Int) (c : Card) (hl : Addr) (F : List Int) (v4 v5 v6 v7 v8 v9 : Option V), σ' = [some (.ref a0), some (.ref x), some (.ref fp), some (vi pre.length), v4, v5, v6, v7, v8, v9] ∧ Same H H' ∧
        l = pre ++ PyFlat.put rest ∧ H' fp = some (.lst (vz F)) ∧ F ++ play c rest = PyUw56.answers l ∧ HAt C H' x c hl ∧ hl ≠ fp ∧ Fits c,
        fun σ' H' ⟨pre, c, hl, F, v4, v5, v6, v7, v8, v9, h1, h2, h3, h4, h5, h6, h7, h8⟩ => ⟨rest.length, Nat.lt_succ_self _, pre, rest, c, hl, F, v4, v5, v6, v7, v8, v9, rfl, h1, h2, h3, fun d hd => hc d (by simp [hd]), h4, h5, h6, h7, h8⟩, ?_⟩
      refine ⟨_, rfl, _, rfl, a0, _, _, .int p, rfl, rfl, hA2, by rw [eL2]; exact at_mid rfl, ?_⟩
      refine ⟨_, rfl, _, _, rfl, rfl, _, rfl, aN, _, _, _, rfl, rfl, qN _, tabn, _, _, rfl, rfl, ?_⟩
      refine ⟨_, rfl, _, rfl, _, _, rfl, rfl, _, rfl, _, rfl, _, rfl, a0, _, rfl, hA2, fun nA hnA => ?_⟩
      have ecut : cutV (vz l) (some ((pre.length : Int) + 1)) (some ((pre.length : Int) + 1 + ((a.length : Nat) : Int))) = vz a := by
        have e3 : l = (pre ++ [p]) ++ (a ++ (PyFlat.putRows xs ++ PyFlat.put rest)) := by
          rw [eL2, List.append_assoc]
          rfl
        rw [e3]
        refine cut_mid ?_ ?_
        · rw [List.length_append, List.length_singleton]
          omega
        · rw [List.length_append, List.length_singleton]
          omega
      have sN : Same H2 (upd H2 nA (.lst (cutV (vz l) (some ((pre.length : Int) + 1)) (some ((pre.length : Int) + 1 + ((a.length : Nat) : Int)))))) := (Same.refl H2).new hnA
      refine ⟨Nat.zero_le _, fun rA hrA => ?_⟩
      have sR := sN.new (o := .lst []) hrA
      have nrA2 : H2 rA = none := sN.free hrA
      have enA : (upd (upd H2 nA (.lst (cutV (vz l) (some ((pre.length : Int) + 1)) (some ((pre.length : Int) + 1 + ((a.length : Nat) : Int)))))) rA (.lst [])) nA = some (.lst (vz a)) := by
        rw [upd_ne (ne_of_none upd_same hrA), upd_same, ecut]
      have erA : (upd (upd H2 nA (.lst (cutV (vz l) (some ((pre.length : Int) + 1)) (some ((pre.length : Int) + 1 + ((a.length : Nat) : Int)))))) rA (.lst [])) rA = some (.lst (nr [])) := upd_same
      have lxs : xs.length ≤ 4000 := by
        have hx0 : ∀ zs : List (List Int), zs.length ≤ (PyFlat.putRows zs).length := by
          intro zs
          induction zs with
          | nil => exact Nat.le_refl _
          | cons z r ih =>
            show r.length + 1 ≤ ((z.length : Int) :: z ++ PyFlat.putRows r).length
            rw [List.length_append, List.length_cons]
            omega
        have := hx0 xs
        omega
      refine ⟨_, rfl, aR, _, _, _, rfl, rfl, qR _, tabr, ((xs.length : Nat) : Int), rfl, by omega, by omega, ?_⟩
      refine for_range (lo := 0) (n := xs.length) (fun i σ H' => ∃ (e : Nat) (v8 : Option V) (ps : List Addr), σ = [some (.ref a0), some (.ref x), some (.ref fp), some (vi pre.length), some (.int p), some (vi e), some (.ref nA), some (.ref rA), v8, v9] ∧ e = pre.length + 1 + a.length + (PyFlat.putRows (xs.take i)).length ∧
        Same H2 H' ∧ H' nA = some (.lst (vz a)) ∧ H' rA = some (.lst (nr ps)) ∧ (∀ b ∈ ps, b ≠ rA) ∧ RowsAt H' ps (xs.take i)) ?_ ?_ ?_
      · refine ⟨pre.length + 1 + a.length, v8, [], ?_, rfl, sR, enA, erA, (fun b hb => nomatch hb), rfl, fun i b u h1 h2 => by simp at h1⟩
        rw [show vi (pre.length + 1 + a.length) = V.int ((pre.length : Int) + 1 + ((a.length : Nat) : Int)) from congrArg V.int (by omega)]
        rfl
      · rintro i σ H3 hi ⟨e, v8, ps, rfl, ee, s3, en3, er3, np3, rw3⟩
        have hr : xs[i]? = some xs[i] := by simp [hi]
        generalize xs[i] = r at hr
        have exs := take_split hr
        have eU : l = (pre ++ (p :: (a ++ PyFlat.putRows (xs.take i)))) ++ ((r.length : Int) :: (r ++ (PyFlat.putRows (xs.drop (i + 1)) ++ PyFlat.put rest))) := by
          have e1 : PyFlat.putRows xs = PyFlat.putRows (xs.take i) ++ ((r.length : Int) :: (r ++ PyFlat.putRows (xs.drop (i + 1)))) := by
            conv => lhs; rw [exs]
            rw [putRows_app]
            rfl
          rw [eL2, e1]
          simp only [List.append_assoc, List.cons_append]
        have lU : (e : Int) = ((pre ++ (p :: (a ++ PyFlat.putRows (xs.take i)))).length : Int) := by
          rw [ee]
          simp only [List.length_append, List.length_cons]
          omega
        have hA3 := s3.seq hA2
        have atE : atI (vz l) (e : Int) = some (.int (r.length : Int)) := by
          rw [eU]
          exact at_mid lU
        have ecut3 : cutV (vz l) (some ((e : Int) + 1)) (some ((e : Int) + 1 + (r.length : Int))) = vz r := by
          have e3 : l = ((pre ++ (p :: (a ++ PyFlat.putRows (xs.take i)))) ++ [(r.length : Int)]) ++ (r ++ (PyFlat.putRows (xs.drop (i + 1)) ++ PyFlat.put rest)) := by
            rw [eU, List.append_assoc, List.append_assoc, List.append_assoc]
            rfl
          rw [e3]
          refine cut_mid ?_ ?_
          · rw [List.length_append, List.length_singleton]
            omega
          · rw [List.length_append, List.length_singleton]
            omega
        have lps : ps.length ≤ 4000 := by
          rw [rw3.1, List.length_take]
          omega
        refine ⟨_, rfl, .inl ⟨rfl, _, SqL.of er3⟩, _, rfl, _, rfl, _, _, rfl, rfl, _, rfl, _, rfl, _, _, rfl, rfl, _, rfl, _, rfl, a0, _, _, _, rfl, rfl, hA3, atE, _, _, rfl, rfl, _, rfl, a0, _, rfl, hA3, fun pn hpn => ?_⟩
        have s4 := s3.new (o := .lst (cutV (vz l) (some ((e : Int) + 1)) (some ((e : Int) + 1 + (r.length : Int))))) hpn
        have n1 : rA ≠ pn := ne_of_none er3 hpn
        have n2 : nA ≠ pn := ne_of_none en3 hpn
        have nrn : nA ≠ rA := fun t => by
          have h0 := hrA
          rw [← t, upd_same] at h0
          cases h0
        refine ⟨rA, _, _, rfl, rfl, (upd_ne n1).trans er3, by simp only [nr, List.length_map]; exact smallL (by omega), ?_⟩
        have s5 : Same H2 (upd (upd H3 pn (.lst (cutV (vz l) (some ((e : Int) + 1)) (some ((e : Int) + 1 + (r.length : Int)))))) rA (.lst (nr ps ++ [.ref pn]))) := s4.own nrA2
        refine ⟨_, rfl, _, _, rfl, rfl, _, rfl, _, rfl, a0, _, _, _, rfl, rfl, s5.seq hA2, atE, _, _, rfl, rfl, ?_⟩
        refine ⟨e + 1 + r.length, some (V.int (0 + (i : Int))), ps ++ [pn], ?_, ?_, s5, ?_, ?_, fun b hb => ?_, ?_⟩
        · rw [show vi (e + 1 + r.length) = V.int ((e : Int) + 1 + (r.length : Int)) from congrArg V.int (by omega)]
          rfl
        · rw [ee, List.take_add_one, hr]
          show _ = _ + (PyFlat.putRows (xs.take i ++ [r])).length
          rw [putRows_app, List.length_append]
          show _ = _ + (_ + ((r.length : Int) :: r ++ []).length)
          rw [List.append_nil, List.length_cons]
          omega
        · rw [upd_ne nrn, upd_ne n2]
          exact en3
        · rw [upd_same, nr_app]
          rfl
        · rcases List.mem_append.mp hb with hb | hb
          · exact np3 b hb
          · rw [List.mem_singleton.mp hb]
            exact n1.symm
        · have et : xs.take (i + 1) = xs.take i ++ [r] := by rw [List.take_add_one, hr]; rfl
          rw [et]
          refine ⟨by simp [rw3.1], fun j b u h1 h2 => ?_⟩
          by_cases hj : j < ps.length
          · rw [List.getElem?_append_left hj] at h1
            rw [List.getElem?_append_left (by rw [← rw3.1]; exact hj)] at h2
            have hb := List.mem_of_getElem? h1
            have old := rw3.2 j b u h1 h2
            rw [upd_ne (np3 b hb), upd_ne (ne_of_none old hpn)]
            exact old
          · have hjl := (List.getElem?_eq_some_iff.mp h1).1
            rw [List.length_append, List.length_singleton] at hjl
            have ej : j = ps.length := by omega
            subst ej
            have e1 : pn = b := by simpa using h1
            have e2 : r = u := by rw [rw3.1] at h2; simpa using h2
            rw [← e1, ← e2, upd_ne n1.symm, upd_same, ecut3]
      · rintro σ H3 ⟨e, v8, ps, rfl, ee, s3, en3, er3, np3, rw3⟩
        rw [List.take_length] at ee rw3
        have ga3 := ga.same s3
        refine ⟨_, rfl, ?_⟩
        refine ⟨_, rfl, _, rfl, _, rfl, _, rfl, x, hl, nA, rA, c, p, a, xs, ps, y, rfl, ga3, fc, sy, en3, er3, rw3, fun H4 p4 hl4 b4 hj4 g4 n4 e4 => ?_⟩
        have ef3 := s3 _ _ ef
        have hx3 := s3 _ _ hx
        have nfx : fp ≠ x := ne_ins_lst hx3 ef3
        have ef4 : H4 fp = some (.lst (vz F)) := b4 _ _ ef3 nfx
        have nhf4 : hl4 ≠ fp := by
          rcases hj4 with t | t
          · rw [t]; exact nhf
          · exact ne_of_none ef3 t |>.symm
        have npf : p4 ≠ fp := (ne_of_none ef3 n4).symm
        have sH4 : Same H H4 := fun u o eu => b4 _ _ (s3 _ _ (sH _ _ eu)) (ne_of_none eu nx)
        have epl := play_cons (s := c) (cs := rest) ey
        have lF : F.length + (Uw56Neutral.out (Uw56.step c y).2).length + 1 ≤ 10000000 := by
          have := congrArg List.length eF
          rw [epl] at this
          simp only [List.length_append, List.length_cons] at this
          omega
        refine ⟨_, rfl, .inl ⟨rfl, _, SqL.of ef4⟩, _, rfl, _, (Uw56Neutral.out (Uw56.step c y).2).length, rfl, .inl ⟨_, SqL.of e4, by simp⟩, fp, _, _, rfl, rfl, ef4, by simp only [vz, List.length_map]; exact smallL (by omega), ?_⟩
        have sH5 : Same H (upd H4 fp (.lst (vz F ++ [.int ((Uw56Neutral.out (Uw56.step c y).2).length : Nat)]))) := sH4.own nfH
        refine ⟨_, rfl, .inl ⟨rfl, _, SqL.of upd_same⟩, _, rfl, fp, p4, _, _, rfl, rfl, upd_same, (upd_ne npf).trans e4, by simp only [vz, List.length_append, List.length_map, List.length_singleton]; exact small (by omega), ?_⟩
        obtain ⟨dz, hx4⟩ := g4.ob
        have nxf : x ≠ fp := nfx.symm
        refine ⟨pre ++ (p :: (a ++ PyFlat.putRows xs)), (Uw56.step c y).1, hl4, F ++ ((Uw56Neutral.out (Uw56.step c y).2).length : Int) :: Uw56Neutral.out (Uw56.step c y).2, some (.int p), some (vi e), some (.ref nA), some (.ref rA), v8, some (.ref p4), ?_, sH5.own nfH, ?_, ?_, ?_, ⟨⟨dz, ?_⟩, ?_⟩, nhf4, fits_step fc y⟩
        · rw [show (pre ++ (p :: (a ++ PyFlat.putRows xs))).length = e by rw [ee]; simp only [List.length_append, List.length_cons]; omega]
          rfl
        · rw [eL2]
          simp only [List.append_assoc, List.cons_append]
        · rw [upd_same]
          simp [vz]
        · rw [← eF, epl]
          simp only [List.append_assoc, List.cons_append]
        · rw [upd_ne nxf, upd_ne nxf]
          exact hx4
        · rw [upd_ne nhf4, upd_ne nhf4]
          exact g4.fl
end
end Hc
namespace Hc
open PySem PySem.Spec PyProof.Rows L2
/-! ### the end: what the top has written -/
section
variable {P : Program} {w : World} {K : PySem.W.Frag} {mg : Str → Option Value} {base : Heap}
/-- a def as it stands behind the top -/
structure Stands (K : PySem.W.Frag) (x qual : Str) (st : Stmt) (f : Addr) : Prop where
  ex : ∃ fd, Fun K x qual st f fd ∧ ∃ (kV doc pm : Value) (an : Option Addr) (cdv ct : Value), fd = PySem.W.fnOf x qual (defArgs st) (defBody st) (defScope st) .none kV doc pm an cdv ct
theorem stands {x qual : Str} {st : Stmt} {f : Addr} {oc : Value} {od an : Option Addr} {sl : Array (Option Value)} {kV dc pm cd ct : Value}
    (l : K.lookup f = some ⟨oc, od, .func (PySem.W.fnOf x qual (defArgs st) (defBody st) (defScope st) .none kV dc pm an cd ct), sl⟩) (c : PySem.W.codeIn K cd qual = true) (k : PySem.W.keepIn K (.ref f) = true) : Stands K x qual st f :=
  ⟨_, fun_mk l c k, kV, dc, pm, an, cd, ct, rfl⟩
end
/-- all that the program's top has written of its defs -/
structure Top (K : PySem.W.Frag) (mg : Str → Option Value) (C CG : Addr) where
  blt : Blt mg
  th : TH K C
  tg : TG K CG
  mC : mg "House" = some (.ref C)
  mG : mg "Guess" = some (.ref CG)
  makes : PySem.W.makesIn K C = true
  makesG : PySem.W.makesIn K CG = true
  kC : PySem.W.keepIn K (.ref C) = true
  kG : PySem.W.keepIn K (.ref CG) = true
  quarters : Num mg "QUARTERS" 4
  least : Num mg "LEAST_SIZE" 2
  most : Num mg "MOST_SIZE" 6
  wrong : Num mg "WRONG" (-1)
  doesnt : Num mg "DOESNT_FIT" (-6)
  tabn : Tab K mg "NUMBERS" tabN
  tabr : Tab K mg "ROWS" tabR
  f_tc : Addr
  f_to : Addr
  f_tb : Addr
  f_tv : Addr
  f_mid : Addr
  f_mat : Addr
  f_am : Addr
  f_ho : Addr
  f_fw : Addr
  f_fc : Addr
  f_kn : Addr
  f_wo : Addr
  f_wr : Addr
  f_ro : Addr
  f_gd : Addr
  f_rl : Addr
  f_la : Addr
  f_wt : Addr
  f_tr : Addr
  f_td : Addr
  f_an : Addr
  f_gi : Addr
  f_mr : Addr
  f_go : Addr
  f_nx : Addr
  f_lk : Addr
  f_hi : Addr
  f_be : Addr
  f_ac : Addr
  f_ca : Addr
  f_it : Addr
  f_now : Addr
  f_wri : Addr
  f_rea : Addr
  f_aga : Addr
  f_ord : Addr
  f_gue : Addr
  f_kno : Addr
  f_tur : Addr
  s_tc : Stands K "turned_cell" "turned_cell" (topS 2) f_tc
  m_tc : mg "turned_cell" = some (.ref f_tc)
  s_to : Stands K "turned_over_cell" "turned_over_cell" (topS 3) f_to
  m_to : mg "turned_over_cell" = some (.ref f_to)
  s_tb : Stands K "turned_by" "turned_by" (topS 4) f_tb
  m_tb : mg "turned_by" = some (.ref f_tb)
  s_tv : Stands K "turned_over" "turned_over" (topS 5) f_tv
  m_tv : mg "turned_over" = some (.ref f_tv)
  s_mid : Stands K "middle" "middle" (topS 6) f_mid
  m_mid : mg "middle" = some (.ref f_mid)
  s_mat : Stands K "mates" "mates" (topS 7) f_mat
  m_mat : mg "mates" = some (.ref f_mat)
  s_am : Stands K "all_mates" "all_mates" (topS 8) f_am
  m_am : mg "all_mates" = some (.ref f_am)
  s_ho : Stands K "how_often_seen" "how_often_seen" (topS 9) f_ho
  m_ho : mg "how_often_seen" = some (.ref f_ho)
  s_fw : Stands K "first_wrong_cell" "first_wrong_cell" (topS 10) f_fw
  m_fw : mg "first_wrong_cell" = some (.ref f_fw)
  s_fc : Stands K "first_card" "first_card" (topS 11) f_fc
  m_fc : mg "first_card" = some (.ref f_fc)
  s_kn : Stands K "known_cards" "known_cards" (topS 14) f_kn
  m_kn : mg "known_cards" = some (.ref f_kn)
  s_wo : Stands K "writing_order" "writing_order" (topS 16) f_wo
  m_wo : mg "writing_order" = some (.ref f_wo)
  s_wr : Stands K "written" "written" (topS 17) f_wr
  m_wr : mg "written" = some (.ref f_wr)
  s_ro : Stands K "read_out" "read_out" (topS 18) f_ro
  m_ro : mg "read_out" = some (.ref f_ro)
  s_gd : Stands K "greatest_divisor" "greatest_divisor" (topS 19) f_gd
  m_gd : mg "greatest_divisor" = some (.ref f_gd)
  s_rl : Stands K "ring_length" "ring_length" (topS 20) f_rl
  m_rl : mg "ring_length" = some (.ref f_rl)
  s_la : Stands K "least_again" "least_again" (topS 21) f_la
  m_la : mg "least_again" = some (.ref f_la)
  s_wt : Stands K "written_often" "written_often" (topS 22) f_wt
  m_wt : mg "written_often" = some (.ref f_wt)
  s_tr : Stands K "told_of_rows" "told_of_rows" (topS 32) f_tr
  m_tr : mg "told_of_rows" = some (.ref f_tr)
  s_td : Stands K "told" "told" (topS 33) f_td
  m_td : mg "told" = some (.ref f_td)
  s_an : Stands K "answers" "answers" (topS 34) f_an
  m_an : mg "answers" = some (.ref f_an)
  s_gi : Stands K "__init__" "Guess.__init__" (inClass (topS 13) 0) f_gi
  m_gi : PySem.W.findIn K (.ref CG) "__init__" = some (some (.ref f_gi))
  i_gi : PySem.W.isFn K (.ref f_gi) = true
  s_mr : Stands K "is_middle_right" "Guess.is_middle_right" (inClass (topS 13) 1) f_mr
  m_mr : PySem.W.findIn K (.ref CG) "is_middle_right" = some (some (.ref f_mr))
  i_mr : PySem.W.isFn K (.ref f_mr) = true
  s_go : Stands K "go_through" "Guess.go_through" (inClass (topS 13) 2) f_go
  m_go : PySem.W.findIn K (.ref CG) "go_through" = some (some (.ref f_go))
  i_go : PySem.W.isFn K (.ref f_go) = true
  s_nx : Stands K "nexts" "Guess.nexts" (inClass (topS 13) 3) f_nx
  m_nx : PySem.W.findIn K (.ref CG) "nexts" = some (some (.ref f_nx))
  i_nx : PySem.W.isFn K (.ref f_nx) = true
  s_lk : Stands K "look_at" "Guess.look_at" (inClass (topS 13) 4) f_lk
  m_lk : PySem.W.findIn K (.ref CG) "look_at" = some (some (.ref f_lk))
  i_lk : PySem.W.isFn K (.ref f_lk) = true
  s_hi : Stands K "__init__" "House.__init__" (inClass (topS 28) 0) f_hi
  m_hi : PySem.W.findIn K (.ref C) "__init__" = some (some (.ref f_hi))
  i_hi : PySem.W.isFn K (.ref f_hi) = true
  s_be : Stands K "begins" "House.begins" (inClass (topS 28) 1) f_be
  m_be : PySem.W.findIn K (.ref C) "begins" = some (some (.ref f_be))
  i_be : PySem.W.isFn K (.ref f_be) = true
  s_ac : Stands K "are_cells" "House.are_cells" (inClass (topS 28) 2) f_ac
  m_ac : PySem.W.findIn K (.ref C) "are_cells" = some (some (.ref f_ac))
  i_ac : PySem.W.isFn K (.ref f_ac) = true
  s_ca : Stands K "card" "House.card" (inClass (topS 28) 3) f_ca
  m_ca : PySem.W.findIn K (.ref C) "card" = some (some (.ref f_ca))
  i_ca : PySem.W.isFn K (.ref f_ca) = true
  s_it : Stands K "is_text" "House.is_text" (inClass (topS 28) 4) f_it
  m_it : PySem.W.findIn K (.ref C) "is_text" = some (some (.ref f_it))
  i_it : PySem.W.isFn K (.ref f_it) = true
  s_now : Stands K "now" "House.now" (inClass (topS 28) 5) f_now
  m_now : PySem.W.findIn K (.ref C) "now" = some (some (.ref f_now))
  i_now : PySem.W.isFn K (.ref f_now) = true
  s_wri : Stands K "write" "House.write" (inClass (topS 28) 6) f_wri
  m_wri : PySem.W.findIn K (.ref C) "write" = some (some (.ref f_wri))
  i_wri : PySem.W.isFn K (.ref f_wri) = true
  s_rea : Stands K "read" "House.read" (inClass (topS 28) 7) f_rea
  m_rea : PySem.W.findIn K (.ref C) "read" = some (some (.ref f_rea))
  i_rea : PySem.W.isFn K (.ref f_rea) = true
  s_aga : Stands K "again" "House.again" (inClass (topS 28) 8) f_aga
  m_aga : PySem.W.findIn K (.ref C) "again" = some (some (.ref f_aga))
  i_aga : PySem.W.isFn K (.ref f_aga) = true
  s_ord : Stands K "order" "House.order" (inClass (topS 28) 9) f_ord
  m_ord : PySem.W.findIn K (.ref C) "order" = some (some (.ref f_ord))
  i_ord : PySem.W.isFn K (.ref f_ord) = true
  s_gue : Stands K "guess" "House.guess" (inClass (topS 28) 10) f_gue
  m_gue : PySem.W.findIn K (.ref C) "guess" = some (some (.ref f_gue))
  i_gue : PySem.W.isFn K (.ref f_gue) = true
  s_kno : Stands K "known" "House.known" (inClass (topS 28) 11) f_kno
  m_kno : PySem.W.findIn K (.ref C) "known" = some (some (.ref f_kno))
  i_kno : PySem.W.isFn K (.ref f_kno) = true
  s_tur : Stands K "turned" "House.turned" (inClass (topS 28) 12) f_tur
  m_tur : PySem.W.findIn K (.ref C) "turned" = some (some (.ref f_tur))
  i_tur : PySem.W.isFn K (.ref f_tur) = true
section
variable {P : Program} {w : World} {K : PySem.W.Frag} {mg : Str → Option Value} {base : Heap} {C CG : Addr}
theorem d_tc (T : Top K mg C CG) : Def P w K mg base 1 "turned_cell" ["size", "cell"] spTc := by
  obtain ⟨fd, F, kV, dc, pm, an, cd, ct, rfl⟩ := T.s_tc.ex
  exact ⟨_, _, ok_tc F , T.m_tc, F.kp, F.binds (ps := ["size", "cell"]) fun _ _ _ _ _ _ us hl => match us, hl with | [_, _], _ => rfl⟩
theorem d_to (T : Top K mg C CG) : Def P w K mg base 1 "turned_over_cell" ["size", "cell"] spTo := by
  obtain ⟨fd, F, kV, dc, pm, an, cd, ct, rfl⟩ := T.s_to.ex
  exact ⟨_, _, ok_to F , T.m_to, F.kp, F.binds (ps := ["size", "cell"]) fun _ _ _ _ _ _ us hl => match us, hl with | [_, _], _ => rfl⟩
theorem d_tb (T : Top K mg C CG) : Def P w K mg base 2 "turned_by" ["size", "holes", "quarters"] (spTb K) := by
  obtain ⟨fd, F, kV, dc, pm, an, cd, ct, rfl⟩ := T.s_tb.ex
  exact ⟨_, _, ok_tb F T.blt (d_tc T), T.m_tb, F.kp, F.binds (ps := ["size", "holes", "quarters"]) fun _ _ _ _ _ _ us hl => match us, hl with | [_, _, _], _ => rfl⟩
theorem d_tv (T : Top K mg C CG) : Def P w K mg base 2 "turned_over" ["size", "holes"] (spTv K) := by
  obtain ⟨fd, F, kV, dc, pm, an, cd, ct, rfl⟩ := T.s_tv.ex
  exact ⟨_, _, ok_tv F T.blt (d_to T), T.m_tv, F.kp, F.binds (ps := ["size", "holes"]) fun _ _ _ _ _ _ us hl => match us, hl with | [_, _], _ => rfl⟩
theorem d_mid (T : Top K mg C CG) : Def P w K mg base 1 "middle" ["size"] spMid := by
  obtain ⟨fd, F, kV, dc, pm, an, cd, ct, rfl⟩ := T.s_mid.ex
  exact ⟨_, _, ok_mid F , T.m_mid, F.kp, F.binds (ps := ["size"]) fun _ _ _ _ _ _ us hl => match us, hl with | [_], _ => rfl⟩
theorem d_mat (T : Top K mg C CG) : Def P w K mg base 2 "mates" ["size", "cell"] (spMat K) := by
  obtain ⟨fd, F, kV, dc, pm, an, cd, ct, rfl⟩ := T.s_mat.ex
  exact ⟨_, _, ok_mat F T.blt T.quarters (d_tc T), T.m_mat, F.kp, F.binds (ps := ["size", "cell"]) fun _ _ _ _ _ _ us hl => match us, hl with | [_, _], _ => rfl⟩
theorem d_am (T : Top K mg C CG) : Def P w K mg base 3 "all_mates" ["size"] (spAm K) := by
  obtain ⟨fd, F, kV, dc, pm, an, cd, ct, rfl⟩ := T.s_am.ex
  exact ⟨_, _, ok_am F T.blt (d_mid T) (d_mat T), T.m_am, F.kp, F.binds (ps := ["size"]) fun _ _ _ _ _ _ us hl => match us, hl with | [_], _ => rfl⟩
theorem d_ho (T : Top K mg C CG) : Def P w K mg base 3 "how_often_seen" ["size", "holes", "cell"] (spHo K) := by
  obtain ⟨fd, F, kV, dc, pm, an, cd, ct, rfl⟩ := T.s_ho.ex
  exact ⟨_, _, ok_ho F T.blt T.quarters (d_tb T), T.m_ho, F.kp, F.binds (ps := ["size", "holes", "cell"]) fun _ _ _ _ _ _ us hl => match us, hl with | [_, _, _], _ => rfl⟩
theorem d_fw (T : Top K mg C CG) : Def P w K mg base 4 "first_wrong_cell" ["size", "holes"] (spFw K) := by
  obtain ⟨fd, F, kV, dc, pm, an, cd, ct, rfl⟩ := T.s_fw.ex
  exact ⟨_, _, ok_fw F T.blt (d_mid T) (d_ho T), T.m_fw, F.kp, F.binds (ps := ["size", "holes"]) fun _ _ _ _ _ _ us hl => match us, hl with | [_, _], _ => rfl⟩
theorem d_fc (T : Top K mg C CG) : Def P w K mg base 4 "first_card" ["size"] (spFc K) := by
  obtain ⟨fd, F, kV, dc, pm, an, cd, ct, rfl⟩ := T.s_fc.ex
  exact ⟨_, _, ok_fc F (d_am T), T.m_fc, F.kp, F.binds (ps := ["size"]) fun _ _ _ _ _ _ us hl => match us, hl with | [_], _ => rfl⟩
theorem d_kn (T : Top K mg C CG) : Def P w K mg base 4 "known_cards" ["size", "holes", "others"] (spKn K) := by
  obtain ⟨fd, F, kV, dc, pm, an, cd, ct, rfl⟩ := T.s_kn.ex
  exact ⟨_, _, ok_kn F T.blt (d_mid T) (d_am T), T.m_kn, F.kp, F.binds (ps := ["size", "holes", "others"]) fun _ _ _ _ _ _ us hl => match us, hl with | [_, _, _], _ => rfl⟩
theorem d_wo (T : Top K mg C CG) : Def P w K mg base 3 "writing_order" ["size", "holes"] (spWo K) := by
  obtain ⟨fd, F, kV, dc, pm, an, cd, ct, rfl⟩ := T.s_wo.ex
  exact ⟨_, _, ok_wo F T.blt T.quarters (d_mid T) (d_tb T), T.m_wo, F.kp, F.binds (ps := ["size", "holes"]) fun _ _ _ _ _ _ us hl => match us, hl with | [_, _], _ => rfl⟩
theorem d_wr (T : Top K mg C CG) : Def P w K mg base 1 "written" ["order", "text"] (spWr K) := by
  obtain ⟨fd, F, kV, dc, pm, an, cd, ct, rfl⟩ := T.s_wr.ex
  exact ⟨_, _, ok_wr F T.blt, T.m_wr, F.kp, F.binds (ps := ["order", "text"]) fun _ _ _ _ _ _ us hl => match us, hl with | [_, _], _ => rfl⟩
theorem d_ro (T : Top K mg C CG) : Def P w K mg base 1 "read_out" ["order", "text"] (spRo K) := by
  obtain ⟨fd, F, kV, dc, pm, an, cd, ct, rfl⟩ := T.s_ro.ex
  exact ⟨_, _, ok_ro F , T.m_ro, F.kp, F.binds (ps := ["order", "text"]) fun _ _ _ _ _ _ us hl => match us, hl with | [_, _], _ => rfl⟩
theorem d_gd (T : Top K mg C CG) : Def P w K mg base 1 "greatest_divisor" ["one", "other"] spGd := by
  obtain ⟨fd, F, kV, dc, pm, an, cd, ct, rfl⟩ := T.s_gd.ex
  exact ⟨_, _, ok_gd F , T.m_gd, F.kp, F.binds (ps := ["one", "other"]) fun _ _ _ _ _ _ us hl => match us, hl with | [_, _], _ => rfl⟩
theorem d_rl (T : Top K mg C CG) : Def P w K mg base 1 "ring_length" ["order", "cell"] (spRl K) := by
  obtain ⟨fd, F, kV, dc, pm, an, cd, ct, rfl⟩ := T.s_rl.ex
  exact ⟨_, _, ok_rl F , T.m_rl, F.kp, F.binds (ps := ["order", "cell"]) fun _ _ _ _ _ _ us hl => match us, hl with | [_, _], _ => rfl⟩
theorem d_la (T : Top K mg C CG) : Def P w K mg base 2 "least_again" ["order"] (spLa K) := by
  obtain ⟨fd, F, kV, dc, pm, an, cd, ct, rfl⟩ := T.s_la.ex
  exact ⟨_, _, ok_la F T.blt (d_rl T) (d_gd T), T.m_la, F.kp, F.binds (ps := ["order"]) fun _ _ _ _ _ _ us hl => match us, hl with | [_], _ => rfl⟩
theorem d_wt (T : Top K mg C CG) : Def P w K mg base 3 "written_often" ["order", "many", "text"] (spWt K) := by
  obtain ⟨fd, F, kV, dc, pm, an, cd, ct, rfl⟩ := T.s_wt.ex
  exact ⟨_, _, ok_wt F T.blt (d_la T) (d_wr T), T.m_wt, F.kp, F.binds (ps := ["order", "many", "text"]) fun _ _ _ _ _ _ us hl => match us, hl with | [_, _, _], _ => rfl⟩
theorem d_mr (T : Top K mg C CG) : Mth P w K mg base 2 CG "is_middle_right" ["self"] (spMr CG) := by
  obtain ⟨fd, F, kV, dc, pm, an, cd, ct, rfl⟩ := T.s_mr.ex
  exact ⟨_, _, ok_mr F T.tg (d_mid T), ⟨T.m_mr, T.i_mr, F.kp⟩, F.binds (ps := ["self"]) fun _ _ _ _ _ _ us hl => match us, hl with | [_], _ => rfl⟩
theorem d_nx (T : Top K mg C CG) : Mth P w K mg base 1 CG "nexts" ["self", "holes"] (spNx CG) := by
  obtain ⟨fd, F, kV, dc, pm, an, cd, ct, rfl⟩ := T.s_nx.ex
  exact ⟨_, _, ok_nx F T.blt T.tg, ⟨T.m_nx, T.i_nx, F.kp⟩, F.binds (ps := ["self", "holes"]) fun _ _ _ _ _ _ us hl => match us, hl with | [_, _], _ => rfl⟩
theorem d_lk (T : Top K mg C CG) : Mth P w K mg base 3 CG "look_at" ["self", "holes"] (spLk CG) := by
  obtain ⟨fd, F, kV, dc, pm, an, cd, ct, rfl⟩ := T.s_lk.ex
  exact ⟨_, _, ok_lk F T.blt T.tg T.quarters (d_tb T), ⟨T.m_lk, T.i_lk, F.kp⟩, F.binds (ps := ["self", "holes"]) fun _ _ _ _ _ _ us hl => match us, hl with | [_, _], _ => rfl⟩
theorem d_go (T : Top K mg C CG) : Mth P w K mg base 4 CG "go_through" ["self"] (spGo CG) := by
  obtain ⟨fd, F, kV, dc, pm, an, cd, ct, rfl⟩ := T.s_go.ex
  exact ⟨_, _, ok_go F T.blt T.tg (d_nx T) (d_lk T), ⟨T.m_go, T.i_go, F.kp⟩, F.binds (ps := ["self"]) fun _ _ _ _ _ _ us hl => match us, hl with | [_], _ => rfl⟩
theorem d_gi (T : Top K mg C CG) : ∃ fd, FnOk P w K mg base CX0 5 T.f_gi fd ["self", "size", "text", "other"] (spGi CG) ∧ Binds K fd ["self", "size", "text", "other"] [] := by
  obtain ⟨fd, F, kV, dc, pm, an, cd, ct, rfl⟩ := T.s_gi.ex
  exact ⟨_, ok_gi F T.blt T.tg (d_am T) (d_mr T) (d_go T), F.binds (ps := ["self", "size", "text", "other"]) fun _ _ _ _ _ _ us hl => match us, hl with | [_, _, _, _], _ => rfl⟩
theorem d_hi (T : Top K mg C CG) : ∃ fd, FnOk P w K mg base CX0 1 T.f_hi fd ["self"] (spHi C) ∧ Binds K fd ["self"] [] := by
  obtain ⟨fd, F, kV, dc, pm, an, cd, ct, rfl⟩ := T.s_hi.ex
  exact ⟨_, ok_hi F T.th T.least, F.binds (ps := ["self"]) fun _ _ _ _ _ _ us hl => match us, hl with | [_], _ => rfl⟩
theorem d_be (T : Top K mg C CG) : Mth P w K mg base 5 C "begins" ["self", "size"] (spBe C) := by
  obtain ⟨fd, F, kV, dc, pm, an, cd, ct, rfl⟩ := T.s_be.ex
  exact ⟨_, _, ok_be F T.blt T.th T.least T.most T.wrong (d_fc T) (d_am T), ⟨T.m_be, T.i_be, F.kp⟩, F.binds (ps := ["self", "size"]) fun _ _ _ _ _ _ us hl => match us, hl with | [_, _], _ => rfl⟩
theorem d_ac (T : Top K mg C CG) : Mth P w K mg base 1 C "are_cells" ["self", "row"] (spAc K C) := by
  obtain ⟨fd, F, kV, dc, pm, an, cd, ct, rfl⟩ := T.s_ac.ex
  exact ⟨_, _, ok_ac F T.blt T.th, ⟨T.m_ac, T.i_ac, F.kp⟩, F.binds (ps := ["self", "row"]) fun _ _ _ _ _ _ us hl => match us, hl with | [_, _], _ => rfl⟩
theorem d_ca (T : Top K mg C CG) : Mth P w K mg base 5 C "card" ["self", "holes"] (spCa K C) := by
  obtain ⟨fd, F, kV, dc, pm, an, cd, ct, rfl⟩ := T.s_ca.ex
  exact ⟨_, _, ok_ca F T.blt T.th T.wrong T.doesnt (d_ac T) (d_fw T), ⟨T.m_ca, T.i_ca, F.kp⟩, F.binds (ps := ["self", "holes"]) fun _ _ _ _ _ _ us hl => match us, hl with | [_, _], _ => rfl⟩
theorem d_it (T : Top K mg C CG) : Mth P w K mg base 1 C "is_text" ["self", "text"] (spIt K C) := by
  obtain ⟨fd, F, kV, dc, pm, an, cd, ct, rfl⟩ := T.s_it.ex
  exact ⟨_, _, ok_it F T.blt T.th, ⟨T.m_it, T.i_it, F.kp⟩, F.binds (ps := ["self", "text"]) fun _ _ _ _ _ _ us hl => match us, hl with | [_, _], _ => rfl⟩
theorem d_now (T : Top K mg C CG) : Mth P w K mg base 4 C "now" ["self"] (spNow C) := by
  obtain ⟨fd, F, kV, dc, pm, an, cd, ct, rfl⟩ := T.s_now.ex
  exact ⟨_, _, ok_now F T.th (d_wo T), ⟨T.m_now, T.i_now, F.kp⟩, F.binds (ps := ["self"]) fun _ _ _ _ _ _ us hl => match us, hl with | [_], _ => rfl⟩
theorem d_wri (T : Top K mg C CG) : Mth P w K mg base 5 C "write" ["self", "text"] (spWri K C) := by
  obtain ⟨fd, F, kV, dc, pm, an, cd, ct, rfl⟩ := T.s_wri.ex
  exact ⟨_, _, ok_wri F T.th T.wrong (d_it T) (d_now T) (d_wr T), ⟨T.m_wri, T.i_wri, F.kp⟩, F.binds (ps := ["self", "text"]) fun _ _ _ _ _ _ us hl => match us, hl with | [_, _], _ => rfl⟩
theorem d_rea (T : Top K mg C CG) : Mth P w K mg base 5 C "read" ["self", "text"] (spRea K C) := by
  obtain ⟨fd, F, kV, dc, pm, an, cd, ct, rfl⟩ := T.s_rea.ex
  exact ⟨_, _, ok_rea F T.th T.wrong (d_it T) (d_now T) (d_ro T), ⟨T.m_rea, T.i_rea, F.kp⟩, F.binds (ps := ["self", "text"]) fun _ _ _ _ _ _ us hl => match us, hl with | [_, _], _ => rfl⟩
theorem d_aga (T : Top K mg C CG) : Mth P w K mg base 5 C "again" ["self", "many", "text"] (spAga K C) := by
  obtain ⟨fd, F, kV, dc, pm, an, cd, ct, rfl⟩ := T.s_aga.ex
  exact ⟨_, _, ok_aga F T.th T.wrong (d_it T) (d_now T) (d_wt T), ⟨T.m_aga, T.i_aga, F.kp⟩, F.binds (ps := ["self", "many", "text"]) fun _ _ _ _ _ _ us hl => match us, hl with | [_, _, _], _ => rfl⟩
theorem d_ord (T : Top K mg C CG) : Mth P w K mg base 5 C "order" ["self"] (spOrd C) := by
  obtain ⟨fd, F, kV, dc, pm, an, cd, ct, rfl⟩ := T.s_ord.ex
  exact ⟨_, _, ok_ord F T.th (d_now T) (d_la T), ⟨T.m_ord, T.i_ord, F.kp⟩, F.binds (ps := ["self"]) fun _ _ _ _ _ _ us hl => match us, hl with | [_], _ => rfl⟩
theorem d_gue (T : Top K mg C CG) : Mth P w K mg base 7 C "guess" ["self", "text", "other"] (spGue K C) := by
  obtain ⟨fd, F, kV, dc, pm, an, cd, ct, rfl⟩ := T.s_gue.ex
  obtain ⟨fdg, GI, bI⟩ := d_gi (P := P) (w := w) (base := base) T
  exact ⟨_, _, ok_gue F T.blt T.th T.tg T.wrong T.mG (d_it T) ⟨T.makesG, T.m_gi, T.i_gi, T.kG⟩ GI bI, ⟨T.m_gue, T.i_gue, F.kp⟩, F.binds (ps := ["self", "text", "other"]) fun _ _ _ _ _ _ us hl => match us, hl with | [_, _, _], _ => rfl⟩
theorem d_kno (T : Top K mg C CG) : Mth P w K mg base 5 C "known" ["self", "holes", "others"] (spKno K C) := by
  obtain ⟨fd, F, kV, dc, pm, an, cd, ct, rfl⟩ := T.s_kno.ex
  exact ⟨_, _, ok_kno F T.th T.wrong (d_ac T) (d_kn T), ⟨T.m_kno, T.i_kno, F.kp⟩, F.binds (ps := ["self", "holes", "others"]) fun _ _ _ _ _ _ us hl => match us, hl with | [_, _, _], _ => rfl⟩
theorem d_tur (T : Top K mg C CG) : Mth P w K mg base 3 C "turned" nTur (spTur C) := by
  obtain ⟨fd, F, kV, dc, pm, an, cd, ct, rfl⟩ := T.s_tur.ex
  exact ⟨_, _, ok_tur F T.th T.wrong T.quarters (d_tb T) (d_tv T), ⟨T.m_tur, T.i_tur, F.kp⟩, F.binds (ps := nTur) fun _ _ _ _ _ _ us hl => match us, hl with | [_, _, _], _ => rfl⟩
theorem d_tr (T : Top K mg C CG) : Def P w K mg base 8 "told_of_rows" nTd (spTr C) := by
  obtain ⟨fd, F, kV, dc, pm, an, cd, ct, rfl⟩ := T.s_tr.ex
  exact ⟨_, _, ok_tr F T.th (d_ca T) (d_wri T) (d_rea T) (d_aga T) (d_gue T) (d_kno T), T.m_tr, F.kp, F.binds (ps := nTd) fun _ _ _ _ _ _ us hl => match us, hl with | [_, _, _, _], _ => rfl⟩
theorem d_td (T : Top K mg C CG) : Def P w K mg base 9 "told" nTd (spTd C) := by
  obtain ⟨fd, F, kV, dc, pm, an, cd, ct, rfl⟩ := T.s_td.ex
  exact ⟨_, _, ok_td F T.blt T.th (d_tr T) (d_be T) (d_ord T) (d_tur T), T.m_td, F.kp, F.binds (ps := nTd) fun _ _ _ _ _ _ us hl => match us, hl with | [_, _, _, _], _ => rfl⟩
theorem all_ok (T : Top K mg C CG) {fa : Addr} (hfa : mg "answers" = some (.ref fa)) : ∃ fd : FuncData, (∀ (s : Shared) (us : List Value), us.length = (["calls"] : List Str).length → BindsTo s fd ⟨us, []⟩ ((["calls"] : List Str).zip us)) ∧ ∀ base : Heap, K.In base → base.Ns mainGlobals mg → FnOk P w K mg base CX0 10 fa fd ["calls"] (spAn K) := by
  have e := hfa.symm.trans T.m_an
  cases e
  obtain ⟨fd, F, kV, dc, pm, an, cd, ct, rfl⟩ := T.s_an.ex
  refine ⟨PySem.W.fnOf "answers" "answers" (defArgs (topS 34)) (defBody (topS 34)) (defScope (topS 34)) .none kV dc pm an cd ct, fun s us hu => match us, hu with | [_], _ => .of_eq rfl, fun base _ _ => ?_⟩
  obtain ⟨fdi, GI, bI⟩ := d_hi (P := P) (w := w) (base := base) T
  exact ok_an F T.blt T.mC ⟨T.makes, T.m_hi, T.i_hi, T.kC⟩ GI bI T.tabn T.tabr (d_td T)
end
end Hc
namespace Hc
open PySem PySem.Spec PyProof.Rows L2
set_option maxHeartbeats 8000000 in
/-- what the top has written, found by the walk's own look, each part a premise -/
def top_mk {K : PySem.W.Frag} {h : Heap} {mg : Str → Option Value} {C CG aN aR : Addr} (X : K.In h) (G : h.Ns mainGlobals mg)
    {f_tc f_to f_tb f_tv f_mid f_mat f_am f_ho f_fw f_fc f_kn f_wo f_wr f_ro f_gd f_rl f_la f_wt f_tr f_td f_an f_gi f_mr f_go f_nx f_lk f_hi f_be f_ac f_ca f_it f_now f_wri f_rea f_aga f_ord f_gue f_kno f_tur : Addr}
    {od_tc an_tc od_to an_to od_tb an_tb od_tv an_tv od_mid an_mid od_mat an_mat od_am an_am od_ho an_ho od_fw an_fw od_fc an_fc od_kn an_kn od_wo an_wo od_wr an_wr od_ro an_ro od_gd an_gd od_rl an_rl od_la an_la od_wt an_wt od_tr an_tr od_td an_td od_an an_an od_gi an_gi od_mr an_mr od_go an_go od_nx an_nx od_lk an_lk od_hi an_hi od_be an_be od_ac an_ac od_ca an_ca od_it an_it od_now an_now od_wri an_wri od_rea an_rea od_aga an_aga od_ord an_ord od_gue an_gue od_kno an_kno od_tur an_tur : Option Addr}
    {sl_tc sl_to sl_tb sl_tv sl_mid sl_mat sl_am sl_ho sl_fw sl_fc sl_kn sl_wo sl_wr sl_ro sl_gd sl_rl sl_la sl_wt sl_tr sl_td sl_an sl_gi sl_mr sl_go sl_nx sl_lk sl_hi sl_be sl_ac sl_ca sl_it sl_now sl_wri sl_rea sl_aga sl_ord sl_gue sl_kno sl_tur : Array (Option Value)}
    {oc_tc kV_tc dc_tc pm_tc cd_tc ct_tc oc_to kV_to dc_to pm_to cd_to ct_to oc_tb kV_tb dc_tb pm_tb cd_tb ct_tb oc_tv kV_tv dc_tv pm_tv cd_tv ct_tv oc_mid kV_mid dc_mid pm_mid cd_mid ct_mid oc_mat kV_mat dc_mat pm_mat cd_mat ct_mat oc_am kV_am dc_am pm_am cd_am ct_am oc_ho kV_ho dc_ho pm_ho cd_ho ct_ho oc_fw kV_fw dc_fw pm_fw cd_fw ct_fw oc_fc kV_fc dc_fc pm_fc cd_fc ct_fc oc_kn kV_kn dc_kn pm_kn cd_kn ct_kn oc_wo kV_wo dc_wo pm_wo cd_wo ct_wo oc_wr kV_wr dc_wr pm_wr cd_wr ct_wr oc_ro kV_ro dc_ro pm_ro cd_ro ct_ro oc_gd kV_gd dc_gd pm_gd cd_gd ct_gd oc_rl kV_rl dc_rl pm_rl cd_rl ct_rl oc_la kV_la dc_la pm_la cd_la ct_la oc_wt kV_wt dc_wt pm_wt cd_wt ct_wt oc_tr kV_tr dc_tr pm_tr cd_tr ct_tr oc_td kV_td dc_td pm_td cd_td ct_td oc_an kV_an dc_an pm_an cd_an ct_an oc_gi kV_gi dc_gi pm_gi cd_gi ct_gi oc_mr kV_mr dc_mr pm_mr cd_mr ct_mr oc_go kV_go dc_go pm_go cd_go ct_go oc_nx kV_nx dc_nx pm_nx cd_nx ct_nx oc_lk kV_lk dc_lk pm_lk cd_lk ct_lk oc_hi kV_hi dc_hi pm_hi cd_hi ct_hi oc_be kV_be dc_be pm_be cd_be ct_be oc_ac kV_ac dc_ac pm_ac cd_ac ct_ac oc_ca kV_ca dc_ca pm_ca cd_ca ct_ca oc_it kV_it dc_it pm_it cd_it ct_it oc_now kV_now dc_now pm_now cd_now ct_now oc_wri kV_wri dc_wri pm_wri cd_wri ct_wri oc_rea kV_rea dc_rea pm_rea cd_rea ct_rea oc_aga kV_aga dc_aga pm_aga cd_aga ct_aga oc_ord kV_ord dc_ord pm_ord cd_ord ct_ord oc_gue kV_gue dc_gue pm_gue cd_gue ct_gue oc_kno kV_kno dc_kno pm_kno cd_kno ct_kno oc_tur kV_tur dc_tur pm_tur cd_tur ct_tur : Value}
    {t1 t2 t3 t4 t5 u0 u1 u2 u3 u4 u5 u6 u7 u8 v0 v1 v2 v3 v4 v5 v6 v7 v8 : Tok} {dN dR : Option Addr} {nN nR : Nat} {slN slR : Array (Option Value)}
    (pC : PySem.W.nsIn K mainGlobals "House" = some (some (.ref C)))
    (pG : PySem.W.nsIn K mainGlobals "Guess" = some (some (.ref CG)))
    (a_tc : PySem.W.nsIn K mainGlobals "turned_cell" = some (some (.ref f_tc)))
    (l_tc : K.lookup f_tc = some ⟨oc_tc, od_tc, .func (PySem.W.fnOf "turned_cell" "turned_cell" (defArgs (topS 2)) (defBody (topS 2)) (defScope (topS 2)) .none kV_tc dc_tc pm_tc an_tc cd_tc ct_tc), sl_tc⟩)
    (c_tc : PySem.W.codeIn K cd_tc "turned_cell" = true)
    (k_tc : PySem.W.keepIn K (.ref f_tc) = true)
    (a_to : PySem.W.nsIn K mainGlobals "turned_over_cell" = some (some (.ref f_to)))
    (l_to : K.lookup f_to = some ⟨oc_to, od_to, .func (PySem.W.fnOf "turned_over_cell" "turned_over_cell" (defArgs (topS 3)) (defBody (topS 3)) (defScope (topS 3)) .none kV_to dc_to pm_to an_to cd_to ct_to), sl_to⟩)
    (c_to : PySem.W.codeIn K cd_to "turned_over_cell" = true)
    (k_to : PySem.W.keepIn K (.ref f_to) = true)
    (a_tb : PySem.W.nsIn K mainGlobals "turned_by" = some (some (.ref f_tb)))
    (l_tb : K.lookup f_tb = some ⟨oc_tb, od_tb, .func (PySem.W.fnOf "turned_by" "turned_by" (defArgs (topS 4)) (defBody (topS 4)) (defScope (topS 4)) .none kV_tb dc_tb pm_tb an_tb cd_tb ct_tb), sl_tb⟩)
    (c_tb : PySem.W.codeIn K cd_tb "turned_by" = true)
    (k_tb : PySem.W.keepIn K (.ref f_tb) = true)
    (a_tv : PySem.W.nsIn K mainGlobals "turned_over" = some (some (.ref f_tv)))
    (l_tv : K.lookup f_tv = some ⟨oc_tv, od_tv, .func (PySem.W.fnOf "turned_over" "turned_over" (defArgs (topS 5)) (defBody (topS 5)) (defScope (topS 5)) .none kV_tv dc_tv pm_tv an_tv cd_tv ct_tv), sl_tv⟩)
    (c_tv : PySem.W.codeIn K cd_tv "turned_over" = true)
    (k_tv : PySem.W.keepIn K (.ref f_tv) = true)
    (a_mid : PySem.W.nsIn K mainGlobals "middle" = some (some (.ref f_mid)))
    (l_mid : K.lookup f_mid = some ⟨oc_mid, od_mid, .func (PySem.W.fnOf "middle" "middle" (defArgs (topS 6)) (defBody (topS 6)) (defScope (topS 6)) .none kV_mid dc_mid pm_mid an_mid cd_mid ct_mid), sl_mid⟩)
    (c_mid : PySem.W.codeIn K cd_mid "middle" = true)
    (k_mid : PySem.W.keepIn K (.ref f_mid) = true)
    (a_mat : PySem.W.nsIn K mainGlobals "mates" = some (some (.ref f_mat)))
    (l_mat : K.lookup f_mat = some ⟨oc_mat, od_mat, .func (PySem.W.fnOf "mates" "mates" (defArgs (topS 7)) (defBody (topS 7)) (defScope (topS 7)) .none kV_mat dc_mat pm_mat an_mat cd_mat ct_mat), sl_mat⟩)
    (c_mat : PySem.W.codeIn K cd_mat "mates" = true)
    (k_mat : PySem.W.keepIn K (.ref f_mat) = true)
    (a_am : PySem.W.nsIn K mainGlobals "all_mates" = some (some (.ref f_am)))
    (l_am : K.lookup f_am = some ⟨oc_am, od_am, .func (PySem.W.fnOf "all_mates" "all_mates" (defArgs (topS 8)) (defBody (topS 8)) (defScope (topS 8)) .none kV_am dc_am pm_am an_am cd_am ct_am), sl_am⟩)
    (c_am : PySem.W.codeIn K cd_am "all_mates" = true)
    (k_am : PySem.W.keepIn K (.ref f_am) = true)
    (a_ho : PySem.W.nsIn K mainGlobals "how_often_seen" = some (some (.ref f_ho)))
    (l_ho : K.lookup f_ho = some ⟨oc_ho, od_ho, .func (PySem.W.fnOf "how_often_seen" "how_often_seen" (defArgs (topS 9)) (defBody (topS 9)) (defScope (topS 9)) .none kV_ho dc_ho pm_ho an_ho cd_ho ct_ho), sl_ho⟩)
    (c_ho : PySem.W.codeIn K cd_ho "how_often_seen" = true)
    (k_ho : PySem.W.keepIn K (.ref f_ho) = true)
    (a_fw : PySem.W.nsIn K mainGlobals "first_wrong_cell" = some (some (.ref f_fw)))
    (l_fw : K.lookup f_fw = some ⟨oc_fw, od_fw, .func (PySem.W.fnOf "first_wrong_cell" "first_wrong_cell" (defArgs (topS 10)) (defBody (topS 10)) (defScope (topS 10)) .none kV_fw dc_fw pm_fw an_fw cd_fw ct_fw), sl_fw⟩)
    (c_fw : PySem.W.codeIn K cd_fw "first_wrong_cell" = true)
    (k_fw : PySem.W.keepIn K (.ref f_fw) = true)
    (a_fc : PySem.W.nsIn K mainGlobals "first_card" = some (some (.ref f_fc)))
    (l_fc : K.lookup f_fc = some ⟨oc_fc, od_fc, .func (PySem.W.fnOf "first_card" "first_card" (defArgs (topS 11)) (defBody (topS 11)) (defScope (topS 11)) .none kV_fc dc_fc pm_fc an_fc cd_fc ct_fc), sl_fc⟩)
    (c_fc : PySem.W.codeIn K cd_fc "first_card" = true)
    (k_fc : PySem.W.keepIn K (.ref f_fc) = true)
    (a_kn : PySem.W.nsIn K mainGlobals "known_cards" = some (some (.ref f_kn)))
    (l_kn : K.lookup f_kn = some ⟨oc_kn, od_kn, .func (PySem.W.fnOf "known_cards" "known_cards" (defArgs (topS 14)) (defBody (topS 14)) (defScope (topS 14)) .none kV_kn dc_kn pm_kn an_kn cd_kn ct_kn), sl_kn⟩)
    (c_kn : PySem.W.codeIn K cd_kn "known_cards" = true)
    (k_kn : PySem.W.keepIn K (.ref f_kn) = true)
    (a_wo : PySem.W.nsIn K mainGlobals "writing_order" = some (some (.ref f_wo)))
    (l_wo : K.lookup f_wo = some ⟨oc_wo, od_wo, .func (PySem.W.fnOf "writing_order" "writing_order" (defArgs (topS 16)) (defBody (topS 16)) (defScope (topS 16)) .none kV_wo dc_wo pm_wo an_wo cd_wo ct_wo), sl_wo⟩)
    (c_wo : PySem.W.codeIn K cd_wo "writing_order" = true)
    (k_wo : PySem.W.keepIn K (.ref f_wo) = true)
    (a_wr : PySem.W.nsIn K mainGlobals "written" = some (some (.ref f_wr)))
    (l_wr : K.lookup f_wr = some ⟨oc_wr, od_wr, .func (PySem.W.fnOf "written" "written" (defArgs (topS 17)) (defBody (topS 17)) (defScope (topS 17)) .none kV_wr dc_wr pm_wr an_wr cd_wr ct_wr), sl_wr⟩)
    (c_wr : PySem.W.codeIn K cd_wr "written" = true)
    (k_wr : PySem.W.keepIn K (.ref f_wr) = true)
    (a_ro : PySem.W.nsIn K mainGlobals "read_out" = some (some (.ref f_ro)))
    (l_ro : K.lookup f_ro = some ⟨oc_ro, od_ro, .func (PySem.W.fnOf "read_out" "read_out" (defArgs (topS 18)) (defBody (topS 18)) (defScope (topS 18)) .none kV_ro dc_ro pm_ro an_ro cd_ro ct_ro), sl_ro⟩)
    (c_ro : PySem.W.codeIn K cd_ro "read_out" = true)
    (k_ro : PySem.W.keepIn K (.ref f_ro) = true)
    (a_gd : PySem.W.nsIn K mainGlobals "greatest_divisor" = some (some (.ref f_gd)))
    (l_gd : K.lookup f_gd = some ⟨oc_gd, od_gd, .func (PySem.W.fnOf "greatest_divisor" "greatest_divisor" (defArgs (topS 19)) (defBody (topS 19)) (defScope (topS 19)) .none kV_gd dc_gd pm_gd an_gd cd_gd ct_gd), sl_gd⟩)
    (c_gd : PySem.W.codeIn K cd_gd "greatest_divisor" = true)
    (k_gd : PySem.W.keepIn K (.ref f_gd) = true)
    (a_rl : PySem.W.nsIn K mainGlobals "ring_length" = some (some (.ref f_rl)))
    (l_rl : K.lookup f_rl = some ⟨oc_rl, od_rl, .func (PySem.W.fnOf "ring_length" "ring_length" (defArgs (topS 20)) (defBody (topS 20)) (defScope (topS 20)) .none kV_rl dc_rl pm_rl an_rl cd_rl ct_rl), sl_rl⟩)
    (c_rl : PySem.W.codeIn K cd_rl "ring_length" = true)
    (k_rl : PySem.W.keepIn K (.ref f_rl) = true)
    (a_la : PySem.W.nsIn K mainGlobals "least_again" = some (some (.ref f_la)))
    (l_la : K.lookup f_la = some ⟨oc_la, od_la, .func (PySem.W.fnOf "least_again" "least_again" (defArgs (topS 21)) (defBody (topS 21)) (defScope (topS 21)) .none kV_la dc_la pm_la an_la cd_la ct_la), sl_la⟩)
    (c_la : PySem.W.codeIn K cd_la "least_again" = true)
    (k_la : PySem.W.keepIn K (.ref f_la) = true)
    (a_wt : PySem.W.nsIn K mainGlobals "written_often" = some (some (.ref f_wt)))
    (l_wt : K.lookup f_wt = some ⟨oc_wt, od_wt, .func (PySem.W.fnOf "written_often" "written_often" (defArgs (topS 22)) (defBody (topS 22)) (defScope (topS 22)) .none kV_wt dc_wt pm_wt an_wt cd_wt ct_wt), sl_wt⟩)
    (c_wt : PySem.W.codeIn K cd_wt "written_often" = true)
    (k_wt : PySem.W.keepIn K (.ref f_wt) = true)
    (a_tr : PySem.W.nsIn K mainGlobals "told_of_rows" = some (some (.ref f_tr)))
    (l_tr : K.lookup f_tr = some ⟨oc_tr, od_tr, .func (PySem.W.fnOf "told_of_rows" "told_of_rows" (defArgs (topS 32)) (defBody (topS 32)) (defScope (topS 32)) .none kV_tr dc_tr pm_tr an_tr cd_tr ct_tr), sl_tr⟩)
    (c_tr : PySem.W.codeIn K cd_tr "told_of_rows" = true)
    (k_tr : PySem.W.keepIn K (.ref f_tr) = true)
    (a_td : PySem.W.nsIn K mainGlobals "told" = some (some (.ref f_td)))
    (l_td : K.lookup f_td = some ⟨oc_td, od_td, .func (PySem.W.fnOf "told" "told" (defArgs (topS 33)) (defBody (topS 33)) (defScope (topS 33)) .none kV_td dc_td pm_td an_td cd_td ct_td), sl_td⟩)
    (c_td : PySem.W.codeIn K cd_td "told" = true)
    (k_td : PySem.W.keepIn K (.ref f_td) = true)
    (a_an : PySem.W.nsIn K mainGlobals "answers" = some (some (.ref f_an)))
    (l_an : K.lookup f_an = some ⟨oc_an, od_an, .func (PySem.W.fnOf "answers" "answers" (defArgs (topS 34)) (defBody (topS 34)) (defScope (topS 34)) .none kV_an dc_an pm_an an_an cd_an ct_an), sl_an⟩)
    (c_an : PySem.W.codeIn K cd_an "answers" = true)
    (k_an : PySem.W.keepIn K (.ref f_an) = true)
    (a_gi : PySem.W.findIn K (.ref CG) "__init__" = some (some (.ref f_gi)))
    (i_gi : PySem.W.isFn K (.ref f_gi) = true)
    (l_gi : K.lookup f_gi = some ⟨oc_gi, od_gi, .func (PySem.W.fnOf "__init__" "Guess.__init__" (defArgs (inClass (topS 13) 0)) (defBody (inClass (topS 13) 0)) (defScope (inClass (topS 13) 0)) .none kV_gi dc_gi pm_gi an_gi cd_gi ct_gi), sl_gi⟩)
    (c_gi : PySem.W.codeIn K cd_gi "Guess.__init__" = true)
    (k_gi : PySem.W.keepIn K (.ref f_gi) = true)
    (a_mr : PySem.W.findIn K (.ref CG) "is_middle_right" = some (some (.ref f_mr)))
    (i_mr : PySem.W.isFn K (.ref f_mr) = true)
    (l_mr : K.lookup f_mr = some ⟨oc_mr, od_mr, .func (PySem.W.fnOf "is_middle_right" "Guess.is_middle_right" (defArgs (inClass (topS 13) 1)) (defBody (inClass (topS 13) 1)) (defScope (inClass (topS 13) 1)) .none kV_mr dc_mr pm_mr an_mr cd_mr ct_mr), sl_mr⟩)
    (c_mr : PySem.W.codeIn K cd_mr "Guess.is_middle_right" = true)
    (k_mr : PySem.W.keepIn K (.ref f_mr) = true)
    (a_go : PySem.W.findIn K (.ref CG) "go_through" = some (some (.ref f_go)))
    (i_go : PySem.W.isFn K (.ref f_go) = true)
    (l_go : K.lookup f_go = some ⟨oc_go, od_go, .func (PySem.W.fnOf "go_through" "Guess.go_through" (defArgs (inClass (topS 13) 2)) (defBody (inClass (topS 13) 2)) (defScope (inClass (topS 13) 2)) .none kV_go dc_go pm_go an_go cd_go ct_go), sl_go⟩)
    (c_go : PySem.W.codeIn K cd_go "Guess.go_through" = true)
    (k_go : PySem.W.keepIn K (.ref f_go) = true)
    (a_nx : PySem.W.findIn K (.ref CG) "nexts" = some (some (.ref f_nx)))
    (i_nx : PySem.W.isFn K (.ref f_nx) = true)
    (l_nx : K.lookup f_nx = some ⟨oc_nx, od_nx, .func (PySem.W.fnOf "nexts" "Guess.nexts" (defArgs (inClass (topS 13) 3)) (defBody (inClass (topS 13) 3)) (defScope (inClass (topS 13) 3)) .none kV_nx dc_nx pm_nx an_nx cd_nx ct_nx), sl_nx⟩)
    (c_nx : PySem.W.codeIn K cd_nx "Guess.nexts" = true)
    (k_nx : PySem.W.keepIn K (.ref f_nx) = true)
    (a_lk : PySem.W.findIn K (.ref CG) "look_at" = some (some (.ref f_lk)))
    (i_lk : PySem.W.isFn K (.ref f_lk) = true)
    (l_lk : K.lookup f_lk = some ⟨oc_lk, od_lk, .func (PySem.W.fnOf "look_at" "Guess.look_at" (defArgs (inClass (topS 13) 4)) (defBody (inClass (topS 13) 4)) (defScope (inClass (topS 13) 4)) .none kV_lk dc_lk pm_lk an_lk cd_lk ct_lk), sl_lk⟩)
    (c_lk : PySem.W.codeIn K cd_lk "Guess.look_at" = true)
    (k_lk : PySem.W.keepIn K (.ref f_lk) = true)
    (a_hi : PySem.W.findIn K (.ref C) "__init__" = some (some (.ref f_hi)))
    (i_hi : PySem.W.isFn K (.ref f_hi) = true)
    (l_hi : K.lookup f_hi = some ⟨oc_hi, od_hi, .func (PySem.W.fnOf "__init__" "House.__init__" (defArgs (inClass (topS 28) 0)) (defBody (inClass (topS 28) 0)) (defScope (inClass (topS 28) 0)) .none kV_hi dc_hi pm_hi an_hi cd_hi ct_hi), sl_hi⟩)
    (c_hi : PySem.W.codeIn K cd_hi "House.__init__" = true)
    (k_hi : PySem.W.keepIn K (.ref f_hi) = true)
    (a_be : PySem.W.findIn K (.ref C) "begins" = some (some (.ref f_be)))
    (i_be : PySem.W.isFn K (.ref f_be) = true)
    (l_be : K.lookup f_be = some ⟨oc_be, od_be, .func (PySem.W.fnOf "begins" "House.begins" (defArgs (inClass (topS 28) 1)) (defBody (inClass (topS 28) 1)) (defScope (inClass (topS 28) 1)) .none kV_be dc_be pm_be an_be cd_be ct_be), sl_be⟩)
    (c_be : PySem.W.codeIn K cd_be "House.begins" = true)
    (k_be : PySem.W.keepIn K (.ref f_be) = true)
    (a_ac : PySem.W.findIn K (.ref C) "are_cells" = some (some (.ref f_ac)))
    (i_ac : PySem.W.isFn K (.ref f_ac) = true)
    (l_ac : K.lookup f_ac = some ⟨oc_ac, od_ac, .func (PySem.W.fnOf "are_cells" "House.are_cells" (defArgs (inClass (topS 28) 2)) (defBody (inClass (topS 28) 2)) (defScope (inClass (topS 28) 2)) .none kV_ac dc_ac pm_ac an_ac cd_ac ct_ac), sl_ac⟩)
    (c_ac : PySem.W.codeIn K cd_ac "House.are_cells" = true)
    (k_ac : PySem.W.keepIn K (.ref f_ac) = true)
    (a_ca : PySem.W.findIn K (.ref C) "card" = some (some (.ref f_ca)))
    (i_ca : PySem.W.isFn K (.ref f_ca) = true)
    (l_ca : K.lookup f_ca = some ⟨oc_ca, od_ca, .func (PySem.W.fnOf "card" "House.card" (defArgs (inClass (topS 28) 3)) (defBody (inClass (topS 28) 3)) (defScope (inClass (topS 28) 3)) .none kV_ca dc_ca pm_ca an_ca cd_ca ct_ca), sl_ca⟩)
    (c_ca : PySem.W.codeIn K cd_ca "House.card" = true)
    (k_ca : PySem.W.keepIn K (.ref f_ca) = true)
    (a_it : PySem.W.findIn K (.ref C) "is_text" = some (some (.ref f_it)))
    (i_it : PySem.W.isFn K (.ref f_it) = true)
    (l_it : K.lookup f_it = some ⟨oc_it, od_it, .func (PySem.W.fnOf "is_text" "House.is_text" (defArgs (inClass (topS 28) 4)) (defBody (inClass (topS 28) 4)) (defScope (inClass (topS 28) 4)) .none kV_it dc_it pm_it an_it cd_it ct_it), sl_it⟩)
    (c_it : PySem.W.codeIn K cd_it "House.is_text" = true)
    (k_it : PySem.W.keepIn K (.ref f_it) = true)
    (a_now : PySem.W.findIn K (.ref C) "now" = some (some (.ref f_now)))
    (i_now : PySem.W.isFn K (.ref f_now) = true)
    (l_now : K.lookup f_now = some ⟨oc_now, od_now, .func (PySem.W.fnOf "now" "House.now" (defArgs (inClass (topS 28) 5)) (defBody (inClass (topS 28) 5)) (defScope (inClass (topS 28) 5)) .none kV_now dc_now pm_now an_now cd_now ct_now), sl_now⟩)
    (c_now : PySem.W.codeIn K cd_now "House.now" = true)
    (k_now : PySem.W.keepIn K (.ref f_now) = true)
    (a_wri : PySem.W.findIn K (.ref C) "write" = some (some (.ref f_wri)))
    (i_wri : PySem.W.isFn K (.ref f_wri) = true)
    (l_wri : K.lookup f_wri = some ⟨oc_wri, od_wri, .func (PySem.W.fnOf "write" "House.write" (defArgs (inClass (topS 28) 6)) (defBody (inClass (topS 28) 6)) (defScope (inClass (topS 28) 6)) .none kV_wri dc_wri pm_wri an_wri cd_wri ct_wri), sl_wri⟩)
    (c_wri : PySem.W.codeIn K cd_wri "House.write" = true)
    (k_wri : PySem.W.keepIn K (.ref f_wri) = true)
    (a_rea : PySem.W.findIn K (.ref C) "read" = some (some (.ref f_rea)))
    (i_rea : PySem.W.isFn K (.ref f_rea) = true)
    (l_rea : K.lookup f_rea = some ⟨oc_rea, od_rea, .func (PySem.W.fnOf "read" "House.read" (defArgs (inClass (topS 28) 7)) (defBody (inClass (topS 28) 7)) (defScope (inClass (topS 28) 7)) .none kV_rea dc_rea pm_rea an_rea cd_rea ct_rea), sl_rea⟩)
    (c_rea : PySem.W.codeIn K cd_rea "House.read" = true)
    (k_rea : PySem.W.keepIn K (.ref f_rea) = true)
    (a_aga : PySem.W.findIn K (.ref C) "again" = some (some (.ref f_aga)))
    (i_aga : PySem.W.isFn K (.ref f_aga) = true)
    (l_aga : K.lookup f_aga = some ⟨oc_aga, od_aga, .func (PySem.W.fnOf "again" "House.again" (defArgs (inClass (topS 28) 8)) (defBody (inClass (topS 28) 8)) (defScope (inClass (topS 28) 8)) .none kV_aga dc_aga pm_aga an_aga cd_aga ct_aga), sl_aga⟩)
    (c_aga : PySem.W.codeIn K cd_aga "House.again" = true)
    (k_aga : PySem.W.keepIn K (.ref f_aga) = true)
    (a_ord : PySem.W.findIn K (.ref C) "order" = some (some (.ref f_ord)))
    (i_ord : PySem.W.isFn K (.ref f_ord) = true)
    (l_ord : K.lookup f_ord = some ⟨oc_ord, od_ord, .func (PySem.W.fnOf "order" "House.order" (defArgs (inClass (topS 28) 9)) (defBody (inClass (topS 28) 9)) (defScope (inClass (topS 28) 9)) .none kV_ord dc_ord pm_ord an_ord cd_ord ct_ord), sl_ord⟩)
    (c_ord : PySem.W.codeIn K cd_ord "House.order" = true)
    (k_ord : PySem.W.keepIn K (.ref f_ord) = true)
    (a_gue : PySem.W.findIn K (.ref C) "guess" = some (some (.ref f_gue)))
    (i_gue : PySem.W.isFn K (.ref f_gue) = true)
    (l_gue : K.lookup f_gue = some ⟨oc_gue, od_gue, .func (PySem.W.fnOf "guess" "House.guess" (defArgs (inClass (topS 28) 10)) (defBody (inClass (topS 28) 10)) (defScope (inClass (topS 28) 10)) .none kV_gue dc_gue pm_gue an_gue cd_gue ct_gue), sl_gue⟩)
    (c_gue : PySem.W.codeIn K cd_gue "House.guess" = true)
    (k_gue : PySem.W.keepIn K (.ref f_gue) = true)
    (a_kno : PySem.W.findIn K (.ref C) "known" = some (some (.ref f_kno)))
    (i_kno : PySem.W.isFn K (.ref f_kno) = true)
    (l_kno : K.lookup f_kno = some ⟨oc_kno, od_kno, .func (PySem.W.fnOf "known" "House.known" (defArgs (inClass (topS 28) 11)) (defBody (inClass (topS 28) 11)) (defScope (inClass (topS 28) 11)) .none kV_kno dc_kno pm_kno an_kno cd_kno ct_kno), sl_kno⟩)
    (c_kno : PySem.W.codeIn K cd_kno "House.known" = true)
    (k_kno : PySem.W.keepIn K (.ref f_kno) = true)
    (a_tur : PySem.W.findIn K (.ref C) "turned" = some (some (.ref f_tur)))
    (i_tur : PySem.W.isFn K (.ref f_tur) = true)
    (l_tur : K.lookup f_tur = some ⟨oc_tur, od_tur, .func (PySem.W.fnOf "turned" "House.turned" (defArgs (inClass (topS 28) 12)) (defBody (inClass (topS 28) 12)) (defScope (inClass (topS 28) 12)) .none kV_tur dc_tur pm_tur an_tur cd_tur ct_tur), sl_tur⟩)
    (c_tur : PySem.W.codeIn K cd_tur "House.turned" = true)
    (k_tur : PySem.W.keepIn K (.ref f_tur) = true)
    (pgC : PySem.W.plainGet K C Str.empty = true)
    (hdC : PySem.W.hasDictIn K C = true)
    (poC : PySem.W.plainOver K C = true)
    (saC : PySem.W.findIn K (.ref C) "__setattr__" = some (some (.builtin "object.__setattr__")))
    (mkC : PySem.W.makesIn K C = true)
    (kcC : PySem.W.keepIn K (.ref C) = true)
    (nC_size : PySem.W.findIn K (.ref C) "size" = some none)
    (nC_holes : PySem.W.findIn K (.ref C) "holes" = some none)
    (pgCG : PySem.W.plainGet K CG Str.empty = true)
    (hdCG : PySem.W.hasDictIn K CG = true)
    (poCG : PySem.W.plainOver K CG = true)
    (saCG : PySem.W.findIn K (.ref CG) "__setattr__" = some (some (.builtin "object.__setattr__")))
    (mkCG : PySem.W.makesIn K CG = true)
    (kcCG : PySem.W.keepIn K (.ref CG) = true)
    (nCG_size : PySem.W.findIn K (.ref CG) "size" = some none)
    (nCG_text : PySem.W.findIn K (.ref CG) "text" = some none)
    (nCG_other : PySem.W.findIn K (.ref CG) "other" = some none)
    (nCG_fours : PySem.W.findIn K (.ref CG) "fours" = some none)
    (nCG_four_of : PySem.W.findIn K (.ref CG) "four_of" = some none)
    (nCG_many : PySem.W.findIn K (.ref CG) "many" = some none)
    (nCG_first : PySem.W.findIn K (.ref CG) "first" = some none)
    (z_list : PySem.W.nsIn K mainGlobals "list" = some none)
    (z_range : PySem.W.nsIn K mainGlobals "range" = some none)
    (z_sorted : PySem.W.nsIn K mainGlobals "sorted" = some none)
    (z_min : PySem.W.nsIn K mainGlobals "min" = some none)
    (z_len : PySem.W.nsIn K mainGlobals "len" = some none)
    (z_int : PySem.W.nsIn K mainGlobals "int" = some none)
    (z_enumerate : PySem.W.nsIn K mainGlobals "enumerate" = some none)
    (z_reversed : PySem.W.nsIn K mainGlobals "reversed" = some none)
    (z_zip : PySem.W.nsIn K mainGlobals "zip" = some none)
    (z_set : PySem.W.nsIn K mainGlobals "set" = some none)
    (q_QUARTERS : PySem.W.nsIn K mainGlobals "QUARTERS" = some (some (.int 4 t1)))
    (q_LEAST_SIZE : PySem.W.nsIn K mainGlobals "LEAST_SIZE" = some (some (.int 2 t2)))
    (q_MOST_SIZE : PySem.W.nsIn K mainGlobals "MOST_SIZE" = some (some (.int 6 t3)))
    (q_WRONG : PySem.W.nsIn K mainGlobals "WRONG" = some (some (.int (-1) t4)))
    (q_DOESNT_FIT : PySem.W.nsIn K mainGlobals "DOESNT_FIT" = some (some (.int (-6) t5)))
    (aNs : PySem.W.nsIn K mainGlobals "NUMBERS" = some (some (.ref aN)))
    (lNs : K.lookup aN = some ⟨.type "tuple", dN, .seq #[.int 1 u0, .int 0 u1, .int 0 u2, .int 0 u3, .int 1 u4, .int 0 u5, .int 0 u6, .int 0 u7, .int 2 u8] nN, slN⟩)
    (aRs : PySem.W.nsIn K mainGlobals "ROWS" = some (some (.ref aR)))
    (lRs : K.lookup aR = some ⟨.type "tuple", dR, .seq #[.int 0 v0, .int 1 v1, .int 1 v2, .int 1 v3, .int 1 v4, .int 0 v5, .int 2 v6, .int 2 v7, .int 0 v8] nR, slR⟩) : Top K mg C CG :=
  { blt := ⟨PySem.W.mg_none_of X G z_list, PySem.W.mg_none_of X G z_range, PySem.W.mg_none_of X G z_sorted, PySem.W.mg_none_of X G z_min, PySem.W.mg_none_of X G z_len, PySem.W.mg_none_of X G z_int, PySem.W.mg_none_of X G z_enumerate, PySem.W.mg_none_of X G z_reversed, PySem.W.mg_none_of X G z_zip, PySem.W.mg_none_of X G z_set⟩
    th := ⟨⟨pgC, hdC, poC, saC⟩, nC_size, nC_holes⟩
    tg := ⟨⟨pgCG, hdCG, poCG, saCG⟩, nCG_size, nCG_text, nCG_other, nCG_fours, nCG_four_of, nCG_many, nCG_first⟩
    mC := PySem.W.mg_of X G pC
    mG := PySem.W.mg_of X G pG
    makes := mkC
    makesG := mkCG
    kC := kcC
    kG := kcCG
    quarters := ⟨_, PySem.W.mg_of X G q_QUARTERS⟩
    least := ⟨_, PySem.W.mg_of X G q_LEAST_SIZE⟩
    most := ⟨_, PySem.W.mg_of X G q_MOST_SIZE⟩
    wrong := ⟨_, PySem.W.mg_of X G q_WRONG⟩
    doesnt := ⟨_, PySem.W.mg_of X G q_DOESNT_FIT⟩
    tabn := ⟨_, PySem.W.mg_of X G aNs, fun H => .inr ⟨_, _, _, lNs, rfl, rfl, by show 9 ≤ sizeLine; decide, .cons ⟨_, rfl⟩ (.cons ⟨_, rfl⟩ (.cons ⟨_, rfl⟩ (.cons ⟨_, rfl⟩ (.cons ⟨_, rfl⟩ (.cons ⟨_, rfl⟩ (.cons ⟨_, rfl⟩ (.cons ⟨_, rfl⟩ (.cons ⟨_, rfl⟩ .nil))))))))⟩⟩
    tabr := ⟨_, PySem.W.mg_of X G aRs, fun H => .inr ⟨_, _, _, lRs, rfl, rfl, by show 9 ≤ sizeLine; decide, .cons ⟨_, rfl⟩ (.cons ⟨_, rfl⟩ (.cons ⟨_, rfl⟩ (.cons ⟨_, rfl⟩ (.cons ⟨_, rfl⟩ (.cons ⟨_, rfl⟩ (.cons ⟨_, rfl⟩ (.cons ⟨_, rfl⟩ (.cons ⟨_, rfl⟩ .nil))))))))⟩⟩
    f_tc := f_tc
    f_to := f_to
    f_tb := f_tb
    f_tv := f_tv
    f_mid := f_mid
    f_mat := f_mat
    f_am := f_am
    f_ho := f_ho
    f_fw := f_fw
    f_fc := f_fc
    f_kn := f_kn
    f_wo := f_wo
    f_wr := f_wr
    f_ro := f_ro
    f_gd := f_gd
    f_rl := f_rl
    f_la := f_la
    f_wt := f_wt
    f_tr := f_tr
    f_td := f_td
    f_an := f_an
    f_gi := f_gi
    f_mr := f_mr
    f_go := f_go
    f_nx := f_nx
    f_lk := f_lk
    f_hi := f_hi
    f_be := f_be
    f_ac := f_ac
    f_ca := f_ca
    f_it := f_it
    f_now := f_now
    f_wri := f_wri
    f_rea := f_rea
    f_aga := f_aga
    f_ord := f_ord
    f_gue := f_gue
    f_kno := f_kno
    f_tur := f_tur
    s_tc := stands l_tc c_tc k_tc
    m_tc := PySem.W.mg_of X G a_tc
    s_to := stands l_to c_to k_to
    m_to := PySem.W.mg_of X G a_to
    s_tb := stands l_tb c_tb k_tb
    m_tb := PySem.W.mg_of X G a_tb
    s_tv := stands l_tv c_tv k_tv
    m_tv := PySem.W.mg_of X G a_tv
    s_mid := stands l_mid c_mid k_mid
    m_mid := PySem.W.mg_of X G a_mid
    s_mat := stands l_mat c_mat k_mat
    m_mat := PySem.W.mg_of X G a_mat
    s_am := stands l_am c_am k_am
    m_am := PySem.W.mg_of X G a_am
    s_ho := stands l_ho c_ho k_ho
    m_ho := PySem.W.mg_of X G a_ho
    s_fw := stands l_fw c_fw k_fw
    m_fw := PySem.W.mg_of X G a_fw
    s_fc := stands l_fc c_fc k_fc
    m_fc := PySem.W.mg_of X G a_fc
    s_kn := stands l_kn c_kn k_kn
    m_kn := PySem.W.mg_of X G a_kn
    s_wo := stands l_wo c_wo k_wo
    m_wo := PySem.W.mg_of X G a_wo
    s_wr := stands l_wr c_wr k_wr
    m_wr := PySem.W.mg_of X G a_wr
    s_ro := stands l_ro c_ro k_ro
    m_ro := PySem.W.mg_of X G a_ro
    s_gd := stands l_gd c_gd k_gd
    m_gd := PySem.W.mg_of X G a_gd
    s_rl := stands l_rl c_rl k_rl
    m_rl := PySem.W.mg_of X G a_rl
    s_la := stands l_la c_la k_la
    m_la := PySem.W.mg_of X G a_la
    s_wt := stands l_wt c_wt k_wt
    m_wt := PySem.W.mg_of X G a_wt
    s_tr := stands l_tr c_tr k_tr
    m_tr := PySem.W.mg_of X G a_tr
    s_td := stands l_td c_td k_td
    m_td := PySem.W.mg_of X G a_td
    s_an := stands l_an c_an k_an
    m_an := PySem.W.mg_of X G a_an
    s_gi := stands l_gi c_gi k_gi
    m_gi := a_gi
    i_gi := i_gi
    s_mr := stands l_mr c_mr k_mr
    m_mr := a_mr
    i_mr := i_mr
    s_go := stands l_go c_go k_go
    m_go := a_go
    i_go := i_go
    s_nx := stands l_nx c_nx k_nx
    m_nx := a_nx
    i_nx := i_nx
    s_lk := stands l_lk c_lk k_lk
    m_lk := a_lk
    i_lk := i_lk
    s_hi := stands l_hi c_hi k_hi
    m_hi := a_hi
    i_hi := i_hi
    s_be := stands l_be c_be k_be
    m_be := a_be
    i_be := i_be
    s_ac := stands l_ac c_ac k_ac
    m_ac := a_ac
    i_ac := i_ac
    s_ca := stands l_ca c_ca k_ca
    m_ca := a_ca
    i_ca := i_ca
    s_it := stands l_it c_it k_it
    m_it := a_it
    i_it := i_it
    s_now := stands l_now c_now k_now
    m_now := a_now
    i_now := i_now
    s_wri := stands l_wri c_wri k_wri
    m_wri := a_wri
    i_wri := i_wri
    s_rea := stands l_rea c_rea k_rea
    m_rea := a_rea
    i_rea := i_rea
    s_aga := stands l_aga c_aga k_aga
    m_aga := a_aga
    i_aga := i_aga
    s_ord := stands l_ord c_ord k_ord
    m_ord := a_ord
    i_ord := i_ord
    s_gue := stands l_gue c_gue k_gue
    m_gue := a_gue
    i_gue := i_gue
    s_kno := stands l_kno c_kno k_kno
    m_kno := a_kno
    i_kno := i_kno
    s_tur := stands l_tur c_tur k_tur
    m_tur := a_tur
    i_tur := i_tur }
end Hc
open PySem PySem.W PyProof.Rows
set_option maxRecDepth 100000 in
set_option maxHeartbeats 0 in
theorem PySem.Challenge.cw_holecard_s01_answers_holds : PySem.Challenge.rw_holecard_s01_answers.Holds := by
  w_on; k_headS; (case hw => exact ⟨[.list [.int 5]], by decide +kernel, by decide +kernel⟩)
  k_fillS
  refine L2.walk_specK (r := PySem.Challenge.rw_holecard_s01_answers) (k := 10) (CX := L2.CX0) (ps := ["calls"]) (sp := Hc.spAn) (by decide +kernel) rfl rfl ⟨rfl, by decide, by decide⟩ (fun w h Y => PySem.W.kIn_of Y) ?F ?S (fun _ _ _ _ z => z)
  case F =>
    intro w mg fa h Y KX G hmg
    refine' Hc.all_ok (Hc.top_mk KX G ?pC ?pG ?a_tc ?l_tc ?c_tc ?k_tc ?a_to ?l_to ?c_to ?k_to ?a_tb ?l_tb ?c_tb ?k_tb ?a_tv ?l_tv ?c_tv ?k_tv ?a_mid ?l_mid ?c_mid ?k_mid ?a_mat ?l_mat ?c_mat ?k_mat ?a_am ?l_am ?c_am ?k_am ?a_ho ?l_ho ?c_ho ?k_ho ?a_fw ?l_fw ?c_fw ?k_fw ?a_fc ?l_fc ?c_fc ?k_fc ?a_kn ?l_kn ?c_kn ?k_kn ?a_wo ?l_wo ?c_wo ?k_wo ?a_wr ?l_wr ?c_wr ?k_wr ?a_ro ?l_ro ?c_ro ?k_ro ?a_gd ?l_gd ?c_gd ?k_gd ?a_rl ?l_rl ?c_rl ?k_rl ?a_la ?l_la ?c_la ?k_la ?a_wt ?l_wt ?c_wt ?k_wt ?a_tr ?l_tr ?c_tr ?k_tr ?a_td ?l_td ?c_td ?k_td ?a_an ?l_an ?c_an ?k_an ?a_gi ?i_gi ?l_gi ?c_gi ?k_gi ?a_mr ?i_mr ?l_mr ?c_mr ?k_mr ?a_go ?i_go ?l_go ?c_go ?k_go ?a_nx ?i_nx ?l_nx ?c_nx ?k_nx ?a_lk ?i_lk ?l_lk ?c_lk ?k_lk ?a_hi ?i_hi ?l_hi ?c_hi ?k_hi ?a_be ?i_be ?l_be ?c_be ?k_be ?a_ac ?i_ac ?l_ac ?c_ac ?k_ac ?a_ca ?i_ca ?l_ca ?c_ca ?k_ca ?a_it ?i_it ?l_it ?c_it ?k_it ?a_now ?i_now ?l_now ?c_now ?k_now ?a_wri ?i_wri ?l_wri ?c_wri ?k_wri ?a_rea ?i_rea ?l_rea ?c_rea ?k_rea ?a_aga ?i_aga ?l_aga ?c_aga ?k_aga ?a_ord ?i_ord ?l_ord ?c_ord ?k_ord ?a_gue ?i_gue ?l_gue ?c_gue ?k_gue ?a_kno ?i_kno ?l_kno ?c_kno ?k_kno ?a_tur ?i_tur ?l_tur ?c_tur ?k_tur ?pgC ?hdC ?poC ?saC ?mkC ?kcC ?nC_size ?nC_holes ?pgCG ?hdCG ?poCG ?saCG ?mkCG ?kcCG ?nCG_size ?nCG_text ?nCG_other ?nCG_fours ?nCG_four_of ?nCG_many ?nCG_first ?z_list ?z_range ?z_sorted ?z_min ?z_len ?z_int ?z_enumerate ?z_reversed ?z_zip ?z_set ?q_QUARTERS ?q_LEAST_SIZE ?q_MOST_SIZE ?q_WRONG ?q_DOESNT_FIT ?aNs ?lNs ?aRs ?lRs) hmg
    (case pC => k_is); (case pG => k_is); (case a_tc => k_is); (case l_tc => k_is); (case c_tc => k_is); (case k_tc => k_is)
    (case a_to => k_is); (case l_to => k_is); (case c_to => k_is); (case k_to => k_is); (case a_tb => k_is); (case l_tb => k_is)
    (case c_tb => k_is); (case k_tb => k_is); (case a_tv => k_is); (case l_tv => k_is); (case c_tv => k_is); (case k_tv => k_is)
    (case a_mid => k_is); (case l_mid => k_is); (case c_mid => k_is); (case k_mid => k_is); (case a_mat => k_is); (case l_mat => k_is)
    (case c_mat => k_is); (case k_mat => k_is); (case a_am => k_is); (case l_am => k_is); (case c_am => k_is); (case k_am => k_is)
    (case a_ho => k_is); (case l_ho => k_is); (case c_ho => k_is); (case k_ho => k_is); (case a_fw => k_is); (case l_fw => k_is)
    (case c_fw => k_is); (case k_fw => k_is); (case a_fc => k_is); (case l_fc => k_is); (case c_fc => k_is); (case k_fc => k_is)
    (case a_kn => k_is); (case l_kn => k_is); (case c_kn => k_is); (case k_kn => k_is); (case a_wo => k_is); (case l_wo => k_is)
    (case c_wo => k_is); (case k_wo => k_is); (case a_wr => k_is); (case l_wr => k_is); (case c_wr => k_is); (case k_wr => k_is)
    (case a_ro => k_is); (case l_ro => k_is); (case c_ro => k_is); (case k_ro => k_is); (case a_gd => k_is); (case l_gd => k_is)
    (case c_gd => k_is); (case k_gd => k_is); (case a_rl => k_is); (case l_rl => k_is); (case c_rl => k_is); (case k_rl => k_is)
    (case a_la => k_is); (case l_la => k_is); (case c_la => k_is); (case k_la => k_is); (case a_wt => k_is); (case l_wt => k_is)
    (case c_wt => k_is); (case k_wt => k_is); (case a_tr => k_is); (case l_tr => k_is); (case c_tr => k_is); (case k_tr => k_is)
    (case a_td => k_is); (case l_td => k_is); (case c_td => k_is); (case k_td => k_is); (case a_an => k_is); (case l_an => k_is)
    (case c_an => k_is); (case k_an => k_is); (case a_gi => k_is); (case i_gi => k_is); (case l_gi => k_is); (case c_gi => k_is)
    (case k_gi => k_is); (case a_mr => k_is); (case i_mr => k_is); (case l_mr => k_is); (case c_mr => k_is); (case k_mr => k_is)
    (case a_go => k_is); (case i_go => k_is); (case l_go => k_is); (case c_go => k_is); (case k_go => k_is); (case a_nx => k_is)
    (case i_nx => k_is); (case l_nx => k_is); (case c_nx => k_is); (case k_nx => k_is); (case a_lk => k_is); (case i_lk => k_is)
    (case l_lk => k_is); (case c_lk => k_is); (case k_lk => k_is); (case a_hi => k_is); (case i_hi => k_is); (case l_hi => k_is)
    (case c_hi => k_is); (case k_hi => k_is); (case a_be => k_is); (case i_be => k_is); (case l_be => k_is); (case c_be => k_is)
    (case k_be => k_is); (case a_ac => k_is); (case i_ac => k_is); (case l_ac => k_is); (case c_ac => k_is); (case k_ac => k_is)
    (case a_ca => k_is); (case i_ca => k_is); (case l_ca => k_is); (case c_ca => k_is); (case k_ca => k_is); (case a_it => k_is)
    (case i_it => k_is); (case l_it => k_is); (case c_it => k_is); (case k_it => k_is); (case a_now => k_is); (case i_now => k_is)
    (case l_now => k_is); (case c_now => k_is); (case k_now => k_is); (case a_wri => k_is); (case i_wri => k_is); (case l_wri => k_is)
    (case c_wri => k_is); (case k_wri => k_is); (case a_rea => k_is); (case i_rea => k_is); (case l_rea => k_is); (case c_rea => k_is)
    (case k_rea => k_is); (case a_aga => k_is); (case i_aga => k_is); (case l_aga => k_is); (case c_aga => k_is); (case k_aga => k_is)
    (case a_ord => k_is); (case i_ord => k_is); (case l_ord => k_is); (case c_ord => k_is); (case k_ord => k_is); (case a_gue => k_is)
    (case i_gue => k_is); (case l_gue => k_is); (case c_gue => k_is); (case k_gue => k_is); (case a_kno => k_is); (case i_kno => k_is)
    (case l_kno => k_is); (case c_kno => k_is); (case k_kno => k_is); (case a_tur => k_is); (case i_tur => k_is); (case l_tur => k_is)
    (case c_tur => k_is); (case k_tur => k_is); (case pgC => k_is); (case hdC => k_is); (case poC => k_is); (case saC => k_is)
    (case mkC => k_is); (case kcC => k_is); (case nC_size => k_is); (case nC_holes => k_is); (case pgCG => k_is); (case hdCG => k_is)
    (case poCG => k_is); (case saCG => k_is); (case mkCG => k_is); (case kcCG => k_is); (case nCG_size => k_is); (case nCG_text => k_is)
    (case nCG_other => k_is); (case nCG_fours => k_is); (case nCG_four_of => k_is); (case nCG_many => k_is); (case nCG_first => k_is); (case z_list => k_is)
    (case z_range => k_is); (case z_sorted => k_is); (case z_min => k_is); (case z_len => k_is); (case z_int => k_is); (case z_enumerate => k_is)
    (case z_reversed => k_is); (case z_zip => k_is); (case z_set => k_is); (case q_QUARTERS => k_is); (case q_LEAST_SIZE => k_is); (case q_MOST_SIZE => k_is)
    (case q_WRONG => k_is); (case q_DOESNT_FIT => k_is); (case aNs => k_is); (case lNs => k_is); (case aRs => k_is); (case lRs => k_is)
  case S =>
    intro K H xs a hO hwi hask hx
    cases hx with
    | cons h1 h2 =>
      cases h2
      cases h1 with
      | lst hs ha =>
        have e := L2.ints_dw a.1 _ ha
        subst e
        have q : ((Codec.inLen 0 4000 a.1 && a.1.all (Codec.inInt 0 4294967295)) && true) = true := hwi
        rw [Bool.and_eq_true, Bool.and_eq_true] at q
        exact ⟨_, a.1, rfl, hs, hask, (Codec.inNat_iff.mp q.1.1).2, fun H' p hp => .lst (L2.SqL.of hp) (L2.dw_ints _)⟩
#print axioms PySem.Challenge.cw_holecard_s01_answers_holds
