import PyProof.Rows.All
import Wide.All
import OpenK.AllK
import Wide.FinOn
import PyProof.EqAt
import PyProof.EqKinds
import PyProof.TupleCall
import HandS.ForMost
import HandS.Exc
import HandS.ExcOwn
import HandS.ExcIs
import HandS.WordsExc
import HandS.IsInst
import HandS.SortInts
import HandS.SetFor
import HandS.More
import HandS.Evl
import HandS.Style
import HandS.Codes
import HandS.Strs
import HandS.WordsDict
import HandS.Conv
import HandS.Zip
import HandS.Walk
import PySem.Challenge.RW_stallyard_k11_whole_books_stand_alike
set_option Elab.async false
set_option linter.all false
set_option maxRecDepth 100000
set_option maxHeartbeats 4000000

/-! The plain laws of the yard: rows, ways, who keeps a stall, putting, taking, looking. -/
namespace SY
abbrev Row := List (Option Nat)
def wy (w a n : Nat) : Nat := if w ≤ a then a - w else a + n - w
def way (c a n : Nat) : Nat := wy (c % n) a n
def keeps (rule c m a n : Nat) : Bool :=
  if rule = 0 then true
  else if rule = 2 then (if way c a n = way m a n then decide (c < m) else decide (way m a n < way c a n))
  else decide (c < m)
def nx (a n : Nat) : Nat := if a + 1 = n then 0 else a + 1
def spot (a k n : Nat) : Nat := if a + k < n then a + k else a + k - n
def names (row : Row) : List Nat := row.filterMap id

/-! ### the ring -/
theorem way_lt {c a n : Nat} (ha : a < n) : way c a n < n := by
  have h := Nat.mod_lt c (Nat.lt_of_le_of_lt (Nat.zero_le _) ha)
  unfold way wy
  generalize c % n = w at *
  split <;> omega
theorem nx_lt {a n : Nat} (ha : a < n) : nx a n < n := by
  unfold nx
  split <;> omega
theorem spot_lt {a k n : Nat} (ha : a < n) (hk : k < n) : spot a k n < n := by
  unfold spot
  split <;> omega
theorem way_nx {c a n : Nat} (ha : a < n) (h : way c a n + 1 < n) : way c (nx a n) n = way c a n + 1 := by
  have h1 := Nat.mod_lt c (Nat.lt_of_le_of_lt (Nat.zero_le _) ha)
  unfold way wy nx at *
  generalize c % n = w at *
  (repeat' split) <;> (repeat' split at h) <;> omega
theorem way_inj {c a b n : Nat} (ha : a < n) (hb : b < n) (h : way c a n = way c b n) : a = b := by
  have h1 := Nat.mod_lt c (Nat.lt_of_le_of_lt (Nat.zero_le _) ha)
  unfold way wy at *
  generalize c % n = w at *
  (repeat' split at h) <;> omega
theorem way_wish {c n : Nat} : way c (c % n) n = 0 := by
  unfold way wy
  generalize c % n = w at *
  split <;> omega
theorem way_zero {c a n : Nat} (ha : a < n) (h : way c a n = 0) : a = c % n := by
  have h1 := Nat.mod_lt c (Nat.lt_of_le_of_lt (Nat.zero_le _) ha)
  unfold way wy at *
  generalize c % n = w at *
  (repeat' split at h) <;> omega
theorem nx_spot {a k n : Nat} (ha : a < n) (hk : k + 1 < n) : spot (nx a n) k n = spot a (k + 1) n := by
  unfold spot nx
  (repeat' split) <;> omega
theorem spot_zero {a n : Nat} (ha : a < n) : spot a 0 n = a := by
  unfold spot
  split <;> omega
theorem spot_inj {a j k n : Nat} (ha : a < n) (hj : j < n) (hk : k < n) (h : spot a j n = spot a k n) : j = k := by
  unfold spot at h
  (repeat' split at h) <;> omega
theorem spot_wy {a s n : Nat} (ha : a < n) (hs : s < n) : spot a (wy a s n) n = s := by
  unfold spot wy
  (repeat' split) <;> omega
theorem wy_lt {a s n : Nat} (ha : a < n) (hs : s < n) : wy a s n < n := by
  unfold wy
  split <;> omega
theorem wy_spot {a k n : Nat} (ha : a < n) (hk : k < n) : wy a (spot a k n) n = k := by
  unfold spot wy
  (repeat' split) <;> omega
theorem way_spot {c k n : Nat} (hn : 0 < n) (hk : k < n) : way c (spot (c % n) k n) n = k := wy_spot (Nat.mod_lt c hn) hk
theorem spot_way {c s n : Nat} (hs : s < n) : spot (c % n) (way c s n) n = s := spot_wy (Nat.mod_lt c (by omega)) hs
theorem nx_eq {a n : Nat} (ha : a < n) : (a + 1) % n = nx a n := by
  unfold nx
  split
  · rename_i h; rw [h, Nat.mod_self]
  · rw [Nat.mod_eq_of_lt (by omega)]
theorem spot_eq {c k n : Nat} (hn : 0 < n) (hk : k < n) : (c + k) % n = spot (c % n) k n := by
  have h := Nat.mod_lt c hn
  rw [Nat.add_mod, Nat.mod_eq_of_lt hk]
  generalize c % n = w at *
  unfold spot
  split
  · rw [Nat.mod_eq_of_lt (by omega)]
  · rw [Nat.mod_eq_sub_mod (by omega), Nat.mod_eq_of_lt (by omega)]
/-- the way as the program reckons it -/
theorem way_int {c a n : Nat} (ha : a < n) : (((a : Int) - (c : Int)) % (n : Int)) = (way c a n : Int) := by
  have hn : 0 < n := by omega
  have h := Nat.mod_lt c hn
  have e : (c : Int) = ((c % n : Nat) : Int) + (n : Int) * ((c / n : Nat) : Int) := by
    have := Nat.mod_add_div c n
    rw [← Int.natCast_mul, ← Int.natCast_add, this]
  rw [e, show ((a : Int) - (((c % n : Nat) : Int) + (n : Int) * ((c / n : Nat) : Int))) = ((a : Int) - ((c % n : Nat) : Int)) - (n : Int) * ((c / n : Nat) : Int) by omega, Int.sub_mul_emod_self_left]
  unfold way wy
  generalize c % n = w at *
  split
  · rw [Int.emod_eq_of_lt (by omega) (by omega)]; omega
  · rw [← Int.add_emod_right, Int.emod_eq_of_lt (by omega) (by omega)]; omega
/-- as the laws reckon it -/
theorem way_int' {c a n : Nat} (ha : a < n) : (((a : Int) - ((c % n : Nat) : Int)) % (n : Int)) = (way c a n : Int) := by
  rw [way_int ha, ← way_int ha (c := c)]
  have := way_int (c := c) ha
  rw [this]
  unfold way
  rw [Nat.mod_mod]

/-! ### who keeps -/
theorem keeps_total {rule c m a n : Nat} (hne : c ≠ m) (h : keeps rule c m a n = false) : keeps rule m c a n = true := by
  unfold keeps at *
  generalize way c a n = x at *
  generalize way m a n = y at *
  split
  · rfl
  · rename_i h0
    rw [if_neg h0] at h
    split
    · rename_i h2
      rw [if_pos h2] at h
      split
      · rename_i e
        rw [if_pos e.symm] at h
        have := of_decide_eq_false h
        exact decide_eq_true (by omega)
      · rename_i e
        rw [if_neg (fun q => e q.symm)] at h
        have := of_decide_eq_false h
        exact decide_eq_true (by omega)
    · rename_i h2
      rw [if_neg h2] at h
      have := of_decide_eq_false h
      exact decide_eq_true (by omega)
theorem keeps_cases {rule c m a n : Nat} : keeps rule c m a n = true ↔ rule = 0 ∨ (rule = 2 ∧ (way m a n < way c a n ∨ (way c a n = way m a n ∧ c < m))) ∨ (rule ≠ 0 ∧ rule ≠ 2 ∧ c < m) := by
  unfold keeps
  generalize way c a n = x at *
  generalize way m a n = y at *
  by_cases h0 : rule = 0
  · simp [h0]
  · by_cases h2 : rule = 2
    · subst h2
      by_cases e : x = y
      · simp [e]
      · simp [e]
    · simp [h0, h2]
theorem keeps_trans {rule c m d a n : Nat} (h1 : keeps rule c m a n = true) (h2 : keeps rule m d a n = true) : keeps rule c d a n = true := by
  rw [keeps_cases] at *
  omega
theorem keeps_zero {c m a n : Nat} : keeps 0 c m a n = true := by simp [keeps]
theorem keeps_irrefl {rule c a n : Nat} (h0 : rule ≠ 0) : keeps rule c c a n = false := by
  cases e : keeps rule c c a n with
  | false => rfl
  | true => rw [keeps_cases] at e; omega

/-! ### names of a row -/
theorem mem_names {row : Row} {c : Nat} : c ∈ names row ↔ ∃ a : Nat, row[a]? = some (some c) := by
  unfold names
  rw [List.mem_filterMap]
  constructor
  · rintro ⟨o, ho, e⟩
    obtain ⟨a, ha⟩ := List.mem_iff_getElem?.mp ho
    exact ⟨a, by rw [ha]; simpa using e⟩
  · rintro ⟨a, ha⟩
    exact ⟨some c, List.mem_of_getElem? ha, rfl⟩
theorem names_cons_none {row : Row} : names (none :: row) = names row := rfl
theorem names_cons_some {row : Row} {c : Nat} : names (some c :: row) = c :: names row := rfl
theorem names_put : ∀ {row : Row} {a : Nat} {c : Nat}, row[a]? = some none → (names (row.set a (some c))).Perm (c :: names row)
  | [], a, c, h => by simp at h
  | o :: r, 0, c, h => by
    have e : o = none := by simpa using h
    subst e
    exact List.Perm.refl _
  | o :: r, a + 1, c, h => by
    have ih := names_put (row := r) (a := a) (c := c) (by simpa using h)
    cases o with
    | none => exact ih
    | some d => exact (ih.cons d).trans (List.Perm.swap _ _ _)
theorem names_take : ∀ {row : Row} {a : Nat} {c : Nat}, row[a]? = some (some c) → (c :: names (row.set a none)).Perm (names row)
  | [], a, c, h => by simp at h
  | o :: r, 0, c, h => by
    have e : o = some c := by simpa using h
    subst e
    exact List.Perm.refl _
  | o :: r, a + 1, c, h => by
    have ih := names_take (row := r) (a := a) (c := c) (by simpa using h)
    cases o with
    | none => exact ih
    | some d => exact (List.Perm.swap _ _ _).trans (ih.cons d)
theorem names_swap : ∀ {row : Row} {a : Nat} {c m : Nat}, row[a]? = some (some m) → (m :: names (row.set a (some c))).Perm (c :: names row)
  | [], a, c, m, h => by simp at h
  | o :: r, 0, c, m, h => by
    have e : o = some m := by simpa using h
    subst e
    exact List.Perm.swap _ _ _
  | o :: r, a + 1, c, m, h => by
    have ih := names_swap (row := r) (a := a) (c := c) (m := m) (by simpa using h)
    cases o with
    | none => exact ih
    | some d =>
      refine (List.Perm.swap d m _).trans ?_
      exact (ih.cons d).trans (List.Perm.swap _ _ _)
theorem names_inj : ∀ {row : Row} {a b c : Nat}, (names row).Nodup → row[a]? = some (some c) → row[b]? = some (some c) → a = b
  | [], a, b, c, _, h, _ => by simp at h
  | o :: r, 0, 0, c, _, _, _ => rfl
  | o :: r, 0, b + 1, c, hn, h, h' => by
    have e : o = some c := by simpa using h
    subst e
    rw [names_cons_some, List.nodup_cons] at hn
    exact absurd (mem_names.mpr ⟨b, by simpa using h'⟩) hn.1
  | o :: r, a + 1, 0, c, hn, h, h' => by
    have e : o = some c := by simpa using h'
    subst e
    rw [names_cons_some, List.nodup_cons] at hn
    exact absurd (mem_names.mpr ⟨a, by simpa using h⟩) hn.1
  | o :: r, a + 1, b + 1, c, hn, h, h' => by
    have hr : (names r).Nodup := by
      cases o with
      | none => exact hn
      | some d => rw [names_cons_some, List.nodup_cons] at hn; exact hn.2
    exact congrArg (· + 1) (names_inj hr (by simpa using h) (by simpa using h'))
theorem names_len : ∀ (row : Row), (names row).length + row.count none = row.length
  | [] => rfl
  | none :: r => by
    have ih := names_len r
    rw [names_cons_none, List.count_cons_self, List.length_cons]
    omega
  | some c :: r => by
    have ih := names_len r
    rw [names_cons_some, List.length_cons, List.length_cons, List.count_cons_of_ne (by simp)]
    omega
theorem names_le (row : Row) : (names row).length ≤ row.length := by have := names_len row; omega
theorem free_of {row : Row} (h : (names row).length < row.length) : ∃ s : Nat, row[s]? = some none := by
  have e := names_len row
  have : 0 < row.count none := by omega
  exact List.mem_iff_getElem?.mp (List.count_pos_iff.mp this)
theorem of_free {row : Row} {s : Nat} (h : row[s]? = some none) : (names row).length < row.length := by
  have e := names_len row
  have : 0 < row.count none := List.count_pos_iff.mpr (List.mem_of_getElem? h)
  omega
theorem get_lt {row : Row} {a : Nat} {o : Option Nat} (h : row[a]? = some o) : a < row.length := (List.getElem?_eq_some_iff.mp h).1
theorem get_cases {row : Row} {a : Nat} (h : a < row.length) : row[a]? = some none ∨ ∃ m, row[a]? = some (some m) := by
  have e := List.getElem?_eq_getElem h
  rw [e]
  cases row[a] with
  | none => exact .inl rfl
  | some m => exact .inr ⟨m, rfl⟩
theorem set_eq {row : Row} {a : Nat} {o : Option Nat} (h : a < row.length) : (row.set a o)[a]? = some o := List.getElem?_set_self h
theorem set_ne {row : Row} {a b : Nat} {o : Option Nat} (h : a ≠ b) : (row.set a o)[b]? = row[b]? := List.getElem?_set_ne h
end SY

namespace SY
/-! ### what stands right -/
structure Pk (rule : Nat) (row : Row) : Prop where
  nd : (names row).Nodup
  pass : ∀ a c s : Nat, row[a]? = some (some c) → s < row.length → way c s row.length < way c a row.length → ∃ m, row[s]? = some (some m) ∧ keeps rule m c s row.length = true
structure Right (rule : Nat) (row : Row) : Prop extends Pk rule row where
  room : (names row).length < row.length
/-- from a on a free stall is met within f steps -/
def FreeIn (row : Row) (a f : Nat) : Prop := ∃ k, k < f ∧ k < row.length ∧ row[spot a k row.length]? = some none
theorem freeIn_of {row : Row} {s a : Nat} (h : row[s]? = some none) (ha : a < row.length) : FreeIn row a row.length := by
  have hs := get_lt h
  exact ⟨wy a s row.length, wy_lt ha hs, wy_lt ha hs, by rw [spot_wy ha hs]; exact h⟩
theorem FreeIn.next {row : Row} {a f : Nat} {m : Nat} (ha : a < row.length) (h : FreeIn row a (f + 1)) (hm : row[a]? = some (some m)) : FreeIn row (nx a row.length) f := by
  obtain ⟨k, h1, h2, h3⟩ := h
  cases k with
  | zero => rw [spot_zero ha, hm] at h3; cases h3
  | succ k => exact ⟨k, by omega, by omega, by rw [nx_spot ha (by omega)]; exact h3⟩
theorem FreeIn.set {row : Row} {a b f : Nat} {m : Nat} {o : Option Nat} (h : FreeIn row a f) (hm : row[b]? = some (some m)) : FreeIn (row.set b o) a f := by
  obtain ⟨k, h1, h2, h3⟩ := h
  refine ⟨k, h1, by rw [List.length_set]; exact h2, ?_⟩
  rw [List.length_set, set_ne (fun e => ?_)]
  · exact h3
  · rw [← e, hm] at h3; cases h3

/-! ### putting -/
def putG (rule n : Nat) : Nat → Row → Nat → Nat → Row × List (Nat × Nat)
  | 0, row, _, _ => (row, [])
  | f + 1, row, c, a =>
    match row[a]? with
    | some (some m) => if keeps rule m c a n = true then putG rule n f row c (nx a n) else
        let r := putG rule n f (row.set a (some c)) m (nx a n)
        (r.1, (c, a) :: r.2)
    | _ => (row.set a (some c), [(c, a)])
def putR (rule : Nat) (row : Row) (c : Nat) : Row × List (Nat × Nat) := putG rule row.length row.length row c (c % row.length)
theorem putG_free {rule n f : Nat} {row : Row} {c a : Nat} (h : row[a]? = some none) : putG rule n (f + 1) row c a = (row.set a (some c), [(c, a)]) := by
  unfold putG
  rw [h]
theorem putG_keep {rule n f : Nat} {row : Row} {c a m : Nat} (h : row[a]? = some (some m)) (hk : keeps rule m c a n = true) : putG rule n (f + 1) row c a = putG rule n f row c (nx a n) := by
  rw [putG, h]
  simp only [if_pos hk]
theorem putG_turn {rule n f : Nat} {row : Row} {c a m : Nat} (h : row[a]? = some (some m)) (hk : keeps rule m c a n = false) :
    putG rule n (f + 1) row c a = ((putG rule n f (row.set a (some c)) m (nx a n)).1, (c, a) :: (putG rule n f (row.set a (some c)) m (nx a n)).2) := by
  rw [putG, h]
  simp only [hk, Bool.false_eq_true, if_false]
/-- a cart in the hand, at a stall -/
structure Hand (rule : Nat) (row : Row) (c a : Nat) : Prop where
  nd : (c :: names row).Nodup
  pass : ∀ a c s : Nat, row[a]? = some (some c) → s < row.length → way c s row.length < way c a row.length → ∃ m, row[s]? = some (some m) ∧ keeps rule m c s row.length = true
  at_ : a < row.length
  hand : ∀ s : Nat, s < row.length → way c s row.length < way c a row.length → ∃ m, row[s]? = some (some m) ∧ keeps rule m c s row.length = true
theorem Hand.start {rule : Nat} {row : Row} {c : Nat} (h : Pk rule row) (hc : c ∉ names row) (hn : 0 < row.length) : Hand rule row c (c % row.length) :=
  ⟨List.nodup_cons.mpr ⟨hc, h.nd⟩, h.pass, Nat.mod_lt _ hn, fun s _ hw => by rw [way_wish] at hw; omega⟩
/-- the next stall isn't the wish again -/
theorem no_wrap {row : Row} {c a s0 : Nat} {m : Nat} (ha : a < row.length) (hm : row[a]? = some (some m)) (hs : row[s0]? = some none)
    (h : ∀ s : Nat, s < row.length → way c s row.length < way c a row.length → ∃ m, row[s]? = some (some m)) : way c a row.length + 1 < row.length := by
  have hs0 := get_lt hs
  have h1 : s0 ≠ a := fun e => by rw [e, hm] at hs; cases hs
  have h2 : ¬ way c s0 row.length < way c a row.length := fun q => by
    obtain ⟨m', e⟩ := h s0 hs0 q
    rw [hs] at e; cases e
  have h3 : way c s0 row.length ≠ way c a row.length := fun q => h1 (way_inj hs0 ha q)
  have h4 := way_lt (c := c) hs0
  omega
theorem Hand.step {rule : Nat} {row : Row} {c a m s0 : Nat} (h : Hand rule row c a) (hs : row[s0]? = some none) (hm : row[a]? = some (some m)) (hk : keeps rule m c a row.length = true) : Hand rule row c (nx a row.length) := by
  have w := no_wrap h.at_ hm hs (fun s h1 h2 => (h.hand s h1 h2).imp fun _ x => x.1)
  refine ⟨h.nd, h.pass, nx_lt h.at_, fun s hs' hw => ?_⟩
  rw [way_nx h.at_ w] at hw
  by_cases e : way c s row.length = way c a row.length
  · have := way_inj hs' h.at_ e
    subst this
    exact ⟨m, hm, hk⟩
  · exact h.hand s hs' (by omega)
theorem Hand.turn {rule : Nat} {row : Row} {c a m s0 : Nat} (h : Hand rule row c a) (hs : row[s0]? = some none) (hm : row[a]? = some (some m)) (hk : keeps rule m c a row.length = false) : Hand rule (row.set a (some c)) m (nx a row.length) := by
  have hcm : m ≠ c := fun e => (List.nodup_cons.mp h.nd).1 (mem_names.mpr ⟨a, by rw [hm, e]⟩)
  have kc : keeps rule c m a row.length = true := keeps_total hcm hk
  have nd := (List.nodup_cons.mp h.nd).2
  have w := no_wrap (c := m) h.at_ hm hs (fun s h1 h2 => (h.pass a m s hm h1 h2).imp fun _ x => x.1)
  refine ⟨(names_swap hm).nodup_iff.mpr h.nd, fun a' c' s h1 h2 h3 => ?_, by rw [List.length_set]; exact nx_lt h.at_, fun s h2 h3 => ?_⟩
  · rw [List.length_set] at *
    by_cases ea : a = a'
    · subst ea
      rw [set_eq h.at_] at h1
      have : c = c' := by simpa using h1
      subst this
      obtain ⟨m', e1, e2⟩ := h.hand s h2 h3
      by_cases es : a = s
      · subst es; omega
      · exact ⟨m', by rw [set_ne es]; exact e1, e2⟩
    · rw [set_ne ea] at h1
      obtain ⟨m', e1, e2⟩ := h.pass a' c' s h1 h2 h3
      by_cases es : a = s
      · subst es
        rw [hm] at e1
        have : m = m' := by simpa using e1
        subst this
        exact ⟨c, set_eq h.at_, keeps_trans kc e2⟩
      · exact ⟨m', by rw [set_ne es]; exact e1, e2⟩
  · rw [List.length_set] at *
    rw [way_nx h.at_ w] at h3
    by_cases e : way m s row.length = way m a row.length
    · have := way_inj h2 h.at_ e
      subst this
      exact ⟨c, set_eq h.at_, kc⟩
    · obtain ⟨m', e1, e2⟩ := h.pass a m s hm h2 (by omega)
      by_cases es : a = s
      · subst es; omega
      · exact ⟨m', by rw [set_ne es]; exact e1, e2⟩
theorem Hand.stand {rule : Nat} {row : Row} {c a : Nat} (h : Hand rule row c a) (hm : row[a]? = some none) : Pk rule (row.set a (some c)) := by
  refine ⟨(names_put hm).nodup_iff.mpr h.nd, fun a' c' s h1 h2 h3 => ?_⟩
  rw [List.length_set] at *
  by_cases ea : a = a'
  · subst ea
    rw [set_eq h.at_] at h1
    have : c = c' := by simpa using h1
    subst this
    obtain ⟨m', e1, e2⟩ := h.hand s h2 h3
    by_cases es : a = s
    · subst es; omega
    · exact ⟨m', by rw [set_ne es]; exact e1, e2⟩
  · rw [set_ne ea] at h1
    obtain ⟨m', e1, e2⟩ := h.pass a' c' s h1 h2 h3
    by_cases es : a = s
    · subst es; rw [hm] at e1; cases e1
    · exact ⟨m', by rw [set_ne es]; exact e1, e2⟩
theorem putG_ok {rule : Nat} : ∀ {f : Nat} {row : Row} {c a : Nat}, Hand rule row c a → FreeIn row a f →
    (putG rule row.length f row c a).1.length = row.length ∧ (names (putG rule row.length f row c a).1).Perm (c :: names row) ∧ Pk rule (putG rule row.length f row c a).1
  | 0, row, c, a, _, ⟨k, h, _⟩ => by omega
  | f + 1, row, c, a, h, hf => by
    obtain ⟨s0, hs0⟩ : ∃ s : Nat, row[s]? = some none := let ⟨k, _, _, e⟩ := hf; ⟨_, e⟩
    rcases get_cases h.at_ with e | ⟨m, e⟩
    · rw [putG_free e]
      exact ⟨by rw [List.length_set], names_put e, h.stand e⟩
    · cases hk : keeps rule m c a row.length with
      | true =>
        rw [putG_keep e hk]
        exact putG_ok (h.step hs0 e hk) (hf.next h.at_ e)
      | false =>
        rw [putG_turn e hk]
        have ih := putG_ok (f := f) (h.turn hs0 e hk) (by
          have := (hf.next h.at_ e).set (o := some c) e
          exact this)
        rw [List.length_set] at ih
        exact ⟨ih.1, ih.2.1.trans (names_swap e), ih.2.2⟩
theorem putR_ok {rule : Nat} {row : Row} {c : Nat} (h : Right rule row) (hc : c ∉ names row) :
    (putR rule row c).1.length = row.length ∧ (names (putR rule row c).1).Perm (c :: names row) ∧ Pk rule (putR rule row c).1 := by
  obtain ⟨s0, hs0⟩ := free_of h.room
  have hn : 0 < row.length := by have := get_lt hs0; omega
  exact putG_ok (Hand.start h.toPk hc hn) (freeIn_of hs0 (Nat.mod_lt _ hn))
theorem putR_right {rule : Nat} {row : Row} {c : Nat} (h : Right rule row) (hc : c ∉ names row) (hr : (names row).length + 1 < row.length) : Right rule (putR rule row c).1 := by
  obtain ⟨h1, h2, h3⟩ := putR_ok h hc
  exact ⟨h3, by rw [h1, h2.length_eq, List.length_cons]; exact hr⟩

/-! ### taking -/
def heirF (n gap : Nat) : Nat → Row → Nat → Option Nat
  | 0, _, _ => none
  | f + 1, row, a =>
    match row[a]? with
    | some (some m) => if way m gap n < way m a n then some a else heirF n gap f row (nx a n)
    | _ => none
def takeF (n : Nat) : Nat → Row → Nat → Row × List (Nat × Nat)
  | 0, row, _ => (row, [])
  | f + 1, row, gap =>
    match heirF n gap n (row.set gap none) (nx gap n) with
    | none => (row.set gap none, [])
    | some a =>
      match row[a]? with
      | some (some x) =>
        let r := takeF n f ((row.set gap none).set gap (some x)) a
        (r.1, (x, gap) :: r.2)
      | _ => (row.set gap none, [])
/-- what the search for an heir says -/
theorem heirF_says {n gap : Nat} : ∀ {f : Nat} {row : Row} {a : Nat}, row.length = n → a < n → FreeIn row a f →
    (∀ b, heirF n gap f row a = some b → ∃ k x, k < n ∧ b = spot a k n ∧ row[b]? = some (some x) ∧ way x gap n < way x b n ∧ ∀ j, j < k → ∃ y, row[spot a j n]? = some (some y) ∧ ¬ way y gap n < way y (spot a j n) n) ∧
    (heirF n gap f row a = none → ∃ k, k < n ∧ row[spot a k n]? = some none ∧ ∀ j, j < k → ∃ y, row[spot a j n]? = some (some y) ∧ ¬ way y gap n < way y (spot a j n) n)
  | 0, row, a, hl, ha, ⟨k, h, _⟩ => by omega
  | f + 1, row, a, hl, ha, hf => by
    subst hl
    rcases get_cases ha with e | ⟨m, e⟩
    · rw [heirF, e]
      refine ⟨fun b h => (by cases h), fun _ => ⟨0, by omega, by rw [spot_zero ha]; exact e, fun j h => by omega⟩⟩
    · rw [heirF, e]
      dsimp only
      by_cases hw : way m gap row.length < way m a row.length
      · rw [if_pos hw]
        refine ⟨fun b h => ?_, fun h => by cases h⟩
        have : a = b := by simpa using h
        subst this
        exact ⟨0, m, by omega, by rw [spot_zero ha], e, hw, fun j h => by omega⟩
      · rw [if_neg hw]
        have ih := heirF_says (gap := gap) (f := f) (row := row) (a := nx a row.length) rfl (nx_lt ha) (hf.next ha e)
        have bound : ∀ k, k < row.length → (∀ j, j < k → ∃ y : Nat, row[spot (nx a row.length) j row.length]? = some (some y) ∧ ¬ way y gap row.length < way y (spot (nx a row.length) j row.length) row.length) → ∀ o, row[spot (nx a row.length) k row.length]? = some o → (o = none ∨ ∃ x, o = some x ∧ way x gap row.length < way x (spot (nx a row.length) k row.length) row.length) → k + 1 < row.length := by
          intro k hk _ o ho hcase
          by_cases z : k + 1 = row.length
          · have e2 : spot (nx a row.length) k row.length = a := by unfold spot nx; (repeat' split) <;> omega
            rw [e2, e] at ho
            cases ho
            rcases hcase with q | ⟨x, q, qw⟩
            · cases q
            · cases q; rw [e2] at qw; exact absurd qw hw
          · omega
        constructor
        · intro b h
          obtain ⟨k, x, hk, hb, hx, hxw, hj⟩ := ih.1 b h
          have hk1 := bound k hk hj (some x) (by rw [← hb]; exact hx) (.inr ⟨x, rfl, by rw [← hb]; exact hxw⟩)
          refine ⟨k + 1, x, hk1, by rw [hb, nx_spot ha hk1], hx, hxw, fun j hjk => ?_⟩
          cases j with
          | zero => exact ⟨m, by rw [spot_zero ha]; exact e, by rw [spot_zero ha]; exact hw⟩
          | succ j =>
            rw [← nx_spot ha (by omega)]
            exact hj j (by omega)
        · intro h
          obtain ⟨k, hk, hx, hj⟩ := ih.2 h
          have hk1 := bound k hk hj none hx (.inl rfl)
          refine ⟨k + 1, hk1, by rw [← nx_spot ha hk1]; exact hx, fun j hjk => ?_⟩
          cases j with
          | zero => exact ⟨m, by rw [spot_zero ha]; exact e, by rw [spot_zero ha]; exact hw⟩
          | succ j =>
            rw [← nx_spot ha (by omega)]
            exact hj j (by omega)
/-- a gap in a row that else stands right; another stall is free -/
structure Gap (rule : Nat) (row : Row) (gap : Nat) : Prop where
  nd : (names row).Nodup
  free : row[gap]? = some none
  pass : ∀ a c s : Nat, row[a]? = some (some c) → s < row.length → s ≠ gap → way c s row.length < way c a row.length → ∃ m, row[s]? = some (some m) ∧ keeps rule m c s row.length = true
theorem way_dist {c gap p n : Nat} (hg : gap < n) (hp : p < n) (h : way c gap n < way c p n) : way c p n = way c gap n + wy gap p n := by
  have hm := Nat.mod_lt c (show 0 < n by omega)
  unfold way at *
  generalize c % n = w at *
  unfold wy at *
  (repeat' split) <;> (repeat' split at h) <;> omega
/-- what passes the gap passes the stalls between -/
theorem way_between {c gap p s n : Nat} (hg : gap < n) (hp : p < n) (hs : s < n) (h : way c gap n < way c p n) (hd : wy gap s n < wy gap p n) : way c s n = way c gap n + wy gap s n ∧ way c s n < way c p n := by
  have hm := Nat.mod_lt c (show 0 < n by omega)
  unfold way at *
  generalize c % n = w at *
  unfold wy at *
  (repeat' split) <;> (repeat' split at h) <;> (repeat' split at hd) <;> omega
theorem Gap.close {rule : Nat} {row : Row} {gap k : Nat} (g : Gap rule row gap) (hk : k < row.length) (hfree : row[spot (nx gap row.length) k row.length]? = some none)
    (hj : ∀ j, j < k → ∃ y, row[spot (nx gap row.length) j row.length]? = some (some y) ∧ ¬ way y gap row.length < way y (spot (nx gap row.length) j row.length) row.length) : Pk rule row := by
  have hg := get_lt g.free
  refine ⟨g.nd, fun a c s h1 h2 h3 => ?_⟩
  by_cases es : s = gap
  · subst es
    exfalso
    have ha := get_lt h1
    have hag : a ≠ s := fun e => by subst e; rw [g.free] at h1; cases h1
    -- a = spot (nx s) (d - 1), d the distance
    have hd : 0 < wy s a row.length := by
      unfold wy; split <;> omega
    have hdl := wy_lt (a := s) h2 ha
    have ea : spot (nx s row.length) (wy s a row.length - 1) row.length = a := by
      rw [nx_spot h2 (by omega), show wy s a row.length - 1 + 1 = wy s a row.length by omega, spot_wy h2 ha]
    by_cases hlt : wy s a row.length - 1 < k
    · obtain ⟨y, e1, e2⟩ := hj _ hlt
      rw [ea, h1] at e1
      cases e1
      rw [ea] at e2
      exact e2 h3
    · by_cases heq : wy s a row.length - 1 = k
      · rw [← heq, ea, h1] at hfree; cases hfree
      · have hk1 : k + 1 < row.length := by omega
        have e3 := nx_spot h2 hk1
        rw [e3] at hfree
        have hne : spot s (k + 1) row.length ≠ s := fun e => by
          have : k + 1 = 0 := spot_inj (a := s) h2 hk1 (by omega) (by rw [e, spot_zero h2])
          omega
        have hbt := way_between (c := c) (s := spot s (k + 1) row.length) h2 ha (spot_lt h2 hk1) h3 (by rw [wy_spot h2 hk1]; omega)
        obtain ⟨m, e1, _⟩ := g.pass a c _ h1 (spot_lt h2 hk1) hne hbt.2
        rw [hfree] at e1; cases e1
  · exact g.pass a c s h1 h2 es h3
theorem Gap.move {rule : Nat} {row : Row} {gap k x : Nat} (g : Gap rule row gap) (hk : k < row.length) (hx : row[spot (nx gap row.length) k row.length]? = some (some x)) (hxw : way x gap row.length < way x (spot (nx gap row.length) k row.length) row.length)
    (hj : ∀ j, j < k → ∃ y, row[spot (nx gap row.length) j row.length]? = some (some y) ∧ ¬ way y gap row.length < way y (spot (nx gap row.length) j row.length) row.length) :
    k + 1 < row.length ∧ Gap rule ((row.set gap (some x)).set (spot (nx gap row.length) k row.length) none) (spot (nx gap row.length) k row.length) ∧
      (names ((row.set gap (some x)).set (spot (nx gap row.length) k row.length) none)).Perm (names row) := by
  have hg := get_lt g.free
  have hk1 : k + 1 < row.length := by
    by_cases z : k + 1 = row.length
    · have e2 : spot (nx gap row.length) k row.length = gap := by unfold spot nx; (repeat' split) <;> omega
      rw [e2, g.free] at hx; cases hx
    · omega
  refine ⟨hk1, ?_⟩
  rw [nx_spot hg hk1] at hx hxw ⊢
  generalize hb : spot gap (k + 1) row.length = b at *
  have hbl : b < row.length := get_lt hx
  have hbg : gap ≠ b := fun e => by rw [← e, g.free] at hx; cases hx
  have hwb : wy gap b row.length = k + 1 := by rw [← hb, wy_spot hg hk1]
  have hx' : (row.set gap (some x))[b]? = some (some x) := by rw [set_ne hbg]; exact hx
  have pm : (names ((row.set gap (some x)).set b none)).Perm (names row) := by
    have p1 := names_take hx'
    have p2 := names_put (c := x) g.free
    exact List.Perm.cons_inv (p1.trans p2)
  refine ⟨⟨pm.nodup_iff.mpr g.nd, set_eq (by rw [List.length_set]; exact hbl), fun a c s h1 h2 h3 h4 => ?_⟩, pm⟩
  rw [List.length_set, List.length_set] at *
  have hab : b ≠ a := fun e => by
    subst e
    rw [set_eq (by rw [List.length_set]; exact hbl)] at h1; cases h1
  rw [set_ne hab] at h1
  rw [set_ne (Ne.symm h3)]
  by_cases eg : gap = a
  · subst eg
    rw [set_eq hg] at h1
    have : x = c := by simpa using h1
    subst this
    have hsg : gap ≠ s := fun e => by subst e; omega
    obtain ⟨m, e1, e2⟩ := g.pass b x s hx h2 (Ne.symm hsg) (by omega)
    exact ⟨m, by rw [set_ne hsg]; exact e1, e2⟩
  · rw [set_ne eg] at h1
    by_cases es : gap = s
    · subst es
      refine ⟨x, set_eq hg, ?_⟩
      have ha := get_lt h1
      have hd : 0 < wy gap a row.length := by
        unfold wy; split <;> omega
      have hdl := wy_lt (a := gap) hg ha
      have ea : spot (nx gap row.length) (wy gap a row.length - 1) row.length = a := by
        rw [nx_spot hg (by omega), show wy gap a row.length - 1 + 1 = wy gap a row.length by omega, spot_wy hg ha]
      have hgt : k + 1 < wy gap a row.length := by
        by_cases hlt : wy gap a row.length - 1 < k
        · obtain ⟨y, e1, e2⟩ := hj _ hlt
          rw [ea, h1] at e1
          cases e1
          rw [ea] at e2
          exact absurd h4 e2
        · have : wy gap a row.length ≠ k + 1 := fun e => hab (by
            have := spot_wy hg ha
            rw [e, hb] at this; exact this)
          omega
      obtain ⟨w1, w2⟩ := way_between (c := c) hg ha hbl h4 (by rw [hwb]; exact hgt)
      obtain ⟨m, e1, e2⟩ := g.pass a c b h1 hbl (Ne.symm hbg) w2
      rw [hx] at e1
      cases e1
      have w3 := way_dist (c := x) hg hbl hxw
      rw [keeps_cases] at e2 ⊢
      omega
    · obtain ⟨m, e1, e2⟩ := g.pass a c s h1 h2 (Ne.symm es) h4
      exact ⟨m, by rw [set_ne es]; exact e1, e2⟩
end SY

namespace SY
theorem Gap.heir {rule : Nat} {row : Row} {gap f : Nat} (g : Gap rule row gap) (hf : FreeIn row (nx gap row.length) f) :
    (∀ b, heirF row.length gap f row (nx gap row.length) = some b → ∃ x, row[b]? = some (some x) ∧ b ≠ gap ∧ Gap rule ((row.set gap (some x)).set b none) b ∧ (names ((row.set gap (some x)).set b none)).Perm (names row) ∧
        ∀ d : Nat, d + 1 < row.length → row[spot (nx gap row.length) d row.length]? = some none → ∃ e, e < d ∧ e + 1 < row.length ∧ ((row.set gap (some x)).set b none)[spot (nx b row.length) e row.length]? = some none) ∧
    (heirF row.length gap f row (nx gap row.length) = none → Pk rule row) := by
  have hg := get_lt g.free
  have hs := heirF_says (gap := gap) rfl (nx_lt hg) hf
  refine ⟨fun b h => ?_, fun h => ?_⟩
  · obtain ⟨k, x, hk, rfl, hx, hxw, hj⟩ := hs.1 b h
    obtain ⟨hk1, G, P⟩ := g.move hk hx hxw hj
    have hbg : spot (nx gap row.length) k row.length ≠ gap := fun e => by rw [e, g.free] at hx; cases hx
    refine ⟨x, hx, hbg, G, P, fun d hd hfree => ?_⟩
    have hkd : k < d := by
      by_cases z : d < k
      · obtain ⟨y, e, _⟩ := hj d z
        rw [hfree] at e; cases e
      · have : d ≠ k := fun e => by rw [e, hx] at hfree; cases hfree
        omega
    have hd' := nx_spot hg hd
    have hk' := nx_spot hg hk1
    rw [hk'] at *
    have e3 : spot (nx (spot gap (k + 1) row.length) row.length) (d - k - 1) row.length = spot gap (d + 1) row.length := by
      unfold spot nx
      (repeat' split) <;> omega
    refine ⟨d - k - 1, by omega, by omega, ?_⟩
    rw [e3]
    have n1 : spot gap (k + 1) row.length ≠ spot gap (d + 1) row.length := fun e => by
      have := spot_inj hg hk1 hd e
      omega
    have n2 : gap ≠ spot gap (d + 1) row.length := fun e => by
      have : 0 = d + 1 := spot_inj hg (by omega) hd (by rw [spot_zero hg]; exact e)
      omega
    rw [set_ne n1, set_ne n2, ← hd']
    exact hfree
  · obtain ⟨k, hk, hx, hj⟩ := hs.2 h
    exact g.close hk hx hj
theorem Gap.freeIn {rule : Nat} {row : Row} {gap : Nat} (g : Gap rule row gap) : FreeIn row (nx gap row.length) row.length :=
  freeIn_of g.free (nx_lt (get_lt g.free))
theorem set_none_same {row : Row} {gap : Nat} (h : row[gap]? = some none) : row.set gap none = row := by
  have := List.getElem?_eq_some_iff.mp h
  obtain ⟨hl, e⟩ := this
  rw [← e, List.set_getElem_self]
theorem takeF_none {n f : Nat} {row : Row} {gap : Nat} (h : heirF n gap n (row.set gap none) (nx gap n) = none) : takeF n (f + 1) row gap = (row.set gap none, []) := by
  rw [takeF, h]
theorem takeF_some {n f : Nat} {row : Row} {gap a x : Nat} (h : heirF n gap n (row.set gap none) (nx gap n) = some a) (hx : row[a]? = some (some x)) :
    takeF n (f + 1) row gap = ((takeF n f ((row.set gap none).set gap (some x)) a).1, (x, gap) :: (takeF n f ((row.set gap none).set gap (some x)) a).2) := by
  rw [takeF, h]
  simp only [hx]
/-- taking, from the stall gap on: the row with the gap stands right but for it -/
theorem takeF_ok {rule : Nat} : ∀ {f : Nat} {row : Row} {gap d : Nat}, gap < row.length → Gap rule (row.set gap none) gap → d < f → d + 1 < row.length → (row.set gap none)[spot (nx gap row.length) d row.length]? = some none →
    (takeF row.length f row gap).1.length = row.length ∧ (names (takeF row.length f row gap).1).Perm (names (row.set gap none)) ∧ Pk rule (takeF row.length f row gap).1
  | 0, row, gap, d, _, _, h, _, _ => by omega
  | f + 1, row, gap, d, hg, g, hdf, hd, hfree => by
    have hl : (row.set gap none).length = row.length := List.length_set
    have H := g.heir g.freeIn
    rw [hl] at H
    cases e : heirF row.length gap row.length (row.set gap none) (nx gap row.length) with
    | none =>
      rw [takeF_none e]
      exact ⟨hl, List.Perm.refl _, H.2 e⟩
    | some b =>
      obtain ⟨x, hx, hbg, G, P, hnext⟩ := H.1 b e
      obtain ⟨d', hd1, hd2, hd3⟩ := hnext d hd hfree
      have hxr : row[b]? = some (some x) := by rw [set_ne (Ne.symm hbg)] at hx; exact hx
      rw [takeF_some e hxr]
      have hl2 : ((row.set gap none).set gap (some x)).length = row.length := by rw [List.length_set, hl]
      have ih := takeF_ok (f := f) (row := (row.set gap none).set gap (some x)) (gap := b) (d := d') (by rw [hl2]; exact get_lt hxr) G (by omega) (by rw [hl2]; exact hd2) (by rw [hl2]; exact hd3)
      rw [hl2] at ih
      exact ⟨ih.1, ih.2.1.trans P, ih.2.2⟩
def takeR (row : Row) (gap : Nat) : Row × List (Nat × Nat) := takeF row.length row.length row gap
theorem gap_of {rule : Nat} {row : Row} {c a : Nat} (h : Pk rule row) (ha : row[a]? = some (some c)) : Gap rule (row.set a none) a := by
  have hl := get_lt ha
  refine ⟨(List.nodup_cons.mp ((names_take ha).nodup_iff.mpr h.nd)).2, set_eq hl, fun b d s h1 h2 h3 h4 => ?_⟩
  rw [List.length_set] at *
  have hab : a ≠ b := fun e => by subst e; rw [set_eq hl] at h1; cases h1
  rw [set_ne hab] at h1
  obtain ⟨m, e1, e2⟩ := h.pass b d s h1 h2 h4
  exact ⟨m, by rw [set_ne (Ne.symm h3)]; exact e1, e2⟩
theorem free_ahead {rule : Nat} {row : Row} {c a : Nat} (h : Right rule row) (ha : row[a]? = some (some c)) : ∃ d, d + 1 < row.length ∧ (row.set a none)[spot (nx a row.length) d row.length]? = some none := by
  obtain ⟨s, hs⟩ := free_of h.room
  have hl := get_lt ha
  have hsl := get_lt hs
  have hne : a ≠ s := fun e => by subst e; rw [ha] at hs; cases hs
  have hd : 0 < wy a s row.length := by unfold wy; split <;> omega
  have hdl := wy_lt hl hsl
  refine ⟨wy a s row.length - 1, by omega, ?_⟩
  rw [nx_spot hl (by omega), show wy a s row.length - 1 + 1 = wy a s row.length by omega, spot_wy hl hsl, set_ne hne]
  exact hs
theorem takeR_ok {rule : Nat} {row : Row} {c a : Nat} (h : Right rule row) (ha : row[a]? = some (some c)) :
    (takeR row a).1.length = row.length ∧ (c :: names (takeR row a).1).Perm (names row) ∧ Right rule (takeR row a).1 := by
  obtain ⟨d, h1, h2⟩ := free_ahead h ha
  obtain ⟨e1, e2, e3⟩ := takeF_ok (f := row.length) (get_lt ha) (gap_of h.toPk ha) (by omega) h1 h2
  have p : (c :: names (takeR row a).1).Perm (names row) := (e2.cons c).trans (names_take ha)
  refine ⟨e1, p, e3, ?_⟩
  have := p.length_eq
  rw [List.length_cons] at this
  have hr := h.room
  show (names (takeR row a).1).length < (takeR row a).1.length
  have e1' : (takeR row a).1.length = row.length := e1
  omega

/-! ### looking -/
def lookF (rule n : Nat) (row : Row) (c : Nat) : Nat → Nat → List Nat
  | 0, _ => []
  | f + 1, a =>
    match row[a]? with
    | some (some m) => if m = c then [a] else if keeps rule m c a n = true then a :: lookF rule n row c f (nx a n) else [a]
    | _ => [a]
def goesOn (rule : Nat) (row : Row) (c a : Nat) : Bool :=
  match row[a]? with
  | some (some m) => if m = c then false else keeps rule m c a row.length
  | _ => false
theorem lookF_go {rule : Nat} {row : Row} {c f a : Nat} (h : goesOn rule row c a = true) : lookF rule row.length row c (f + 1) a = a :: lookF rule row.length row c f (nx a row.length) := by
  unfold goesOn at h
  rw [lookF]
  split at h
  · rename_i m e
    by_cases q : m = c
    · rw [if_pos q] at h; cases h
    · rw [if_neg q] at h
      simp only [if_neg q, if_pos h]
  · cases h
theorem lookF_stop {rule : Nat} {row : Row} {c f a : Nat} (h : goesOn rule row c a = false) : lookF rule row.length row c (f + 1) a = [a] := by
  unfold goesOn at h
  rw [lookF]
  split at h
  · rename_i m e
    by_cases q : m = c
    · simp only [if_pos q]
    · rw [if_neg q] at h
      simp only [if_neg q, h, Bool.false_eq_true, if_false]
  · rfl
theorem goesOn_iff {rule : Nat} {row : Row} {c a : Nat} : goesOn rule row c a = true ↔ ∃ m, row[a]? = some (some m) ∧ m ≠ c ∧ keeps rule m c a row.length = true := by
  unfold goesOn
  constructor
  · intro h
    split at h
    · rename_i m e
      by_cases q : m = c
      · rw [if_pos q] at h; cases h
      · rw [if_neg q] at h
        exact ⟨m, e, q, h⟩
    · cases h
  · rintro ⟨m, e, q, h⟩
    rw [e]
    simp only [if_neg q, h]
def lookR (rule : Nat) (row : Row) (c : Nat) : List Nat := lookF rule row.length row c row.length (c % row.length)
/-- the stalls that a look sees: k + 1 of them from the wish on; it goes on behind each but the last -/
theorem lookF_says {rule : Nat} {row : Row} {c : Nat} : ∀ {f a : Nat}, a < row.length → FreeIn row a f →
    ∃ k, k < f ∧ k < row.length ∧ lookF rule row.length row c f a = (List.range (k + 1)).map (fun j => spot a j row.length) ∧ (∀ j, j < k → goesOn rule row c (spot a j row.length) = true) ∧ goesOn rule row c (spot a k row.length) = false
  | 0, a, _, ⟨_, h, _⟩ => by omega
  | f + 1, a, ha, hf => by
    cases e : goesOn rule row c a with
    | false =>
      refine ⟨0, by omega, by omega, ?_, fun j h => by omega, by rw [spot_zero ha]; exact e⟩
      rw [lookF_stop e]
      simp [List.range_succ, spot_zero ha]
    | true =>
      obtain ⟨m, hm, _, _⟩ := goesOn_iff.mp e
      obtain ⟨k, h1, h2, h3, h4, h5⟩ := lookF_says (f := f) (nx_lt ha) (hf.next ha hm)
      have hk : k + 1 < row.length := by
        by_cases z : k + 1 = row.length
        · have e2 : spot (nx a row.length) k row.length = a := by unfold spot nx; (repeat' split) <;> omega
          rw [e2, e] at h5; cases h5
        · omega
      refine ⟨k + 1, by omega, hk, ?_, fun j hj => ?_, by rw [← nx_spot ha hk]; exact h5⟩
      · rw [lookF_go e, h3, List.range_succ_eq_map (n := k + 1), List.map_cons, List.map_map, spot_zero ha]
        congr 1
        refine List.map_congr_left fun j hj => ?_
        have := List.mem_range.mp hj
        exact nx_spot ha (by omega)
      · cases j with
        | zero => rw [spot_zero ha]; exact e
        | succ j => rw [← nx_spot ha (by omega)]; exact h4 j (by omega)
theorem lookR_says {rule : Nat} {row : Row} {c : Nat} (h : (names row).length < row.length) :
    ∃ k, k < row.length ∧ lookR rule row c = (List.range (k + 1)).map (fun j => spot (c % row.length) j row.length) ∧ (∀ j, j < k → goesOn rule row c (spot (c % row.length) j row.length) = true) ∧ goesOn rule row c (spot (c % row.length) k row.length) = false := by
  obtain ⟨s, hs⟩ := free_of h
  have hn : 0 < row.length := by have := get_lt hs; omega
  obtain ⟨k, _, h2, h3⟩ := lookF_says (rule := rule) (c := c) (Nat.mod_lt c hn) (freeIn_of hs (Nat.mod_lt c hn))
  exact ⟨k, h2, h3⟩
/-- the last stall looked at -/
def lastR (rule : Nat) (row : Row) (c : Nat) : Nat := (lookR rule row c).getLastD 0
def whereR (rule : Nat) (row : Row) (c : Nat) : Option Nat := if row[lastR rule row c]? = some (some c) then some (lastR rule row c) else none
theorem last_of {rule : Nat} {row : Row} {c k : Nat} (h : lookR rule row c = (List.range (k + 1)).map (fun j => spot (c % row.length) j row.length)) : lastR rule row c = spot (c % row.length) k row.length := by
  unfold lastR
  rw [h, List.range_succ, List.map_append]
  simp
theorem where_of {rule : Nat} {row : Row} {c p : Nat} (h : Right rule row) (hp : row[p]? = some (some c)) : whereR rule row c = some p := by
  obtain ⟨k, h1, h2, h3, h4⟩ := lookR_says (rule := rule) (c := c) h.room
  have hn : 0 < row.length := by omega
  have hpl := get_lt hp
  have hl := last_of h2
  have e : spot (c % row.length) k row.length = p := by
    by_cases q : k < way c p row.length
    · have hw : way c (spot (c % row.length) k row.length) row.length = k := way_spot hn h1
      obtain ⟨m, e1, e2⟩ := h.pass p c (spot (c % row.length) k row.length) hp (spot_lt (Nat.mod_lt c hn) h1) (by rw [hw]; exact q)
      have : m ≠ c := fun z => by
        subst z
        have := names_inj h.nd hp e1
        rw [← this] at hw
        omega
      have : goesOn rule row c (spot (c % row.length) k row.length) = true := goesOn_iff.mpr ⟨m, e1, this, e2⟩
      rw [h4] at this; cases this
    · by_cases q2 : way c p row.length < k
      · have := h3 _ q2
        rw [spot_way hpl] at this
        obtain ⟨m, e1, e2, _⟩ := goesOn_iff.mp this
        rw [hp] at e1
        cases e1
        exact absurd rfl e2
      · have : way c p row.length = k := by omega
        rw [← this, spot_way hpl]
  unfold whereR
  rw [hl, e, if_pos hp]
theorem where_some {rule : Nat} {row : Row} {c p : Nat} (h : whereR rule row c = some p) : row[p]? = some (some c) := by
  unfold whereR at h
  split at h
  · rename_i e
    cases h
    exact e
  · cases h
theorem where_none {rule : Nat} {row : Row} {c : Nat} (h : Right rule row) : whereR rule row c = none ↔ c ∉ names row := by
  constructor
  · intro e hc
    obtain ⟨p, hp⟩ := mem_names.mp hc
    rw [where_of h hp] at e; cases e
  · intro hc
    cases e : whereR rule row c with
    | none => rfl
    | some p => exact absurd (mem_names.mpr ⟨p, where_some e⟩) hc
end SY

namespace SY
/-! ### what stands right stands alike -/
theorem Right.weak {rule : Nat} {row : Row} (h : Right rule row) : Right 0 row :=
  ⟨⟨h.nd, fun a c s h1 h2 h3 => (h.pass a c s h1 h2 h3).imp fun _ x => ⟨x.1, keeps_zero⟩⟩, h.room⟩
theorem nodup_bound : ∀ {m : Nat} {l : List Nat}, l.Nodup → (∀ x ∈ l, x < m) → l.length ≤ m
  | 0, [], _, _ => Nat.le_refl 0
  | 0, a :: l, _, h => by have := h a (by simp); omega
  | m + 1, l, hn, h => by
    have h1 : (l.erase m).Nodup := hn.erase m
    have h2 := nodup_bound (m := m) h1 (fun x hx => by
      have e := h x (List.mem_of_mem_erase hx)
      have : x ≠ m := fun q => by
        subst q
        exact absurd hx (fun hx => (List.Nodup.mem_erase_iff hn).mp hx |>.1 rfl)
      omega)
    have h3 : l.length ≤ (l.erase m).length + 1 := by
      by_cases q : m ∈ l
      · rw [List.length_erase_of_mem q]; omega
      · rw [List.erase_of_not_mem q]; omega
    omega
/-- a stall that is free in the one is free in the other -/
theorem free_alike {A B : Row} (hA : Right 0 A) (hB : Right 0 B) (hl : A.length = B.length) (hn : ∀ c, c ∈ names A ↔ c ∈ names B) {s : Nat} (hs : A[s]? = some none) : B[s]? = some none := by
  have hsl : s < A.length := get_lt hs
  rcases get_cases (row := B) (a := s) (by omega) with e | ⟨c0, hc0⟩
  · exact e
  exfalso
  -- the first free stall ahead of s in B
  obtain ⟨f0, hf0⟩ := free_of hB.room
  have hf0l := get_lt hf0
  -- the least distance back from s to a free stall of B
  obtain ⟨t, ht, htf, hrun⟩ : ∃ t, t < B.length ∧ B[spot s (B.length - 1 - t) B.length]? = some none ∧ ∀ j, j < t → ∃ c, B[spot s (B.length - 1 - j) B.length]? = some (some c) := by
    have : ∃ t, t < B.length ∧ B[spot s (B.length - 1 - t) B.length]? = some none := by
      refine ⟨B.length - 1 - wy s f0 B.length, by omega, ?_⟩
      have := wy_lt (a := s) (s := f0) (n := B.length) (by omega) hf0l
      rw [show B.length - 1 - (B.length - 1 - wy s f0 B.length) = wy s f0 B.length by omega, spot_wy (by omega) hf0l]
      exact hf0
    obtain ⟨t, h1, h2⟩ := this
    induction t using Nat.strongRecOn with
    | _ t ih =>
      by_cases q : ∃ j, j < t ∧ B[spot s (B.length - 1 - j) B.length]? = some none
      · obtain ⟨j, hj, e⟩ := q
        exact ih j hj (by omega) e
      · refine ⟨t, h1, h2, fun j hj => ?_⟩
        rcases get_cases (row := B) (a := spot s (B.length - 1 - j) B.length) (spot_lt (by omega) (by omega)) with e | e
        · exact absurd ⟨j, hj, e⟩ q
        · exact e
  -- f the free stall; the stalls f + 1 .. s are taken, s = spot f (t + 1)
  generalize hf : spot s (B.length - 1 - t) B.length = f at *
  have hfl : f < B.length := get_lt htf
  have hfs : f ≠ s := fun e => by rw [e, hc0] at htf; cases htf
  have hts : t + 1 < B.length := by
    by_cases q : t + 1 = B.length
    · have : f = s := by rw [← hf, show B.length - 1 - t = 0 by omega, spot_zero (by omega)]
      exact absurd this hfs
    · omega
  have hsf : spot f (t + 1) B.length = s := by
    rw [← hf]; unfold spot; (repeat' split) <;> omega
  have hrun' : ∀ j, j < t + 1 → ∃ c, B[spot f (j + 1) B.length]? = some (some c) := fun j hj => by
    by_cases q : j = t
    · rw [q, hsf]; exact ⟨c0, hc0⟩
    · obtain ⟨c, e⟩ := hrun (t - 1 - j) (by omega)
      refine ⟨c, ?_⟩
      have : spot s (B.length - 1 - (t - 1 - j)) B.length = spot f (j + 1) B.length := by
        rw [← hf]; unfold spot; (repeat' split) <;> omega
      rw [← this]; exact e
  -- each of these carts has its wish there, and stands in A ahead of s
  have hin : ∀ j, j < t + 1 → ∃ c j', B[spot f (j + 1) B.length]? = some (some c) ∧ j' < t ∧ A[spot f (j' + 1) B.length]? = some (some c) := fun j hj => by
    obtain ⟨c, hc⟩ := hrun' j hj
    refine ⟨c, ?_⟩
    obtain ⟨p, hp⟩ := mem_names.mp ((hn c).mpr (mem_names.mpr ⟨_, hc⟩))
    have hpl : p < B.length := by have := get_lt hp; omega
    have hm := Nat.mod_lt c (show 0 < B.length by omega)
    -- in B the cart does not pass f
    have nf : ¬ way c f B.length < way c (spot f (j + 1) B.length) B.length := fun q => by
      obtain ⟨m, e, _⟩ := hB.pass _ c f hc hfl q
      rw [htf] at e; cases e
    -- in A the cart does not pass s, nor stand there
    have ns : ¬ way c s B.length < way c p B.length := fun q => by
      obtain ⟨m, e, _⟩ := hA.pass p c s hp hsl (by rw [hl]; exact q)
      rw [hs] at e; cases e
    have nsp : p ≠ s := fun e => by rw [e, hs] at hp; cases hp
    refine ⟨wy f p B.length - 1, hc, ?_⟩
    have key : 0 < wy f p B.length ∧ wy f p B.length < t + 1 := by
      rw [← hsf] at ns nsp
      unfold way at *
      generalize c % B.length = w at *
      unfold wy spot at *
      (repeat' split) <;> (repeat' split at nf) <;> (repeat' split at ns) <;> (repeat' split at nsp) <;> omega
    have hwl := wy_lt (a := f) (s := p) (n := B.length) hfl hpl
    refine ⟨by omega, ?_⟩
    rw [show wy f p B.length - 1 + 1 = wy f p B.length by omega, spot_wy hfl hpl]
    exact hp
  -- too many for so few stalls
  have : ∀ k, k ≤ t + 1 → ∃ l : List Nat, l.length = k ∧ l.Nodup ∧ ∀ x ∈ l, x < t ∧ ∃ j c, j < k ∧ B[spot f (j + 1) B.length]? = some (some c) ∧ A[spot f (x + 1) B.length]? = some (some c) := by
    intro k
    induction k with
    | zero => exact fun _ => ⟨[], rfl, List.nodup_nil, fun x hx => by cases hx⟩
    | succ k ih =>
      intro hk
      obtain ⟨l, h1, h2, h3⟩ := ih (by omega)
      obtain ⟨c, j', e1, e2, e3⟩ := hin k (by omega)
      refine ⟨j' :: l, by rw [List.length_cons, h1], List.nodup_cons.mpr ⟨fun hm => ?_, h2⟩, fun x hx => ?_⟩
      · obtain ⟨_, j, c', q1, q2, q3⟩ := h3 j' hm
        rw [e3] at q3
        cases q3
        have := names_inj hB.nd e1 q2
        have := spot_inj hfl (by omega) (by omega) this
        omega
      · rcases List.mem_cons.mp hx with rfl | hx
        · exact ⟨e2, k, c, by omega, e1, e3⟩
        · obtain ⟨q0, j, c', q1, q2, q3⟩ := h3 x hx
          exact ⟨q0, j, c', by omega, q2, q3⟩
  obtain ⟨l, h1, h2, h3⟩ := this (t + 1) (Nat.le_refl _)
  have := nodup_bound h2 (fun x hx => (h3 x hx).1)
  omega
theorem taken_alike {A B : Row} {r r' : Nat} (hA : Right r A) (hB : Right r' B) (hl : A.length = B.length) (hn : (names A).Perm (names B)) : A.map (·.isNone) = B.map (·.isNone) := by
  refine List.ext_getElem? fun s => ?_
  rw [List.getElem?_map, List.getElem?_map]
  by_cases hs : s < A.length
  · rcases get_cases hs with e | ⟨c, e⟩
    · rw [e, free_alike hA.weak hB.weak hl (fun c => hn.mem_iff) e]
    · rcases get_cases (row := B) (a := s) (by omega) with e' | ⟨c', e'⟩
      · have := free_alike hB.weak hA.weak hl.symm (fun c => hn.mem_iff.symm) e'
        rw [e] at this; cases this
      · rw [e, e']; rfl
  · rw [List.getElem?_eq_none (by omega), List.getElem?_eq_none (by omega)]
/-- rows alike in what stands where the one has a cart -/
theorem row_ext {A B : Row} (hl : A.length = B.length) (hn : (names A).Perm (names B)) (h : ∀ a c : Nat, A[a]? = some (some c) → B[a]? = some (some c)) (nd : (names A).Nodup) : A = B := by
  refine List.ext_getElem? fun s => ?_
  by_cases hs : s < A.length
  · rcases get_cases hs with e | ⟨c, e⟩
    · rcases get_cases (row := B) (a := s) (by omega) with e' | ⟨c', e'⟩
      · rw [e, e']
      · obtain ⟨p, hp⟩ := mem_names.mp (hn.mem_iff.mpr (mem_names.mpr ⟨s, e'⟩))
        have h1 := h p c' hp
        have h2 := names_inj (hn.nodup_iff.mp nd) h1 e'
        subst h2
        rw [e] at hp; cases hp
    · rw [e, h s c e]
  · rw [List.getElem?_eq_none (by omega), List.getElem?_eq_none (by omega)]
/-- the rules of names and of ways: one layout for the carts -/
theorem same_row {A B : Row} {rule : Nat} (hr : rule ≠ 0) (hA : Right rule A) (hB : Right rule B) (hl : A.length = B.length) (hn : (names A).Perm (names B)) : A = B := by
  obtain ⟨f, hf⟩ := free_of hA.room
  have hfB := free_alike hA.weak hB.weak hl (fun c => hn.mem_iff) hf
  have hfl := get_lt hf
  have hfB' := get_lt hfB
  -- the order of carts, counted from the free stall
  let key : Nat → Nat := fun c => if rule = 2 then wy f (c % A.length) A.length else 0
  have main : ∀ d, ∀ c, key c = d → ∀ a : Nat, A[a]? = some (some c) → B[a]? = some (some c) := by
    intro d
    induction d using Nat.strongRecOn with
    | _ d ihd =>
      intro c
      induction c using Nat.strongRecOn with
      | _ c ihc =>
        intro hd a ha
        have hal := get_lt ha
        obtain ⟨b, hb⟩ := mem_names.mp (hn.mem_iff.mp (mem_names.mpr ⟨a, ha⟩))
        have hbl : b < A.length := by have := get_lt hb; omega
        have hm := Nat.mod_lt c (show 0 < A.length by omega)
        have nfA : ¬ way c f A.length < way c a A.length := fun q => by
          obtain ⟨m, e, _⟩ := hA.pass a c f ha hfl q
          rw [hf] at e; cases e
        have nfB : ¬ way c f A.length < way c b A.length := fun q => by
          obtain ⟨m, e, _⟩ := hB.pass b c f hb (by omega) (by rw [← hl]; exact q)
          rw [hfB] at e; cases e
        -- one who keeps a stall against c comes ahead of it
        have ahead : ∀ (m s : Nat), s < A.length → s ≠ f → ¬ way m f A.length < way m s A.length → keeps rule m c s A.length = true → m ≠ c → ¬ way c f A.length < way c s A.length → key m < d ∨ (key m = d ∧ m < c) := by
          intro m s hs hsf h1 h2 h3 h4
          have hmm := Nat.mod_lt m (show 0 < A.length by omega)
          rw [← hd]
          show (if rule = 2 then _ else 0) < (if rule = 2 then _ else 0) ∨ ((if rule = 2 then _ else 0) = (if rule = 2 then _ else 0) ∧ m < c)
          rw [keeps_cases] at h2
          by_cases h22 : rule = 2
          · subst h22
            rw [if_pos rfl, if_pos rfl]
            have h2' : way c s A.length < way m s A.length ∨ (way m s A.length = way c s A.length ∧ m < c) := by omega
            clear h2 ihd ihc
            unfold way at *
            generalize c % A.length = wc at *
            generalize m % A.length = wm at *
            unfold wy at *
            (repeat' split) <;> (repeat' split at h1) <;> (repeat' split at h4) <;> (repeat' split at h2') <;> omega
          · rw [if_neg h22, if_neg h22]
            omega
        have fin : ∀ (m : Nat), (key m < d ∨ (key m = d ∧ m < c)) → ∀ s : Nat, A[s]? = some (some m) → B[s]? = some (some m) := by
          intro m hk s hs
          rcases hk with q | ⟨q1, q2⟩
          · exact ihd _ q m rfl s hs
          · exact ihc m q2 q1 s hs
        by_cases q1 : way c a A.length < way c b A.length
        · exfalso
          obtain ⟨m, e1, e2⟩ := hB.pass b c a hb (by omega) (by rw [← hl]; exact q1)
          rw [← hl] at e2
          have hmc : m ≠ c := fun z => by
            subst z
            have := names_inj hB.nd e1 hb
            rw [this] at q1
            exact absurd q1 (Nat.lt_irrefl _)
          have haf : a ≠ f := fun z => by rw [z, hf] at ha; cases ha
          have nfm : ¬ way m f A.length < way m a A.length := fun q => by
            obtain ⟨m', e, _⟩ := hB.pass a m f e1 (by omega) (by rw [← hl]; exact q)
            rw [hfB] at e; cases e
          obtain ⟨a', ha'⟩ := mem_names.mp (hn.mem_iff.mpr (mem_names.mpr ⟨a, e1⟩))
          have h1 := fin m (ahead m a hal haf nfm e2 hmc nfA) a' ha'
          have h2 := names_inj hB.nd h1 e1
          subst h2
          rw [ha] at ha'
          cases ha'
          exact hmc rfl
        · by_cases q2 : way c b A.length < way c a A.length
          · exfalso
            obtain ⟨m, e1, e2⟩ := hA.pass a c b ha hbl q2
            have hmc : m ≠ c := fun z => by
              subst z
              have := names_inj hA.nd e1 ha
              rw [this] at q2
              exact absurd q2 (Nat.lt_irrefl _)
            have hbf : b ≠ f := fun z => by rw [z, hfB] at hb; cases hb
            have nfm : ¬ way m f A.length < way m b A.length := fun q => by
              obtain ⟨m', e, _⟩ := hA.pass b m f e1 hfl q
              rw [hf] at e; cases e
            have h1 := fin m (ahead m b hbl hbf nfm e2 hmc nfB) b e1
            rw [hb] at h1
            cases h1
            exact hmc rfl
          · have : a = b := way_inj hal hbl (c := c) (by omega)
            rw [this]; exact hb
  exact row_ext hl hn (fun a c h => main _ c rfl a h) hA.nd

/-! ### the sum of all ways -/
def stepsF (n : Nat) : Nat → Row → Nat
  | _, [] => 0
  | a, none :: r => stepsF n (a + 1) r
  | a, some c :: r => way c a n + stepsF n (a + 1) r
def stepsR (row : Row) : Nat := stepsF row.length 0 row
def farF (n f : Nat) : Nat → List Bool → Nat
  | _, [] => 0
  | a, true :: r => farF n f (a + 1) r
  | a, false :: r => wy f a n + farF n f (a + 1) r
theorem steps_far {n f : Nat} (hf : f < n) : ∀ (row : Row) (a : Nat), a + row.length = n → (∀ i c : Nat, row[i]? = some (some c) → ¬ way c f n < way c (a + i) n ∧ a + i ≠ f) →
    stepsF n a row + ((names row).map (fun c => wy f (c % n) n)).sum = farF n f a (row.map (·.isNone))
  | [], a, _, _ => rfl
  | none :: r, a, hl, h => by
    rw [names_cons_none, stepsF, List.map_cons]
    exact steps_far hf r (a + 1) (by rw [List.length_cons] at hl; omega) fun i c e => by
      have := h (i + 1) c (by simpa using e)
      rw [show a + 1 + i = a + (i + 1) by omega]
      exact this
  | some c :: r, a, hl, h => by
    rw [names_cons_some, stepsF, List.map_cons, List.sum_cons, List.map_cons]
    rw [List.length_cons] at hl
    have ih := steps_far hf r (a + 1) (by omega) fun i c e => by
      have := h (i + 1) c (by simpa using e)
      rw [show a + 1 + i = a + (i + 1) by omega]
      exact this
    show _ = wy f a n + farF n f (a + 1) _
    rw [← ih]
    have h0 := h 0 c rfl
    have : way c a n + wy f (c % n) n = wy f a n := by
      obtain ⟨h1, h2⟩ := h0
      have hm := Nat.mod_lt c (show 0 < n by omega)
      unfold way at *
      generalize c % n = w at *
      unfold wy at *
      (repeat' split) <;> (repeat' split at h1) <;> omega
    omega
theorem steps_alike {A B : Row} {r r' : Nat} (hA : Right r A) (hB : Right r' B) (hl : A.length = B.length) (hn : (names A).Perm (names B)) : stepsR A = stepsR B := by
  obtain ⟨f, hf⟩ := free_of hA.room
  have hfB := free_alike hA.weak hB.weak hl (fun c => hn.mem_iff) hf
  have hfl := get_lt hf
  have hfB' := get_lt hfB
  have e1 := steps_far (n := A.length) hfl A 0 (by omega) fun i c e => by
    rw [Nat.zero_add]
    refine ⟨fun q => ?_, fun q => ?_⟩
    · obtain ⟨m, z, _⟩ := hA.pass i c f e hfl q
      rw [hf] at z; cases z
    · rw [q, hf] at e; cases e
  have e2 := steps_far (n := B.length) hfB' B 0 (by omega) fun i c e => by
    rw [Nat.zero_add]
    refine ⟨fun q => ?_, fun q => ?_⟩
    · obtain ⟨m, z, _⟩ := hB.pass i c f e hfB' q
      rw [hfB] at z; cases z
    · rw [q, hfB] at e; cases e
  have e3 := taken_alike hA hB hl hn
  have e4 : ((names A).map (fun c => wy f (c % A.length) A.length)).sum = ((names B).map (fun c => wy f (c % B.length) B.length)).sum := by
    rw [hl]
    exact (hn.map _).sum_nat
  rw [e3] at e1
  unfold stepsR
  rw [hl] at e1 ⊢
  rw [hl] at e4
  omega
end SY

namespace L2
open PySem PySem.Spec PyProof.Rows
/-! ### rules of our own -/
section
variable {X : Cx} {CX : CXT} {k : Nat} {f C : Addr} {fd : FuncData} {ps : List Str} {sp : Sp} {E : St → XK} {x m : Str} {p pos apos : Pos} {e o : Expr} {es : List Expr} {ta : TE} {t : TA}
/-- o.m(e, ..) where what it raises is wished for at the caller's slots -/
def tMethW (C : Addr) (m : Str) (sp : Sp) (E : St → XK) (ta : TE) (t : TA) : TE := fun σ H Q => ta σ H fun x H1 => ∃ a dx fs, x = .ref a ∧ H1 a = some (.ins C dx fs) ∧ fs.lookup m = none ∧
  t σ H1 fun vs H2 => sp (x :: vs) H2 Q (E σ)
theorem pe_methW {pl : Sem Bool} (he : PE X o ta) (c : Cls X.K C) (hm : Meth X.K C m f) (F : FnOk X.prog X.w X.K X.mg X.base CX k f fd ps sp) (hr : Room k X.A) (hb : Binds X.K fd ps []) (hx : ∀ σ, PassesAt CX X σ (E σ)) (ha : PA X (e :: es) t)
    (hst : starEach (e :: es) X.env = (false, eval e X.env) :: starEach es X.env := by rfl) (hpl : (backTo pos (starEach es X.env)).any (·.1) = false := by rfl)
    (ht : eval (.Call (.Attribute o m apos) (e :: es) [] pos) X.env = (do
      let ov ← eval o X.env
      standAt apos.atName
      let (f, first) ← holding [ov] (getMethod ov m pl)
      callWith pos f first (backTo pos (starEach (e :: es) X.env)) (backToKw pos (keywordEach [] X.env))) := by rfl) :
    PE X (.Call (.Attribute o m apos) (e :: es) [] pos) (tMethW C m sp E ta t) := by
  refine ⟨fun pins s σ H Q I h => ?_⟩
  refine PySem.W.methodCall_KW (pl := pl) (thn (he.run pins s σ H _ I h) fun u s1 ⟨x, H1, I1, rx, a, dx, fs, ex, ea, l, q⟩ => ?_) ht
  subst ex
  obtain rfl : u = Value.ref a := rx
  refine getmeth_ok I1 ea c hm l ?_
  refine PySem.W.callWith_K (first := [.ref a]) (h₀ := X.base) I.ok.mod.kin hm.kp (thn (ha.run pos pins s1 σ H1 _ I1 q) fun us s2 ⟨vs, H2, I2, r, q2⟩ => ⟨I2.kIn, ?_⟩) hst hpl
  exact run_fnS (us := .ref a :: us) (vs := .ref a :: vs) F hr hb (hx σ) I2 (.cons rfl r) q2
end
section
variable {X : Cx}
/-- xs.count(y), flat values -/
def rCntV (K : PySem.W.Frag) : V → List V → Hp → VK → Prop := fun x xs H Q => ∃ (p : Addr) (ys : List V) (y : V), x = .ref p ∧ xs = [y] ∧ SqL K H p ys ∧ flatV y = true ∧ ys.all flatV = true ∧ Q (.int ((ys.countP fun z => eqV z y) : Nat)) H
theorem eqU_count {y : V} : ∀ {ys : List V} {us : List Value}, Vals ys us → ys.all flatV = true → us.countP (eqU y) = ys.countP fun z => eqV z y
  | _, _, .nil, _ => rfl
  | _, _, .cons (a := z) (b := u) r t, h => by
    rw [List.all_cons, Bool.and_eq_true] at h
    rw [List.countP_cons, List.countP_cons, eqU_count t h.2, eqU_of r h.1]
theorem mt_countV : MtR X "list.count" (rCntV X.K) := by
  intro pins s σ H x xs v us Q I rx rxs h
  obtain ⟨p, ys, y, rfl, rfl, hs, fy, fa, q⟩ := h
  cases rx
  obtain ⟨u, rfl, ru⟩ := rxs.one
  obtain ⟨its, rv, ⟨⟨cls, dd, data, sl⟩, n, ho, hc, hdn, hd⟩, hlen⟩ := I.list hs
  simp only at hc hd
  subst hc hd
  refine call_meets PySem.F.slot_list_count ⟨_, ho, rfl⟩ PySem.F.entry_list_count (PySem.F.args_list_count_2 _ _)
    (SeqAt.list_countAt p its.toArray n dd sl u (eqU y)) ⟨ho, fun z hz => mem_eqAt ru fy rv fa z (by simpa using hz), ?_⟩
  have ec : its.toArray.toList.countP (eqU y) = ys.countP fun z => eqV z y := eqU_count rv fa
  refine ⟨.int ((ys.countP fun z => eqV z y) : Nat), H, I.tok _, ⟨s.toks, ?_⟩, q⟩
  show Value.int ((its.toArray.toList.countP (eqU y) : Nat) : Int) s.toks = Value.int (((ys.countP fun z => eqV z y) : Nat) : Int) s.toks
  rw [ec]
/-- a module's number, its text -/
theorem pe_globI {x : Str} {i : Int} {pos : Pos} (hg : Gl X x) (hm : ∃ t, X.mg x = some (.int i t)) (hd : (x == ("__debug__" : Str)) = false := by decide) : PE X (.Name x pos) (tC (.int i)) :=
  let ⟨_, e⟩ := hm
  pe_glob hg e ⟨_, rfl⟩ hd
theorem pe_globS {x : Str} {z : Str} {pos : Pos} (hg : Gl X x) (hm : ∃ t, X.mg x = some (.str z t)) (hd : (x == ("__debug__" : Str)) = false := by decide) : PE X (.Name x pos) (tC (.str z)) :=
  let ⟨_, e⟩ := hm
  pe_glob hg e ⟨_, rfl⟩ hd
end
/-- an own error class without an __init__ -/
structure ExO (K : PySem.W.Frag) (mg : Str → Option Value) (x : Str) (C : Addr) : Prop where
  g : mg x = some (.ref C)
  ex : PySem.W.excIn K C [.type "ValueError", .type "Exception", .type "BaseException", .type "object"] "ValueError.__new__" = true
  kp : PySem.W.keepIn K (.ref C) = true
  b : PySem.W.subIn K (.ref C) (.type "BaseException") = some true
  t : PySem.W.typeIn K (.ref C) = some (.type "type")
def tRaiseO (C : Addr) (E : XK) : TS := fun _ _ H => E (.ref C) none H
theorem ps_raiseO {X : Cx} {E : XK} {C : Addr} {x m : Str} {j : Nat} {p p2 pos pos2 : Pos} (hc : X.calm = true) (tk : Takes X (fun cls d _ H => E cls d H)) (T : ExO X.K X.mg x C) (hg : Gl X x) (hdb : (x == ("__debug__" : Str)) = false := by decide) :
    PS X (.Raise (some (.Call (.Name x p) [.Constant (.str m) j p2] [] pos)) none pos2) (tRaiseO C E) :=
  ps_raise hc tk (pmk_own PySem.F.excBase_ValueError T.ex T.g T.kp (raises_own T.b T.t) hg hdb)
theorem passX {X : Cx} {E : XK} (tk : Takes X (fun cls d _ H => E cls d H)) : Passes (L2.CX X.prog X.w) X E := passes_call tk fun _ _ _ _ h => h
theorem units0_of {A : Around} {k : Nat} (hr : Room k A) : A.units < cLine := hr.units0
theorem units64 {A : Around} {k : Nat} (hr : Room k A) : A.units + 64 < cLine := hr.units
/-- isinstance(e, C), e the error that the suite holds -/
def rIsX (K : PySem.W.Frag) (cls : Value) (d : Option Addr) (a : Addr) : List V → Hp → VK → Prop := fun xs H Q => ∃ D, cls = .ref D ∧ d = none ∧ ExcC K D ∧ rIsE K D a xs H Q
theorem call_isX {X : Cx} {a : Addr} {cls : Value} {d : Option Addr} {oe : Obj} {pn : List (Addr × Obj)} (hz : Zc cls d oe) (hf : ∃ vs, oe.data = .fields vs) : CallR (X.suite a ((a, oe) :: pn)) (.builtin "isinstance") (rIsX X.K cls d a) := by
  intro pins s σ H xs us Q I r h
  obtain ⟨D, rfl, rfl, C, h⟩ := h
  exact call_isE C hz hf pins s σ H xs us Q I r h
def tTryO (K : PySem.W.Frag) (C : Addr) (i : Nat) (tb : WX → TS) (ts : Addr → Value → Option Addr → TS) : TS := fun D σ H => tb (wAs K (.ref C) i ts (fun _ _ _ _ => False) D) D σ H
theorem ps_tryO {X : Cx} {i : Nat} {x n : Str} {C : Addr} {body suite : List Stmt} {b₀ : Stmt} {np pos pos' : Pos} {tb : WX → TS} {ts : Addr → Value → Option Addr → TS} (T : X.mg x = some (.ref C)) (hg : Gl X x) (hs : X.stack = X.env :: X.outer) (hf : X.env.frame = some X.env.locals) (hN : X.N.Nodup) (hi : X.N[i]? = some n) (hln : X.env.kindOf n = some .local)
    (hb : ∀ (W : WX) (pn : List (Addr × Obj)) (xe : Value → Shared → Prop), Takes (X.tr pn xe) W → PassesOwn (model X.prog X.w) X.A X.env xe → PSs (X.tr pn xe) body (tb W))
    (hsu : ∀ (a : Addr) (oe : Obj) (cls : Value) (d : Option Addr) (pn : List (Addr × Obj)), Zc cls d oe → (∃ vs, oe.data = .fields vs) → PSs (X.suite a ((a, oe) :: pn)) (b₀ :: suite) (ts a cls d)) (hdb : (x == ("__debug__" : Str)) = false := by decide) :
    PS X (.Try body [.ExceptHandler (some (.Name x np)) (some n) (b₀ :: suite) pos'] [] [] pos) (tTryO X.K C i tb ts) :=
  ps_try_as hs hf hN hi hln ⟨hg, hdb, .inl T⟩ takes0 hb hsu
end L2

namespace SY
open PySem L2 Evl
/-! ### short names of what operators ask -/
abbrev rAddI : R2 := rI0 fun i j => .int (i + j)
abbrev rSubI : R2 := rI0 fun i j => .int (i - j)
abbrev rMulI : R2 := rI CMul fun i j => .int (i * j)
abbrev rModI : R2 := rI (fun _ j => 0 < j) fun i j => .int (i % j)
abbrev rDivI : R2 := rI CDiv fun i j => .int (i / j)
abbrev rPowI : R2 := rI CPow fun i j => .int (i ^ j.toNat)
abbrev rLtI : R2 := rI0 fun i j => .bl (decide (i < j))
abbrev rLeI : R2 := rI0 fun i j => .bl (decide (i ≤ j))
abbrev rGtI : R2 := rI0 fun i j => .bl (decide (j < i))
abbrev rGeI : R2 := rI0 fun i j => .bl (decide (j ≤ i))
abbrev rNegI : V → Hp → VK → Prop := rU fun i => .int (-i)
abbrev rLenL (K : PySem.W.Frag) : List V → Hp → VK → Prop := fun xs H Q => ∃ p ys, xs = [.ref p] ∧ (SqL K H p ys ∨ SqT K H p ys) ∧ Q (.int ys.length) H
abbrev rListL (K : PySem.W.Frag) : List V → Hp → VK → Prop := fun xs H Q => ∃ p ys, xs = [.ref p] ∧ (SqL K H p ys ∨ SqT K H p ys) ∧ ∀ l, H l = none → Q (.ref l) (upd H l (.lst ys))
/-- where the classes and the texts of the top stand -/
structure Ad where
  Y : Addr
  B : Addr
  YardError : Addr
  NoSize : Addr
  Here : Addr
  Full : Addr
  NoCart : Addr
  NotLaid : Addr
  Unlike : Addr
  NotRead : Addr
  WORDS : Addr

/-! ### values -/
def oV : Option Nat → V
  | none => .non
  | some n => .int (n : Int)
def rowV (row : Row) : List V := row.map oV
def nV (n : Nat) : V := .int (n : Int)
theorem rowV_len (row : Row) : (rowV row).length = row.length := List.length_map ..
theorem rowV_get {row : Row} {a : Nat} {o : Option Nat} (h : row[a]? = some o) : (rowV row)[a]? = some (oV o) := by
  unfold rowV
  rw [List.getElem?_map, h]
  rfl
theorem rowV_set (row : Row) (a : Nat) (o : Option Nat) : (rowV row).set a (oV o) = rowV (row.set a o) := by
  unfold rowV
  rw [List.map_set]
theorem flat_oV (o : Option Nat) : flatV (oV o) = true := by cases o <;> rfl
theorem flat_rowV (row : Row) : (rowV row).all flatV = true := by
  unfold rowV
  rw [List.all_map]
  exact List.all_eq_true.mpr fun x _ => flat_oV x
theorem eqV_oV (o p : Option Nat) : eqV (oV o) (oV p) = decide (o = p) := by
  cases o <;> cases p <;> first
    | rfl
    | (rename_i i j
       show ((i : Int) == (j : Int)) = decide (some i = some j)
       by_cases h : i = j
       · subst h; simp
       · have : ¬ ((i : Int) = (j : Int)) := by omega
         simp [h, this])
theorem oV_eq (o p : Option Nat) : decide (oV o = oV p) = decide (o = p) := by
  cases o with
  | none =>
    cases p with
    | none => rfl
    | some j => rfl
  | some i =>
    cases p with
    | none => rfl
    | some j =>
      by_cases h : i = j
      · subst h; simp
      · have h1 : ¬ ((i : Int) = (j : Int)) := by omega
        have h2 : ¬ oV (some i) = oV (some j) := fun e => h1 (V.int.inj e)
        rw [decide_eq_false h2, decide_eq_false (fun e => h (Option.some.inj e))]
theorem scal_oV (o p : Option Nat) : scal (oV o) (oV p) = true := by cases o <;> cases p <;> rfl
theorem count_rowV (row : Row) : (rowV row).countP (fun z => eqV z (oV none)) = row.count none := by
  unfold rowV
  rw [List.countP_map, List.count_eq_countP]
  refine List.countP_congr fun o _ => ?_
  show eqV (oV o) (oV none) = true ↔ (o == none) = true
  rw [eqV_oV]
  simp
theorem in_rowV (row : Row) (c : Nat) : inV (nV c) (rowV row) = decide (c ∈ names row) := by
  unfold inV rowV
  rw [List.any_map]
  by_cases h : c ∈ names row
  · rw [decide_eq_true h]
    obtain ⟨a, ha⟩ := mem_names.mp h
    refine List.any_eq_true.mpr ⟨some c, List.mem_of_getElem? ha, ?_⟩
    show eqV (oV (some c)) (oV (some c)) = true
    rw [eqV_oV]; simp
  · rw [decide_eq_false h]
    refine Bool.eq_false_iff.mpr fun e => h ?_
    obtain ⟨o, ho, e⟩ := List.any_eq_true.mp e
    have e : eqV (oV o) (oV (some c)) = true := e
    rw [eqV_oV] at e
    have := of_decide_eq_true e
    subst this
    obtain ⟨a, ha⟩ := List.mem_iff_getElem?.mp ho
    exact mem_names.mpr ⟨a, ha⟩

/-! ### a yard as it stands -/
theorem f_mr : ¬ (("many" : Str) = "rule") := by decide +kernel
theorem f_mw : ¬ (("many" : Str) = "row") := by decide +kernel
theorem f_rw : ¬ (("rule" : Str) = "row") := by decide +kernel
def yf (n rule : Nat) (r : Addr) : List (Str × V) := putF "row" (.ref r) (putF "rule" (nV rule) (putF "many" (nV n) []))
theorem yf_many (n rule : Nat) (r : Addr) : (yf n rule r).lookup ("many" : Str) = some (nV n) := by
  unfold yf
  rw [lookup_putF, if_neg f_mw, lookup_putF, if_neg f_mr, lookup_putF, if_pos rfl]
theorem yf_rule (n rule : Nat) (r : Addr) : (yf n rule r).lookup ("rule" : Str) = some (nV rule) := by
  unfold yf
  rw [lookup_putF, if_neg f_rw, lookup_putF, if_pos rfl]
theorem yf_row (n rule : Nat) (r : Addr) : (yf n rule r).lookup ("row" : Str) = some (.ref r) := by
  unfold yf
  rw [lookup_putF, if_pos rfl]
theorem yf_no (n rule : Nat) (r : Addr) {m : Str} (h1 : ¬ m = "row") (h2 : ¬ m = "rule") (h3 : ¬ m = "many") : (yf n rule r).lookup m = none := by
  unfold yf
  rw [lookup_putF, if_neg h1, lookup_putF, if_neg h2, lookup_putF, if_neg h3]
  rfl
/-- the class Yard as the top has made it -/
structure YFc (K : PySem.W.Frag) (a : Ad) : Prop where
  cl : Cls K a.Y
  nM : NoAttr K a.Y "many"
  nR : NoAttr K a.Y "rule"
  nW : NoAttr K a.Y "row"
def YardAt (a : Ad) (H : Hp) (p r : Addr) (n rule : Nat) : Prop := ∃ dx, H p = some (.ins a.Y dx (yf n rule r))
def RowAt (H : Hp) (r : Addr) (row : Row) : Prop := H r = some (.lst (rowV row))
/-- a yard at p, its list at r, with that many stalls, that rule, that layout -/
structure YR (a : Ad) (H : Hp) (p r : Addr) (rule : Nat) (row : Row) : Prop where
  y : YardAt a H p r row.length rule
  w : RowAt H r row
  le : row.length ≤ 200
theorem YR.ex {a : Ad} {H H' : Hp} {p r : Addr} {rule : Nat} {row : Row} (h : YR a H p r rule row) (e : Ex H H') : YR a H' p r rule row :=
  let ⟨dx, h1⟩ := h.y
  ⟨⟨dx, e _ _ h1⟩, e _ _ h.w, h.le⟩
/-- all but r is as it was -/
def But (r : Addr) (H H' : Hp) : Prop := ∀ b o, b ≠ r → H b = some o → H' b = some o
theorem But.refl {r : Addr} {H : Hp} : But r H H := fun _ _ _ h => h
theorem But.trans {r : Addr} {H H1 H2 : Hp} (a : But r H H1) (b : But r H1 H2) : But r H H2 := fun c o n h => b c o n (a c o n h)
theorem But.of {r : Addr} {H H' : Hp} (e : Ex H H') : But r H H' := fun b o _ h => e b o h
theorem But.upd {r : Addr} {H : Hp} {o : HO} : But r H (upd H r o) := fun b u n h => by rw [upd_ne n]; exact h
theorem But.free {r b : Addr} {H H' : Hp} (h : But r H H') (n : b ≠ r) (e : H' b = none) : H b = none := by
  cases q : H b with
  | none => rfl
  | some o => rw [h b o n q] at e; cases e
theorem YR.ne {a : Ad} {H : Hp} {p r : Addr} {rule : Nat} {row : Row} (h : YR a H p r rule row) : p ≠ r :=
  let ⟨_, h1⟩ := h.y
  ne_of h1 h.w (by intro z; cases z)
theorem YR.but {a : Ad} {H H' : Hp} {p r : Addr} {rule : Nat} {row row' : Row} (h : YR a H p r rule row) (e : But r H H') (hl : row'.length = row.length) (hw : RowAt H' r row') : YR a H' p r rule row' :=
  let ⟨dx, h1⟩ := h.y
  ⟨⟨dx, by rw [hl]; exact e _ _ h.ne h1⟩, hw, by rw [hl]; exact h.le⟩
/-- another list is written: the yard stays -/
theorem YR.stay {a : Ad} {H H' : Hp} {p r q : Addr} {rule : Nat} {row : Row} (h : YR a H p r rule row) (e : But q H H') (n1 : p ≠ q) (n2 : r ≠ q) : YR a H' p r rule row :=
  let ⟨dx, h1⟩ := h.y
  ⟨⟨dx, e _ _ n1 h1⟩, e _ _ n2 h.w, h.le⟩

/-! ### what expressions are worth -/
section
variable {K : PySem.W.Frag} {a : Ad} {σ : L2.St} {H H' : Hp} {ta tb te tx : TE} {t u : TT} {x y z v : V} {r : R2} {p q C dx : Addr} {fs : List (Str × V)} {m : Str} {args : TA} {vs xs : List V} {sp : Sp} {E : XK}
theorem ev_fld {f : Str} (h : Ev ta σ H (.ref p)) (hp : H p = some (.ins C dx fs)) (c : Cls K C) (n : NoAttr K C f) (l : fs.lookup f = some v) : Ev (tFld K ta f) σ H v := fun H1 e Q q =>
  h H1 e _ fun H2 e2 => ⟨p, C, dx, fs, v, rfl, e2 _ _ (e _ _ hp), c, n, l, q H2 e2⟩
theorem ev_many {n rule : Nat} (h : Ev ta σ H (.ref p)) (Y : YardAt a H p q n rule) (F : YFc K a) : Ev (tFld K ta "many") σ H (.int (n : Int)) := let ⟨_, hp⟩ := Y; ev_fld h hp F.cl F.nM (yf_many _ _ _)
theorem ev_rule {n rule : Nat} (h : Ev ta σ H (.ref p)) (Y : YardAt a H p q n rule) (F : YFc K a) : Ev (tFld K ta "rule") σ H (.int (rule : Int)) := let ⟨_, hp⟩ := Y; ev_fld h hp F.cl F.nR (yf_rule _ _ _)
theorem ev_row {n rule : Nat} (h : Ev ta σ H (.ref p)) (Y : YardAt a H p q n rule) (F : YFc K a) : Ev (tFld K ta "row") σ H (.ref q) := let ⟨_, hp⟩ := Y; ev_fld h hp F.cl F.nW (yf_row _ _ _)
theorem ev_meth (h : Ev ta σ H (.ref p)) (hp : H p = some (.ins C dx fs)) (l : fs.lookup m = none) (ha : EvA args σ H vs) (hs : SpV sp (.ref p :: vs) H z) : Ev (tMeth C m sp [] E ta args) σ H z := fun H1 e Q q =>
  h H1 e _ fun H2 e2 => ⟨p, dx, fs, rfl, e2 _ _ (e _ _ hp), l, ha H2 (e.trans e2) _ fun H3 e3 => by
    rw [List.append_nil]
    exact hs H3 ((e.trans e2).trans e3) Q (fun H4 e4 => q H4 ((e2.trans e3).trans e4)) E⟩
theorem el_meth (h : Ev ta σ H (.ref p)) (hp : H p = some (.ins C dx fs)) (l : fs.lookup m = none) (ha : EvA args σ H vs) (hs : SpL sp (.ref p :: vs) H xs) : EvL (tMeth C m sp [] E ta args) σ H xs := fun H1 e Q q =>
  h H1 e _ fun H2 e2 => ⟨p, dx, fs, rfl, e2 _ _ (e _ _ hp), l, ha H2 (e.trans e2) _ fun H3 e3 => by
    rw [List.append_nil]
    exact hs H3 ((e.trans e2).trans e3) Q (fun p' H4 hp' e4 h4 => q p' H4 (fresh_back (e2.trans e3) hp') ((e2.trans e3).trans e4) h4) E⟩
theorem ev_ym {n rule : Nat} (h : Ev ta σ H (.ref p)) (Y : YardAt a H p q n rule) (h1 : ¬ m = "row") (h2 : ¬ m = "rule") (h3 : ¬ m = "many") (ha : EvA args σ H vs) (hs : SpV sp (.ref p :: vs) H z) : Ev (tMeth a.Y m sp [] E ta args) σ H z :=
  let ⟨_, hp⟩ := Y; ev_meth h hp (yf_no _ _ _ h1 h2 h3) ha hs
theorem el_ym {n rule : Nat} (h : Ev ta σ H (.ref p)) (Y : YardAt a H p q n rule) (h1 : ¬ m = "row") (h2 : ¬ m = "rule") (h3 : ¬ m = "many") (ha : EvA args σ H vs) (hs : SpL sp (.ref p :: vs) H xs) : EvL (tMeth a.Y m sp [] E ta args) σ H xs :=
  let ⟨_, hp⟩ := Y; el_meth h hp (yf_no _ _ _ h1 h2 h3) ha hs
theorem ev_callE {dvs : List V} (h : EvA args σ H vs) (hs : SpV sp vs H z) : Ev (tCall sp [] E args) σ H z := ev_call h (by rw [List.append_nil]; exact hs)
theorem el_callE (h : EvA args σ H vs) (hs : SpL sp vs H xs) : EvL (tCall sp [] E args) σ H xs := el_call h (by rw [List.append_nil]; exact hs)
theorem spV_of (h : ∀ H1, Ex H H1 → ∀ (Q : VK) (E : XK), Q z H1 → sp vs H1 Q E) : SpV sp vs H z := fun H1 e Q q E => h H1 e Q E (q H1 (Ex.refl H1))
theorem Dp.int' {i : Int} : Dp K H (.int i) (.int i) := Dp.int i
theorem ev_isN (h : Ev ta σ H x) : Ev (tIsN ta) σ H (.bl (decide (x = .non))) := fun H1 e Q q => h H1 e _ fun H2 e2 => q H2 e2
theorem ev_notN (h : Ev ta σ H x) : Ev (tNotN ta) σ H (.bl (!decide (x = .non))) := fun H1 e Q q => h H1 e _ fun H2 e2 => q H2 e2
theorem ev_isi {tc : TE} {c : V} {tv u : Value} {b : Bool} (h : Ev ta σ H x) (hc : Ev tc σ H c) (k : ClsV c u) (ty : ∀ H1, Ex H H1 → TyX K H1 x tv) (e : PySem.W.kitOne K tv u = some b) : Ev (tCB (rIsi K) (tCons ta (tCons tc tNil))) σ H (.bl b) :=
  ev_cb (ea_cons h (ea_cons hc ea_nil)) fun H1 e1 Q q => ⟨x, c, tv, u, b, rfl, k, ty H1 e1, e, q H1 (Ex.refl H1)⟩
theorem rv_ixR {row : Row} {i : Nat} {o : Option Nat} (h : RowAt H p row) (hi : row[i]? = some o) : RV (rIxL K) (.ref p) (.int (i : Int)) H (oV o) := rv_ixL (SqL.of h) (atI_nat (rowV_get hi))
theorem ev_len' (h : Ev ta σ H (.ref p)) (hx : SqL K H p xs) : Ev (tCB (rLenL K) (tCons ta tNil)) σ H (.int (xs.length : Int)) := ev_len h hx
theorem ev_lenT (h : Ev ta σ H (.ref p)) (hx : SqT K H p xs) : Ev (tCB (rLenL K) (tCons ta tNil)) σ H (.int (xs.length : Int)) := fun H1 e Q q =>
  h H1 e _ fun H2 e2 => ⟨p, xs, rfl, Or.inr (ex_t (e.trans e2) hx), q H2 e2⟩
theorem ev_count {row : Row} (h : Ev ta σ H (.ref p)) (hr : RowAt H p row) : Ev (tBM K "list" (rCntV K) ta (tCons (tC .non) tNil)) σ H (.int ((row.count none : Nat) : Int)) := fun H1 e Q q =>
  h H1 e _ fun H2 e2 => ⟨Or.inl ⟨rfl, _, SqL.of (e2 _ _ (e _ _ hr))⟩, ⟨p, rowV row, oV none, rfl, rfl, SqL.of (e2 _ _ (e _ _ hr)), rfl, flat_rowV row, by rw [count_rowV]; exact q H2 e2⟩⟩
theorem ev_cnt {ys : List V} (h : Ev ta σ H (.ref p)) (hs : SqL K H p ys) (ho : Ev tx σ H y) (fy : flatV y = true) (fa : ys.all flatV = true) : Ev (tBM K "list" (rCntV K) ta (tCons tx tNil)) σ H (.int (((ys.countP fun z => eqV z y) : Nat) : Int)) := fun H1 e Q q =>
  h H1 e _ fun H2 e2 => ⟨Or.inl ⟨rfl, _, ex_l (e.trans e2) hs⟩, ho H2 (e.trans e2) _ fun H3 e3 => ⟨p, ys, y, rfl, rfl, ex_l ((e.trans e2).trans e3) hs, fy, fa, q H3 (e2.trans e3)⟩⟩
/-! whole numbers -/
theorem rv_add {i j : Int} : RV rAddI (.int i) (.int j) H (.int (i + j)) := rv_I0
theorem rv_sub {i j : Int} : RV rSubI (.int i) (.int j) H (.int (i - j)) := rv_I0
theorem rv_mod {i j : Int} (h : 0 < j) : RV rModI (.int i) (.int j) H (.int (i % j)) := rv_I h
theorem rv_div {i j : Int} (h : 0 < j ∧ j < 1073741824) : RV rDivI (.int i) (.int j) H (.int (i / j)) := rv_I (C := CDiv) h
theorem rv_mulL {i j : Int} (h : -(2 ^ 64) < i ∧ i < 2 ^ 64) : RV rMulI (.int i) (.int j) H (.int (i * j)) := rv_I (C := CMul) (Or.inl h)
theorem rv_mulR {i j : Int} (h : -(2 ^ 64) < j ∧ j < 2 ^ 64) : RV rMulI (.int i) (.int j) H (.int (i * j)) := rv_I (C := CMul) (Or.inr h)
theorem rv_pow10 {j : Int} (h : 0 ≤ j ∧ j ≤ 1000) : RV rPowI (.int 10) (.int j) H (.int (10 ^ j.toNat)) := rv_I (C := CPow) ⟨h.1, by omega, by decide⟩
theorem rv_lt {i j : Int} : RV rLtI (.int i) (.int j) H (.bl (decide (i < j))) := rv_I0
theorem rv_le {i j : Int} : RV rLeI (.int i) (.int j) H (.bl (decide (i ≤ j))) := rv_I0
theorem rv_gt {i j : Int} : RV rGtI (.int i) (.int j) H (.bl (decide (j < i))) := rv_I0
theorem rv_ge {i j : Int} : RV rGeI (.int i) (.int j) H (.bl (decide (j ≤ i))) := rv_I0
theorem rv_eqI {i j : Int} : RV rEq (.int i) (.int j) H (.bl (decide (i = j))) := by
  have h := rv_eq (H := H) (x := .int i) (y := .int j) rfl
  have e : decide (V.int i = V.int j) = decide (i = j) := by rw [dec_int]; exact Bool.beq_eq_decide_eq _ _
  rw [e] at h; exact h
theorem rv_neI {i j : Int} : RV rNe (.int i) (.int j) H (.bl (!decide (i = j))) := by
  have h := rv_ne (H := H) (x := .int i) (y := .int j) rfl
  have e : decide (V.int i = V.int j) = decide (i = j) := by rw [dec_int]; exact Bool.beq_eq_decide_eq _ _
  rw [e] at h; exact h
theorem rv_eqO {o c : Option Nat} : RV rEq (oV o) (oV c) H (.bl (decide (o = c))) := by
  have h := rv_eq (H := H) (scal_oV o c)
  rw [oV_eq] at h; exact h
theorem bl_is {b c : Bool} (h : Ev te σ H (.bl b)) (e : b = c) : Ev te σ H (.bl c) := by rw [← e]; exact h
theorem int_is {i j : Int} (h : Ev te σ H (.int i)) (e : i = j) : Ev te σ H (.int j) := by rw [← e]; exact h
end
end SY

namespace SY
open PySem L2 Evl
/-! ### the promises of the program's defs -/
def sp_way (K : PySem.W.Frag) (a : Ad) : Sp := fun vs H Q _ => ∃ (c s n : Nat), vs = [nV c, nV s, nV n] ∧ s < n ∧ Q (nV (way c s n)) H
def sp_keeps (K : PySem.W.Frag) (a : Ad) : Sp := fun vs H Q _ => ∃ (rule c m s n : Nat), vs = [nV rule, nV c, nV m, nV s, nV n] ∧ s < n ∧ ∀ H', Ex H H' → Q (.bl (keeps rule c m s n)) H'
def sp_Yard__init_ (K : PySem.W.Frag) (a : Ad) : Sp := fun vs H Q E => ∃ (p dx : Addr) (many : Int) (rule : Nat), vs = [.ref p, .int many, nV rule] ∧ H p = some (.ins a.Y dx []) ∧
  ((many < 2 ∨ 200 < many) → ∀ H', Ex H H' → E (.ref a.NoSize) none H') ∧
  (¬ (many < 2 ∨ 200 < many) → ∀ (r : Addr) (H' : Hp), H r = none → But p H H' → YR a H' p r rule (List.replicate many.toNat none) → Q .non H')
def sp_Yard_goes_on (K : PySem.W.Frag) (a : Ad) : Sp := fun vs H Q _ => ∃ (p r : Addr) (rule : Nat) (row : Row) (c s : Nat), vs = [.ref p, nV c, nV s] ∧ YR a H p r rule row ∧ s < row.length ∧ ∀ H', Ex H H' → Q (.bl (goesOn rule row c s)) H'
def sp_Yard_looked (K : PySem.W.Frag) (a : Ad) : Sp := fun vs H Q _ => ∃ (p r : Addr) (rule : Nat) (row : Row) (c : Nat), vs = [.ref p, nV c] ∧ YR a H p r rule row ∧ (names row).length < row.length ∧ RetL ((lookR rule row c).map nV) H Q
def sp_Yard_where (K : PySem.W.Frag) (a : Ad) : Sp := fun vs H Q _ => ∃ (p r : Addr) (rule : Nat) (row : Row) (c : Nat), vs = [.ref p, nV c] ∧ YR a H p r rule row ∧ (names row).length < row.length ∧ RetV (oV (whereR rule row c)) H Q
/-- the tuples (name, stall) that stand at the addresses ts -/
def Tups (H : Hp) : List Addr → List (Nat × Nat) → Prop := Paired fun t x => H t = some (.tup [nV x.1, nV x.2])
theorem Tups.ex {H H' : Hp} : ∀ {ts : List Addr} {xs : List (Nat × Nat)}, Tups H ts xs → Ex H H' → Tups H' ts xs
  | _, _, .nil, _ => .nil
  | _, _, .cons h t, e => .cons (e _ _ h) (Tups.ex t e)
theorem Tups.but {H H' : Hp} {r : Addr} (nr : ∀ xs, H r ≠ some (.tup xs)) : ∀ {ts : List Addr} {xs : List (Nat × Nat)}, Tups H ts xs → But r H H' → Tups H' ts xs
  | _, _, .nil, _ => .nil
  | _, _, .cons (a := t) h tl, e => .cons (e _ _ (fun q => nr _ (q ▸ h)) h) (Tups.but nr tl e)
theorem Tups.app {H : Hp} {t : Addr} {x : Nat × Nat} (h : H t = some (.tup [nV x.1, nV x.2])) : ∀ {ts : List Addr} {xs : List (Nat × Nat)}, Tups H ts xs → Tups H (ts ++ [t]) (xs ++ [x])
  | _, _, .nil => .cons h .nil
  | _, _, .cons h' tl => .cons h' (Tups.app h tl)
/-- what a putting or taking leaves: the yard's list turned, the moves told in a new list -/
def Told (a : Ad) (r : Addr) (out : Row × List (Nat × Nat)) (H : Hp) (Q : VK) : Prop := ∀ (l : Addr) (ts : List Addr) (H' : Hp), H l = none → l ≠ r → But r H H' → RowAt H' r out.1 → H' l = some (.lst (ts.map V.ref)) → Tups H' ts out.2 → Q (.ref l) H'
def sp_Yard_put (K : PySem.W.Frag) (a : Ad) : Sp := fun vs H Q E => ∃ (p r : Addr) (rule : Nat) (row : Row) (c : Nat), vs = [.ref p, nV c] ∧ YR a H p r rule row ∧ Right rule row ∧
  (c ∈ names row → ∀ H', Ex H H' → E (.ref a.Here) none H') ∧ (c ∉ names row → row.length ≤ (names row).length + 1 → ∀ H', Ex H H' → E (.ref a.Full) none H') ∧
  (c ∉ names row → (names row).length + 1 < row.length → Told a r (putR rule row c) H Q)
def sp_Yard_heir (K : PySem.W.Frag) (a : Ad) : Sp := fun vs H Q _ => ∃ (p r : Addr) (rule : Nat) (row : Row) (gap : Nat), vs = [.ref p, nV gap] ∧ YR a H p r rule row ∧ gap < row.length ∧ FreeIn row (nx gap row.length) row.length ∧ RetV (oV (heirF row.length gap row.length row (nx gap row.length))) H Q
def sp_Yard_take (K : PySem.W.Frag) (a : Ad) : Sp := fun vs H Q E => ∃ (p r : Addr) (rule : Nat) (row : Row) (c : Nat), vs = [.ref p, nV c] ∧ YR a H p r rule row ∧ Right rule row ∧
  (c ∉ names row → ∀ H', Ex H H' → E (.ref a.NoCart) none H') ∧ (∀ s, row[s]? = some (some c) → Told a r (takeR row s) H Q)
def sp_Yard_stalls (K : PySem.W.Frag) (a : Ad) : Sp := fun vs H Q _ => ∃ (p r : Addr) (rule : Nat) (row : Row), vs = [.ref p] ∧ YR a H p r rule row ∧ RetL (rowV row) H Q
def sp_Yard_how_many (K : PySem.W.Frag) (a : Ad) : Sp := fun vs H Q _ => ∃ (p r : Addr) (rule : Nat) (row : Row), vs = [.ref p] ∧ YR a H p r rule row ∧ RetV (nV (names row).length) H Q
/-- rising -/
def srt (l : List Nat) : List Nat := l.mergeSort (· ≤ ·)
def sp_Yard_names (K : PySem.W.Frag) (a : Ad) : Sp := fun vs H Q _ => ∃ (p r : Addr) (rule : Nat) (row : Row), vs = [.ref p] ∧ YR a H p r rule row ∧ RetL ((srt (names row)).map nV) H Q
def sp_Yard_steps (K : PySem.W.Frag) (a : Ad) : Sp := fun vs H Q _ => ∃ (p r : Addr) (rule : Nat) (row : Row), vs = [.ref p] ∧ YR a H p r rule row ∧ RetV (nV (stepsR row)) H Q
abbrev N_way : List Str := ["name", "at", "many"]
def t_way (K : PySem.W.Frag) (a : Ad) (E : XK) : TS :=
  (tRet (tOp rModI (tOp rSubI (tVar 1) (tVar 0)) (tVar 2)))
abbrev N_keeps : List Str := ["rule", "one", "other", "at", "many", "own", "its"]
def t_keeps (K : PySem.W.Frag) (a : Ad) (E : XK) : TS :=
  (tSeq (tIfS (tTest (tOp rEq (tVar 0) (tC (.int 0)))) (tRet (tC (.bl true))) tNext)
  (tSeq (tIfS (tTest (tOp rEq (tVar 0) (tC (.int 2)))) (tSeq (tAsg (tCall (sp_way K a) [] E0 (tCons (tVar 1) (tCons (tVar 3) (tCons (tVar 4) tNil)))) (gName 5))
  (tSeq (tAsg (tCall (sp_way K a) [] E0 (tCons (tVar 2) (tCons (tVar 3) (tCons (tVar 4) tNil)))) (gName 6))
  (tIfS (tTest (tOp rNe (tVar 5) (tVar 6))) (tRet (tOp rGtI (tVar 5) (tVar 6))) tNext))) tNext)
  (tRet (tOp rLtI (tVar 1) (tVar 2)))))
abbrev N_Yard__init_ : List Str := ["self", "many", "rule"]
def t_Yard__init_ (K : PySem.W.Frag) (a : Ad) (E : XK) : TS :=
  (tSeq (tIfS (tOr (tTest (tOp rLtI (tVar 1) (tC (.int 2)))) (tTest (tOp rGtI (tVar 1) (tC (.int 200))))) (tRaiseO a.NoSize E) tNext)
  (tSeq (sFld K (tVar 0) (tVar 1) "many")
  (tSeq (sFld K (tVar 0) (tVar 2) "rule")
  (sFld K (tVar 0) (tOp rRep (tLst (tCons (tC .non) tNil)) (tVar 1)) "row"))))
abbrev N_Yard_goes_on : List Str := ["self", "name", "at", "found"]
def t_Yard_goes_on (K : PySem.W.Frag) (a : Ad) (E : XK) : TS :=
  (tSeq (tAsg (tOp (rIxL K) (tFld K (tVar 0) "row") (tVar 2)) (gName 3))
  (tSeq (tIfS (tOr (tB (tIsN (tVar 3))) (tTest (tOp rEq (tVar 3) (tVar 1)))) (tRet (tC (.bl false))) tNext)
  (tRet (tCall (sp_keeps K a) [] E0 (tCons (tFld K (tVar 0) "rule") (tCons (tVar 3) (tCons (tVar 1) (tCons (tVar 2) (tCons (tFld K (tVar 0) "many") tNil)))))))))
abbrev N_Yard_looked : List Str := ["self", "name", "at", "seen"]
def t_Yard_looked (K : PySem.W.Frag) (a : Ad) (E : XK) : TS :=
  (tSeq (tAsg (tOp rModI (tVar 1) (tFld K (tVar 0) "many")) (gName 2))
  (tSeq (tAsg (tLst (tCons (tVar 2) tNil)) (gName 3))
  (tSeq (tWhile (tB (tMeth a.Y "goes_on" (sp_Yard_goes_on K a) [] E0 (tVar 0) (tCons (tVar 1) (tCons (tVar 2) tNil)))) (tSeq (tAsg (tOp rModI (tOp rAddI (tVar 2) (tC (.int 1))) (tFld K (tVar 0) "many")) (gName 2))
  (tDrop (tBM K "list" rAppend (tVar 3) (tCons (tVar 2) tNil)))))
  (tRet (tVar 3)))))
abbrev N_Yard_where : List Str := ["self", "name", "at"]
def t_Yard_where (K : PySem.W.Frag) (a : Ad) (E : XK) : TS :=
  (tSeq (tAsg (tOp (rIxL K) (tMeth a.Y "looked" (sp_Yard_looked K a) [] E0 (tVar 0) (tCons (tVar 1) tNil)) (tUn rNegI (tC (.int 1)))) (gName 2))
  (tSeq (tIfS (tTest (tOp rEq (tOp (rIxL K) (tFld K (tVar 0) "row") (tVar 2)) (tVar 1))) (tRet (tVar 2)) tNext)
  (tRet (tC .non))))
abbrev N_Yard_put : List Str := ["self", "name", "stood", "at", "found"]
def t_Yard_put (K : PySem.W.Frag) (a : Ad) (E : XK) : TS :=
  (tSeq (tIfS (tB (tNotN (tMeth a.Y "where" (sp_Yard_where K a) [] E0 (tVar 0) (tCons (tVar 1) tNil)))) (tRaiseO a.Here E) tNext)
  (tSeq (tIfS (tTest (tOp rGeI (tMeth a.Y "how_many" (sp_Yard_how_many K a) [] E0 (tVar 0) tNil) (tOp rSubI (tFld K (tVar 0) "many") (tC (.int 1))))) (tRaiseO a.Full E) tNext)
  (tSeq (tAsg (tLst tNil) (gName 2))
  (tSeq (tAsg (tOp rModI (tVar 1) (tFld K (tVar 0) "many")) (gName 3))
  (tSeq (tWhile (tB (tNotN (tOp (rIxL K) (tFld K (tVar 0) "row") (tVar 3)))) (tSeq (tAsg (tOp (rIxL K) (tFld K (tVar 0) "row") (tVar 3)) (gName 4))
  (tSeq (tIfS (tNot (tB (tCall (sp_keeps K a) [] E0 (tCons (tFld K (tVar 0) "rule") (tCons (tVar 4) (tCons (tVar 1) (tCons (tVar 3) (tCons (tFld K (tVar 0) "many") tNil)))))))) (tSeq (tAsg (tVar 1) (gSub (tFld K (tVar 0) "row") (tVar 3) rSetL))
  (tSeq (tDrop (tBM K "list" rAppend (tVar 2) (tCons (tTup (tCons (tVar 1) (tCons (tVar 3) tNil))) tNil)))
  (tAsg (tVar 4) (gName 1)))) tNext)
  (tAsg (tOp rModI (tOp rAddI (tVar 3) (tC (.int 1))) (tFld K (tVar 0) "many")) (gName 3)))))
  (tSeq (tAsg (tVar 1) (gSub (tFld K (tVar 0) "row") (tVar 3) rSetL))
  (tSeq (tDrop (tBM K "list" rAppend (tVar 2) (tCons (tTup (tCons (tVar 1) (tCons (tVar 3) tNil))) tNil)))
  (tRet (tVar 2)))))))))
abbrev N_Yard_heir : List Str := ["self", "gap", "at"]
def t_Yard_heir (K : PySem.W.Frag) (a : Ad) (E : XK) : TS :=
  (tSeq (tAsg (tOp rModI (tOp rAddI (tVar 1) (tC (.int 1))) (tFld K (tVar 0) "many")) (gName 2))
  (tSeq (tWhile (tB (tNotN (tOp (rIxL K) (tFld K (tVar 0) "row") (tVar 2)))) (tSeq (tIfS (tTest (tOp rLtI (tCall (sp_way K a) [] E0 (tCons (tOp (rIxL K) (tFld K (tVar 0) "row") (tVar 2)) (tCons (tVar 1) (tCons (tFld K (tVar 0) "many") tNil)))) (tCall (sp_way K a) [] E0 (tCons (tOp (rIxL K) (tFld K (tVar 0) "row") (tVar 2)) (tCons (tVar 2) (tCons (tFld K (tVar 0) "many") tNil)))))) (tRet (tVar 2)) tNext)
  (tAsg (tOp rModI (tOp rAddI (tVar 2) (tC (.int 1))) (tFld K (tVar 0) "many")) (gName 2))))
  (tRet (tC .non))))
abbrev N_Yard_take : List Str := ["self", "name", "gap", "stood", "at"]
def t_Yard_take (K : PySem.W.Frag) (a : Ad) (E : XK) : TS :=
  (tSeq (tAsg (tMeth a.Y "where" (sp_Yard_where K a) [] E0 (tVar 0) (tCons (tVar 1) tNil)) (gName 2))
  (tSeq (tIfS (tB (tIsN (tVar 2))) (tRaiseO a.NoCart E) tNext)
  (tSeq (tAsg (tLst tNil) (gName 3))
  (tSeq (tWhile (tB (tNotN (tVar 2))) (tSeq (tAsg (tC .non) (gSub (tFld K (tVar 0) "row") (tVar 2) rSetL))
  (tSeq (tAsg (tMeth a.Y "heir" (sp_Yard_heir K a) [] E0 (tVar 0) (tCons (tVar 2) tNil)) (gName 4))
  (tSeq (tIfS (tB (tNotN (tVar 4))) (tSeq (tAsg (tOp (rIxL K) (tFld K (tVar 0) "row") (tVar 4)) (gSub (tFld K (tVar 0) "row") (tVar 2) rSetL))
  (tDrop (tBM K "list" rAppend (tVar 3) (tCons (tTup (tCons (tOp (rIxL K) (tFld K (tVar 0) "row") (tVar 4)) (tCons (tVar 2) tNil))) tNil)))) tNext)
  (tAsg (tVar 4) (gName 2))))))
  (tRet (tVar 3))))))
abbrev N_Yard_stalls : List Str := ["self"]
def t_Yard_stalls (K : PySem.W.Frag) (a : Ad) (E : XK) : TS :=
  (tRet (tCB (rListL K) (tCons (tFld K (tVar 0) "row") tNil)))
abbrev N_Yard_how_many : List Str := ["self"]
def t_Yard_how_many (K : PySem.W.Frag) (a : Ad) (E : XK) : TS :=
  (tRet (tOp rSubI (tFld K (tVar 0) "many") (tBM K "list" (rCntV K) (tFld K (tVar 0) "row") (tCons (tC .non) tNil))))
abbrev N_Yard_names : List Str := ["self", "name"]
def t_Yard_names (K : PySem.W.Frag) (a : Ad) (E : XK) : TS :=
  (tRet (tCB (rSortedI K) (tCons (tLc (iList K (tFld K (tVar 0) "row")) (gName 1) (tB (tNotN (tVar 1))) (tVar 1) [1]) tNil)))
abbrev N_Yard_steps : List Str := ["self", "at", "name"]
def t_Yard_steps (K : PySem.W.Frag) (a : Ad) (E : XK) : TS :=
  (tRet (tCB (rSum K) (tCons (tLc (iEnum K (tCons (tFld K (tVar 0) "row") tNil)) (gTup K 2 (gCons (gName 1) (gCons (gName 2) gNil))) (tB (tNotN (tVar 2))) (tCall (sp_way K a) [] E0 (tCons (tVar 2) (tCons (tVar 1) (tCons (tFld K (tVar 0) "many") tNil)))) [1, 2]) tNil)))
end SY

namespace SY
open PySem L2 Evl
section
variable {K : PySem.W.Frag} {a : Ad} {H : Hp}
/-! ### the readings: what each def does with its promise -/
abbrev Go (t : TS) (N : List Str) (vs : List V) (H : Hp) (Q : VK) : Prop := t { nx := fun _ H' => Q .non H', rt := Q } (start N vs) H
theorem r_way (vs : List V) (H : Hp) (Q : VK) (E : XK) (h : sp_way K a vs H Q E) : Go (t_way K a E) N_way vs H Q := by
  obtain ⟨c, s, n, rfl, hs, k⟩ := h
  refine ⟨_, rfl, _, rfl, _, _, rfl, rfl, _, rfl, _, _, rfl, rfl, (by show (0 : Int) < (n : Int); omega), ?_⟩
  show Q (.int (((s : Int) - (c : Int)) % (n : Int))) H
  rw [way_int hs]
  exact k
theorem v_way {c s n : Nat} (h : s < n) : SpV (sp_way K a) [nV c, nV s, nV n] H (nV (way c s n)) := fun H1 e1 Q q E => ⟨c, s, n, rfl, h, q H1 (Ex.refl H1)⟩
theorem r_keeps (vs : List V) (H : Hp) (Q : VK) (E : XK) (h : sp_keeps K a vs H Q E) : Go (t_keeps K a E) N_keeps vs H Q := by
  obtain ⟨rule, c, m, s, n, rfl, hs, k⟩ := h
  refine q_when (et_test (ev_op (ev_var rfl) ev_c rv_eqI)) (fun hb H1 e1 => ?_) (fun hb H1 e1 => ?_)
  · have h0 : rule = 0 := by have := of_decide_eq_true hb; omega
    refine s_ret ev_c fun H2 e2 => ?_
    have : keeps rule c m s n = true := by rw [h0]; exact keeps_zero
    rw [← this]
    exact k H2 (e1.trans e2)
  · have h0 : rule ≠ 0 := by have := of_decide_eq_false hb; omega
    refine q_when (et_test (ev_op (ev_var rfl) ev_c rv_eqI)) (fun hb2 H2 e2 => ?_) (fun hb2 H2 e2 => ?_)
    · have h2 : rule = 2 := by have := of_decide_eq_true hb2; omega
      refine q_asg (v := nV (way c s n)) (ev_callE (dvs := []) (ea_cons (ev_var rfl) (ea_cons (ev_var rfl) (ea_cons (ev_var rfl) ea_nil))) (v_way hs)) fun H3 e3 => ?_
      refine q_asg (v := nV (way m s n)) (ev_callE (dvs := []) (ea_cons (ev_var rfl) (ea_cons (ev_var rfl) (ea_cons (ev_var rfl) ea_nil))) (v_way hs)) fun H4 e4 => ?_
      refine s_when (et_test (ev_op (ev_var rfl) (ev_var rfl) rv_neI)) (fun hb3 H5 e5 => ?_) (fun hb3 H5 e5 => ?_)
      · have h3 : ¬ way c s n = way m s n := by simp at hb3; omega
        refine s_ret (ev_op (ev_var rfl) (ev_var rfl) rv_gt) fun H6 e6 => ?_
        have e : keeps rule c m s n = decide ((way m s n : Int) < (way c s n : Int)) := by
          unfold keeps
          rw [if_neg h0, if_pos h2, if_neg h3]
          by_cases q : way m s n < way c s n
          · rw [decide_eq_true q, decide_eq_true (by omega)]
          · rw [decide_eq_false q, decide_eq_false (by omega)]
        rw [← e]
        exact k H6 (((((e1.trans e2).trans e3).trans e4).trans e5).trans e6)
      · have h3 : way c s n = way m s n := by simp at hb3; omega
        refine s_ret (ev_op (ev_var rfl) (ev_var rfl) rv_lt) fun H6 e6 => ?_
        have e : keeps rule c m s n = decide ((c : Int) < (m : Int)) := by
          unfold keeps
          rw [if_neg h0, if_pos h2, if_pos h3]
          by_cases q : c < m
          · rw [decide_eq_true q, decide_eq_true (by omega)]
          · rw [decide_eq_false q, decide_eq_false (by omega)]
        rw [← e]
        exact k H6 (((((e1.trans e2).trans e3).trans e4).trans e5).trans e6)
    · have h2 : rule ≠ 2 := by have := of_decide_eq_false hb2; omega
      refine s_ret (ev_op (ev_var rfl) (ev_var rfl) rv_lt) fun H6 e6 => ?_
      have e : keeps rule c m s n = decide ((c : Int) < (m : Int)) := by
        unfold keeps
        rw [if_neg h0, if_neg h2]
        by_cases q : c < m
        · rw [decide_eq_true q, decide_eq_true (by omega)]
        · rw [decide_eq_false q, decide_eq_false (by omega)]
      rw [← e]
      exact k H6 ((e1.trans e2).trans e6)
theorem v_keeps {rule c m s n : Nat} (h : s < n) : SpV (sp_keeps K a) [nV rule, nV c, nV m, nV s, nV n] H (.bl (keeps rule c m s n)) := fun H1 e1 Q q E => ⟨rule, c, m, s, n, rfl, h, q⟩
theorem f_goes : ¬ (("goes_on" : Str) = "row") ∧ ¬ (("goes_on" : Str) = "rule") ∧ ¬ (("goes_on" : Str) = "many") := by decide +kernel
theorem f_looked : ¬ (("looked" : Str) = "row") ∧ ¬ (("looked" : Str) = "rule") ∧ ¬ (("looked" : Str) = "many") := by decide +kernel
theorem f_where : ¬ (("where" : Str) = "row") ∧ ¬ (("where" : Str) = "rule") ∧ ¬ (("where" : Str) = "many") := by decide +kernel
theorem f_howm : ¬ (("how_many" : Str) = "row") ∧ ¬ (("how_many" : Str) = "rule") ∧ ¬ (("how_many" : Str) = "many") := by decide +kernel
theorem f_heir : ¬ (("heir" : Str) = "row") ∧ ¬ (("heir" : Str) = "rule") ∧ ¬ (("heir" : Str) = "many") := by decide +kernel
theorem r_Yard_goes_on (F : YFc K a) (vs : List V) (H : Hp) (Q : VK) (E : XK) (h : sp_Yard_goes_on K a vs H Q E) : Go (t_Yard_goes_on K a E) N_Yard_goes_on vs H Q := by
  obtain ⟨p, r, rule, row, c, s, rfl, Y, hs, k⟩ := h
  obtain ⟨o, ho⟩ : ∃ o, row[s]? = some o := ⟨_, List.getElem?_eq_getElem hs⟩
  refine q_asg (v := oV o) (ev_op (ev_row (ev_var rfl) Y.y F) (ev_var rfl) (rv_ixR Y.w ho)) fun H1 e1 => ?_
  have Y1 := Y.ex e1
  refine q_when (et_or (et_B (ev_isN (ev_var rfl))) (fun _ => et_test (ev_op (ev_var rfl) (ev_var rfl) (rv_eqO (c := some c))))) (fun hb H2 e2 => ?_) (fun hb H2 e2 => ?_)
  · refine s_ret ev_c fun H3 e3 => ?_
    have : goesOn rule row c s = false := by
      unfold goesOn
      rw [ho]
      cases o with
      | none => rfl
      | some m =>
        have : m = c := by simpa [oV] using hb
        simp only [if_pos this]
    rw [← this]
    exact k H3 ((e1.trans e2).trans e3)
  · have Y2 := Y1.ex e2
    cases o with
    | none => simp [oV] at hb
    | some m =>
      have hm : ¬ m = c := by simpa [oV] using hb
      refine s_ret (ev_callE (dvs := []) (ea_cons (ev_rule (ev_var rfl) Y2.y F) (ea_cons (ev_var rfl) (ea_cons (ev_var rfl) (ea_cons (ev_var rfl) (ea_cons (ev_many (ev_var rfl) Y2.y F) ea_nil))))) (v_keeps hs)) fun H3 e3 => ?_
      have : goesOn rule row c s = keeps rule m c s row.length := by
        unfold goesOn
        rw [ho]
        simp only [if_neg hm]
      rw [← this]
      exact k H3 ((e1.trans e2).trans e3)
theorem v_goes_on {p r : Addr} {rule c s : Nat} {row : Row} (Y : YR a H p r rule row) (hs : s < row.length) : SpV (sp_Yard_goes_on K a) [.ref p, nV c, nV s] H (.bl (goesOn rule row c s)) := fun H1 e1 Q q E => ⟨p, r, rule, row, c, s, rfl, Y.ex e1, hs, q⟩
theorem mod_int {c n : Nat} : (c : Int) % (n : Int) = ((c % n : Nat) : Int) := (Int.natCast_emod c n).symm
theorem nx_int {s n : Nat} (h : s < n) : ((s : Int) + 1) % (n : Int) = ((nx s n : Nat) : Int) := by
  rw [← nx_eq h, Int.natCast_emod]
  rfl
theorem lt_sz {n : Nat} (h : n ≤ 201) : n < 100000 := by omega
theorem r_Yard_looked (F : YFc K a) (vs : List V) (H : Hp) (Q : VK) (E : XK) (h : sp_Yard_looked K a vs H Q E) : Go (t_Yard_looked K a E) N_Yard_looked vs H Q := by
  obtain ⟨p, r, rule, row, c, rfl, Y, room, k⟩ := h
  have hn : 0 < row.length := by omega
  have hle := Y.le
  refine q_asg (v := nV (c % row.length)) (int_is (ev_op (ev_var rfl) (ev_many (ev_var rfl) Y.y F) (rv_mod (by omega))) mod_int) fun H1 e1 => ?_
  refine q_asgL (el_lst (ea_cons (ev_var rfl) ea_nil) (by show 1 ≤ 100000; decide)) fun l H2 hl e2 h2 => ?_
  have hl0 := fresh_back e1 hl
  -- the invariant: acc is what was seen, the last of it s; lookF from s on tells the rest
  refine q_while (fun m σ' H' => ∃ (s : Nat) (acc : List Nat), σ' = [some (.ref p), some (nV c), some (nV s), some (.ref l)] ∧ s < row.length ∧ Ex H H' ∧ H' l = some (.lst ((acc ++ [s]).map nV)) ∧ FreeIn row s (m + 1) ∧ acc ++ lookF rule row.length row c (m + 1) s = lookR rule row c ∧ acc.length + m + 1 ≤ row.length) (row.length - 1) ?_ ?_
  · refine ⟨c % row.length, [], rfl, Nat.mod_lt _ hn, e1.trans e2, h2, ?_, ?_, ?_⟩
    · obtain ⟨s0, hs0⟩ := free_of room
      rw [show row.length - 1 + 1 = row.length by omega]
      exact freeIn_of hs0 (Nat.mod_lt _ hn)
    · rw [show row.length - 1 + 1 = row.length by omega]
      rfl
    · show 0 + _ + 1 ≤ _; omega
  · rintro m σ' H' ⟨s, acc, rfl, hs, e, h3, hf, hlk, hz⟩
    have Y' := Y.ex e
    refine ⟨goesOn rule row c s, et_B (ev_ym (ev_var rfl) Y'.y f_goes.1 f_goes.2.1 f_goes.2.2 (ea_cons (ev_var rfl) (ea_cons (ev_var rfl) ea_nil)) (v_goes_on Y' hs)), fun hb H3 e3 => ?_, fun hb H3 e3 => ?_⟩
    · -- the look goes on
      obtain ⟨x, hx, _, _⟩ := goesOn_iff.mp hb
      have hf' := hf.next hs hx
      rw [lookF_go hb] at hlk
      have Y3 := Y'.ex e3
      cases m with
      | zero => obtain ⟨k0, h, _⟩ := hf'; omega
      | succ m =>
        refine ⟨fun σ2 H2 => ∃ (s : Nat) (acc : List Nat), σ2 = [some (.ref p), some (nV c), some (nV s), some (.ref l)] ∧ s < row.length ∧ Ex H H2 ∧ H2 l = some (.lst ((acc ++ [s]).map nV)) ∧ FreeIn row s (m + 1) ∧ acc ++ lookF rule row.length row c (m + 1) s = lookR rule row c ∧ acc.length + m + 1 ≤ row.length, fun σ2 H2 hw => ⟨m, by omega, hw⟩, ?_⟩
        refine q_asg (v := nV (nx s row.length)) (int_is (ev_op (ev_op (ev_var rfl) ev_c rv_add) (ev_many (ev_var rfl) Y3.y F) (rv_mod (by omega))) (nx_int hs)) fun H4 e4 => ?_
        have h4 := (e3.trans e4) _ _ h3
        refine s_app h4 (ev_var rfl) (ev_var rfl) (lt_sz (by rw [List.length_map, List.length_append]; show acc.length + 1 ≤ 201; omega)) fun H5 e5 => ?_
        refine ⟨nx s row.length, acc ++ [s], rfl, nx_lt hs, Ex.mut (((e.trans e3).trans e4).trans e5) hl0, ?_, hf', ?_, ?_⟩
        · rw [upd_same, List.map_append (l₁ := acc ++ [s])]
          rfl
        · rw [← hlk, List.append_assoc]
          rfl
        · rw [List.length_append]; show acc.length + 1 + m + 1 ≤ _; omega
    · -- the last stall
      rw [lookF_stop hb] at hlk
      refine s_ret (ev_var rfl) fun H4 e4 => ?_
      refine k l H4 hl0 ((e.trans e3).trans e4) ?_
      rw [← hlk]
      exact (e3.trans e4) _ _ h3
theorem l_looked {p r : Addr} {rule c : Nat} {row : Row} (Y : YR a H p r rule row) (room : (names row).length < row.length) : SpL (sp_Yard_looked K a) [.ref p, nV c] H ((lookR rule row c).map nV) := fun H1 e1 Q q E => ⟨p, r, rule, row, c, rfl, Y.ex e1, room, q⟩
end
end SY

namespace SY
open PySem L2 Evl
section
variable {K : PySem.W.Frag} {a : Ad} {H : Hp}
theorem look_last {rule c : Nat} {row : Row} (room : (names row).length < row.length) : ∃ pre, lookR rule row c = pre ++ [lastR rule row c] := by
  obtain ⟨k, h1, h2, _⟩ := lookR_says (rule := rule) (c := c) room
  refine ⟨(List.range k).map (fun j => spot (c % row.length) j row.length), ?_⟩
  rw [last_of h2, h2, List.range_succ, List.map_append]
  rfl
theorem last_lt {rule c : Nat} {row : Row} (room : (names row).length < row.length) : lastR rule row c < row.length := by
  obtain ⟨k, h1, h2, _⟩ := lookR_says (rule := rule) (c := c) room
  rw [last_of h2]
  exact spot_lt (Nat.mod_lt _ (by omega)) h1
theorem r_Yard_where (F : YFc K a) (vs : List V) (H : Hp) (Q : VK) (E : XK) (h : sp_Yard_where K a vs H Q E) : Go (t_Yard_where K a E) N_Yard_where vs H Q := by
  obtain ⟨p, r, rule, row, c, rfl, Y, room, k⟩ := h
  obtain ⟨pre, hpre⟩ := look_last (rule := rule) (c := c) room
  have hlt := last_lt (rule := rule) (c := c) room
  obtain ⟨o, ho⟩ : ∃ o, row[lastR rule row c]? = some o := ⟨_, List.getElem?_eq_getElem hlt⟩
  refine q_asg (v := nV (lastR rule row c)) (ev_opL1 (el_ym (ev_var rfl) Y.y f_looked.1 f_looked.2.1 f_looked.2.2 (ea_cons (ev_var rfl) ea_nil) (l_looked Y room)) (fun H1 e1 => ev_un ev_c ru_neg) fun q H1 hq e1 => ?_) fun H1 e1 => ?_
  · refine rv_ixL (SqL.of hq) ?_
    rw [hpre, List.map_append]
    exact atI_last _ _
  · have Y1 := Y.ex e1
    refine q_when (et_test (ev_op (ev_op (ev_row (ev_var rfl) Y1.y F) (ev_var rfl) (rv_ixR Y1.w ho)) (ev_var rfl) (rv_eqO (c := some c)))) (fun hb H2 e2 => ?_) (fun hb H2 e2 => ?_)
    · have : whereR rule row c = some (lastR rule row c) := by
        unfold whereR
        rw [ho, if_pos]
        exact congrArg some (of_decide_eq_true hb)
      rw [this] at k
      exact s_ret (ev_var rfl) fun H3 e3 => k H3 ((e1.trans e2).trans e3)
    · have : whereR rule row c = none := by
        unfold whereR
        rw [ho, if_neg]
        exact fun q => of_decide_eq_false hb (Option.some.inj q)
      rw [this] at k
      exact s_ret ev_c fun H3 e3 => k H3 ((e1.trans e2).trans e3)
theorem v_where {p r : Addr} {rule c : Nat} {row : Row} (Y : YR a H p r rule row) (room : (names row).length < row.length) : SpV (sp_Yard_where K a) [.ref p, nV c] H (oV (whereR rule row c)) := fun H1 e1 Q q E => ⟨p, r, rule, row, c, rfl, Y.ex e1, room, q⟩
theorem r_Yard_stalls (F : YFc K a) (vs : List V) (H : Hp) (Q : VK) (E : XK) (h : sp_Yard_stalls K a vs H Q E) : Go (t_Yard_stalls K a E) N_Yard_stalls vs H Q := by
  obtain ⟨p, r, rule, row, rfl, Y, k⟩ := h
  exact s_retL (el_list (ev_row (ev_var rfl) Y.y F) (SqL.of Y.w)) k
theorem l_stalls {p r : Addr} {rule : Nat} {row : Row} (Y : YR a H p r rule row) : SpL (sp_Yard_stalls K a) [.ref p] H (rowV row) := fun H1 e1 Q q E => ⟨p, r, rule, row, rfl, Y.ex e1, q⟩
theorem r_Yard_how_many (F : YFc K a) (vs : List V) (H : Hp) (Q : VK) (E : XK) (h : sp_Yard_how_many K a vs H Q E) : Go (t_Yard_how_many K a E) N_Yard_how_many vs H Q := by
  obtain ⟨p, r, rule, row, rfl, Y, k⟩ := h
  have e := names_len row
  refine s_ret (int_is (ev_op (ev_many (ev_var rfl) Y.y F) (ev_count (ev_row (ev_var rfl) Y.y F) Y.w) rv_sub) (j := ((names row).length : Int)) (by omega)) k
theorem v_how_many {p r : Addr} {rule : Nat} {row : Row} (Y : YR a H p r rule row) : SpV (sp_Yard_how_many K a) [.ref p] H (nV (names row).length) := fun H1 e1 Q q E => ⟨p, r, rule, row, rfl, Y.ex e1, q⟩
theorem r_Yard_heir (F : YFc K a) (vs : List V) (H : Hp) (Q : VK) (E : XK) (h : sp_Yard_heir K a vs H Q E) : Go (t_Yard_heir K a E) N_Yard_heir vs H Q := by
  obtain ⟨p, r, rule, row, gap, rfl, Y, hg, hf, k⟩ := h
  have hn : 0 < row.length := by omega
  refine q_asg (v := nV (nx gap row.length)) (int_is (ev_op (ev_op (ev_var rfl) ev_c rv_add) (ev_many (ev_var rfl) Y.y F) (rv_mod (by omega))) (nx_int hg)) fun H1 e1 => ?_
  refine q_while (fun m σ' H' => ∃ s : Nat, σ' = [some (.ref p), some (nV gap), some (nV s)] ∧ s < row.length ∧ Ex H H' ∧ FreeIn row s (m + 1) ∧ heirF row.length gap (m + 1) row s = heirF row.length gap row.length row (nx gap row.length)) (row.length - 1) ?_ ?_
  · refine ⟨nx gap row.length, rfl, nx_lt hg, e1, ?_, ?_⟩
    · rw [show row.length - 1 + 1 = row.length by omega]; exact hf
    · rw [show row.length - 1 + 1 = row.length by omega]
  · rintro m σ' H' ⟨s, rfl, hs, e, hf, hh⟩
    have Y' := Y.ex e
    obtain ⟨o, ho⟩ : ∃ o, row[s]? = some o := ⟨_, List.getElem?_eq_getElem hs⟩
    refine ⟨!decide (oV o = .non), et_B (ev_notN (ev_op (ev_row (ev_var rfl) Y'.y F) (ev_var rfl) (rv_ixR Y'.w ho))), fun hb H2 e2 => ?_, fun hb H2 e2 => ?_⟩
    · cases o with
      | none => simp [oV] at hb
      | some x =>
        have Y2 := Y'.ex e2
        have hf' := hf.next hs ho
        cases m with
        | zero => obtain ⟨k0, h, _⟩ := hf'; omega
        | succ m =>
          refine ⟨fun σ2 H2 => ∃ s : Nat, σ2 = [some (.ref p), some (nV gap), some (nV s)] ∧ s < row.length ∧ Ex H H2 ∧ FreeIn row s (m + 1) ∧ heirF row.length gap (m + 1) row s = heirF row.length gap row.length row (nx gap row.length), fun σ2 H2 hw => ⟨m, by omega, hw⟩, ?_⟩
          rw [heirF, ho] at hh
          dsimp only at hh
          refine q_when (et_test (ev_op (ev_callE (dvs := []) (ea_cons (ev_op (ev_row (ev_var rfl) Y2.y F) (ev_var rfl) (rv_ixR Y2.w ho)) (ea_cons (ev_var rfl) (ea_cons (ev_many (ev_var rfl) Y2.y F) ea_nil))) (v_way hg))
            (ev_callE (dvs := []) (ea_cons (ev_op (ev_row (ev_var rfl) Y2.y F) (ev_var rfl) (rv_ixR Y2.w ho)) (ea_cons (ev_var rfl) (ea_cons (ev_many (ev_var rfl) Y2.y F) ea_nil))) (v_way hs)) rv_lt)) (fun hb2 H3 e3 => ?_) (fun hb2 H3 e3 => ?_)
          · have hw : way x gap row.length < way x s row.length := by have := of_decide_eq_true hb2; omega
            rw [if_pos hw] at hh
            rw [← hh] at k
            exact s_ret (ev_var rfl) fun H4 e4 => k H4 (((e.trans e2).trans e3).trans e4)
          · have hw : ¬ way x gap row.length < way x s row.length := by have := of_decide_eq_false hb2; omega
            rw [if_neg hw] at hh
            have Y3 := Y2.ex e3
            refine s_asg (v := nV (nx s row.length)) (int_is (ev_op (ev_op (ev_var rfl) ev_c rv_add) (ev_many (ev_var rfl) Y3.y F) (rv_mod (by omega))) (nx_int hs)) fun H4 e4 => ?_
            exact ⟨nx s row.length, rfl, nx_lt hs, ((e.trans e2).trans e3).trans e4, hf', hh⟩
    · cases o with
      | some x => simp [oV] at hb
      | none =>
        rw [heirF, ho] at hh
        dsimp only at hh
        rw [← hh] at k
        exact s_ret ev_c fun H4 e4 => k H4 ((e.trans e2).trans e4)
theorem v_heir {p r : Addr} {rule gap : Nat} {row : Row} (Y : YR a H p r rule row) (hg : gap < row.length) (hf : FreeIn row (nx gap row.length) row.length) : SpV (sp_Yard_heir K a) [.ref p, nV gap] H (oV (heirF row.length gap row.length row (nx gap row.length))) := fun H1 e1 Q q E => ⟨p, r, rule, row, gap, rfl, Y.ex e1, hg, hf, q⟩
theorem q_fld {ta tv : TE} {σ : L2.St} {D : Ends} {tz : TS} {p C dx : Addr} {fs : List (Str × V)} {f : Str} {v : V} (h : Ev tv σ H v) (ho : Ev ta σ H (.ref p)) (hp : H p = some (.ins C dx fs)) (c : Cls K C) (n : NoAttr K C f) (hl : fs.length < 1000)
    (k : ∀ H1, Ex H H1 → tz D σ (upd H1 p (.ins C dx (putF f v fs)))) : tSeq (sFld K ta tv f) tz D σ H :=
  h H (Ex.refl H) _ fun H1 e1 => ho H1 e1 _ fun H2 e2 => ⟨p, C, dx, fs, rfl, (e1.trans e2) _ _ hp, c, n, hl, k H2 (e1.trans e2)⟩
theorem s_fld {ta tv : TE} {σ : L2.St} {D : Ends} {p C dx : Addr} {fs : List (Str × V)} {f : Str} {v : V} (h : Ev tv σ H v) (ho : Ev ta σ H (.ref p)) (hp : H p = some (.ins C dx fs)) (c : Cls K C) (n : NoAttr K C f) (hl : fs.length < 1000)
    (k : ∀ H1, Ex H H1 → D.nx σ (upd H1 p (.ins C dx (putF f v fs)))) : sFld K ta tv f D σ H :=
  h H (Ex.refl H) _ fun H1 e1 => ho H1 e1 _ fun H2 e2 => ⟨p, C, dx, fs, rfl, (e1.trans e2) _ _ hp, c, n, hl, k H2 (e1.trans e2)⟩
theorem s_fldL {ta tv : TE} {σ : L2.St} {D : Ends} {p C dx : Addr} {fs : List (Str × V)} {f : Str} {xs : List V} (h : EvL tv σ H xs) (ho : Ev ta σ H (.ref p)) (hp : H p = some (.ins C dx fs)) (c : Cls K C) (n : NoAttr K C f) (hl : fs.length < 1000)
    (k : ∀ l H1, H l = none → Ex H H1 → H1 l = some (.lst xs) → D.nx σ (upd H1 p (.ins C dx (putF f (.ref l) fs)))) : sFld K ta tv f D σ H :=
  h H (Ex.refl H) _ fun l H1 hl1 e1 h1 => ho H1 e1 _ fun H2 e2 => ⟨p, C, dx, fs, rfl, (e1.trans e2) _ _ hp, c, n, hl, k l H2 hl1 (e1.trans e2) (e2 _ _ h1)⟩
theorem rep_none (n : Nat) : (List.replicate n [V.non]).flatten = rowV (List.replicate n none) := by
  induction n with
  | zero => rfl
  | succ n ih => rw [List.replicate_succ, List.flatten_cons, ih, List.replicate_succ]; rfl
/-- [None] * n -/
theorem el_rep {tb : TE} {σ : L2.St} {n : Int} (h : Ev tb σ H (.int n)) (h0 : 0 ≤ n) (h1 : n ≤ 1000) : EvL (tOp rRep (tLst (tCons (tC .non) tNil)) tb) σ H (rowV (List.replicate n.toNat none)) := fun H1 e1 Q q =>
  ⟨by show 1 ≤ sizeLine; decide, fun p hp => h _ (e1.trans (Ex.new hp)) _ fun H2 e2 => ⟨p, n, [.non], rfl, rfl, e2 _ _ upd_same, by omega, by omega, sz_of (by show 1 * n.toNat ≤ 100000; omega), fun l hl => by
    rw [rep_none]
    exact q l _ (fresh_back ((Ex.new hp).trans e2) hl) (((Ex.new hp).trans e2).trans (Ex.new hl)) upd_same⟩⟩
theorem yf_eq (n rule : Nat) (r : Addr) : putF "row" (.ref r) (putF "rule" (nV rule) (putF "many" (nV n) [])) = yf n rule r := rfl
theorem r_Yard__init_ (F : YFc K a) (vs : List V) (H : Hp) (Q : VK) (E : XK) (h : sp_Yard__init_ K a vs H Q E) : Go (t_Yard__init_ K a E) N_Yard__init_ vs H Q := by
  obtain ⟨p, dx, many, rule, rfl, hp, kE, k⟩ := h
  refine q_when (et_or (et_test (ev_op (ev_var rfl) ev_c rv_lt)) (fun _ => et_test (ev_op (ev_var rfl) ev_c rv_gt))) (fun hb H1 e1 => ?_) (fun hb H1 e1 => ?_)
  · exact kE (by simpa using hb) H1 e1
  · have hb' : ¬ (many < 2 ∨ 200 < many) := by simpa using hb
    have hp1 := e1 _ _ hp
    refine q_fld (ev_var rfl) (ev_var rfl) hp1 F.cl F.nM (by show 0 < 1000; decide) fun H2 e2 => ?_
    refine q_fld (ev_var rfl) (ev_var rfl) upd_same F.cl F.nR (by show 1 < 1000; decide) fun H3 e3 => ?_
    refine s_fldL (el_rep (ev_var rfl) (by omega) (by omega)) (ev_var rfl) upd_same F.cl F.nW (by show 2 < 1000; decide) fun l H4 hl e4 h4 => ?_
    have b1 : But p H (upd H2 p (.ins a.Y dx (putF "many" (.int many) []))) := (But.of (e1.trans e2)).trans But.upd
    have b2 : But p H (upd H3 p (.ins a.Y dx (putF "rule" (nV rule) (putF "many" (.int many) [])))) := (b1.trans (But.of e3)).trans But.upd
    have nlp : l ≠ p := fun q => by subst q; rw [upd_same] at hl; cases hl
    have hl0 : H l = none := b2.free nlp hl
    have em : nV many.toNat = V.int many := by unfold nV; rw [show ((many.toNat : Nat) : Int) = many by omega]
    refine k hb' l _ hl0 ((b2.trans (But.of e4)).trans But.upd) ⟨⟨dx, ?_⟩, ?_, by rw [List.length_replicate]; omega⟩
    · rw [upd_same, List.length_replicate, ← yf_eq, em]
    · show (upd H4 p _) l = _
      rw [upd_ne nlp]
      exact h4
/-! ### putting and taking -/
/-- the yard's list is written -/
theorem q_setR {ta tb te : TE} {σ : L2.St} {D : Ends} {tz : TS} {p r : Addr} {rule s : Nat} {row : Row} {o : Option Nat} (Y : YR a H p r rule row) (F : YFc K a) (h : Ev te σ H (oV o)) (ho : Ev ta σ H (.ref r)) (hi : Ev tb σ H (nV s)) (hs : s < row.length)
    (k : ∀ H1, But r H H1 → (∀ b, H1 b = none → H b = none) → YR a H1 p r rule (row.set s o) → tz D σ H1) : tSeq (tAsg te (gSub ta tb rSetL)) tz D σ H :=
  q_setL Y.w h ho hi (by rw [rowV_len]; exact hs) fun H1 e1 => by
    rw [rowV_set]
    refine k _ ((But.of e1).trans But.upd) (fun b q => ?_) ((Y.ex e1).but But.upd List.length_set upd_same)
    by_cases hb : b = r
    · subst hb; rw [upd_same] at q; cases q
    · rw [upd_ne hb] at q; exact fresh_back e1 q
theorem s_setR {ta tb te : TE} {σ : L2.St} {D : Ends} {p r : Addr} {rule s : Nat} {row : Row} {o : Option Nat} (Y : YR a H p r rule row) (F : YFc K a) (h : Ev te σ H (oV o)) (ho : Ev ta σ H (.ref r)) (hi : Ev tb σ H (nV s)) (hs : s < row.length)
    (k : ∀ H1, But r H H1 → (∀ b, H1 b = none → H b = none) → YR a H1 p r rule (row.set s o) → D.nx σ H1) : tAsg te (gSub ta tb rSetL) D σ H :=
  q_setR (D := D) (tz := fun D σ H => D.nx σ H) Y F h ho hi hs k
theorem none_back {H H' : Hp} (e : Ex H H') : ∀ b, H' b = none → H b = none := fun b q => fresh_back e q
/-- stood.append((name, at)) -/
theorem q_told {tl tx ty : TE} {σ : L2.St} {D : Ends} {tz : TS} {p r l : Addr} {rule c s : Nat} {row : Row} {ts : List Addr} {xs : List (Nat × Nat)} (Y : YR a H p r rule row) (hl : H l = some (.lst (ts.map V.ref))) (T : Tups H ts xs) (hz : xs.length ≤ 200) (ho : Ev tl σ H (.ref l)) (hx : Ev tx σ H (nV c)) (hy : Ev ty σ H (nV s))
    (hlr : l ≠ r) (k : ∀ H1 t, But l H H1 → (∀ b, H1 b = none → H b = none) → YR a H1 p r rule row → H1 l = some (.lst ((ts ++ [t]).map V.ref)) → Tups H1 (ts ++ [t]) (xs ++ [(c, s)]) → tz D σ H1) :
    tSeq (tDrop (tBM K "list" rAppend tl (tCons (tTup (tCons tx (tCons ty tNil))) tNil))) tz D σ H := by
  have hlen := Paired.length T
  have hlp : p ≠ l := let ⟨_, h1⟩ := Y.y; ne_of h1 hl (by intro z; cases z)
  refine q_appU hl ho (eu_tup (ea_cons hx (ea_cons hy ea_nil)) (by show 2 ≤ 100000; decide)) (lt_sz (by rw [List.length_map]; omega)) fun t H1 ht e1 h1 => ?_
  have nlt : l ≠ t := ne_of_none hl ht
  have nl : ∀ xs, H1 l ≠ some (.tup xs) := fun xs q => by rw [e1 _ _ hl] at q; cases q
  refine k _ t ((But.of e1).trans But.upd) (fun b q => ?_) ((Y.ex e1).stay But.upd hlp (Ne.symm hlr)) ?_ ?_
  · by_cases hb : b = l
    · subst hb; rw [upd_same] at q; cases q
    · rw [upd_ne hb] at q; exact fresh_back e1 q
  · rw [upd_same, List.map_append]; rfl
  · exact Tups.app (by rw [upd_ne (Ne.symm nlt)]; exact h1) ((T.ex e1).but nl But.upd)
theorem s_told {tl tx ty : TE} {σ : L2.St} {D : Ends} {p r l : Addr} {rule c s : Nat} {row : Row} {ts : List Addr} {xs : List (Nat × Nat)} (Y : YR a H p r rule row) (hl : H l = some (.lst (ts.map V.ref))) (T : Tups H ts xs) (hz : xs.length ≤ 200) (ho : Ev tl σ H (.ref l)) (hx : Ev tx σ H (nV c)) (hy : Ev ty σ H (nV s))
    (hlr : l ≠ r) (k : ∀ H1 t, But l H H1 → (∀ b, H1 b = none → H b = none) → YR a H1 p r rule row → H1 l = some (.lst ((ts ++ [t]).map V.ref)) → Tups H1 (ts ++ [t]) (xs ++ [(c, s)]) → D.nx σ H1) :
    tDrop (tBM K "list" rAppend tl (tCons (tTup (tCons tx (tCons ty tNil))) tNil)) D σ H :=
  q_told (D := D) (tz := fun D σ H => D.nx σ H) Y hl T hz ho hx hy hlr k
/-- all but r and l is as it was at H0, where l was not there -/
def Mid (r l : Addr) (H0 H : Hp) : Prop := ∀ b o, b ≠ r → H0 b = some o → H b = some o
theorem putG_len {rule n : Nat} : ∀ {f : Nat} {row : Row} {c s : Nat}, (putG rule n f row c s).2.length ≤ f
  | 0, _, _, _ => Nat.le_refl 0
  | f + 1, row, c, s => by
    rw [putG]
    split
    · split
      · exact Nat.le_succ_of_le putG_len
      · show (List.length _ + 1) ≤ f + 1
        exact Nat.succ_le_succ putG_len
    · show 1 ≤ f + 1
      omega
theorem r_Yard_put (F : YFc K a) (vs : List V) (H : Hp) (Q : VK) (E : XK) (h : sp_Yard_put K a vs H Q E) : Go (t_Yard_put K a E) N_Yard_put vs H Q := by
  obtain ⟨p, r, rule, row, c, rfl, Y, R, kH, kF, k⟩ := h
  have room := R.room
  have hn : 0 < row.length := by omega
  have hle := Y.le
  refine q_when (et_B (ev_notN (ev_ym (ev_var rfl) Y.y f_where.1 f_where.2.1 f_where.2.2 (ea_cons (ev_var rfl) ea_nil) (v_where Y room)))) (fun hb H1 e1 => ?_) (fun hb H1 e1 => ?_)
  · refine kH (Classical.byContradiction fun hc => ?_) H1 e1
    rw [(where_none R).mpr hc] at hb
    simp [oV] at hb
  have hc : c ∉ names row := by
    refine (where_none R).mp ?_
    cases e : whereR rule row c with
    | none => rfl
    | some s => rw [e] at hb; simp [oV] at hb
  have Y1 := Y.ex e1
  refine q_when (et_test (ev_op (ev_ym (ev_var rfl) Y1.y f_howm.1 f_howm.2.1 f_howm.2.2 ea_nil (v_how_many Y1)) (ev_op (ev_many (ev_var rfl) Y1.y F) ev_c rv_sub) rv_ge)) (fun hb H2 e2 => ?_) (fun hb H2 e2 => ?_)
  · have := of_decide_eq_true hb
    exact kF hc (by omega) H2 (e1.trans e2)
  have hroom : (names row).length + 1 < row.length := by have := of_decide_eq_false hb; omega
  have Y2 := Y1.ex e2
  refine q_asgL (el_lst ea_nil (by decide)) fun l H3 hl e3 h3 => ?_
  have hl0 : H l = none := fresh_back (e1.trans e2) hl
  have hlr : l ≠ r := fun q => by subst q; have := Y.w; unfold RowAt at this; rw [hl0] at this; cases this
  have Y3 := Y2.ex e3
  refine q_asg (v := nV (c % row.length)) (int_is (ev_op (ev_var rfl) (ev_many (ev_var rfl) Y3.y F) (rv_mod (by omega))) mod_int) fun H4 e4 => ?_
  have b4 : But r H H4 := But.of (((e1.trans e2).trans e3).trans e4)
  -- the walk: what putG still does, from the layout, the cart in the hand, the stall
  let Inv : Nat → L2.St → Hp → Prop := fun m σ' H' => ∃ (cur : Row) (d s : Nat) (ts : List Addr) (xs : List (Nat × Nat)) (v4 : Option V), σ' = [some (.ref p), some (nV d), some (.ref l), some (nV s), v4] ∧ cur.length = row.length ∧ Hand rule cur d s ∧ FreeIn cur s (m + 1) ∧
    YR a H' p r rule cur ∧ But r H H' ∧ H' l = some (.lst (ts.map V.ref)) ∧ Tups H' ts xs ∧ xs.length + m + 1 ≤ row.length ∧
    (putG rule row.length (m + 1) cur d s).1 = (putR rule row c).1 ∧ xs ++ (putG rule row.length (m + 1) cur d s).2 = (putR rule row c).2
  refine q_while Inv (row.length - 1) ?_ ?_
  · obtain ⟨s0, hs0⟩ := free_of room
    refine ⟨row, c, c % row.length, [], [], none, rfl, rfl, Hand.start R.toPk hc hn, ?_, Y3.ex e4, b4, e4 _ _ h3, .nil, ?_, ?_, ?_⟩
    · rw [show row.length - 1 + 1 = row.length by omega]; exact freeIn_of hs0 (Nat.mod_lt _ hn)
    · show 0 + _ + 1 ≤ _; omega
    · rw [show row.length - 1 + 1 = row.length by omega]; rfl
    · rw [show row.length - 1 + 1 = row.length by omega]; rfl
  · rintro m σ' H' ⟨cur, d, s, ts, xs, v4, rfl, hcl, hh, hf, Y', b', h', T, hz, g1, g2⟩
    have hs := hh.at_
    obtain ⟨s0, hs0⟩ : ∃ s0 : Nat, cur[s0]? = some none := let ⟨k, _, _, e⟩ := hf; ⟨_, e⟩
    obtain ⟨o, ho⟩ : ∃ o, cur[s]? = some o := ⟨_, List.getElem?_eq_getElem hs⟩
    refine ⟨!decide (oV o = .non), et_B (ev_notN (ev_op (ev_row (ev_var rfl) Y'.y F) (ev_var rfl) (rv_ixR Y'.w ho))), fun hb H5 e5 => ?_, fun hb H5 e5 => ?_⟩
    · cases o with
      | none => simp [oV] at hb
      | some x =>
        have hf' := hf.next hs ho
        cases m with
        | zero => obtain ⟨k0, h, _⟩ := hf'; omega
        | succ m =>
        refine ⟨Inv m, fun σ2 H2 hw => ⟨m, by omega, hw⟩, ?_⟩
        have Y5 := Y'.ex e5
        refine q_asg (v := nV x) (ev_op (ev_row (ev_var rfl) Y5.y F) (ev_var rfl) (rv_ixR Y5.w ho)) fun H6 e6 => ?_
        have Y6 := Y5.ex e6
        have h6 := (e5.trans e6) _ _ h'
        have T6 := T.ex (e5.trans e6)
        have b6 : But r H H6 := b'.trans (But.of (e5.trans e6))
        refine q_when (et_not (et_B (ev_callE (dvs := []) (ea_cons (ev_rule (ev_var rfl) Y6.y F) (ea_cons (ev_var rfl) (ea_cons (ev_var rfl) (ea_cons (ev_var rfl) (ea_cons (ev_many (ev_var rfl) Y6.y F) ea_nil))))) (v_keeps hs)))) (fun hb2 H7 e7 => ?_) (fun hb2 H7 e7 => ?_)
        · -- who stands there goes on
          have hk : keeps rule x d s cur.length = false := by simpa using hb2
          have Y7 := Y6.ex e7
          rw [hcl] at hk
          rw [putG_turn ho hk] at g1 g2
          rw [← hcl] at hk
          refine q_setR (o := some d) Y7 F (ev_var rfl) (ev_row (ev_var rfl) Y7.y F) (ev_var rfl) hs fun H8 b8 n8 Y8 => ?_
          have h8 : H8 l = some (.lst (ts.map V.ref)) := b8 _ _ hlr (e7 _ _ h6)
          have T8 : Tups H8 ts xs := (T6.ex e7).but (fun xs q => by have := Y7.w; unfold RowAt at this; rw [this] at q; cases q) b8
          refine q_told Y8 h8 T8 (by omega) (ev_var rfl) (ev_var rfl) (ev_var rfl) hlr fun H9 t b9 n9 Y9 h9 T9 => ?_
          refine s_asg (ev_var rfl) fun H10 e10 => ?_
          have Y10 := Y9.ex e10
          refine s_asg (v := nV (nx s row.length)) (int_is (ev_op (ev_op (ev_var rfl) ev_c rv_add) (ev_many (ev_var rfl) Y10.y F) (rv_mod (by rw [List.length_set]; omega))) (by rw [List.length_set, nx_int hs, hcl])) fun H11 e11 => ?_
          have bb : But r H H11 := fun b o nb hbo => by
            have q8 := b8 b o nb (e7 _ _ (b6 b o nb hbo))
            have nbl : b ≠ l := ne_of_none hbo hl0
            exact e11 _ _ (e10 _ _ (b9 b o nbl q8))
          rw [← hcl]
          refine ⟨cur.set s (some d), x, nx s cur.length, ts ++ [t], xs ++ [(d, s)], _, rfl, by rw [List.length_set]; exact hcl, hh.turn hs0 ho hk, hf'.set ho, Y10.ex e11, bb, (e10.trans e11) _ _ h9, T9.ex (e10.trans e11), by rw [List.length_append]; show xs.length + 1 + m + 1 ≤ _; omega, by rw [hcl]; exact g1, ?_⟩
          rw [hcl, List.append_assoc]
          exact g2
        · -- it is kept
          have hk : keeps rule x d s cur.length = true := by simpa using hb2
          have Y7 := Y6.ex e7
          rw [hcl] at hk
          rw [putG_keep ho hk] at g1 g2
          rw [← hcl] at hk
          refine s_asg (v := nV (nx s row.length)) (int_is (ev_op (ev_op (ev_var rfl) ev_c rv_add) (ev_many (ev_var rfl) Y7.y F) (rv_mod (by omega))) (by rw [nx_int hs, hcl])) fun H8 e8 => ?_
          rw [← hcl]
          exact ⟨cur, d, nx s cur.length, ts, xs, _, rfl, hcl, hh.step hs0 ho hk, hf', Y7.ex e8, b6.trans (But.of (e7.trans e8)), (e7.trans e8) _ _ h6, T6.ex (e7.trans e8), by omega, by rw [hcl]; exact g1, by rw [hcl]; exact g2⟩
    · cases o with
      | some x => simp [oV] at hb
      | none =>
        have Y5 := Y'.ex e5
        rw [putG_free ho] at g1 g2
        refine q_setR (o := some d) Y5 F (ev_var rfl) (ev_row (ev_var rfl) Y5.y F) (ev_var rfl) hs fun H6 b6 n6 Y6 => ?_
        have h6 : H6 l = some (.lst (ts.map V.ref)) := b6 _ _ hlr (e5 _ _ h')
        have T6 : Tups H6 ts xs := (T.ex e5).but (fun xs q => by have := Y5.w; unfold RowAt at this; rw [this] at q; cases q) b6
        refine q_told Y6 h6 T6 (by omega) (ev_var rfl) (ev_var rfl) (ev_var rfl) hlr fun H7 t b7 n7 Y7 h7 T7 => ?_
        refine s_ret (ev_var rfl) fun H8 e8 => ?_
        refine k hc hroom l (ts ++ [t]) H8 hl0 hlr (fun b o nb hbo => ?_) ?_ (e8 _ _ h7) ?_
        · have nbl : b ≠ l := ne_of_none hbo hl0
          exact e8 _ _ (b7 b o nbl (b6 b o nb (e5 _ _ (b' b o nb hbo))))
        · rw [← g1]
          exact e8 _ _ Y7.w
        · rw [← g2]
          exact T7.ex e8
end
end SY

namespace SY
open PySem L2 Evl
section
variable {K : PySem.W.Frag} {a : Ad} {H : Hp}
/-! ### enumerate -/
theorem cw_new {H1 H' : Hp} {f : Nat → Bool} {v : Nat → V} {Dl T : Addr} {i : Nat} {o : HO} (p : Cw H1 f v Dl i H') (hT : H' T = none) : Cw H1 f v Dl i (upd H' T o) :=
  ⟨p.1, p.2.1.trans (Ex.new hT), by rw [upd_ne (ne_of_none p.2.2 hT)]; exact p.2.2⟩
theorem el_lcE {tl te : TE} {t : TT} {σ : L2.St} {j1 j2 : Nat} {p : Addr} {xs : List V} (f : Nat → Bool) (v : Nat → V) (h : Ev tl σ H (.ref p)) (hx : SqL K H p xs) (hz : xs.length ≤ 40000)
    (hw : ∀ x y, wipe (((wipe σ [j1, j2]).set j1 (some x)).set j2 (some y)) [j1, j2] = wipe σ [j1, j2])
    (ht : ∀ (i : Nat) (x : V) H1, Ex H H1 → xs[i]? = some x → EvT t (((wipe σ [j1, j2]).set j1 (some (nV i))).set j2 (some x)) H1 (f i))
    (he : ∀ (i : Nat) (x : V) H1, Ex H H1 → xs[i]? = some x → f i = true → Ev te (((wipe σ [j1, j2]).set j1 (some (nV i))).set j2 (some x)) H1 (v i)) :
    EvL (tLc (iEnum K (tCons tl tNil)) (gTup K 2 (gCons (gName j1) (gCons (gName j2) gNil))) t te [j1, j2]) σ H (given xs.length f v) := fun H0 e Q q => h H0 e _ fun H1 e1 =>
  ⟨p, xs, rfl, ex_l (e.trans e1) hx, fun Dl hD => by
    refine ⟨fun i m H' => m = xs.length - i ∧ i ≤ xs.length ∧ Cw H1 f v Dl i H', ⟨_, rfl, Nat.zero_le _, hD, Ex.new hD, upd_same⟩, ?_⟩
    rintro i m H' ⟨rfl, hi, cw⟩
    have hq : SqL K H' p xs := ex_l ((e.trans e1).trans cw.2.1) hx
    by_cases hlt : i < xs.length
    · refine .inr ⟨⟨xs, xs[i], hq, List.getElem?_eq_getElem hlt⟩, Cw H1 f v Dl (i + 1), fun H2 p2 => ⟨xs.length - (i + 1), by omega, rfl, hlt, p2⟩, ?_⟩
      rintro y H2 ⟨T, x, rfl, hT, rfl, hxs⟩
      have hix := hxs xs hq
      have cw2 := cw_new (o := .tup [.int (i : Nat), x]) cw hT
      refine ⟨T, _, rfl, SqT.of upd_same, rfl, _, _, rfl, _, _, rfl, rfl, hw _ _, ?_⟩
      exact cw_turn cw2 (by omega) (ht i x H1 (e.trans e1) hix) (fun hf => he i x H1 (e.trans e1) hix hf)
    · have : i = xs.length := by omega
      subst this
      exact .inl ⟨⟨xs, hq, Nat.le_refl _⟩, q Dl H' (fresh_back e1 cw.1) (e1.trans cw.2.1) cw.2.2⟩⟩
/-- for at, name in enumerate(row) -/
theorem s_forE {tl : TE} {tu : TS} {D : Ends} {σ : L2.St} {j1 j2 : Nat} {p : Addr} {xs : List V} (h : Ev tl σ H (.ref p)) (Pv : Nat → L2.St → Hp → Prop) (h0 : ∀ H1, Ex H H1 → Pv 0 σ H1) (hx : SqL K H p xs) (hl : ∀ i σ' H', i ≤ xs.length → Pv i σ' H' → SqL K H' p xs)
    (hs : ∀ (i : Nat) (x : V) σ' H' H2, xs[i]? = some x → Pv i σ' H' → Ex H' H2 → tu { D with nx := Pv (i + 1), ct := Pv (i + 1), bk := D.nx } ((σ'.set j1 (some (nV i))).set j2 (some x)) H2) (hd : ∀ σ' H', Pv xs.length σ' H' → D.nx σ' H') :
    tFor (iEnum K (tCons tl tNil)) (gTup K 2 (gCons (gName j1) (gCons (gName j2) gNil))) tu D σ H :=
  h H (Ex.refl H) _ fun H1 e1 => ⟨p, xs, rfl, ex_l e1 hx, by
    refine ⟨fun i m σ' H' => m = xs.length - i ∧ i ≤ xs.length ∧ Pv i σ' H', ⟨_, rfl, Nat.zero_le _, h0 H1 e1⟩, ?_⟩
    rintro i m σ' H' ⟨rfl, hi, p'⟩
    have hq := hl i σ' H' hi p'
    by_cases hlt : i < xs.length
    · refine .inr ⟨⟨xs, xs[i], hq, List.getElem?_eq_getElem hlt⟩, Pv (i + 1), fun σ2 H2 p2 => ⟨xs.length - (i + 1), by omega, rfl, hlt, p2⟩, ?_⟩
      rintro y H2 ⟨T, x, rfl, hT, rfl, hxs⟩
      exact ⟨T, _, rfl, SqT.of upd_same, rfl, _, _, rfl, _, _, rfl, rfl, hs i x σ' H' _ (hxs xs hq) p' (Ex.new hT)⟩
    · have : i = xs.length := by omega
      subst this
      exact .inl ⟨⟨xs, hq, Nat.le_refl _⟩, hd σ' H' p'⟩⟩
theorem q_forE {tl : TE} {tu tz : TS} {D : Ends} {σ : L2.St} {j1 j2 : Nat} {p : Addr} {xs : List V} (h : Ev tl σ H (.ref p)) (Pv : Nat → L2.St → Hp → Prop) (h0 : ∀ H1, Ex H H1 → Pv 0 σ H1) (hx : SqL K H p xs) (hl : ∀ i σ' H', i ≤ xs.length → Pv i σ' H' → SqL K H' p xs)
    (hs : ∀ (i : Nat) (x : V) σ' H' H2, xs[i]? = some x → Pv i σ' H' → Ex H' H2 → tu { D with nx := Pv (i + 1), ct := Pv (i + 1), bk := tz D } ((σ'.set j1 (some (nV i))).set j2 (some x)) H2) (hd : ∀ σ' H', Pv xs.length σ' H' → tz D σ' H') :
    tSeq (tFor (iEnum K (tCons tl tNil)) (gTup K 2 (gCons (gName j1) (gCons (gName j2) gNil))) tu) tz D σ H :=
  s_forE (D := { D with nx := tz D }) h Pv h0 hx hl hs hd

/-! ### lists that comprehensions give -/
theorem given_cons (n : Nat) (f : Nat → Bool) (v : Nat → V) : given (n + 1) f v = (if f 0 = true then [v 0] else []) ++ given n (fun i => f (i + 1)) (fun i => v (i + 1)) := by
  unfold given
  rw [List.range_succ_eq_map, List.filter_cons, List.filter_map]
  by_cases h0 : f 0 = true
  · rw [if_pos h0, if_pos h0, List.map_cons, List.map_map]; rfl
  · rw [if_neg h0, if_neg h0, List.map_map]; rfl
theorem given_opt {α β : Type} (g : α → Option β) (w : β → V) : ∀ (l : List α) (f : Nat → Bool) (v : Nat → V), (∀ (i : Nat) x, l[i]? = some x → f i = (g x).isSome ∧ ∀ y, g x = some y → v i = w y) → given l.length f v = (l.filterMap g).map w
  | [], f, v, _ => rfl
  | x :: l, f, v, h => by
    have hx := h 0 x rfl
    have ih := given_opt g w l (fun i => f (i + 1)) (fun i => v (i + 1)) fun i y hy => h (i + 1) y (by simpa using hy)
    rw [List.length_cons, given_cons, ih, hx.1, List.filterMap_cons]
    cases e : g x with
    | none => rfl
    | some y => rw [hx.2 y e]; rfl
theorem srt_perm (l : List Nat) : (srt l).Perm l := List.mergeSort_perm l _
theorem srt_sorted (l : List Nat) : (srt l).Pairwise (· ≤ ·) := by
  have h := List.pairwise_mergeSort (le := fun (a b : Nat) => decide (a ≤ b)) (fun a b c h1 h2 => by simp at *; omega) (fun a b => by simp; omega) l
  exact h.imp fun h => by simpa using h
theorem srt_uniq {l : List Nat} {m : List Int} (hp : m.Perm (l.map Int.ofNat)) (hs : m.Pairwise (· ≤ ·)) : m = (srt l).map Int.ofNat := by
  refine List.Perm.eq_of_pairwise (fun x y _ _ h1 h2 => Int.le_antisymm h1 h2) hs ?_ (hp.trans ((srt_perm l).map _).symm)
  exact List.pairwise_map.mpr ((srt_sorted l).imp fun h => Int.ofNat_le.mpr h)
theorem srt_of_perm {l m : List Nat} (h : l.Perm m) : srt l = srt m := by
  refine List.Perm.eq_of_pairwise (fun x y _ _ h1 h2 => Nat.le_antisymm h1 h2) (srt_sorted l) (srt_sorted m) (((srt_perm l).trans h).trans (srt_perm m).symm)
theorem map_int (l : List Nat) : (l.map Int.ofNat).map V.int = l.map nV := by
  rw [List.map_map]
  rfl
/-- sorted(xs) -/
theorem el_sorted {ta : TE} {σ : L2.St} {ns : List Nat} (h : EvL ta σ H (ns.map nV)) : EvL (tCB (rSortedI K) (tCons ta tNil)) σ H ((srt ns).map nV) := fun H1 e Q q =>
  h H1 e _ fun p H2 hp e2 h2 => ⟨p, ns.map Int.ofNat, rfl, by rw [map_int]; exact SqL.of h2, fun ns' l hpm hso hl => by
    rw [srt_uniq hpm hso, map_int]
    exact q l _ (fresh_back e2 hl) (e2.trans (Ex.new hl)) upd_same⟩
theorem row_names (row : Row) (f : Nat → Bool) (v : Nat → V) (h : ∀ (i : Nat) o, row[i]? = some o → f i = o.isSome ∧ ∀ c, o = some c → v i = nV c) : given row.length f v = (names row).map nV :=
  given_opt id nV row f v h
theorem el_names {tl : TE} {σ : L2.St} {j : Nat} {p : Addr} {row : Row} (h : Ev tl σ H (.ref p)) (hx : SqL K H p (rowV row)) (hz : row.length ≤ 40000) (hj : j < σ.length) :
    EvL (tLc (iList K tl) (gName j) (tB (tNotN (tVar j))) (tVar j) [j]) σ H ((names row).map nV) := by
  have hv : ∀ x : V, ((wipe σ [j]).set j (some x))[j]? = some (some x) := fun x => by
    rw [List.getElem?_set_self]
    show j < (wipe σ [j]).length
    rw [wipe_length]; exact hj
  have := el_lcL (te := tVar j) (t := tB (tNotN (tVar j))) (vs := [j]) (j := j) (fun i => ((row.getD i none)).isSome) (fun i => oV (row.getD i none)) h hx (by rw [rowV_len]; exact hz) (fun x => by
      show (((σ.set j none).set j (some x)).set j none) = σ.set j none
      rw [List.set_set, List.set_set])
    (fun i x H1 e1 hi => ?_) (fun i x H1 e1 hi hf => ?_)
  · rw [rowV_len] at this
    rw [row_names row _ _ (fun i o hi => ?_)] at this
    · exact this
    · have : row.getD i none = o := by rw [List.getD_eq_getElem?_getD, hi]; rfl
      refine ⟨by rw [this], fun c hc => ?_⟩
      rw [this, hc]; rfl
  · unfold rowV at hi
    rw [List.getElem?_map] at hi
    cases e : row[i]? with
    | none => rw [e] at hi; cases hi
    | some o =>
      rw [e] at hi
      have hx : oV o = x := Option.some.inj hi
      subst hx
      have : row.getD i none = o := by rw [List.getD_eq_getElem?_getD, e]; rfl
      rw [this]
      refine et_is (et_B (ev_notN (ev_var (hv _)))) ?_
      cases o <;> rfl
  · unfold rowV at hi
    rw [List.getElem?_map] at hi
    cases e : row[i]? with
    | none => rw [e] at hi; cases hi
    | some o =>
      rw [e] at hi
      have hx : oV o = x := Option.some.inj hi
      subst hx
      have : row.getD i none = o := by rw [List.getD_eq_getElem?_getD, e]; rfl
      rw [this]
      exact ev_var (hv _)
theorem r_Yard_names (F : YFc K a) (vs : List V) (H : Hp) (Q : VK) (E : XK) (h : sp_Yard_names K a vs H Q E) : Go (t_Yard_names K a E) N_Yard_names vs H Q := by
  obtain ⟨p, r, rule, row, rfl, Y, k⟩ := h
  have := Y.le
  exact s_retL (el_sorted (el_names (ev_row (ev_var rfl) Y.y F) (SqL.of Y.w) (by omega) (by show 1 < 2; decide))) k
theorem l_names {p r : Addr} {rule : Nat} {row : Row} (Y : YR a H p r rule row) : SpL (sp_Yard_names K a) [.ref p] H ((srt (names row)).map nV) := fun H1 e1 Q q E => ⟨p, r, rule, row, rfl, Y.ex e1, q⟩
/-! ### the sum of all ways -/
theorem given_ways (n : Nat) : ∀ (row : Row) (f : Nat → Bool) (v : Nat → Int) (b : Nat), (∀ (i : Nat) o, row[i]? = some o → f i = o.isSome ∧ ∀ c, o = some c → v i = (way c (b + i) n : Int)) →
    ∃ ns : List Int, given row.length f (fun i => V.int (v i)) = ns.map V.int ∧ ns.sum = (stepsF n b row : Int) := by
  intro row
  induction row with
  | nil => intro f v b _; exact ⟨[], rfl, rfl⟩
  | cons o r ih =>
    intro f v b h
    obtain ⟨ns, e1, e2⟩ := ih (fun i => f (i + 1)) (fun i => v (i + 1)) (b + 1) fun i o' hi => by
      have := h (i + 1) o' (by simpa using hi)
      rw [show b + 1 + i = b + (i + 1) by omega]
      exact this
    have e3 := given_cons r.length f (fun i => V.int (v i))
    have h0 := h 0 o rfl
    cases o with
    | none =>
      refine ⟨ns, ?_, e2⟩
      show given (r.length + 1) f _ = _
      rw [e3, h0.1, e1]; rfl
    | some c =>
      refine ⟨v 0 :: ns, ?_, ?_⟩
      · show given (r.length + 1) f _ = _
        rw [e3, h0.1, e1]; rfl
      · rw [List.sum_cons, e2, h0.2 c rfl]
        show (way c (b + 0) n : Int) + (stepsF n (b + 1) r : Int) = ((way c b n + stepsF n (b + 1) r : Nat) : Int)
        rw [Nat.add_zero]; omega
theorem ev_sum {ta : TE} {σ : L2.St} {ns : List Int} (h : EvL ta σ H (ns.map V.int)) : Ev (tCB (rSum K) (tCons ta tNil)) σ H (.int ns.sum) := fun H1 e Q q =>
  h H1 e _ fun l H2 hl e2 h2 => ⟨l, ns, rfl, SqL.of h2, q H2 e2⟩
theorem r_Yard_steps (F : YFc K a) (vs : List V) (H : Hp) (Q : VK) (E : XK) (h : sp_Yard_steps K a vs H Q E) : Go (t_Yard_steps K a E) N_Yard_steps vs H Q := by
  obtain ⟨p, r, rule, row, rfl, Y, k⟩ := h
  have hle := Y.le
  let v : Nat → Int := fun i => (way ((row.getD i none).getD 0) i row.length : Int)
  obtain ⟨ns, e1, e2⟩ := given_ways row.length row (fun i => (row.getD i none).isSome) v 0 fun i o hi => by
    have : row.getD i none = o := by rw [List.getD_eq_getElem?_getD, hi]; rfl
    refine ⟨by rw [this], fun c hc => ?_⟩
    show (way ((row.getD i none).getD 0) i row.length : Int) = _
    rw [this, hc, Nat.zero_add]; rfl
  have key : EvL (tLc (iEnum K (tCons (tFld K (tVar 0) "row") tNil)) (gTup K 2 (gCons (gName 1) (gCons (gName 2) gNil))) (tB (tNotN (tVar 2))) (tCall (sp_way K a) [] E0 (tCons (tVar 2) (tCons (tVar 1) (tCons (tFld K (tVar 0) "many") tNil)))) [1, 2]) [some (.ref p), none, none] H (ns.map V.int) := by
    have := el_lcE (K := K) (σ := [some (.ref p), none, none]) (j1 := 1) (j2 := 2) (te := tCall (sp_way K a) [] E0 (tCons (tVar 2) (tCons (tVar 1) (tCons (tFld K (tVar 0) "many") tNil)))) (t := tB (tNotN (tVar 2))) (fun i => (row.getD i none).isSome) (fun i => V.int (v i)) (ev_row (ev_var (i := 0) rfl) Y.y F) (SqL.of Y.w) (by rw [rowV_len]; omega) (fun x y => rfl)
      (fun i x H1 e1 hi => ?_) (fun i x H1 e1 hi hf => ?_)
    · rw [rowV_len, e1] at this
      exact this
    · unfold rowV at hi
      rw [List.getElem?_map] at hi
      cases e : row[i]? with
      | none => rw [e] at hi; cases hi
      | some o =>
        rw [e] at hi
        have hx : oV o = x := Option.some.inj hi
        subst hx
        have : row.getD i none = o := by rw [List.getD_eq_getElem?_getD, e]; rfl
        rw [this]
        refine et_is (et_B (ev_notN (ev_var rfl))) ?_
        cases o <;> rfl
    · unfold rowV at hi
      rw [List.getElem?_map] at hi
      cases e : row[i]? with
      | none => rw [e] at hi; cases hi
      | some o =>
        rw [e] at hi
        have hx : oV o = x := Option.some.inj hi
        subst hx
        have q : row.getD i none = o := by rw [List.getD_eq_getElem?_getD, e]; rfl
        rw [q] at hf
        cases o with
        | none => cases hf
        | some c =>
          have Y1 := Y.ex e1
          have := ev_callE (σ := [some (.ref p), some (nV i), some (nV c)]) (dvs := []) (E := E0) (ea_cons (ev_var (i := 2) rfl) (ea_cons (ev_var (i := 1) rfl) (ea_cons (ev_many (ev_var (i := 0) rfl) Y1.y F) ea_nil))) (v_way (K := K) (a := a) (c := c) (s := i) (n := row.length) (get_lt e))
          refine ev_is this ?_
          show nV (way c i row.length) = V.int (way ((row.getD i none).getD 0) i row.length : Int)
          rw [q]; rfl
  exact s_ret (v := nV (stepsR row)) (int_is (ev_sum key) e2) k
theorem v_steps {p r : Addr} {rule : Nat} {row : Row} (Y : YR a H p r rule row) : SpV (sp_Yard_steps K a) [.ref p] H (nV (stepsR row)) := fun H1 e1 Q q E => ⟨p, r, rule, row, rfl, Y.ex e1, q⟩
/-! ### taking -/
theorem r_Yard_take (F : YFc K a) (vs : List V) (H : Hp) (Q : VK) (E : XK) (h : sp_Yard_take K a vs H Q E) : Go (t_Yard_take K a E) N_Yard_take vs H Q := by
  obtain ⟨p, r, rule, row, c, rfl, Y, R, kN, k⟩ := h
  have room := R.room
  have hn : 0 < row.length := by omega
  have hle := Y.le
  refine q_asg (v := oV (whereR rule row c)) (ev_ym (ev_var rfl) Y.y f_where.1 f_where.2.1 f_where.2.2 (ea_cons (ev_var rfl) ea_nil) (v_where Y room)) fun H1 e1 => ?_
  refine q_when (et_B (ev_isN (ev_var rfl))) (fun hb H2 e2 => ?_) (fun hb H2 e2 => ?_)
  · refine kN ((where_none R).mp ?_) H2 (e1.trans e2)
    cases e : whereR rule row c with
    | none => rfl
    | some s => rw [e] at hb; simp [oV] at hb
  cases ew : whereR rule row c with
  | none => rw [ew] at hb; simp [oV] at hb
  | some s0 =>
  have hs0 := where_some ew
  have hs0l := get_lt hs0
  have k := k s0 hs0
  have Y2 := Y.ex (e1.trans e2)
  refine q_asgL (el_lst ea_nil (by decide)) fun l H3 hl e3 h3 => ?_
  have hl0 : H l = none := fresh_back (e1.trans e2) hl
  have hlr : l ≠ r := fun q => by subst q; have := Y.w; unfold RowAt at this; rw [hl0] at this; cases this
  have b3 : But r H H3 := But.of ((e1.trans e2).trans e3)
  -- the gap: Some gap and what takeF still does, or none and all is done
  let Inv : Nat → L2.St → Hp → Prop := fun m σ' H' => ∃ (cur : Row) (g : Option Nat) (ts : List Addr) (xs : List (Nat × Nat)) (v4 : Option V), σ' = [some (.ref p), some (nV c), some (oV g), some (.ref l), v4] ∧ cur.length = row.length ∧
    YR a H' p r rule cur ∧ But r H H' ∧ H' l = some (.lst (ts.map V.ref)) ∧ Tups H' ts xs ∧ xs.length + m ≤ row.length ∧
    match g with
    | none => cur = (takeR row s0).1 ∧ xs = (takeR row s0).2
    | some s => s < cur.length ∧ Gap rule (cur.set s none) s ∧ (∃ d, d < m ∧ d + 1 < cur.length ∧ (cur.set s none)[spot (nx s cur.length) d cur.length]? = some none) ∧
      (takeF row.length m cur s).1 = (takeR row s0).1 ∧ xs ++ (takeF row.length m cur s).2 = (takeR row s0).2
  refine q_while Inv row.length ?_ ?_
  · obtain ⟨d, hd1, hd2⟩ := free_ahead R hs0
    exact ⟨row, some s0, [], [], none, rfl, rfl, Y2.ex e3, b3, h3, .nil, by show 0 + _ ≤ _; omega, hs0l, gap_of R.toPk hs0, ⟨d, by omega, hd1, hd2⟩, rfl, rfl⟩
  · rintro m σ' H' ⟨cur, g, ts, xs, v4, rfl, hcl, Y', b', h', T, hz, hg⟩
    refine ⟨!decide (oV g = .non), et_B (ev_notN (ev_var rfl)), fun hb H5 e5 => ?_, fun hb H5 e5 => ?_⟩
    · cases g with
      | none => simp [oV] at hb
      | some s =>
        obtain ⟨hs, G, ⟨d, hd, hd1, hd2⟩, g1, g2⟩ := hg
        cases m with
        | zero => omega
        | succ m =>
        refine ⟨Inv m, fun σ2 H2 hw => ⟨m, by omega, hw⟩, ?_⟩
        have Y5 := Y'.ex e5
        refine q_setR (o := none) Y5 F ev_c (ev_row (ev_var rfl) Y5.y F) (ev_var rfl) hs fun H6 b6 n6 Y6 => ?_
        have h6 : H6 l = some (.lst (ts.map V.ref)) := b6 _ _ hlr (e5 _ _ h')
        have T6 : Tups H6 ts xs := (T.ex e5).but (fun xs q => by have := Y5.w; unfold RowAt at this; rw [this] at q; cases q) b6
        have bb6 : But r H H6 := (b'.trans (But.of e5)).trans b6
        have hl6 : (cur.set s none).length = cur.length := List.length_set
        have HH := G.heir G.freeIn
        rw [hl6] at HH
        have vh := v_heir (K := K) (gap := s) Y6 (by rw [hl6]; exact hs) (by rw [hl6]; have := G.freeIn; rw [hl6] at this; exact this)
        rw [hl6] at vh
        refine q_asg (ev_ym (ev_var rfl) Y6.y f_heir.1 f_heir.2.1 f_heir.2.2 (ea_cons (ev_var rfl) ea_nil) vh) fun H7 e7 => ?_
        have Y7 := Y6.ex e7
        have h7 := e7 _ _ h6
        have T7 := T6.ex e7
        have bb7 : But r H H7 := bb6.trans (But.of e7)
        cases eh : heirF cur.length s cur.length (cur.set s none) (nx s cur.length) with
        | none =>
          have eh' := eh
          rw [hcl] at eh'
          rw [takeF_none eh'] at g1 g2
          refine q_when (et_B (ev_notN (ev_var rfl))) (fun hb2 H8 e8 => ?_) (fun hb2 H8 e8 => ?_)
          · simp [oV] at hb2
          · refine s_asg (ev_var rfl) fun H9 e9 => ?_
            refine ⟨cur.set s none, none, ts, xs, _, rfl, by rw [hl6]; exact hcl, Y7.ex (e8.trans e9), bb7.trans (But.of (e8.trans e9)), (e8.trans e9) _ _ h7, T7.ex (e8.trans e9), by omega, g1, ?_⟩
            rw [← g2]; exact (List.append_nil xs).symm
        | some b =>
          obtain ⟨x, hx, hbs, G2, P2, hnext⟩ := HH.1 b eh
          obtain ⟨d', hd1', hd2', hd3'⟩ := hnext d hd1 hd2
          have hxc : cur[b]? = some (some x) := by rw [set_ne (Ne.symm hbs)] at hx; exact hx
          have eh' := eh
          rw [hcl] at eh'
          rw [takeF_some eh' hxc] at g1 g2
          refine q_when (et_B (ev_notN (ev_var rfl))) (fun hb2 H8 e8 => ?_) (fun hb2 H8 e8 => ?_)
          · have Y8 := Y7.ex e8
            refine q_setR (o := some x) Y8 F (ev_op (ev_row (ev_var rfl) Y8.y F) (ev_var rfl) (rv_ixR Y8.w hx)) (ev_row (ev_var rfl) Y8.y F) (ev_var rfl) (by rw [hl6]; exact hs) fun H9 b9 n9 Y9 => ?_
            have hx9 : ((cur.set s none).set s (some x))[b]? = some (some x) := by rw [set_ne (Ne.symm hbs)]; exact hx
            have h9 : H9 l = some (.lst (ts.map V.ref)) := b9 _ _ hlr (e8 _ _ h7)
            have T9 : Tups H9 ts xs := (T7.ex e8).but (fun xs q => by have := Y8.w; unfold RowAt at this; rw [this] at q; cases q) b9
            refine s_told Y9 h9 T9 (by omega) (ev_var rfl) (ev_op (ev_row (ev_var rfl) Y9.y F) (ev_var rfl) (rv_ixR (o := some x) Y9.w hx9)) (ev_var rfl) hlr fun H10 t b10 n10 Y10 h10 T10 => ?_
            refine s_asg (ev_var rfl) fun H11 e11 => ?_
            have hl9 : ((cur.set s none).set s (some x)).length = cur.length := by rw [List.length_set, hl6]
            refine ⟨(cur.set s none).set s (some x), some b, ts ++ [t], xs ++ [(x, s)], _, rfl, by rw [hl9]; exact hcl, Y10.ex e11, fun b o nb hbo => ?_, e11 _ _ h10, T10.ex e11, by rw [List.length_append]; show xs.length + 1 + m ≤ _; omega, by rw [hl9]; exact get_lt hxc, G2, ⟨d', by omega, by rw [hl9]; exact hd2', by rw [hl9]; exact hd3'⟩, g1, ?_⟩
            · have nbl : b ≠ l := ne_of_none hbo hl0
              exact e11 _ _ (b10 b o nbl (b9 b o nb (e8 _ _ (bb7 b o nb hbo))))
            · rw [List.append_assoc]; exact g2
          · simp [oV] at hb2
    · cases g with
      | some s => simp [oV] at hb
      | none =>
        obtain ⟨g1, g2⟩ := hg
        refine s_ret (ev_var rfl) fun H6 e6 => ?_
        have Y5 := Y'.ex (e5.trans e6)
        exact k l ts H6 hl0 hlr (b'.trans (But.of (e5.trans e6))) (by rw [← g1]; exact Y5.w) ((e5.trans e6) _ _ h') (by rw [← g2]; exact T.ex (e5.trans e6))
end
end SY

namespace SY
open PySem L2 Evl
/-! ### the promises of the laws' own defs -/
def cellAt (ns : List Int) (k : Nat) : Int := ns.getD k 0
def Ints (K : PySem.W.Frag) (H : Hp) (s : Addr) (ns : List Int) : Prop := SqL K H s (ns.map V.int)
def sp_law_cell (K : PySem.W.Frag) (a : Ad) : Sp := fun vs H Q _ => ∃ (s : Addr) (ns : List Int) (k : Nat), vs = [.ref s, nV k] ∧ Ints K H s ns ∧ RetV (.int (cellAt ns k)) H Q
/-- a plain value: None, a bool, a number -/
def plainV : V → Bool
  | .non => true | .bl _ => true | .int _ => true | _ => false
def wholeV : V → Bool
  | .int _ => true | _ => false
def sp_law_whole (K : PySem.W.Frag) (a : Ad) : Sp := fun vs H Q _ => ∃ x : V, vs = [x] ∧ plainV x = true ∧ RetV (.bl (wholeV x)) H Q
def sp_law_way (K : PySem.W.Frag) (a : Ad) : Sp := fun vs H Q _ => ∃ (c s n : Nat), vs = [nV c, nV s, nV n] ∧ s < n ∧ RetV (nV (way c s n)) H Q
def sp_law_keeps (K : PySem.W.Frag) (a : Ad) : Sp := fun vs H Q _ => ∃ (rule c m s n : Nat), vs = [nV rule, nV c, nV m, nV s, nV n] ∧ s < n ∧ rule ≤ 2 ∧ RetV (.bl (keeps rule c m s n)) H Q
def sp_law_truth (K : PySem.W.Frag) (a : Ad) : Sp := fun vs H Q _ => ∃ (x y : Bool), vs = [.bl x, .bl y] ∧ RetV (.bl (x == y)) H Q
def sp_law_put (K : PySem.W.Frag) (a : Ad) : Sp := fun vs H Q _ => ∃ (r : Addr) (rule : Nat) (row : Row) (c : Nat), vs = [.ref r, nV rule, nV c] ∧ RowAt H r row ∧ row.length ≤ 200 ∧ rule ≤ 2 ∧ Right rule row ∧ c ∉ names row ∧ Told a r (putR rule row c) H Q
def manyOf (cell : Int) : Nat := if cell % 5 = 1 then 2 + (cell / 5 % 199).toNat else 2 + (cell / 5 % 9).toNat
theorem manyOf_le (cell : Int) : 2 ≤ manyOf cell ∧ manyOf cell ≤ 200 := by
  unfold manyOf
  have h1 := Int.emod_lt_of_pos (cell / 5) (show (0 : Int) < 199 by decide)
  have h2 := Int.emod_lt_of_pos (cell / 5) (show (0 : Int) < 9 by decide)
  split <;> omega
def sp_law_many (K : PySem.W.Frag) (a : Ad) : Sp := fun vs H Q _ => ∃ cell : Int, vs = [.int cell] ∧ RetV (nV (manyOf cell)) H Q
def nameOf (cell : Int) (n : Nat) (far : Bool) : Nat := if far = true then (cell % 10 ^ 30).toNat else (cell % (3 * (n : Int))).toNat
theorem nameOf_lt (cell : Int) {n : Nat} (h : 0 < n) (h2 : n ≤ 200) (far : Bool) : nameOf cell n far < 10 ^ 30 := by
  unfold nameOf
  have h1 := Int.emod_lt_of_pos cell (show (0 : Int) < 10 ^ 30 by decide)
  have h2 := Int.emod_lt_of_pos cell (show (0 : Int) < 3 * (n : Int) by omega)
  split <;> omega
def sp_law_name (K : PySem.W.Frag) (a : Ad) : Sp := fun vs H Q _ => ∃ (cell : Int) (n : Nat) (far : Bool), vs = [.int cell, nV n, .bl far] ∧ 0 < n ∧ n ≤ 1000 ∧ RetV (nV (nameOf cell n far)) H Q
/-- the list at l tells these moves -/
def MovesAt (H : Hp) (l : Addr) (xs : List (Nat × Nat)) : Prop := ∃ ts, H l = some (.lst (ts.map V.ref)) ∧ Tups H ts xs
theorem MovesAt.ex {H H' : Hp} {l : Addr} {xs : List (Nat × Nat)} (h : MovesAt H l xs) (e : Ex H H') : MovesAt H' l xs := let ⟨ts, h1, h2⟩ := h; ⟨ts, e _ _ h1, h2.ex e⟩
def sp_law_stood (K : PySem.W.Frag) (a : Ad) : Sp := fun vs H Q _ => ∃ (l m : Addr) (xs ys : List (Nat × Nat)), vs = [.ref l, .ref m] ∧ MovesAt H l xs ∧ MovesAt H m ys ∧ RetV (.bl (decide (xs = ys))) H Q
def sp_law_row (K : PySem.W.Frag) (a : Ad) : Sp := fun vs H Q _ => ∃ (l m : Addr) (A B : Row), vs = [.ref l, .ref m] ∧ RowAt H l A ∧ RowAt H m B ∧ RetV (.bl (decide (A = B))) H Q
def bV (b : Bool) : V := .bl b
/-- a new tuple of truths -/
def RetU (xs : List V) (H : Hp) (Q : VK) : Prop := ∀ p H2, H p = none → Ex H H2 → H2 p = some (.tup xs) → Q (.ref p) H2
def sp_law_refusal (K : PySem.W.Frag) (a : Ad) : Sp := fun vs H Q _ => ∃ (p r : Addr) (rule : Nat) (row : Row) (c : Nat), vs = [.ref p, nV c] ∧ YR a H p r rule row ∧ Right rule row ∧ (c ∈ names row ∨ row.length ≤ (names row).length + 1) ∧
  RetU (if c ∈ names row then [.bl true, .bl false, .bl true] else [.bl false, .bl true, .bl true]) H Q
def sp_law_passers (K : PySem.W.Frag) (a : Ad) : Sp := fun vs H Q _ => ∃ (r : Addr) (row : Row) (gap : Nat), vs = [.ref r, nV gap] ∧ RowAt H r row ∧ row.length ≤ 200 ∧ gap < row.length ∧ FreeIn row (nx gap row.length) row.length ∧
  ∀ fs : List Nat, fs.head? = heirF row.length gap row.length row (nx gap row.length) → fs.length ≤ 200 → RetL (fs.map nV) H Q
def sp_law_take (K : PySem.W.Frag) (a : Ad) : Sp := fun vs H Q _ => ∃ (r : Addr) (rule : Nat) (row : Row) (c s : Nat), vs = [.ref r, nV c] ∧ RowAt H r row ∧ row.length ≤ 200 ∧ Right rule row ∧ row[s]? = some (some c) ∧ Told a r (takeR row s) H Q
def sp_law_refused (K : PySem.W.Frag) (a : Ad) : Sp := fun vs H Q _ => ∃ (p r : Addr) (rule : Nat) (row : Row) (c : Nat), vs = [.ref p, nV c] ∧ YR a H p r rule row ∧ Right rule row ∧ c ∉ names row ∧ RetV (.bl true) H Q
abbrev N_law_cell : List Str := ["script", "k"]
def t_law_cell (K : PySem.W.Frag) (a : Ad) (E : XK) : TS :=
  (tSeq (tIfS (tTest (tOp rLtI (tVar 1) (tCB (rLenL K) (tCons (tVar 0) tNil)))) (tRet (tOp (rIxL K) (tVar 0) (tVar 1))) tNext)
  (tRet (tC (.int 0))))
abbrev N_law_whole : List Str := ["found"]
def t_law_whole (K : PySem.W.Frag) (a : Ad) (E : XK) : TS :=
  (tRet (tAndV (tCB (rIsi K) (tCons (tVar 0) (tCons (tC (.ty "int")) tNil))) (tNotV (tCB (rIsi K) (tCons (tVar 0) (tCons (tC (.ty "bool")) tNil))))))
abbrev N_law_way : List Str := ["name", "at", "many"]
def t_law_way (K : PySem.W.Frag) (a : Ad) (E : XK) : TS :=
  (tRet (tOp rModI (tOp rSubI (tVar 1) (tOp rModI (tVar 0) (tVar 2))) (tVar 2)))
abbrev N_law_keeps : List Str := ["rule", "one", "other", "at", "many"]
def t_law_keeps (K : PySem.W.Frag) (a : Ad) (E : XK) : TS :=
  (tSeq (tIfS (tTest (tOp rEq (tVar 0) (tC (.int 0)))) (tRet (tC (.bl true))) tNext)
  (tSeq (tIfS (tTest (tOp rEq (tVar 0) (tC (.int 1)))) (tRet (tOp rLtI (tVar 1) (tVar 2))) tNext)
  (tRet (tOp (rLtT K) (tTup (tCons (tUn rNegI (tCall (sp_law_way K a) [] E0 (tCons (tVar 1) (tCons (tVar 3) (tCons (tVar 4) tNil))))) (tCons (tVar 1) tNil))) (tTup (tCons (tUn rNegI (tCall (sp_law_way K a) [] E0 (tCons (tVar 2) (tCons (tVar 3) (tCons (tVar 4) tNil))))) (tCons (tVar 2) tNil)))))))
abbrev N_law_put : List Str := ["row", "rule", "name", "many", "stood", "at", "kept"]
def t_law_put (K : PySem.W.Frag) (a : Ad) (E : XK) : TS :=
  (tSeq (tAsg (tCB (rLenL K) (tCons (tVar 0) tNil)) (gName 3))
  (tSeq (tAsg (tLst tNil) (gName 4))
  (tSeq (tAsg (tOp rModI (tVar 2) (tVar 3)) (gName 5))
  (tSeq (tWhile (tB (tNotN (tOp (rIxL K) (tVar 0) (tVar 5)))) (tSeq (tIfS (tNot (tB (tCall (sp_law_keeps K a) [] E0 (tCons (tVar 1) (tCons (tOp (rIxL K) (tVar 0) (tVar 5)) (tCons (tVar 2) (tCons (tVar 5) (tCons (tVar 3) tNil)))))))) (tSeq (tDrop (tBM K "list" rAppend (tVar 4) (tCons (tTup (tCons (tVar 2) (tCons (tVar 5) tNil))) tNil)))
  (tSeq (tAsg (tOp (rIxL K) (tVar 0) (tVar 5)) (gName 6))
  (tSeq (tAsg (tVar 2) (gSub (tVar 0) (tVar 5) rSetL))
  (tAsg (tVar 6) (gName 2))))) tNext)
  (tAsg (tOp rModI (tOp rAddI (tVar 5) (tC (.int 1))) (tVar 3)) (gName 5))))
  (tSeq (tAsg (tVar 2) (gSub (tVar 0) (tVar 5) rSetL))
  (tSeq (tDrop (tBM K "list" rAppend (tVar 4) (tCons (tTup (tCons (tVar 2) (tCons (tVar 5) tNil))) tNil)))
  (tRet (tVar 4))))))))
abbrev N_law_many : List Str := ["cell"]
def t_law_many (K : PySem.W.Frag) (a : Ad) (E : XK) : TS :=
  (tSeq (tIfS (tTest (tOp rEq (tOp rModI (tVar 0) (tC (.int 5))) (tC (.int 1)))) (tRet (tOp rAddI (tC (.int 2)) (tOp rModI (tOp rDivI (tVar 0) (tC (.int 5))) (tC (.int 199))))) tNext)
  (tRet (tOp rAddI (tC (.int 2)) (tOp rModI (tOp rDivI (tVar 0) (tC (.int 5))) (tC (.int 9))))))
abbrev N_law_name : List Str := ["cell", "many", "far"]
def t_law_name (K : PySem.W.Frag) (a : Ad) (E : XK) : TS :=
  (tSeq (tIfS (tB (tVar 2)) (tRet (tOp rModI (tVar 0) (tOp rPowI (tC (.int 10)) (tC (.int 30))))) tNext)
  (tRet (tOp rModI (tVar 0) (tOp rMulI (tC (.int 3)) (tVar 1)))))
abbrev N_law_stood : List Str := ["found", "due", "one"]
def t_law_stood (K : PySem.W.Frag) (a : Ad) (E : XK) : TS :=
  (tSeq (tIfS (tOr (tNot (tB (tCB (rIsi K) (tCons (tVar 0) (tCons (tC (.ty "list")) tNil))))) (tTest (tOp rNe (tCB (rLenL K) (tCons (tVar 0) tNil)) (tCB (rLenL K) (tCons (tVar 1) tNil))))) (tRet (tC (.bl false))) tNext)
  (tSeq (tFor (iList K (tVar 0)) (gName 2) (tIfS (tOr (tNot (tB (tCB (rIsi K) (tCons (tVar 2) (tCons (tC (.ty "tuple")) tNil))))) (tOr (tTest (tOp rNe (tCB (rLenL K) (tCons (tVar 2) tNil)) (tC (.int 2)))) (tOr (tNot (tB (tCall (sp_law_whole K a) [] E0 (tCons (tOp (rIxT K) (tVar 2) (tC (.int 0))) tNil)))) (tNot (tB (tCall (sp_law_whole K a) [] E0 (tCons (tOp (rIxT K) (tVar 2) (tC (.int 1))) tNil))))))) (tRet (tC (.bl false))) tNext))
  (tRet (tOp (rEqD K) (tVar 0) (tVar 1)))))
abbrev N_law_row : List Str := ["found", "due", "one"]
def t_law_row (K : PySem.W.Frag) (a : Ad) (E : XK) : TS :=
  (tSeq (tIfS (tOr (tNot (tB (tCB (rIsi K) (tCons (tVar 0) (tCons (tC (.ty "list")) tNil))))) (tTest (tOp rNe (tCB (rLenL K) (tCons (tVar 0) tNil)) (tCB (rLenL K) (tCons (tVar 1) tNil))))) (tRet (tC (.bl false))) tNext)
  (tSeq (tFor (iList K (tVar 0)) (gName 2) (tIfS (tAnd (tB (tNotN (tVar 2))) (tNot (tB (tCall (sp_law_whole K a) [] E0 (tCons (tVar 2) tNil))))) (tRet (tC (.bl false))) tNext))
  (tRet (tOp (rEqD K) (tVar 0) (tVar 1)))))
abbrev N_law_refusal : List Str := ["yard", "name", "e"]
def ts_law_refusal (K : PySem.W.Frag) (a : Ad) (aE : Addr) (cls : Value) (d : Option Addr) : TS :=
  (tRet (tTup (tCons (tCB (rIsX K cls d aE) (tCons (tVar 2) (tCons (tC (.ref a.Here)) tNil))) (tCons (tCB (rIsX K cls d aE) (tCons (tVar 2) (tCons (tC (.ref a.Full)) tNil))) (tCons (tCB (rIsX K cls d aE) (tCons (tVar 2) (tCons (tC (.ty "ValueError")) tNil))) tNil)))))
def t_law_refusal (K : PySem.W.Frag) (a : Ad) (E : XK) : TS :=
  (tSeq (tTryO K a.YardError 2 (fun W => (tDrop (tMethW a.Y "put" (sp_Yard_put K a) (WE W) (tVar 0) (tCons (tVar 1) tNil)))) (ts_law_refusal K a))
  (tRet (tTup tNil)))
abbrev N_law_truth : List Str := ["found", "due"]
def t_law_truth (K : PySem.W.Frag) (a : Ad) (E : XK) : TS :=
  (tRet (tAndV (tCB (rIsi K) (tCons (tVar 0) (tCons (tC (.ty "bool")) tNil))) (tOp rEq (tVar 0) (tVar 1))))
abbrev N_law_passers : List Str := ["row", "gap", "many", "found", "at"]
def t_law_passers (K : PySem.W.Frag) (a : Ad) (E : XK) : TS :=
  (tSeq (tAsg (tCB (rLenL K) (tCons (tVar 0) tNil)) (gName 2))
  (tSeq (tAsg (tLst tNil) (gName 3))
  (tSeq (tAsg (tOp rModI (tOp rAddI (tVar 1) (tC (.int 1))) (tVar 2)) (gName 4))
  (tSeq (tWhile (tB (tNotN (tOp (rIxL K) (tVar 0) (tVar 4)))) (tSeq (tIfS (tTest (tOp rLtI (tCall (sp_law_way K a) [] E0 (tCons (tOp (rIxL K) (tVar 0) (tVar 4)) (tCons (tVar 1) (tCons (tVar 2) tNil)))) (tCall (sp_law_way K a) [] E0 (tCons (tOp (rIxL K) (tVar 0) (tVar 4)) (tCons (tVar 4) (tCons (tVar 2) tNil)))))) (tDrop (tBM K "list" rAppend (tVar 3) (tCons (tVar 4) tNil))) tNext)
  (tAsg (tOp rModI (tOp rAddI (tVar 4) (tC (.int 1))) (tVar 2)) (gName 4))))
  (tRet (tVar 3))))))
abbrev N_law_take : List Str := ["row", "name", "gap", "stood", "found", "at"]
def t_law_take (K : PySem.W.Frag) (a : Ad) (E : XK) : TS :=
  (tSeq (tAsg (tBM K "list" (rIndex K) (tVar 0) (tCons (tVar 1) tNil)) (gName 2))
  (tSeq (tAsg (tLst tNil) (gName 3))
  (tSeq (tAsg (tC .non) (gSub (tVar 0) (tVar 2) rSetL))
  (tSeq (tAsg (tCall (sp_law_passers K a) [] E0 (tCons (tVar 0) (tCons (tVar 2) tNil))) (gName 4))
  (tSeq (tWhile (tTest (tOp (rNeD K) (tVar 4) (tLst tNil))) (tSeq (tAsg (tOp (rIxL K) (tVar 4) (tC (.int 0))) (gName 5))
  (tSeq (tAsg (tOp (rIxL K) (tVar 0) (tVar 5)) (gSub (tVar 0) (tVar 2) rSetL))
  (tSeq (tDrop (tBM K "list" rAppend (tVar 3) (tCons (tTup (tCons (tOp (rIxL K) (tVar 0) (tVar 5)) (tCons (tVar 2) tNil))) tNil)))
  (tSeq (tAsg (tC .non) (gSub (tVar 0) (tVar 5) rSetL))
  (tSeq (tAsg (tVar 5) (gName 2))
  (tAsg (tCall (sp_law_passers K a) [] E0 (tCons (tVar 0) (tCons (tVar 2) tNil))) (gName 4))))))))
  (tRet (tVar 3)))))))
abbrev N_law_refused : List Str := ["yard", "name", "e"]
def ts_law_refused (K : PySem.W.Frag) (a : Ad) (aE : Addr) (cls : Value) (d : Option Addr) : TS :=
  (tRet (tAndV (tCB (rIsX K cls d aE) (tCons (tVar 2) (tCons (tC (.ref a.NoCart)) tNil))) (tCB (rIsX K cls d aE) (tCons (tVar 2) (tCons (tC (.ty "ValueError")) tNil)))))
def t_law_refused (K : PySem.W.Frag) (a : Ad) (E : XK) : TS :=
  (tSeq (tTryO K a.YardError 2 (fun W => (tDrop (tMethW a.Y "take" (sp_Yard_take K a) (WE W) (tVar 0) (tCons (tVar 1) tNil)))) (ts_law_refused K a))
  (tRet (tC (.bl false))))
end SY

namespace SY
open PySem L2 Evl
section
variable {K : PySem.W.Frag} {a : Ad} {H : Hp}
theorem Ints.ex {H' : Hp} {s : Addr} {ns : List Int} (h : Ints K H s ns) (e : Ex H H') : Ints K H' s ns := ex_l e h
theorem ints_get {ns : List Int} {k : Nat} {z : Int} (h : ns[k]? = some z) : (ns.map V.int)[k]? = some (V.int z) := by rw [List.getElem?_map, h]; rfl
theorem r_law_cell (vs : List V) (H : Hp) (Q : VK) (E : XK) (h : sp_law_cell K a vs H Q E) : Go (t_law_cell K a E) N_law_cell vs H Q := by
  obtain ⟨s, ns, k, rfl, hS, q⟩ := h
  refine q_when (et_test (ev_op (ev_var rfl) (ev_len' (ev_var rfl) hS) rv_lt)) (fun hb H1 e1 => ?_) (fun hb H1 e1 => ?_)
  · have hk : k < ns.length := by have := of_decide_eq_true hb; rw [List.length_map] at this; omega
    have e := List.getElem?_eq_getElem hk
    refine s_ret (ev_op (ev_var rfl) (ev_var rfl) (rv_ixL (hS.ex e1) (atI_nat (ints_get e)))) fun H2 e2 => ?_
    have := q H2 (e1.trans e2)
    unfold cellAt at this
    rw [List.getD_eq_getElem?_getD, e] at this
    exact this
  · have hk : ns.length ≤ k := by have := of_decide_eq_false hb; rw [List.length_map] at this; omega
    refine s_ret ev_c fun H2 e2 => ?_
    have := q H2 (e1.trans e2)
    unfold cellAt at this
    rw [List.getD_eq_getElem?_getD, List.getElem?_eq_none hk] at this
    exact this
theorem v_cell {s : Addr} {ns : List Int} {k : Nat} (h : Ints K H s ns) : SpV (sp_law_cell K a) [.ref s, nV k] H (.int (cellAt ns k)) := fun H1 e1 Q q E => ⟨s, ns, k, rfl, h.ex e1, q⟩
theorem r_law_whole (vs : List V) (H : Hp) (Q : VK) (E : XK) (h : sp_law_whole K a vs H Q E) : Go (t_law_whole K a E) N_law_whole vs H Q := by
  obtain ⟨x, rfl, hx, q⟩ := h
  cases x with
  | non => exact s_ret (bl_is (ev_andV (b := false) (ev_isi (b := false) (ev_var rfl) ev_c (.ty _) (fun _ _ => .base .non) (kit_ty (by decide +kernel))) (fun z => nomatch z)) rfl) q
  | bl b => exact s_ret (bl_is (ev_andV (b := false) (ev_isi (b := true) (ev_var rfl) ev_c (.ty _) (fun _ _ => .base (.bl b)) (kit_ty (by decide +kernel))) (fun _ => ev_notV (a := true) (ev_isi (ev_var rfl) ev_c (.ty _) (fun _ _ => .base (.bl b)) (kit_ty (by decide +kernel))))) rfl) q
  | int i => exact s_ret (bl_is (ev_andV (b := true) (ev_isi (b := true) (ev_var rfl) ev_c (.ty _) (fun _ _ => .base (.int i)) (kit_ty (by decide +kernel))) (fun _ => ev_notV (a := false) (ev_isi (ev_var rfl) ev_c (.ty _) (fun _ _ => .base (.int i)) (kit_ty (by decide +kernel))))) rfl) q
  | str _ => cases hx
  | byt _ => cases hx
  | flt _ => cases hx
  | ref _ => cases hx
  | ty _ => cases hx
theorem v_whole {x : V} (h : plainV x = true) : SpV (sp_law_whole K a) [x] H (.bl (wholeV x)) := fun H1 e1 Q q E => ⟨x, rfl, h, q⟩
theorem r_law_way (vs : List V) (H : Hp) (Q : VK) (E : XK) (h : sp_law_way K a vs H Q E) : Go (t_law_way K a E) N_law_way vs H Q := by
  obtain ⟨c, s, n, rfl, hs, k⟩ := h
  refine s_ret (int_is (ev_op (ev_op (ev_var rfl) (ev_op (ev_var rfl) (ev_var rfl) (rv_mod (by omega))) rv_sub) (ev_var rfl) (rv_mod (by omega))) ?_) k
  rw [mod_int]
  exact way_int' hs
theorem v_lway {c s n : Nat} (h : s < n) : SpV (sp_law_way K a) [nV c, nV s, nV n] H (nV (way c s n)) := fun H1 e1 Q q E => ⟨c, s, n, rfl, h, q⟩
theorem r_law_keeps (vs : List V) (H : Hp) (Q : VK) (E : XK) (h : sp_law_keeps K a vs H Q E) : Go (t_law_keeps K a E) N_law_keeps vs H Q := by
  obtain ⟨rule, c, m, s, n, rfl, hs, h2, k⟩ := h
  refine q_when (et_test (ev_op (ev_var rfl) ev_c rv_eqI)) (fun hb H1 e1 => ?_) (fun hb H1 e1 => ?_)
  · have h0 : rule = 0 := by have := of_decide_eq_true hb; omega
    refine s_ret ev_c fun H2 e2 => ?_
    have : keeps rule c m s n = true := by rw [h0]; exact keeps_zero
    rw [← this]
    exact k H2 (e1.trans e2)
  · have h0 : rule ≠ 0 := by have := of_decide_eq_false hb; omega
    refine q_when (et_test (ev_op (ev_var rfl) ev_c rv_eqI)) (fun hb2 H2 e2 => ?_) (fun hb2 H2 e2 => ?_)
    · have h1 : rule = 1 := by have := of_decide_eq_true hb2; omega
      refine s_ret (ev_op (ev_var rfl) (ev_var rfl) rv_lt) fun H3 e3 => ?_
      have e : keeps rule c m s n = decide ((c : Int) < (m : Int)) := by
        unfold keeps
        rw [if_neg h0, if_neg (by omega)]
        by_cases q : c < m
        · rw [decide_eq_true q, decide_eq_true (by omega)]
        · rw [decide_eq_false q, decide_eq_false (by omega)]
      rw [← e]
      exact k H3 ((e1.trans e2).trans e3)
    · have hr : rule = 2 := by have := of_decide_eq_false hb2; omega
      refine s_ret (v := .bl (keeps rule c m s n)) (ev_opUU (eu_tup (ea_cons (ev_un (ev_callE (dvs := []) (ea_cons (ev_var rfl) (ea_cons (ev_var rfl) (ea_cons (ev_var rfl) ea_nil))) (v_lway hs)) ru_neg) (ea_cons (ev_var rfl) ea_nil)) (by show 2 ≤ 100000; decide))
        (eu_tup (ea_cons (ev_un (ev_callE (dvs := []) (ea_cons (ev_var rfl) (ea_cons (ev_var rfl) (ea_cons (ev_var rfl) ea_nil))) (v_lway hs)) ru_neg) (ea_cons (ev_var rfl) ea_nil)) (by show 2 ≤ 100000; decide)) fun p q H3 hp hq e3 => ?_) fun H3 e3 => k H3 ((e1.trans e2).trans e3)
      refine fun H4 e4 Q' q' => ⟨p, q, [-(way c s n : Int), (c : Int)], [-(way m s n : Int), (m : Int)], rfl, rfl, SqT.of (e4 _ _ hp), SqT.of (e4 _ _ hq), ?_⟩
      have e : HT.lexLt [-(way c s n : Int), (c : Int)] [-(way m s n : Int), (m : Int)] = keeps rule c m s n := by
        unfold keeps
        rw [if_neg h0, if_pos hr, HT.lexLt_cons, HT.lexLt_cons, HT.lexLt_nil_nil]
        by_cases q1 : way c s n = way m s n
        · rw [if_pos q1, if_pos (by omega)]
          by_cases q2 : c = m
          · rw [if_pos (by omega)]; exact (decide_eq_false (by omega)).symm
          · rw [if_neg (by omega)]
            by_cases q3 : c < m
            · rw [decide_eq_true q3, decide_eq_true (by omega)]
            · rw [decide_eq_false q3, decide_eq_false (by omega)]
        · rw [if_neg q1, if_neg (by omega)]
          by_cases q3 : way m s n < way c s n
          · rw [decide_eq_true q3, decide_eq_true (by omega)]
          · rw [decide_eq_false q3, decide_eq_false (by omega)]
      rw [e]
      exact q' H4 (Ex.refl H4)
theorem v_lkeeps {rule c m s n : Nat} (h : s < n) (h2 : rule ≤ 2) : SpV (sp_law_keeps K a) [nV rule, nV c, nV m, nV s, nV n] H (.bl (keeps rule c m s n)) := fun H1 e1 Q q E => ⟨rule, c, m, s, n, rfl, h, h2, q⟩
theorem r_law_truth (vs : List V) (H : Hp) (Q : VK) (E : XK) (h : sp_law_truth K a vs H Q E) : Go (t_law_truth K a E) N_law_truth vs H Q := by
  obtain ⟨x, y, rfl, k⟩ := h
  refine s_ret (bl_is (ev_andV (b := x == y) (ev_isi (b := true) (ev_var rfl) ev_c (.ty _) (fun _ _ => .base (.bl x)) (kit_ty (by decide +kernel))) (fun _ => ?_)) (by rw [Bool.true_and])) k
  have := rv_eq (H := H) (x := .bl x) (y := .bl y) rfl
  rw [dec_bl] at this
  exact ev_op (ev_var rfl) (ev_var rfl) this
theorem v_truth {x y : Bool} : SpV (sp_law_truth K a) [.bl x, .bl y] H (.bl (x == y)) := fun H1 e1 Q q E => ⟨x, y, rfl, q⟩
theorem r_law_many (vs : List V) (H : Hp) (Q : VK) (E : XK) (h : sp_law_many K a vs H Q E) : Go (t_law_many K a E) N_law_many vs H Q := by
  obtain ⟨cell, rfl, k⟩ := h
  have h1 := Int.emod_nonneg (cell / 5) (show (199 : Int) ≠ 0 by decide)
  have h2 := Int.emod_nonneg (cell / 5) (show (9 : Int) ≠ 0 by decide)
  refine q_when (et_test (ev_op (ev_op (ev_var rfl) ev_c (rv_mod (by decide))) ev_c rv_eqI)) (fun hb H1 e1 => ?_) (fun hb H1 e1 => ?_)
  · refine s_ret (int_is (j := (manyOf cell : Int)) (ev_op ev_c (ev_op (ev_op (ev_var rfl) ev_c (rv_div (by decide))) ev_c (rv_mod (by decide))) rv_add) ?_) fun H2 e2 => k H2 (e1.trans e2)
    unfold manyOf
    rw [if_pos (of_decide_eq_true hb)]
    omega
  · refine s_ret (int_is (j := (manyOf cell : Int)) (ev_op ev_c (ev_op (ev_op (ev_var rfl) ev_c (rv_div (by decide))) ev_c (rv_mod (by decide))) rv_add) ?_) fun H2 e2 => k H2 (e1.trans e2)
    unfold manyOf
    rw [if_neg (of_decide_eq_false hb)]
    omega
theorem v_many {cell : Int} : SpV (sp_law_many K a) [.int cell] H (nV (manyOf cell)) := fun H1 e1 Q q E => ⟨cell, rfl, q⟩
theorem r_law_name (vs : List V) (H : Hp) (Q : VK) (E : XK) (h : sp_law_name K a vs H Q E) : Go (t_law_name K a E) N_law_name vs H Q := by
  obtain ⟨cell, n, far, rfl, hn, hn2, k⟩ := h
  refine q_when (et_B (ev_var rfl)) (fun hb H1 e1 => ?_) (fun hb H1 e1 => ?_)
  · subst hb
    refine s_ret (int_is (j := (nameOf cell n true : Int)) (ev_op (ev_var rfl) (ev_op ev_c ev_c (rv_pow10 (by decide))) (rv_mod (by decide))) ?_) fun H2 e2 => k H2 (e1.trans e2)
    have := Int.emod_nonneg cell (show (10 ^ 30 : Int) ≠ 0 by decide)
    unfold nameOf
    rw [if_pos rfl]
    show cell % 10 ^ 30 = _
    omega
  · subst hb
    refine s_ret (int_is (j := (nameOf cell n false : Int)) (ev_op (ev_var rfl) (ev_op ev_c (ev_var rfl) (rv_mulL (by decide))) (rv_mod (by show (0 : Int) < 3 * (n : Int); omega))) ?_) fun H2 e2 => k H2 (e1.trans e2)
    have := Int.emod_nonneg cell (show (3 * (n : Int)) ≠ 0 by omega)
    unfold nameOf
    rw [if_neg (by decide)]
    omega
theorem v_name {cell : Int} {n : Nat} {far : Bool} (h : 0 < n) (h2 : n ≤ 1000) : SpV (sp_law_name K a) [.int cell, nV n, .bl far] H (nV (nameOf cell n far)) := fun H1 e1 Q q E => ⟨cell, n, far, rfl, h, h2, q⟩
/-! ### data -/
def dO : Option Nat → PyData
  | none => .none
  | some n => .int (n : Int)
def dT (x : Nat × Nat) : PyData := .tuple [.int (x.1 : Int), .int (x.2 : Int)]
theorem dp_row : ∀ (A : Row), DpAll K H (rowV A) (A.map dO)
  | [] => .nil
  | none :: r => .cons .non (dp_row r)
  | some c :: r => .cons (.int _) (dp_row r)
theorem dp_tups : ∀ {ts : List Addr} {xs : List (Nat × Nat)}, Tups H ts xs → DpAll K H (ts.map V.ref) (xs.map dT)
  | _, _, .nil => .nil
  | _, _, .cons h t => .cons (.tup (SqT.of h) (.cons (.int _) (.cons (.int _) .nil))) (dp_tups t)
theorem eqv_int (i j : Nat) : PyData.eqv (.int (i : Int)) (.int (j : Int)) = decide (i = j) := by
  rw [PyData.eqv]
  by_cases h : i = j
  · subst h; simp
  · have : ¬ ((i : Int) = (j : Int)) := by omega
    simp [h, this]
theorem eqv_dO (o p : Option Nat) : PyData.eqv (dO o) (dO p) = decide (o = p) := by
  cases o with
  | none => cases p <;> simp [dO, PyData.eqv]
  | some i =>
    cases p with
    | none => simp [dO, PyData.eqv]
    | some j =>
      show PyData.eqv (.int (i : Int)) (.int (j : Int)) = _
      rw [eqv_int]
      by_cases h : i = j
      · subst h; simp
      · simp [h]
theorem eqv_all {α : Type} [DecidableEq α] {f : α → PyData} (hf : ∀ x y, PyData.eqv (f x) (f y) = decide (x = y)) : ∀ (A B : List α), PyData.eqvAll (A.map f) (B.map f) = decide (A = B)
  | [], [] => by simp [PyData.eqvAll]
  | [], _ :: _ => by simp [PyData.eqvAll]
  | _ :: _, [] => by simp [PyData.eqvAll]
  | x :: A, y :: B => by
    rw [List.map_cons, List.map_cons, PyData.eqvAll, hf, eqv_all hf A B]
    by_cases h1 : x = y
    · subst h1
      by_cases h2 : A = B
      · subst h2; simp
      · simp [h2]
    · simp [h1]
theorem eqv_dT (x y : Nat × Nat) : PyData.eqv (dT x) (dT y) = decide (x = y) := by
  obtain ⟨x1, x2⟩ := x
  obtain ⟨y1, y2⟩ := y
  show PyData.eqv (.tuple _) (.tuple _) = _
  rw [PyData.eqv, PyData.eqvAll, PyData.eqvAll, PyData.eqvAll, eqv_int, eqv_int]
  by_cases h1 : x1 = y1 <;> by_cases h2 : x2 = y2 <;> simp [h1, h2]
theorem shaped_all {α : Type} {f : α → PyData} {n : Nat} (hf : ∀ x, (f x).canLay0 = true ∧ (f x).depth ≤ n) : ∀ A : List α, PyData.canLayAll0 (A.map f) = true ∧ PyData.depthAll (A.map f) ≤ n
  | [] => ⟨rfl, Nat.zero_le _⟩
  | x :: A => by
    have ih := shaped_all hf A
    have h := hf x
    rw [List.map_cons, PyData.canLayAll0, PyData.depthAll, h.1, ih.1]
    exact ⟨rfl, Nat.max_le.mpr ⟨h.2, ih.2⟩⟩
theorem shaped_list {α : Type} {f : α → PyData} (hf : ∀ x, (f x).canLay0 = true ∧ (f x).depth ≤ 5) (A : List α) : SeqAt.shaped (.list (A.map f)) = true := by
  have h := shaped_all hf A
  unfold SeqAt.shaped
  rw [Bool.and_eq_true]
  refine ⟨by rw [PyData.canLay0]; exact h.1, decide_eq_true ?_⟩
  rw [PyData.depth]
  omega
theorem lay_dO (o : Option Nat) : (dO o).canLay0 = true ∧ (dO o).depth ≤ 5 := by cases o <;> exact ⟨rfl, Nat.zero_le _⟩
theorem lay_dT (x : Nat × Nat) : (dT x).canLay0 = true ∧ (dT x).depth ≤ 5 := ⟨rfl, (by decide : max 0 (max 0 0) + 1 ≤ 5)⟩
theorem rv_eqRow {l m : Addr} {A B : Row} (h1 : RowAt H l A) (h2 : RowAt H m B) : RV (rEqD K) (.ref l) (.ref m) H (.bl (decide (A = B))) := fun H1 e1 Q q =>
  ⟨_, _, .lst (SqL.of (e1 _ _ h1)) (dp_row A), .lst (SqL.of (e1 _ _ h2)) (dp_row B), shaped_list lay_dO A, shaped_list lay_dO B, by
    rw [PyData.eqv, eqv_all eqv_dO]
    exact q H1 (Ex.refl H1)⟩
theorem rv_eqMoves {l m : Addr} {xs ys : List (Nat × Nat)} (h1 : MovesAt H l xs) (h2 : MovesAt H m ys) : RV (rEqD K) (.ref l) (.ref m) H (.bl (decide (xs = ys))) := fun H1 e1 Q q => by
  obtain ⟨ts, h1, T1⟩ := h1
  obtain ⟨us, h2, T2⟩ := h2
  refine ⟨_, _, .lst (SqL.of (e1 _ _ h1)) (dp_tups (T1.ex e1)), .lst (SqL.of (e1 _ _ h2)) (dp_tups (T2.ex e1)), shaped_list lay_dT xs, shaped_list lay_dT ys, ?_⟩
  rw [PyData.eqv, eqv_all eqv_dT]
  exact q H1 (Ex.refl H1)
theorem plain_oV (o : Option Nat) : plainV (oV o) = true := by cases o <;> rfl
theorem r_law_row (vs : List V) (H : Hp) (Q : VK) (E : XK) (h : sp_law_row K a vs H Q E) : Go (t_law_row K a E) N_law_row vs H Q := by
  obtain ⟨l, m, A, B, rfl, hA, hB, k⟩ := h
  refine q_when (et_or (et_not (et_B (ev_isi (b := true) (ev_var rfl) ev_c (.ty _) (fun H1 e1 => .base (.lst (e1 _ _ hA))) (kit_ty (by decide +kernel))))) (fun _ => et_test (ev_op (ev_len' (ev_var rfl) (SqL.of hA)) (ev_len' (ev_var rfl) (SqL.of hB)) rv_neI))) (fun hb H1 e1 => ?_) (fun hb H1 e1 => ?_)
  · refine s_ret ev_c fun H2 e2 => ?_
    have : A ≠ B := fun q => by
      subst q
      simp at hb
    have := decide_eq_false this
    rw [← this]
    exact k H2 (e1.trans e2)
  · refine q_forLn (ev_var rfl) (SqL.of (e1 _ _ hA)) (fun i σ' H' => Ex H H' ∧ ∃ v, σ' = [some (.ref l), some (.ref m), v]) (fun H2 e2 => ⟨e1.trans e2, none, rfl⟩) (fun i σ' H' _ ⟨e, _⟩ => SqL.of (e _ _ hA)) (fun i x σ' H' hi ⟨e, v, hσ⟩ => ?_) (fun σ' H' ⟨e, v, hσ⟩ => ?_)
    · subst hσ
      obtain ⟨o, _, rfl⟩ : ∃ o, A[i]? = some o ∧ x = oV o := by
        unfold rowV at hi
        rw [List.getElem?_map] at hi
        cases q : A[i]? with
        | none => rw [q] at hi; cases hi
        | some o => rw [q] at hi; exact ⟨o, rfl, (Option.some.inj hi).symm⟩
      refine s_when (et_and (et_B (ev_notN (ev_var rfl))) (fun _ => et_not (et_B (ev_callE (dvs := []) (ea_cons (ev_var rfl) ea_nil) (v_whole (plain_oV o)))))) (fun hb2 H2 e2 => ?_) (fun hb2 H2 e2 => ?_)
      · cases o <;> simp [oV, wholeV] at hb2
      · exact ⟨e.trans e2, _, rfl⟩
    · subst hσ
      exact s_ret (ev_op (ev_var rfl) (ev_var rfl) (rv_eqRow (e _ _ hA) (e _ _ hB))) fun H2 e2 => k H2 (e.trans e2)
theorem v_row {l m : Addr} {A B : Row} (h1 : RowAt H l A) (h2 : RowAt H m B) : SpV (sp_law_row K a) [.ref l, .ref m] H (.bl (decide (A = B))) := fun H1 e1 Q q E => ⟨l, m, A, B, rfl, e1 _ _ h1, e1 _ _ h2, q⟩
theorem Tups.get {H : Hp} : ∀ {ts : List Addr} {xs : List (Nat × Nat)} {i : Nat} {t : Addr}, Tups H ts xs → ts[i]? = some t → ∃ x, xs[i]? = some x ∧ H t = some (.tup [nV x.1, nV x.2])
  | _, _, _, _, .nil, e => by simp at e
  | _, _, 0, _, .cons r _, e => by simp at e; subst e; exact ⟨_, rfl, r⟩
  | _, _, i + 1, _, .cons _ tl, e => Tups.get (i := i) tl (by simpa using e)
theorem r_law_stood (vs : List V) (H : Hp) (Q : VK) (E : XK) (h : sp_law_stood K a vs H Q E) : Go (t_law_stood K a E) N_law_stood vs H Q := by
  obtain ⟨l, m, xs, ys, rfl, hA, hB, k⟩ := h
  obtain ⟨ts, h1, T1⟩ := id hA
  obtain ⟨us, h2, T2⟩ := id hB
  refine q_when (et_or (et_not (et_B (ev_isi (b := true) (ev_var rfl) ev_c (.ty _) (fun H1 e1 => .base (.lst (e1 _ _ h1))) (kit_ty (by decide +kernel))))) (fun _ => et_test (ev_op (ev_len' (ev_var rfl) (SqL.of h1)) (ev_len' (ev_var rfl) (SqL.of h2)) rv_neI))) (fun hb H1 e1 => ?_) (fun hb H1 e1 => ?_)
  · refine s_ret ev_c fun H2 e2 => ?_
    have : xs ≠ ys := fun q => by
      subst q
      have e1 := Paired.length T1
      have e2 := Paired.length T2
      simp [e1, e2] at hb
    have := decide_eq_false this
    rw [← this]
    exact k H2 (e1.trans e2)
  · refine q_forLn (ev_var rfl) (SqL.of (e1 _ _ h1)) (fun i σ' H' => Ex H H' ∧ ∃ v, σ' = [some (.ref l), some (.ref m), v]) (fun H2 e2 => ⟨e1.trans e2, none, rfl⟩) (fun i σ' H' _ ⟨e, _⟩ => SqL.of (e _ _ h1)) (fun i x σ' H' hi ⟨e, v, hσ⟩ => ?_) (fun σ' H' ⟨e, v, hσ⟩ => ?_)
    · subst hσ
      obtain ⟨t, x', hx, rfl⟩ : ∃ (t : Addr) (x' : Nat × Nat), H t = some (.tup [nV x'.1, nV x'.2]) ∧ x = .ref t := by
        rw [List.getElem?_map] at hi
        cases q : ts[i]? with
        | none => rw [q] at hi; cases hi
        | some t =>
          rw [q] at hi
          obtain ⟨x', _, hx'⟩ := T1.get q
          exact ⟨t, x', hx', (Option.some.inj hi).symm⟩
      have hx' := e _ _ hx
      refine s_when (et_or (et_not (et_B (ev_isi (b := true) (ev_var rfl) ev_c (.ty _) (fun H1 e1 => .base (.tup (e1 _ _ hx'))) (kit_ty (by decide +kernel))))) (fun _ => et_or (et_test (ev_op (ev_lenT (ev_var rfl) (SqT.of hx')) ev_c rv_neI)) (fun _ => et_or
        (et_not (et_B (ev_callE (dvs := []) (ea_cons (ev_op (ev_var rfl) ev_c (rv_ixT (SqT.of hx') (atI_nat (j := 0) rfl))) ea_nil) (v_whole rfl)))) (fun _ => et_not (et_B (ev_callE (dvs := []) (ea_cons (ev_op (ev_var rfl) ev_c (rv_ixT (SqT.of hx') (atI_nat (j := 1) rfl))) ea_nil) (v_whole rfl))))))) (fun hb2 H2 e2 => ?_) (fun hb2 H2 e2 => ?_)
      · simp [wholeV, nV] at hb2
      · exact ⟨e.trans e2, _, rfl⟩
    · subst hσ
      exact s_ret (ev_op (ev_var rfl) (ev_var rfl) (rv_eqMoves (hA.ex e) (hB.ex e))) fun H2 e2 => k H2 (e.trans e2)
theorem v_stood {l m : Addr} {xs ys : List (Nat × Nat)} (h1 : MovesAt H l xs) (h2 : MovesAt H m ys) : SpV (sp_law_stood K a) [.ref l, .ref m] H (.bl (decide (xs = ys))) := fun H1 e1 Q q E => ⟨l, m, xs, ys, rfl, h1.ex e1, h2.ex e1, q⟩
end
end SY

namespace SY
open PySem L2 Evl
def spLaw (K : PySem.W.Frag) : Sp := fun vs H Q _ => ∃ (s : Addr) (ns : List Int), vs = [.ref s] ∧ SqL K H s (ns.map V.int) ∧ ns.length ≤ 63 ∧ ∀ H', Q (.bl true) H'
section
variable {K : PySem.W.Frag} {a : Ad} {H : Hp}
theorem ev_nat {te : TE} {σ : L2.St} {i : Int} (h : Ev te σ H (.int i)) (hi : 0 ≤ i) : Ev te σ H (nV i.toNat) := int_is h (by omega)
/-- a cell of the script -/
theorem ev_cell {ts : TE} {σ : L2.St} {s : Addr} {ns : List Int} {z : Int} (k : Nat) (hz : z = (k : Int)) (h : Ev ts σ H (.ref s)) (hS : Ints K H s ns) : Ev (tCall (sp_law_cell K a) [] E0 (tCons ts (tCons (tC (.int z)) tNil))) σ H (.int (cellAt ns k)) := by
  subst hz
  exact ev_callE (dvs := []) (ea_cons h (ea_cons ev_c ea_nil)) (v_cell hS)
/-! ### a row that is no yard's -/
theorem RowAt.ex {H' : Hp} {r : Addr} {row : Row} (h : RowAt H r row) (e : Ex H H') : RowAt H' r row := e _ _ h
/-- row[s] = o -/
theorem q_setW {ta tb te : TE} {σ : L2.St} {D : Ends} {tz : TS} {r : Addr} {s : Nat} {row : Row} {o : Option Nat} (w : RowAt H r row) (h : Ev te σ H (oV o)) (ho : Ev ta σ H (.ref r)) (hi : Ev tb σ H (nV s)) (hs : s < row.length)
    (k : ∀ H1, But r H H1 → (∀ b, H1 b = none → H b = none) → RowAt H1 r (row.set s o) → tz D σ H1) : tSeq (tAsg te (gSub ta tb rSetL)) tz D σ H :=
  q_setL w h ho hi (by rw [rowV_len]; exact hs) fun H1 e1 => by
    rw [rowV_set]
    refine k _ ((But.of e1).trans But.upd) (fun b q => ?_) upd_same
    by_cases hb : b = r
    · subst hb; rw [upd_same] at q; cases q
    · rw [upd_ne hb] at q; exact fresh_back e1 q
theorem s_setW {ta tb te : TE} {σ : L2.St} {D : Ends} {r : Addr} {s : Nat} {row : Row} {o : Option Nat} (w : RowAt H r row) (h : Ev te σ H (oV o)) (ho : Ev ta σ H (.ref r)) (hi : Ev tb σ H (nV s)) (hs : s < row.length)
    (k : ∀ H1, But r H H1 → (∀ b, H1 b = none → H b = none) → RowAt H1 r (row.set s o) → D.nx σ H1) : tAsg te (gSub ta tb rSetL) D σ H :=
  q_setW (D := D) (tz := fun D σ H => D.nx σ H) w h ho hi hs k
/-- stood.append((name, at)) -/
theorem q_toldW {tl tx ty : TE} {σ : L2.St} {D : Ends} {tz : TS} {l : Addr} {c s : Nat} {ts : List Addr} {xs : List (Nat × Nat)} (hl : H l = some (.lst (ts.map V.ref))) (T : Tups H ts xs) (hz : xs.length ≤ 200) (ho : Ev tl σ H (.ref l)) (hx : Ev tx σ H (nV c)) (hy : Ev ty σ H (nV s))
    (k : ∀ H1 t, But l H H1 → (∀ b, H1 b = none → H b = none) → H1 l = some (.lst ((ts ++ [t]).map V.ref)) → Tups H1 (ts ++ [t]) (xs ++ [(c, s)]) → tz D σ H1) :
    tSeq (tDrop (tBM K "list" rAppend tl (tCons (tTup (tCons tx (tCons ty tNil))) tNil))) tz D σ H := by
  have hlen := Paired.length T
  refine q_appU hl ho (eu_tup (ea_cons hx (ea_cons hy ea_nil)) (by show 2 ≤ 100000; decide)) (lt_sz (by rw [List.length_map]; omega)) fun t H1 ht e1 h1 => ?_
  have nlt : l ≠ t := ne_of_none hl ht
  have nl : ∀ xs, H1 l ≠ some (.tup xs) := fun xs q => by rw [e1 _ _ hl] at q; cases q
  refine k _ t ((But.of e1).trans But.upd) (fun b q => ?_) ?_ ?_
  · by_cases hb : b = l
    · subst hb; rw [upd_same] at q; cases q
    · rw [upd_ne hb] at q; exact fresh_back e1 q
  · rw [upd_same, List.map_append]; rfl
  · exact Tups.app (by rw [upd_ne (Ne.symm nlt)]; exact h1) ((T.ex e1).but nl But.upd)
theorem s_toldW {tl tx ty : TE} {σ : L2.St} {D : Ends} {l : Addr} {c s : Nat} {ts : List Addr} {xs : List (Nat × Nat)} (hl : H l = some (.lst (ts.map V.ref))) (T : Tups H ts xs) (hz : xs.length ≤ 200) (ho : Ev tl σ H (.ref l)) (hx : Ev tx σ H (nV c)) (hy : Ev ty σ H (nV s))
    (k : ∀ H1 t, But l H H1 → (∀ b, H1 b = none → H b = none) → H1 l = some (.lst ((ts ++ [t]).map V.ref)) → Tups H1 (ts ++ [t]) (xs ++ [(c, s)]) → D.nx σ H1) :
    tDrop (tBM K "list" rAppend tl (tCons (tTup (tCons tx (tCons ty tNil))) tNil)) D σ H :=
  q_toldW (D := D) (tz := fun D σ H => D.nx σ H) hl T hz ho hx hy k
theorem row_ntup {r : Addr} {row : Row} (w : RowAt H r row) : ∀ xs, H r ≠ some (.tup xs) := fun xs q => by unfold RowAt at w; rw [w] at q; cases q
theorem ev_lenRow {tl : TE} {σ : L2.St} {r : Addr} {row : Row} (h : Ev tl σ H (.ref r)) (w : RowAt H r row) : Ev (tCB (rLenL K) (tCons tl tNil)) σ H (nV row.length) := by
  have := ev_len' (K := K) h (SqL.of w)
  rw [rowV_len] at this
  exact this
theorem ev_item {tl ti : TE} {σ : L2.St} {r : Addr} {row : Row} {s : Nat} {o : Option Nat} (h : Ev tl σ H (.ref r)) (hi : Ev ti σ H (nV s)) (w : RowAt H r row) (ho : row[s]? = some o) : Ev (tOp (rIxL K) tl ti) σ H (oV o) := ev_op h hi (rv_ixR w ho)
theorem r_law_put (vs : List V) (H : Hp) (Q : VK) (E : XK) (h : sp_law_put K a vs H Q E) : Go (t_law_put K a E) N_law_put vs H Q := by
  obtain ⟨r, rule, row, c, rfl, w, hle, h2, R, hc, k⟩ := h
  have room := R.room
  have hn : 0 < row.length := by omega
  refine q_asg (ev_lenRow (ev_var rfl) w) fun H1 e1 => ?_
  refine q_asgL (el_lst ea_nil (by decide)) fun l H3 hl e3 h3 => ?_
  have hl0 : H l = none := fresh_back e1 hl
  have hlr : l ≠ r := fun q => by subst q; unfold RowAt at w; rw [hl0] at w; cases w
  refine q_asg (v := nV (c % row.length)) (int_is (ev_op (ev_var rfl) (ev_var rfl) (rv_mod (by omega))) mod_int) fun H4 e4 => ?_
  have e04 := (e1.trans e3).trans e4
  let Inv : Nat → L2.St → Hp → Prop := fun m σ' H' => ∃ (cur : Row) (d s : Nat) (ts : List Addr) (xs : List (Nat × Nat)) (v : Option V), σ' = [some (.ref r), some (nV rule), some (nV d), some (nV row.length), some (.ref l), some (nV s), v] ∧ cur.length = row.length ∧ Hand rule cur d s ∧ FreeIn cur s (m + 1) ∧
    RowAt H' r cur ∧ But r H H' ∧ H' l = some (.lst (ts.map V.ref)) ∧ Tups H' ts xs ∧ xs.length + m + 1 ≤ row.length ∧
    (putG rule row.length (m + 1) cur d s).1 = (putR rule row c).1 ∧ xs ++ (putG rule row.length (m + 1) cur d s).2 = (putR rule row c).2
  refine q_while Inv (row.length - 1) ?_ ?_
  · obtain ⟨s0, hs0⟩ := free_of room
    refine ⟨row, c, c % row.length, [], [], none, rfl, rfl, Hand.start R.toPk hc hn, ?_, w.ex e04, But.of e04, e4 _ _ h3, .nil, ?_, ?_, ?_⟩
    · rw [show row.length - 1 + 1 = row.length by omega]; exact freeIn_of hs0 (Nat.mod_lt _ hn)
    · show 0 + _ + 1 ≤ _; omega
    · rw [show row.length - 1 + 1 = row.length by omega]; rfl
    · rw [show row.length - 1 + 1 = row.length by omega]; rfl
  · rintro m σ' H' ⟨cur, d, s, ts, xs, v, rfl, hcl, hh, hf, w', b', h', T, hz, g1, g2⟩
    have hs := hh.at_
    obtain ⟨s0, hs0⟩ : ∃ s0 : Nat, cur[s0]? = some none := let ⟨k, _, _, e⟩ := hf; ⟨_, e⟩
    obtain ⟨o, ho⟩ : ∃ o, cur[s]? = some o := ⟨_, List.getElem?_eq_getElem hs⟩
    refine ⟨!decide (oV o = .non), et_B (ev_notN (ev_item (ev_var rfl) (ev_var rfl) w' ho)), fun hb H5 e5 => ?_, fun hb H5 e5 => ?_⟩
    · cases o with
      | none => simp [oV] at hb
      | some x =>
        have hf' := hf.next hs ho
        cases m with
        | zero => obtain ⟨k0, h, _⟩ := hf'; omega
        | succ m =>
        refine ⟨Inv m, fun σ2 H2 hw => ⟨m, by omega, hw⟩, ?_⟩
        have w5 := w'.ex e5
        have h5 := e5 _ _ h'
        have T5 := T.ex e5
        have b5 : But r H H5 := b'.trans (But.of e5)
        have hs' : s < row.length := by omega
        refine q_when (et_not (et_B (ev_callE (dvs := []) (ea_cons (ev_var rfl) (ea_cons (ev_item (o := some x) (ev_var rfl) (ev_var rfl) w5 ho) (ea_cons (ev_var rfl) (ea_cons (ev_var rfl) (ea_cons (ev_var rfl) ea_nil))))) (v_lkeeps hs' h2)))) (fun hb2 H7 e7 => ?_) (fun hb2 H7 e7 => ?_)
        · have hk : keeps rule x d s row.length = false := by simpa using hb2
          rw [putG_turn ho hk] at g1 g2
          rw [← hcl] at hk
          refine q_toldW (e7 _ _ h5) (T5.ex e7) (by omega) (ev_var rfl) (ev_var rfl) (ev_var rfl) fun H8 t b8 n8 h8 T8 => ?_
          have w8 : RowAt H8 r cur := b8 _ _ (Ne.symm hlr) (w5.ex e7)
          refine q_asg (ev_item (o := some x) (ev_var rfl) (ev_var rfl) w8 ho) fun H9 e9 => ?_
          refine q_setW (o := some d) (w8.ex e9) (ev_var rfl) (ev_var rfl) (ev_var rfl) hs fun H10 b10 n10 w10 => ?_
          refine s_asg (ev_var rfl) fun H11 e11 => ?_
          refine s_asg (v := nV (nx s row.length)) (int_is (ev_op (ev_op (ev_var rfl) ev_c rv_add) (ev_var rfl) (rv_mod (by omega))) (nx_int hs')) fun H12 e12 => ?_
          rw [← hcl]
          refine ⟨cur.set s (some d), x, nx s cur.length, ts ++ [t], xs ++ [(d, s)], _, by rw [hcl]; rfl, by rw [List.length_set]; exact hcl, hh.turn hs0 ho hk, hf'.set ho, w10.ex (e11.trans e12), fun b o nb hbo => ?_, (e11.trans e12) _ _ (b10 _ _ hlr (e9 _ _ h8)), ((T8.ex e9).but (row_ntup (w8.ex e9)) b10).ex (e11.trans e12), by rw [List.length_append]; show xs.length + 1 + m + 1 ≤ _; omega, by rw [hcl]; exact g1, ?_⟩
          · have nbl : b ≠ l := ne_of_none hbo hl0
            exact (e11.trans e12) _ _ (b10 b o nb (e9 _ _ (b8 b o nbl (e7 _ _ (b5 b o nb hbo)))))
          · rw [hcl, List.append_assoc]
            exact g2
        · have hk : keeps rule x d s row.length = true := by simpa using hb2
          rw [putG_keep ho hk] at g1 g2
          rw [← hcl] at hk
          refine s_asg (v := nV (nx s row.length)) (int_is (ev_op (ev_op (ev_var rfl) ev_c rv_add) (ev_var rfl) (rv_mod (by omega))) (nx_int hs')) fun H8 e8 => ?_
          rw [← hcl]
          exact ⟨cur, d, nx s cur.length, ts, xs, _, by rw [hcl]; rfl, hcl, hh.step hs0 ho hk, hf', w5.ex (e7.trans e8), b5.trans (But.of (e7.trans e8)), (e7.trans e8) _ _ h5, T5.ex (e7.trans e8), by omega, by rw [hcl]; exact g1, by rw [hcl]; exact g2⟩
    · cases o with
      | some x => simp [oV] at hb
      | none =>
        rw [putG_free ho] at g1 g2
        refine q_setW (o := some d) (w'.ex e5) (ev_var rfl) (ev_var rfl) (ev_var rfl) hs fun H6 b6 n6 w6 => ?_
        have h6 : H6 l = some (.lst (ts.map V.ref)) := b6 _ _ hlr (e5 _ _ h')
        have T6 : Tups H6 ts xs := (T.ex e5).but (row_ntup (w'.ex e5)) b6
        refine q_toldW h6 T6 (by omega) (ev_var rfl) (ev_var rfl) (ev_var rfl) fun H7 t b7 n7 h7 T7 => ?_
        refine s_ret (ev_var rfl) fun H8 e8 => ?_
        refine k l (ts ++ [t]) H8 hl0 hlr (fun b o nb hbo => ?_) ?_ (e8 _ _ h7) ?_
        · have nbl : b ≠ l := ne_of_none hbo hl0
          exact e8 _ _ (b7 b o nbl (b6 b o nb (e5 _ _ (b' b o nb hbo))))
        · rw [← g1]
          exact e8 _ _ (b7 _ _ (Ne.symm hlr) w6)
        · rw [← g2]
          exact T7.ex e8
/-! ### refusals -/
/-- an error class of the program's, as its instances are asked -/
structure XFc (K : PySem.W.Frag) (a : Ad) (D : Addr) : Prop where
  ex : ExcC K D
  ye : PySem.W.exmOne K (.ref D) (.ref a.YardError) = some true
  ve : PySem.W.kitOne K (.ref D) (.type "ValueError") = some true
def IsX (K : PySem.W.Frag) (D C : Addr) (b : Bool) : Prop := PySem.W.kitOne K (.ref D) (.ref C) = some b
/-- isinstance(e, C) in the suite -/
theorem ev_isX {σ : L2.St} {i : Nat} {aE D : Addr} {c : V} {cv : Value} {b : Bool} (hi : σ[i]? = some (some (.ref aE))) (X : ExcC K D) (hc : ∀ u, RelV c u → u = cv) (e : PySem.W.kitOne K (.ref D) cv = some b) :
    Ev (tCB (rIsX K (.ref D) none aE) (tCons (tVar i) (tCons (tC c) tNil))) σ H (.bl b) :=
  ev_cb (ea_cons (ev_var hi) (ea_cons ev_c ea_nil)) fun H1 e1 Q q => ⟨D, rfl, rfl, X, c, cv, b, rfl, hc, e, q H1 (Ex.refl H1)⟩
theorem r_law_refusal (F : YFc K a) (xH : XFc K a a.Here) (xF : XFc K a a.Full) (hh : IsX K a.Here a.Here true) (hf : IsX K a.Here a.Full false) (fh : IsX K a.Full a.Here false) (ff : IsX K a.Full a.Full true) (vs : List V) (H : Hp) (Q : VK) (E : XK) (h : sp_law_refusal K a vs H Q E) : Go (t_law_refusal K a E) N_law_refusal vs H Q := by
  obtain ⟨p, r, rule, row, c, rfl, Y, R, hor, k⟩ := h
  obtain ⟨dx, hp⟩ := id Y.y
  -- the try: what the call raises is the suite's
  have suite : ∀ (D : Addr) (b1 b2 : Bool) (H' : Hp) (X : XFc K a D), IsX K D a.Here b1 → IsX K D a.Full b2 → Ex H H' → RetU [.bl b1, .bl b2, .bl true] H Q →
      WE (wAs K (.ref a.YardError) 2 (ts_law_refusal K a) (fun _ _ _ _ => False) { nx := fun σ' H' => tRet (tTup tNil) { nx := fun _ H' => Q .non H', rt := Q } σ' H', rt := Q }) [some (.ref p), some (nV c), none] (.ref D) none H' := by
    intro D b1 b2 H' X i1 i2 e1 kk
    refine ⟨true, X.ye, fun _ aE haE => ?_, fun z => nomatch z⟩
    refine s_retU (eu_tup (ea_cons (ev_isX rfl X.ex (fun u z => z) i1) (ea_cons (ev_isX rfl X.ex (fun u z => z) i2) (ea_cons (ev_isX rfl X.ex (fun u z => z) X.ve) ea_nil))) (by show 3 ≤ 100000; decide)) fun q H2 hq e2 h2 => ?_
    exact kk q H2 (fresh_back e1 hq) (e1.trans e2) h2
  refine ⟨_, rfl, p, dx, _, rfl, hp, yf_no _ _ _ (by decide +kernel) (by decide +kernel) (by decide +kernel), _, rfl, p, r, rule, row, c, rfl, Y, R, fun hc H' e1 => ?_, fun hc hz H' e1 => ?_, fun hc hz => ?_⟩
  · rw [if_pos hc] at k
    exact suite a.Here true false H' xH hh hf e1 k
  · rw [if_neg hc] at k
    exact suite a.Full false true H' xF fh ff e1 k
  · rcases hor with z | z
    · exact absurd z hc
    · omega
end
end SY

namespace SY
open PySem L2 Evl
section
variable {K : PySem.W.Frag} {a : Ad} {H : Hp}
theorem kit_self {D : Addr} : PySem.W.kitOne K (.ref D) (.ref D) = some true := by unfold PySem.W.kitOne; simp
theorem kit_no {C D : Addr} (h : PySem.W.subIn K (.ref D) (.ref C) = some false) (h2 : PySem.W.subIn K (.ref C) (.ref C) = some true) (hdct : PySem.W.hasDictIn K C = true) (ht : PySem.W.typeIn K (.ref C) = some (.type "type")) : PySem.W.kitOne K (.ref D) (.ref C) = some false := by
  have hne : ¬ D = C := fun e => by subst e; rw [h] at h2; cases h2
  have e2 : ((PySem.W.clsIn K C).isSome && PySem.W.typeIn K (.ref C) == some (.type "type")) = true := by
    obtain ⟨cd, hc, _⟩ := PySem.W.any_some hdct
    rw [hc, ht] <;> rfl
  unfold PySem.W.kitOne
  rw [if_neg (by simp [hne])]
  show (if ((PySem.W.clsIn K C).isSome && PySem.W.typeIn K (.ref C) == some (.type "type")) = true then PySem.W.subIn K (.ref D) (.ref C) else none) = some false
  rw [if_pos e2]
  exact h
theorem kit_ve {D : Addr} (h : PySem.W.subIn K (.ref D) (.type "ValueError") = some true) : PySem.W.kitOne K (.ref D) (.type "ValueError") = some true := by
  unfold PySem.W.kitOne
  rw [if_neg (by simp)]
  show (if PySem.W.kitMeta "ValueError" = true then PySem.W.subIn K (.ref D) (.type "ValueError") else none) = some true
  rw [if_pos (by decide +kernel)]
  exact h
/-! ### who passes the gap -/
theorem r_law_passers (vs : List V) (H : Hp) (Q : VK) (E : XK) (h : sp_law_passers K a vs H Q E) : Go (t_law_passers K a E) N_law_passers vs H Q := by
  obtain ⟨r, row, gap, rfl, w, hle, hg, hf, k⟩ := h
  have hn : 0 < row.length := by omega
  refine q_asg (ev_lenRow (ev_var rfl) w) fun H1 e1 => ?_
  refine q_asgL (el_lst ea_nil (by decide)) fun l H2 hl e2 h2 => ?_
  have hl0 : H l = none := fresh_back e1 hl
  have hlr : l ≠ r := fun q => by subst q; unfold RowAt at w; rw [hl0] at w; cases w
  refine q_asg (v := nV (nx gap row.length)) (int_is (ev_op (ev_op (ev_var rfl) ev_c rv_add) (ev_var rfl) (rv_mod (by omega))) (nx_int hg)) fun H3 e3 => ?_
  let Inv : Nat → L2.St → Hp → Prop := fun m σ' H' => ∃ (s : Nat) (fs : List Nat), σ' = [some (.ref r), some (nV gap), some (nV row.length), some (.ref l), some (nV s)] ∧ s < row.length ∧ Ex H H' ∧ H' l = some (.lst (fs.map nV)) ∧ FreeIn row s (m + 1) ∧ fs.length + m + 1 ≤ row.length ∧
    (fs = [] → heirF row.length gap (m + 1) row s = heirF row.length gap row.length row (nx gap row.length)) ∧ (fs ≠ [] → fs.head? = heirF row.length gap row.length row (nx gap row.length))
  refine q_while Inv (row.length - 1) ?_ ?_
  · refine ⟨nx gap row.length, [], rfl, nx_lt hg, (e1.trans e2).trans e3, e3 _ _ h2, ?_, ?_, fun _ => ?_, fun z => absurd rfl z⟩
    · rw [show row.length - 1 + 1 = row.length by omega]; exact hf
    · show 0 + _ + 1 ≤ _; omega
    · rw [show row.length - 1 + 1 = row.length by omega]
  · rintro m σ' H' ⟨s, fs, rfl, hs, e, h', hf', hz, g1, g2⟩
    obtain ⟨o, ho⟩ : ∃ o, row[s]? = some o := ⟨_, List.getElem?_eq_getElem hs⟩
    have w' := w.ex e
    refine ⟨!decide (oV o = .non), et_B (ev_notN (ev_item (ev_var rfl) (ev_var rfl) w' ho)), fun hb H5 e5 => ?_, fun hb H5 e5 => ?_⟩
    · cases o with
      | none => simp [oV] at hb
      | some x =>
        have hf2 := hf'.next hs ho
        cases m with
        | zero => obtain ⟨k0, h, _⟩ := hf2; omega
        | succ m =>
        refine ⟨Inv m, fun σ2 H2 hw => ⟨m, by omega, hw⟩, ?_⟩
        have w5 := w'.ex e5
        rw [heirF, ho] at g1
        dsimp only at g1
        refine q_when (et_test (ev_op (ev_callE (dvs := []) (ea_cons (ev_item (o := some x) (ev_var rfl) (ev_var rfl) w5 ho) (ea_cons (ev_var rfl) (ea_cons (ev_var rfl) ea_nil))) (v_lway hg))
          (ev_callE (dvs := []) (ea_cons (ev_item (o := some x) (ev_var rfl) (ev_var rfl) w5 ho) (ea_cons (ev_var rfl) (ea_cons (ev_var rfl) ea_nil))) (v_lway hs)) rv_lt)) (fun hb2 H6 e6 => ?_) (fun hb2 H6 e6 => ?_)
        · have hw : way x gap row.length < way x s row.length := by have := of_decide_eq_true hb2; omega
          rw [if_pos hw] at g1
          refine s_app ((e5.trans e6) _ _ h') (ev_var rfl) (ev_var rfl) (lt_sz (by rw [List.length_map]; omega)) fun H7 e7 => ?_
          refine s_asg (v := nV (nx s row.length)) (int_is (ev_op (ev_op (ev_var rfl) ev_c rv_add) (ev_var rfl) (rv_mod (by omega))) (nx_int hs)) fun H8 e8 => ?_
          refine ⟨nx s row.length, fs ++ [s], rfl, nx_lt hs, (Ex.mut (((e.trans e5).trans e6).trans e7) hl0).trans e8, ?_, hf2, by rw [List.length_append]; show fs.length + 1 + m + 1 ≤ _; omega, fun z => by simp at z, fun _ => ?_⟩
          · refine e8 _ _ ?_
            rw [upd_same, List.map_append]; rfl
          · cases fs with
            | nil => exact g1 rfl
            | cons y ys => exact g2 (by simp)
        · have hw : ¬ way x gap row.length < way x s row.length := by have := of_decide_eq_false hb2; omega
          rw [if_neg hw] at g1
          refine s_asg (v := nV (nx s row.length)) (int_is (ev_op (ev_op (ev_var rfl) ev_c rv_add) (ev_var rfl) (rv_mod (by omega))) (nx_int hs)) fun H8 e8 => ?_
          exact ⟨nx s row.length, fs, rfl, nx_lt hs, ((e.trans e5).trans e6).trans e8, ((e5.trans e6).trans e8) _ _ h', hf2, by omega, g1, g2⟩
    · cases o with
      | some x => simp [oV] at hb
      | none =>
        rw [heirF, ho] at g1
        dsimp only at g1
        refine s_ret (ev_var rfl) fun H6 e6 => ?_
        refine k fs ?_ (by omega) l H6 hl0 ((e.trans e5).trans e6) ((e5.trans e6) _ _ h')
        cases fs with
        | nil => exact g1 rfl
        | cons y ys => exact g2 (by simp)
/-- row.index(name) -/
theorem ev_index {tl tx : TE} {σ : L2.St} {r : Addr} {row : Row} {c s : Nat} (h : Ev tl σ H (.ref r)) (hx : Ev tx σ H (nV c)) (w : RowAt H r row) (nd : (names row).Nodup) (hs : row[s]? = some (some c)) : Ev (tBM K "list" (rIndex K) tl (tCons tx tNil)) σ H (nV s) := fun H1 e Q q =>
  h H1 e _ fun H2 e2 => ⟨Or.inl ⟨rfl, _, SqL.of (w.ex (e.trans e2))⟩, hx H2 (e.trans e2) _ fun H3 e3 => ⟨r, rowV row, nV c, s, nV c, rfl, rfl, SqL.of (w.ex ((e.trans e2).trans e3)), rfl, flat_rowV row, rowV_get hs, (by show ((c : Int) == (c : Int)) = true; simp), fun m z hm hz => by
    unfold rowV at hz
    rw [List.getElem?_map] at hz
    cases q : row[m]? with
    | none => rw [q] at hz; cases hz
    | some o =>
      rw [q] at hz
      have := Option.some.inj hz
      subst this
      show eqV (oV o) (oV (some c)) = false
      rw [eqV_oV]
      refine decide_eq_false fun z => ?_
      subst z
      have := names_inj nd q hs
      omega, q H3 (e2.trans e3)⟩⟩
theorem eqv_nil {α : Type} {f : α → PyData} : ∀ (A : List α), PyData.eqv (.list (A.map f)) (.list []) = A.isEmpty
  | [] => by simp [PyData.eqv, PyData.eqvAll]
  | x :: A => by rw [List.map_cons, PyData.eqv, PyData.eqvAll]; rfl
def dN (n : Nat) : PyData := .int (n : Int)
theorem lay_dN (n : Nat) : (dN n).canLay0 = true ∧ (dN n).depth ≤ 5 := ⟨rfl, Nat.zero_le _⟩
theorem dp_nats : ∀ (A : List Nat), DpAll K H (A.map nV) (A.map dN)
  | [] => .nil
  | c :: r => .cons (.int _) (dp_nats r)
/-- found != [] -/
theorem et_neNil {tl : TE} {σ : L2.St} {l : Addr} {fs : List Nat} (h : Ev tl σ H (.ref l)) (hl : H l = some (.lst (fs.map nV))) : EvT (tTest (tOp (rNeD K) tl (tLst tNil))) σ H (!fs.isEmpty) :=
  et_test (ev_opL h (el_lst ea_nil (by decide)) fun p H1 hp e1 => fun H2 e2 Q q => ⟨_, _, .lst (SqL.of ((e1.trans e2) _ _ hl)) (dp_nats fs), .lst (SqL.of (e2 _ _ hp)) .nil, shaped_list lay_dN fs, shaped_list (α := Nat) lay_dN [], by
    have e := eqv_nil (f := dN) fs
    rw [e]
    exact q H2 (Ex.refl H2)⟩)
theorem l_passers {r gap : Nat} {row : Row} {σ : L2.St} {tl tg : TE} (w : RowAt H r row) (hle : row.length ≤ 200) (hg : gap < row.length) (hf : FreeIn row (nx gap row.length) row.length) (h1 : Ev tl σ H (.ref r)) (h2 : Ev tg σ H (nV gap)) {D : Ends} {i : Nat}
    (k : ∀ (fs : List Nat) p H1, fs.head? = heirF row.length gap row.length row (nx gap row.length) → H p = none → Ex H H1 → H1 p = some (.lst (fs.map nV)) → D.nx (σ.set i (some (.ref p))) H1) : tAsg (tCall (sp_law_passers K a) [] E0 (tCons tl (tCons tg tNil))) (gName i) D σ H := by
  refine h1 H (Ex.refl H) _ fun H1 e1 => h2 H1 e1 _ fun H2 e2 => ?_
  exact ⟨r, row, gap, rfl, w.ex (e1.trans e2), hle, hg, hf, fun fs hh hl p H3 hp e3 h3 => k fs p H3 hh (fresh_back (e1.trans e2) hp) ((e1.trans e2).trans e3) h3⟩
theorem r_law_take (vs : List V) (H : Hp) (Q : VK) (E : XK) (h : sp_law_take K a vs H Q E) : Go (t_law_take K a E) N_law_take vs H Q := by
  obtain ⟨r, rule, row, c, s0, rfl, w, hle, R, hs0, k⟩ := h
  have room := R.room
  have hn : 0 < row.length := by omega
  have hs0l := get_lt hs0
  refine q_asg (ev_index (ev_var rfl) (ev_var rfl) w R.nd hs0) fun H1 e1 => ?_
  refine q_asgL (el_lst ea_nil (by decide)) fun l H2 hl e2 h2 => ?_
  have hl0 : H l = none := fresh_back e1 hl
  have hlr : l ≠ r := fun q => by subst q; unfold RowAt at w; rw [hl0] at w; cases w
  refine q_setW (o := none) (w.ex (e1.trans e2)) ev_c (ev_var rfl) (ev_var rfl) hs0l fun H3 b3 n3 w3 => ?_
  have h3 : H3 l = some (.lst []) := b3 _ _ hlr h2
  have bb3 : But r H H3 := (But.of (e1.trans e2)).trans b3
  have G0 := gap_of R.toPk hs0
  have hl3 : (row.set s0 none).length = row.length := List.length_set
  have hfi := G0.freeIn
  rw [hl3] at hfi
  obtain ⟨d0, hd1, hd2⟩ := free_ahead R hs0
  let Inv : Nat → L2.St → Hp → Prop := fun m σ' H' => ∃ (row0 : Row) (s : Nat) (ts : List Addr) (xs : List (Nat × Nat)) (fs : List Nat) (q : Addr) (v : Option V), σ' = [some (.ref r), some (nV c), some (nV s), some (.ref l), some (.ref q), v] ∧ row0.length = row.length ∧ s < row0.length ∧
    RowAt H' r (row0.set s none) ∧ But r H H' ∧ H' l = some (.lst (ts.map V.ref)) ∧ Tups H' ts xs ∧ xs.length + m + 1 ≤ row.length ∧ H' q = some (.lst (fs.map nV)) ∧ q ≠ r ∧ q ≠ l ∧
    Gap rule (row0.set s none) s ∧ (∃ d, d < m + 1 ∧ d + 1 < row0.length ∧ (row0.set s none)[spot (nx s row0.length) d row0.length]? = some none) ∧ fs.head? = heirF row.length s row.length (row0.set s none) (nx s row.length) ∧
      (takeF row.length (m + 1) row0 s).1 = (takeR row s0).1 ∧ xs ++ (takeF row.length (m + 1) row0 s).2 = (takeR row s0).2
  show tSeq _ _ _ _ _
  refine l_passers (D := { nx := _, rt := _ }) w3 (by omega) (by rw [hl3]; exact hs0l) (by rw [hl3]; exact hfi) (ev_var rfl) (ev_var rfl) fun fs q H4 hh hq e4 h4 => ?_
  rw [hl3] at hh
  have hq0 : H3 q = none := hq
  have hqr : q ≠ r := fun z => by subst z; unfold RowAt at w3; rw [hq0] at w3; cases w3
  have hql : q ≠ l := fun z => by subst z; rw [hq0] at h3; cases h3
  refine q_while Inv (row.length - 1) ?_ ?_
  · refine ⟨row, s0, [], [], fs, q, none, rfl, rfl, hs0l, w3.ex e4, bb3.trans (But.of e4), e4 _ _ h3, .nil, by show 0 + _ + 1 ≤ _; omega, h4, hqr, hql, G0, ⟨d0, by omega, hd1, hd2⟩, hh, ?_, ?_⟩
    · rw [show row.length - 1 + 1 = row.length by omega]; rfl
    · rw [show row.length - 1 + 1 = row.length by omega]; rfl
  · rintro m σ' H' ⟨row0, s, ts, xs, fs, q, v, rfl, hcl, hs, w', b', h', T, hz, hq, hqr, hql, G, ⟨d, hd, hd1, hd2⟩, hh, g1, g2⟩
    refine ⟨!fs.isEmpty, et_neNil (ev_var rfl) hq, fun hb H5 e5 => ?_, fun hb H5 e5 => ?_⟩
    · cases fs with
      | nil => cases hb
      | cons b fs' =>
        have hl6 : (row0.set s none).length = row0.length := List.length_set
        have HH := G.heir G.freeIn
        rw [hl6, hcl] at HH
        have hh' : heirF row.length s row.length (row0.set s none) (nx s row.length) = some b := hh.symm
        obtain ⟨x, hx, hbs, G2, P2, hnext⟩ := HH.1 b hh'
        rw [← hcl] at hnext
        obtain ⟨d', hd1', hd2', hd3'⟩ := hnext d hd1 hd2
        have hxc : row0[b]? = some (some x) := by rw [set_ne (Ne.symm hbs)] at hx; exact hx
        rw [takeF_some hh' hxc] at g1 g2
        cases m with
        | zero => omega
        | succ m =>
        refine ⟨Inv m, fun σ2 H2 hw => ⟨m, by omega, hw⟩, ?_⟩
        have w5 := w'.ex e5
        have h5 := e5 _ _ h'
        have T5 := T.ex e5
        have bb5 : But r H H5 := b'.trans (But.of e5)
        refine q_asg (v := nV b) (ev_op (ev_var rfl) ev_c (rv_ixL (SqL.of (e5 _ _ hq)) (atI_nat (j := 0) rfl))) fun H6 e6 => ?_
        have w6 := w5.ex e6
        refine q_setW (o := some x) w6 (ev_item (ev_var rfl) (ev_var rfl) w6 hx) (ev_var rfl) (ev_var rfl) (by rw [hl6]; exact hs) fun H7 b7 n7 w7 => ?_
        have h7 : H7 l = some (.lst (ts.map V.ref)) := b7 _ _ hlr (e6 _ _ h5)
        have T7 : Tups H7 ts xs := (T5.ex e6).but (row_ntup w6) b7
        have hx7 : ((row0.set s none).set s (some x))[b]? = some (some x) := by rw [set_ne (Ne.symm hbs)]; exact hx
        refine q_toldW h7 T7 (by omega) (ev_var rfl) (ev_item (o := some x) (ev_var rfl) (ev_var rfl) w7 hx7) (ev_var rfl) fun H8 t b8 n8 h8 T8 => ?_
        have w8 : RowAt H8 r ((row0.set s none).set s (some x)) := b8 _ _ (Ne.symm hlr) w7
        have hl9 : ((row0.set s none).set s (some x)).length = row0.length := by rw [List.length_set, hl6]
        refine q_setW (o := none) w8 ev_c (ev_var rfl) (ev_var rfl) (by rw [hl9]; exact get_lt hxc) fun H9 b9 n9 w9 => ?_
        have h9 : H9 l = some (.lst ((ts ++ [t]).map V.ref)) := b9 _ _ hlr h8
        have T9 : Tups H9 (ts ++ [t]) (xs ++ [(x, s)]) := T8.but (row_ntup w8) b9
        refine q_asg (ev_var rfl) fun H10 e10 => ?_
        have hl10 : (((row0.set s none).set s (some x)).set b none).length = row.length := by rw [List.length_set, hl9, hcl]
        have fr := G2.freeIn
        rw [hl10] at fr
        refine l_passers (w9.ex e10) (by omega) (by rw [hl10, ← hcl]; exact get_lt hxc) (by rw [hl10]; exact fr) (ev_var rfl) (ev_var rfl) fun fs2 q2 H11 hh2 hq2 e11 h11 => ?_
        rw [hl10] at hh2
        have hq9 : H9 q2 = none := fresh_back e10 hq2
        have q2r : q2 ≠ r := fun z => by subst z; unfold RowAt at w9; rw [hq9] at w9; cases w9
        have q2l : q2 ≠ l := fun z => by subst z; rw [hq9] at h9; cases h9
        refine ⟨(row0.set s none).set s (some x), b, ts ++ [t], xs ++ [(x, s)], fs2, q2, _, rfl, by rw [hl9]; exact hcl, by rw [hl9]; exact get_lt hxc, w9.ex (e10.trans e11), fun y o nb hbo => ?_, (e10.trans e11) _ _ h9, T9.ex (e10.trans e11), by rw [List.length_append]; show xs.length + 1 + m + 1 ≤ _; omega, h11, q2r, q2l, G2, ⟨d', by omega, by rw [hl9]; exact hd2', by rw [hl9]; exact hd3'⟩, hh2, g1, ?_⟩
        · have nbl : y ≠ l := ne_of_none hbo hl0
          exact (e10.trans e11) _ _ (b9 y o nb (b8 y o nbl (b7 y o nb (e6 _ _ (bb5 y o nb hbo)))))
        · rw [List.append_assoc]; exact g2
    · cases fs with
      | cons b fs' => cases hb
      | nil =>
        have hh' : heirF row.length s row.length (row0.set s none) (nx s row.length) = none := hh.symm
        rw [takeF_none hh'] at g1 g2
        refine s_ret (ev_var rfl) fun H6 e6 => ?_
        refine k l ts H6 hl0 hlr (b'.trans (But.of (e5.trans e6))) ?_ ((e5.trans e6) _ _ h') ?_
        · rw [← g1]; exact w'.ex (e5.trans e6)
        · rw [← g2, List.append_nil]; exact T.ex (e5.trans e6)
theorem r_law_refused (F : YFc K a) (xN : XFc K a a.NoCart) (nn : IsX K a.NoCart a.NoCart true) (vs : List V) (H : Hp) (Q : VK) (E : XK) (h : sp_law_refused K a vs H Q E) : Go (t_law_refused K a E) N_law_refused vs H Q := by
  obtain ⟨p, r, rule, row, c, rfl, Y, R, hc, k⟩ := h
  obtain ⟨dx, hp⟩ := id Y.y
  refine ⟨_, rfl, p, dx, _, rfl, hp, yf_no _ _ _ (by decide +kernel) (by decide +kernel) (by decide +kernel), _, rfl, p, r, rule, row, c, rfl, Y, R, fun _ H' e1 => ?_, fun s hs => absurd (mem_names.mpr ⟨s, hs⟩) hc⟩
  refine ⟨true, xN.ye, fun _ aE haE => ?_, fun z => nomatch z⟩
  exact s_ret (bl_is (ev_andV (a := true) (b := true) (ev_isX rfl xN.ex (fun u z => z) nn) (fun _ => ev_isX rfl xN.ex (fun u z => z) xN.ve)) rfl) fun H2 e2 => k H2 (e1.trans e2)
end
end SY

namespace SY
open PySem L2 Evl
section
variable {K : PySem.W.Frag} {a : Ad} {H : Hp} {σ : L2.St} {D : Ends} {tz : TS}
/-! ### a yard made, carts put in and taken out, both ways -/
theorem q_make {E : XK} {i : Nat} {tm tr : TE} {many : Int} {rule : Nat} (hm : Ev tm σ H (.int many)) (hr : Ev tr σ H (nV rule)) (h1 : 2 ≤ many) (h2 : many ≤ 200)
    (k : ∀ p r H1, H p = none → H r = none → p ≠ r → Ex H H1 → YR a H1 p r rule (List.replicate many.toNat none) → tz D (σ.set i (some (.ref p))) H1) :
    tSeq (tAsg (tMake a.Y (sp_Yard__init_ K a) [] E (tCons tm (tCons tr tNil))) (gName i)) tz D σ H := by
  refine hm H (Ex.refl H) _ fun H1 e1 => hr H1 e1 _ fun H2 e2 => ?_
  intro x dx hx hdx hne
  have ex1 : Ex H2 (upd (upd H2 dx (.own x)) x (.ins a.Y dx [])) := (Ex.new hdx).trans (Ex.new (by rw [upd_ne (Ne.symm hne)]; exact hx))
  refine ⟨x, dx, many, rule, rfl, upd_same, fun hb => by omega, fun _ r H3 hr3 b3 Y3 => ⟨rfl, ?_⟩⟩
  have hrx : r ≠ x := fun q => by subst q; rw [upd_same] at hr3; cases hr3
  refine k x r H3 (fresh_back (e1.trans e2) hx) (fresh_back ((e1.trans e2).trans ex1) hr3) (Ne.symm hrx) (fun b o h => ?_) Y3
  have nb : b ≠ x := ne_of_none ((e1.trans e2) _ _ h) hx
  exact b3 b o nb (ex1 _ _ ((e1.trans e2) _ _ h))
theorem names_empty {n : Nat} : names (List.replicate n none) = [] := by
  unfold names
  induction n with
  | zero => rfl
  | succ n ih => rw [List.replicate_succ, List.filterMap_cons]; exact ih
theorem right_empty {rule n : Nat} (h : 0 < n) : Right rule (List.replicate n none) := by
  refine ⟨⟨by rw [names_empty]; exact List.nodup_nil, fun a c s h1 => ?_⟩, by rw [names_empty, List.length_replicate]; exact h⟩
  have := List.mem_of_getElem? h1
  rw [List.mem_replicate] at this
  cases this.2
theorem ev_inRow {tx tw : TE} {w : Addr} {row : Row} {c : Nat} (hx : Ev tx σ H (nV c)) (hw : Ev tw σ H (.ref w)) (h : RowAt H w row) : Ev (tOp (rIn K false) tx tw) σ H (.bl (decide (c ∈ names row))) := by
  refine bl_is (ev_op hx hw (rv_isL (SqL.of h) rfl (flat_rowV row))) (in_rowV row c)
theorem ev_niRow {tx tw : TE} {w : Addr} {row : Row} {c : Nat} (hx : Ev tx σ H (nV c)) (hw : Ev tw σ H (.ref w)) (h : RowAt H w row) : Ev (tOp (rIn K true) tx tw) σ H (.bl (!decide (c ∈ names row))) := by
  refine bl_is (ev_op hx hw (rv_niL (SqL.of h) rfl (flat_rowV row))) (by rw [in_rowV])
def subL (ns : List Int) (lo hi : Nat) : List Int := (ns.drop (min lo ns.length)).take (min hi ns.length - min lo ns.length)
theorem subL_len (ns : List Int) (lo hi : Nat) : (subL ns lo hi).length ≤ hi - lo := by
  unfold subL
  rw [List.length_take]
  omega
theorem subL_le (ns : List Int) (lo hi : Nat) : (subL ns lo hi).length ≤ ns.length := by
  unfold subL
  rw [List.length_take, List.length_drop]
  omega
theorem el_sub {ts : TE} {s : Addr} {ns : List Int} {lo hi : Int} (l h : Nat) (hl : lo = (l : Int)) (hh : hi = (h : Int)) (e : Ev ts σ H (.ref s)) (hS : Ints K H s ns) : EvL (tSl (rSlL K) ts (tPart (tC (.int lo))) (tPart (tC (.int hi)))) σ H ((subL ns l h).map V.int) := by
  have := el_sl (lo := some lo) (hi := some hi) e (eo_some ev_c) (eo_some ev_c) hS
  have e2 : cutV (ns.map V.int) (some lo) (some hi) = (subL ns l h).map V.int := by
    subst hl hh
    unfold cutV subL
    rw [HT.sIx_nat, HT.sIx_nat, List.length_map, List.map_take, List.map_drop]
  rw [e2] at this
  exact this
theorem q_forI {tl : TE} {tu : TS} {j : Nat} {xs : List Int} (h : EvL tl σ H (xs.map V.int)) (Pv : Addr → Nat → L2.St → Hp → Prop) (h0 : ∀ p H1, H p = none → Ex H H1 → H1 p = some (.lst (xs.map V.int)) → Pv p 0 σ H1) (hl : ∀ p i σ' H', Pv p i σ' H' → H' p = some (.lst (xs.map V.int)))
    (hs : ∀ p i (x : Int) σ' H', xs[i]? = some x → Pv p i σ' H' → tu { D with nx := Pv p (i + 1), ct := Pv p (i + 1), bk := tz D } (σ'.set j (some (.int x))) H') (hd : ∀ p σ' H', Pv p xs.length σ' H' → tz D σ' H') : tSeq (tFor (iList K tl) (gName j) tu) tz D σ H :=
  q_forNLn h Pv h0 (fun p i σ' H' _ hp => SqL.of (hl p i σ' H' hp)) (fun p i x σ' H' hi hp => by
    rw [List.getElem?_map] at hi
    cases q : xs[i]? with
    | none => rw [q] at hi; cases hi
    | some z =>
      rw [q] at hi
      have := Option.some.inj hi
      subst this
      exact hs p i z σ' H' q hp) (fun p σ' H' hp => by rw [List.length_map] at hp; exact hd p σ' H' hp)
theorem f_put : ¬ (("put" : Str) = "row") ∧ ¬ (("put" : Str) = "rule") ∧ ¬ (("put" : Str) = "many") := by decide +kernel
theorem f_take : ¬ (("take" : Str) = "row") ∧ ¬ (("take" : Str) = "rule") ∧ ¬ (("take" : Str) = "many") := by decide +kernel
theorem f_stalls : ¬ (("stalls" : Str) = "row") ∧ ¬ (("stalls" : Str) = "rule") ∧ ¬ (("stalls" : Str) = "many") := by decide +kernel
theorem f_names : ¬ (("names" : Str) = "row") ∧ ¬ (("names" : Str) = "rule") ∧ ¬ (("names" : Str) = "many") := by decide +kernel
theorem f_steps : ¬ (("steps" : Str) = "row") ∧ ¬ (("steps" : Str) = "rule") ∧ ¬ (("steps" : Str) = "many") := by decide +kernel
theorem But.ofEx {r : Addr} {H0 H1 H2 : Hp} (e : Ex H0 H1) (b : But r H1 H2) : But r H0 H2 := (But.of e).trans b
theorem YR.rn {p r : Addr} {rule : Nat} {row : Row} (Y : YR a H p r rule row) {b : Addr} (h : H b = none) : b ≠ r := fun q => by subst q; have := Y.w; unfold RowAt at this; rw [h] at this; cases this
theorem MovesAt.mk {l : Addr} {ts : List Addr} {xs : List (Nat × Nat)} (h : H l = some (.lst (ts.map V.ref))) (T : Tups H ts xs) : MovesAt H l xs := ⟨ts, h, T⟩
theorem MovesAt.but {H' : Hp} {l r : Addr} {xs : List (Nat × Nat)} (h : MovesAt H l xs) (b : But r H H') (n : l ≠ r) (nt : ∀ xs, H r ≠ some (.tup xs)) : MovesAt H' l xs := let ⟨ts, h1, h2⟩ := h; ⟨ts, b _ _ n h1, h2.but nt b⟩
theorem told_go {r : Addr} {out : Row × List (Nat × Nat)} {H0 : Hp} (e : Ex H0 H) {Q : VK} (k : ∀ l H', H0 l = none → l ≠ r → But r H0 H' → RowAt H' r out.1 → MovesAt H' l out.2 → Q (.ref l) H') : Told a r out H Q :=
  fun l ts H' hl hlr b w h T => k l H' (fresh_back e hl) hlr (But.ofEx e b) w ⟨ts, h, T⟩
section
variable {ty tn tw tr tf : TE} {p r w l lf : Addr} {rule c s i : Nat} {row : Row} {Q : VK}
theorem w_put (hy : Ev ty σ H (.ref p)) (hn : Ev tn σ H (nV c)) (Y : YR a H p r rule row) (R : Right rule row) (hc : c ∉ names row) (hr : (names row).length + 1 < row.length)
    (k : ∀ l H1, H l = none → l ≠ r → But r H H1 → YR a H1 p r rule (putR rule row c).1 → MovesAt H1 l (putR rule row c).2 → Q (.ref l) H1) : tMeth a.Y "put" (sp_Yard_put K a) [] E0 ty (tCons tn tNil) σ H Q := by
  refine hy H (Ex.refl H) _ fun H1 e1 => ?_
  have Y1 := Y.ex e1
  obtain ⟨dx, hp⟩ := Y1.y
  refine ⟨p, dx, _, rfl, hp, yf_no _ _ _ f_put.1 f_put.2.1 f_put.2.2, hn H1 e1 _ fun H2 e2 => ?_⟩
  refine ⟨p, r, rule, row, c, rfl, Y1.ex e2, R, fun z => absurd z hc, fun _ z => by omega, fun _ _ => told_go (e1.trans e2) fun l H3 hl hlr b w m => ?_⟩
  exact k l H3 hl hlr b (Y.but b (putR_ok R hc).1 w) m
theorem q_put (hy : Ev ty σ H (.ref p)) (hn : Ev tn σ H (nV c)) (Y : YR a H p r rule row) (R : Right rule row) (hc : c ∉ names row) (hr : (names row).length + 1 < row.length)
    (k : ∀ l H1, H l = none → l ≠ r → But r H H1 → YR a H1 p r rule (putR rule row c).1 → MovesAt H1 l (putR rule row c).2 → tz D (σ.set i (some (.ref l))) H1) : tSeq (tAsg (tMeth a.Y "put" (sp_Yard_put K a) [] E0 ty (tCons tn tNil)) (gName i)) tz D σ H := w_put hy hn Y R hc hr k
theorem q_putD (hy : Ev ty σ H (.ref p)) (hn : Ev tn σ H (nV c)) (Y : YR a H p r rule row) (R : Right rule row) (hc : c ∉ names row) (hr : (names row).length + 1 < row.length)
    (k : ∀ H1, But r H H1 → YR a H1 p r rule (putR rule row c).1 → tz D σ H1) : tSeq (tDrop (tMeth a.Y "put" (sp_Yard_put K a) [] E0 ty (tCons tn tNil))) tz D σ H := w_put hy hn Y R hc hr fun l H1 _ _ b Y1 _ => k H1 b Y1
theorem s_putD (hy : Ev ty σ H (.ref p)) (hn : Ev tn σ H (nV c)) (Y : YR a H p r rule row) (R : Right rule row) (hc : c ∉ names row) (hr : (names row).length + 1 < row.length)
    (k : ∀ H1, But r H H1 → YR a H1 p r rule (putR rule row c).1 → D.nx σ H1) : tDrop (tMeth a.Y "put" (sp_Yard_put K a) [] E0 ty (tCons tn tNil)) D σ H := w_put hy hn Y R hc hr fun l H1 _ _ b Y1 _ => k H1 b Y1
theorem w_take (hy : Ev ty σ H (.ref p)) (hn : Ev tn σ H (nV c)) (Y : YR a H p r rule row) (R : Right rule row) (hs : row[s]? = some (some c))
    (k : ∀ l H1, H l = none → l ≠ r → But r H H1 → YR a H1 p r rule (takeR row s).1 → MovesAt H1 l (takeR row s).2 → Q (.ref l) H1) : tMeth a.Y "take" (sp_Yard_take K a) [] E0 ty (tCons tn tNil) σ H Q := by
  refine hy H (Ex.refl H) _ fun H1 e1 => ?_
  have Y1 := Y.ex e1
  obtain ⟨dx, hp⟩ := Y1.y
  refine ⟨p, dx, _, rfl, hp, yf_no _ _ _ f_take.1 f_take.2.1 f_take.2.2, hn H1 e1 _ fun H2 e2 => ?_⟩
  refine ⟨p, r, rule, row, c, rfl, Y1.ex e2, R, fun z => absurd (mem_names.mpr ⟨s, hs⟩) z, fun s' hs' => ?_⟩
  have := names_inj R.nd hs' hs
  subst this
  exact told_go (e1.trans e2) fun l H3 hl hlr b w m => k l H3 hl hlr b (Y.but b (takeR_ok R hs).1 w) m
theorem q_take (hy : Ev ty σ H (.ref p)) (hn : Ev tn σ H (nV c)) (Y : YR a H p r rule row) (R : Right rule row) (hs : row[s]? = some (some c))
    (k : ∀ l H1, H l = none → l ≠ r → But r H H1 → YR a H1 p r rule (takeR row s).1 → MovesAt H1 l (takeR row s).2 → tz D (σ.set i (some (.ref l))) H1) : tSeq (tAsg (tMeth a.Y "take" (sp_Yard_take K a) [] E0 ty (tCons tn tNil)) (gName i)) tz D σ H := w_take hy hn Y R hs k
theorem q_takeD (hy : Ev ty σ H (.ref p)) (hn : Ev tn σ H (nV c)) (Y : YR a H p r rule row) (R : Right rule row) (hs : row[s]? = some (some c))
    (k : ∀ H1, But r H H1 → YR a H1 p r rule (takeR row s).1 → tz D σ H1) : tSeq (tDrop (tMeth a.Y "take" (sp_Yard_take K a) [] E0 ty (tCons tn tNil))) tz D σ H := w_take hy hn Y R hs fun l H1 _ _ b Y1 _ => k H1 b Y1
theorem s_takeD (hy : Ev ty σ H (.ref p)) (hn : Ev tn σ H (nV c)) (Y : YR a H p r rule row) (R : Right rule row) (hs : row[s]? = some (some c))
    (k : ∀ H1, But r H H1 → YR a H1 p r rule (takeR row s).1 → D.nx σ H1) : tDrop (tMeth a.Y "take" (sp_Yard_take K a) [] E0 ty (tCons tn tNil)) D σ H := w_take hy hn Y R hs fun l H1 _ _ b Y1 _ => k H1 b Y1
theorem w_lput (hw : Ev tw σ H (.ref w)) (hr : Ev tr σ H (nV rule)) (hn : Ev tn σ H (nV c)) (W : RowAt H w row) (hle : row.length ≤ 200) (h2 : rule ≤ 2) (R : Right rule row) (hc : c ∉ names row)
    (k : ∀ l H1, H l = none → l ≠ w → But w H H1 → RowAt H1 w (putR rule row c).1 → MovesAt H1 l (putR rule row c).2 → Q (.ref l) H1) : tCall (sp_law_put K a) [] E0 (tCons tw (tCons tr (tCons tn tNil))) σ H Q := by
  refine hw H (Ex.refl H) _ fun H1 e1 => hr H1 e1 _ fun H2 e2 => hn H2 (e1.trans e2) _ fun H3 e3 => ?_
  exact ⟨w, rule, row, c, rfl, W.ex ((e1.trans e2).trans e3), hle, h2, R, hc, told_go ((e1.trans e2).trans e3) k⟩
theorem s_lputD (hw : Ev tw σ H (.ref w)) (hr : Ev tr σ H (nV rule)) (hn : Ev tn σ H (nV c)) (W : RowAt H w row) (hle : row.length ≤ 200) (h2 : rule ≤ 2) (R : Right rule row) (hc : c ∉ names row)
    (k : ∀ H1, But w H H1 → RowAt H1 w (putR rule row c).1 → D.nx σ H1) : tDrop (tCall (sp_law_put K a) [] E0 (tCons tw (tCons tr (tCons tn tNil)))) D σ H := w_lput hw hr hn W hle h2 R hc fun l H1 _ _ b w1 _ => k H1 b w1
theorem q_lputD (hw : Ev tw σ H (.ref w)) (hr : Ev tr σ H (nV rule)) (hn : Ev tn σ H (nV c)) (W : RowAt H w row) (hle : row.length ≤ 200) (h2 : rule ≤ 2) (R : Right rule row) (hc : c ∉ names row)
    (k : ∀ H1, But w H H1 → RowAt H1 w (putR rule row c).1 → tz D σ H1) : tSeq (tDrop (tCall (sp_law_put K a) [] E0 (tCons tw (tCons tr (tCons tn tNil))))) tz D σ H := w_lput hw hr hn W hle h2 R hc fun l H1 _ _ b w1 _ => k H1 b w1
theorem w_ltake (hw : Ev tw σ H (.ref w)) (hn : Ev tn σ H (nV c)) (W : RowAt H w row) (hle : row.length ≤ 200) (R : Right rule row) (hs : row[s]? = some (some c))
    (k : ∀ l H1, H l = none → l ≠ w → But w H H1 → RowAt H1 w (takeR row s).1 → MovesAt H1 l (takeR row s).2 → Q (.ref l) H1) : tCall (sp_law_take K a) [] E0 (tCons tw (tCons tn tNil)) σ H Q := by
  refine hw H (Ex.refl H) _ fun H1 e1 => hn H1 e1 _ fun H2 e2 => ?_
  exact ⟨w, rule, row, c, s, rfl, W.ex (e1.trans e2), hle, R, hs, told_go (e1.trans e2) k⟩
theorem s_ltakeD (hw : Ev tw σ H (.ref w)) (hn : Ev tn σ H (nV c)) (W : RowAt H w row) (hle : row.length ≤ 200) (R : Right rule row) (hs : row[s]? = some (some c))
    (k : ∀ H1, But w H H1 → RowAt H1 w (takeR row s).1 → D.nx σ H1) : tDrop (tCall (sp_law_take K a) [] E0 (tCons tw (tCons tn tNil))) D σ H := w_ltake hw hn W hle R hs fun l H1 _ _ b w1 _ => k H1 b w1
theorem q_ltakeD (hw : Ev tw σ H (.ref w)) (hn : Ev tn σ H (nV c)) (W : RowAt H w row) (hle : row.length ≤ 200) (R : Right rule row) (hs : row[s]? = some (some c))
    (k : ∀ H1, But w H H1 → RowAt H1 w (takeR row s).1 → tz D σ H1) : tSeq (tDrop (tCall (sp_law_take K a) [] E0 (tCons tw (tCons tn tNil)))) tz D σ H := w_ltake hw hn W hle R hs fun l H1 _ _ b w1 _ => k H1 b w1
theorem t_stoodPut {Q : Bool → Hp → Prop} (hf : Ev tf σ H (.ref lf)) (hw : Ev tw σ H (.ref w)) (hr : Ev tr σ H (nV rule)) (hn : Ev tn σ H (nV c)) (M : MovesAt H lf (putR rule row c).2) (W : RowAt H w row) (nlw : lf ≠ w) (hle : row.length ≤ 200) (h2 : rule ≤ 2) (R : Right rule row) (hc : c ∉ names row)
    (k : ∀ H1, But w H H1 → RowAt H1 w (putR rule row c).1 → Q false H1) : tNot (tB (tCall (sp_law_stood K a) [] E0 (tCons tf (tCons (tCall (sp_law_put K a) [] E0 (tCons tw (tCons tr (tCons tn tNil)))) tNil)))) σ H Q := by
  refine hf H (Ex.refl H) _ fun H1 e1 => ?_
  refine w_lput (hw.mono e1) (hr.mono e1) (hn.mono e1) (W.ex e1) hle h2 R hc fun l H2 hl hlw b w1 m => ?_
  refine ⟨lf, l, _, _, rfl, (M.ex e1).but b nlw (row_ntup (W.ex e1)), m, fun H3 e3 => ⟨_, rfl, ?_⟩⟩
  have := k H3 ((But.ofEx e1 b).trans (But.of e3)) (w1.ex e3)
  simpa using this
theorem t_stoodTake {Q : Bool → Hp → Prop} (hf : Ev tf σ H (.ref lf)) (hw : Ev tw σ H (.ref w)) (hn : Ev tn σ H (nV c)) (M : MovesAt H lf (takeR row s).2) (W : RowAt H w row) (nlw : lf ≠ w) (hle : row.length ≤ 200) (R : Right rule row) (hs : row[s]? = some (some c))
    (k : ∀ H1, But w H H1 → RowAt H1 w (takeR row s).1 → Q false H1) : tNot (tB (tCall (sp_law_stood K a) [] E0 (tCons tf (tCons (tCall (sp_law_take K a) [] E0 (tCons tw (tCons tn tNil))) tNil)))) σ H Q := by
  refine hf H (Ex.refl H) _ fun H1 e1 => ?_
  refine w_ltake (hw.mono e1) (hn.mono e1) (W.ex e1) hle R hs fun l H2 hl hlw b w1 m => ?_
  refine ⟨lf, l, _, _, rfl, (M.ex e1).but b nlw (row_ntup (W.ex e1)), m, fun H3 e3 => ⟨_, rfl, ?_⟩⟩
  have := k H3 ((But.ofEx e1 b).trans (But.of e3)) (w1.ex e3)
  simpa using this
end
/-- a guard -/
theorem q_guard {t : TT} {tu : TS} (h : t σ H fun b H1 => if b = true then tu { D with nx := tz D } σ H1 else tz D σ H1) : tSeq (tIfS t tu tNext) tz D σ H := h
theorem s_guard {t : TT} {tu : TS} (h : t σ H fun b H1 => if b = true then tu D σ H1 else D.nx σ H1) : tIfS t tu tNext D σ H := h
theorem if_ff {P R : Prop} (h : R) : if (false : Bool) = true then P else R := h
theorem s_clear {tl : TE} {l : Addr} {xs : List V} (h : Ev tl σ H (.ref l)) (hl : H l = some (.lst xs)) (k : ∀ H1, But l H H1 → H1 l = some (.lst []) → D.nx σ H1) : tDrop (tBM0 K "list" rClear tl) D σ H :=
  h H (Ex.refl H) _ fun H1 e1 => ⟨Or.inl ⟨rfl, _, SqL.of (e1 _ _ hl)⟩, l, xs, rfl, rfl, e1 _ _ hl, k _ (But.ofEx e1 But.upd) upd_same⟩
theorem q_clear {tl : TE} {l : Addr} {xs : List V} (h : Ev tl σ H (.ref l)) (hl : H l = some (.lst xs)) (k : ∀ H1, But l H H1 → H1 l = some (.lst []) → tz D σ H1) : tSeq (tDrop (tBM0 K "list" rClear tl)) tz D σ H := s_clear (D := { D with nx := tz D }) h hl k
theorem ev_rowStalls {ty tw : TE} {p r w : Addr} {rule : Nat} {row rw' : Row} (hy : Ev ty σ H (.ref p)) (hw : Ev tw σ H (.ref w)) (Y : YR a H p r rule row) (W : RowAt H w rw') : Ev (tCall (sp_law_row K a) [] E0 (tCons (tMeth a.Y "stalls" (sp_Yard_stalls K a) [] E0 ty tNil) (tCons tw tNil))) σ H (.bl (decide (row = rw'))) := by
  intro H1 e Q q
  have hl : EvL (tMeth a.Y "stalls" (sp_Yard_stalls K a) [] E0 ty tNil) σ H (rowV row) := el_ym hy Y.y f_stalls.1 f_stalls.2.1 f_stalls.2.2 ea_nil (l_stalls Y)
  refine hl H1 e _ fun l H2 hl e2 h2 => hw H2 (e.trans e2) _ fun H3 e3 => ?_
  exact ⟨l, w, row, rw', rfl, e3 _ _ h2, W.ex ((e.trans e2).trans e3), fun H4 e4 => q H4 ((e2.trans e3).trans e4)⟩
def SpU (sp : Sp) (vs : List V) (H : Hp) (xs : List V) : Prop := ∀ H1, Ex H H1 → ∀ Q : VK, (∀ p H2, H1 p = none → Ex H1 H2 → H2 p = some (.tup xs) → Q (.ref p) H2) → ∀ E : XK, sp vs H1 Q E
theorem eu_callE {sp : Sp} {vs xs : List V} {E : XK} {args : TA} (h : EvA args σ H vs) (hs : SpU sp vs H xs) : EvU (tCall sp [] E args) σ H xs := fun H1 e Q q =>
  h H1 e _ fun H2 e2 => by
    rw [List.append_nil]
    exact hs H2 (e.trans e2) Q (fun p H3 hp e3 h3 => q p H3 (fresh_back e2 hp) (e2.trans e3) h3) E
def dB (b : Bool) : PyData := .bool b
theorem dp_bools : ∀ (A : List Bool), DpAll K H (A.map V.bl) (A.map dB)
  | [] => .nil
  | c :: r => .cons (.bl _) (dp_bools r)
theorem eqv_dB (x y : Bool) : PyData.eqv (dB x) (dB y) = decide (x = y) := by cases x <;> cases y <;> rfl
theorem lay_dB (b : Bool) : (dB b).canLay0 = true ∧ (dB b).depth ≤ 5 := ⟨rfl, Nat.zero_le _⟩
theorem shaped_tup {α : Type} {f : α → PyData} (hf : ∀ x, (f x).canLay0 = true ∧ (f x).depth ≤ 5) (A : List α) : SeqAt.shaped (.tuple (A.map f)) = true := by
  have h := shaped_all hf A
  unfold SeqAt.shaped
  rw [Bool.and_eq_true]
  refine ⟨by rw [PyData.canLay0]; exact h.1, decide_eq_true ?_⟩
  rw [PyData.depth]
  omega
theorem rv_neBools {p q : Addr} {A B : List Bool} (h1 : H p = some (.tup (A.map V.bl))) (h2 : H q = some (.tup (B.map V.bl))) : RV (rNeD K) (.ref p) (.ref q) H (.bl (!decide (A = B))) := fun H1 e1 Q q' =>
  ⟨_, _, .tup (SqT.of (e1 _ _ h1)) (dp_bools A), .tup (SqT.of (e1 _ _ h2)) (dp_bools B), shaped_tup lay_dB A, shaped_tup lay_dB B, by
    rw [PyData.eqv, eqv_all eqv_dB]
    exact q' H1 (Ex.refl H1)⟩
theorem et_ne3 {te : TE} {b1 b2 b3 c1 c2 c3 : Bool} (h : EvU te σ H [.bl b1, .bl b2, .bl b3]) : EvT (tTest (tOp (rNeD K) te (tTup (tCons (tC (.bl c1)) (tCons (tC (.bl c2)) (tCons (tC (.bl c3)) tNil)))))) σ H (!decide ([b1, b2, b3] = [c1, c2, c3])) :=
  et_test (ev_opUU h (eu_tup (ea_cons ev_c (ea_cons ev_c (ea_cons ev_c ea_nil))) (by show 3 ≤ 100000; decide)) fun p q H1 hp hq e1 => rv_neBools (A := [b1, b2, b3]) (B := [c1, c2, c3]) hp hq)
theorem u_refusal {p r : Addr} {rule c : Nat} {row : Row} (Y : YR a H p r rule row) (R : Right rule row) (hor : c ∈ names row ∨ row.length ≤ (names row).length + 1) : SpU (sp_law_refusal K a) [.ref p, nV c] H (if c ∈ names row then [.bl true, .bl false, .bl true] else [.bl false, .bl true, .bl true]) := fun H1 e1 Q q E =>
  ⟨p, r, rule, row, c, rfl, Y.ex e1, R, hor, q⟩
end
end SY

namespace SY
open PySem L2 Evl
/-! ### what stays: the heap without the lists that are written at -/
open Classical in
noncomputable def wo (H : Hp) (S : List Addr) : Hp := fun b => if b ∈ S then none else H b
theorem wo_none {H : Hp} {S : List Addr} {b : Addr} (h : b ∈ S) : wo H S b = none := if_pos h
theorem wo_get {H : Hp} {S : List Addr} {b : Addr} (h : b ∉ S) : wo H S b = H b := if_neg h
theorem wo_ex (H : Hp) (S : List Addr) : Ex (wo H S) H := fun b o h => by
  unfold wo at h
  split at h
  · cases h
  · exact h
theorem ex_wo {H0 H : Hp} {S : List Addr} (e : Ex H0 H) (h : ∀ b, b ∈ S → H0 b = none) : Ex H0 (wo H S) := fun b o q => by
  rw [wo_get (fun z => by rw [h b z] at q; cases q)]
  exact e _ _ q
theorem ex_but {M H H' : Hp} {r : Addr} (e : Ex M H) (m : M r = none) (b : But r H H') : Ex M H' := fun x o h => b x o (fun q => by subst q; rw [m] at h; cases h) (e x o h)
theorem ne_some {H : Hp} {b c : Addr} {o : HO} (h : H b = some o) (h2 : H c = none) : b ≠ c := fun q => by subst q; rw [h] at h2; cases h2
/-- the yard at p with its list r, and the walked row at w, stand alike; M stays -/
structure Twin (a : Ad) (M H : Hp) (p r w : Addr) (rule : Nat) (row : Row) : Prop where
  e : Ex M H
  y : YardAt a M p r row.length rule
  mr : M r = none
  mw : M w = none
  ne : r ≠ w
  R : RowAt H r row
  W : RowAt H w row
  le : row.length ≤ 200
  ok : Right rule row
section
variable {K : PySem.W.Frag} {a : Ad} {M H H' H1 H2 : Hp} {σ : L2.St} {D : Ends} {tz : TS} {p r w l : Addr} {rule c s : Nat} {row row' : Row}
theorem Twin.Y (T : Twin a M H p r w rule row) : YR a H p r rule row := ⟨let ⟨dx, h⟩ := T.y; ⟨dx, T.e _ _ h⟩, T.R, T.le⟩
theorem Twin.ex (T : Twin a M H p r w rule row) (e : Ex H H') : Twin a M H' p r w rule row := { T with e := T.e.trans e, R := e _ _ T.R, W := e _ _ T.W }
/-- a list apart is written at -/
theorem Twin.stay (T : Twin a M H p r w rule row) (b : But l H H') (m : M l = none) (n1 : l ≠ r) (n2 : l ≠ w) : Twin a M H' p r w rule row := { T with e := ex_but T.e m b, R := b _ _ (Ne.symm n1) T.R, W := b _ _ (Ne.symm n2) T.W }
theorem Twin.lr (T : Twin a M H p r w rule row) (h : H l = none) : l ≠ r ∧ l ≠ w := ⟨(ne_some T.R h).symm, (ne_some T.W h).symm⟩
theorem Twin.new (T : Twin a M H p r w rule row) (h : H l = none) : M l = none := fresh_back T.e h
theorem Twin.turn (T : Twin a M H p r w rule row) (b1 : But r H H1) (h1 : RowAt H1 r row') (b2 : But w H1 H2) (h2 : RowAt H2 w row') (hl : row'.length = row.length) (ok : Right rule row') : Twin a M H2 p r w rule row' :=
  { e := ex_but (ex_but T.e T.mr b1) T.mw b2, y := by rw [hl]; exact T.y, mr := T.mr, mw := T.mw, ne := T.ne, R := b2 _ _ T.ne h1, W := h2, le := by rw [hl]; exact T.le, ok := ok }
theorem Twin.put (T : Twin a M H p r w rule row) (hc : c ∉ names row) (hr : (names row).length + 1 < row.length) (b1 : But r H H1) (h1 : RowAt H1 r (putR rule row c).1) (b2 : But w H1 H2) (h2 : RowAt H2 w (putR rule row c).1) : Twin a M H2 p r w rule (putR rule row c).1 :=
  T.turn b1 h1 b2 h2 (putR_ok T.ok hc).1 (putR_right T.ok hc hr)
theorem Twin.take (T : Twin a M H p r w rule row) (hs : row[s]? = some (some c)) (b1 : But r H H1) (h1 : RowAt H1 r (takeR row s).1) (b2 : But w H1 H2) (h2 : RowAt H2 w (takeR row s).1) : Twin a M H2 p r w rule (takeR row s).1 :=
  T.turn b1 h1 b2 h2 (takeR_ok T.ok hs).1 (takeR_ok T.ok hs).2.2
theorem Twin.room (T : Twin a M H p r w rule row) : (names row).length < row.length := T.ok.room
theorem Twin.mono {M' : Hp} (T : Twin a M H p r w rule row) (e : Ex M M') (e2 : Ex M' H) (m1 : M' r = none) (m2 : M' w = none) : Twin a M' H p r w rule row := { T with e := e2, y := let ⟨dx, h⟩ := T.y; ⟨dx, e _ _ h⟩, mr := m1, mw := m2 }
/-- a yard and a row apart, just made: what stays is the heap without their lists -/
theorem Twin.start (Y : YR a H p r rule row) (W : RowAt H w row) (n1 : p ≠ w) (n2 : r ≠ w) (ok : Right rule row) : Twin a (wo H [r, w]) H p r w rule row :=
  { e := wo_ex _ _, y := let ⟨dx, h⟩ := Y.y; ⟨dx, by rw [wo_get (by simp [Y.ne, n1])]; exact h⟩, mr := wo_none (by simp), mw := wo_none (by simp), ne := n2, R := Y.w, W := W, le := Y.le, ok := ok }
/-- a list made since: it stays, too -/
theorem Twin.fresh {q : Addr} {o : HO} (T : Twin a M H p r w rule row) (hq : H q = none) (e : Ex H H1) (h : H1 q = some o) : ∃ M', Ex M M' ∧ Twin a M' H1 p r w rule row ∧ M' q = some o := by
  have n := T.lr hq
  have ee : Ex M (wo H1 [r, w]) := by
    refine ex_wo (T.e.trans e) fun b hb => ?_
    simp at hb
    rcases hb with rfl | rfl
    · exact T.mr
    · exact T.mw
  exact ⟨wo H1 [r, w], ee, (T.ex e).mono ee (wo_ex _ _) (wo_none (by simp)) (wo_none (by simp)), by rw [wo_get (by simp [n.1, n.2])]; exact h⟩
section
variable {ty tn tw tr tz1 : TE} {i : Nat}
theorem s_put2 (T : Twin a M H p r w rule row) (h2 : rule ≤ 2) (hc : c ∉ names row) (hr : (names row).length + 1 < row.length) (gy : Ev ty σ H (.ref p)) (gn : ∀ H', Ev tn σ H' (nV c)) (gw : ∀ H', Ev tw σ H' (.ref w)) (gr : ∀ H', But r H H' → YR a H' p r rule (putR rule row c).1 → Ev tr σ H' (nV rule))
    (k : ∀ H1, Twin a M H1 p r w rule (putR rule row c).1 → D.nx σ H1) : tSeq (tDrop (tMeth a.Y "put" (sp_Yard_put K a) [] E0 ty (tCons tn tNil))) (tDrop (tCall (sp_law_put K a) [] E0 (tCons tw (tCons tr (tCons tn tNil))))) D σ H :=
  q_putD gy (gn _) T.Y T.ok hc hr fun H1 b1 Y1 => s_lputD (gw _) (gr _ b1 Y1) (gn _) (b1 _ _ (Ne.symm T.ne) T.W) T.le h2 T.ok hc fun H2 b2 w2 => k H2 (T.put hc hr b1 Y1.w b2 w2)
theorem s_take2 (T : Twin a M H p r w rule row) (hs : row[s]? = some (some c)) (gy : Ev ty σ H (.ref p)) (gn : ∀ H', Ev tn σ H' (nV c)) (gw : ∀ H', Ev tw σ H' (.ref w))
    (k : ∀ H1, Twin a M H1 p r w rule (takeR row s).1 → D.nx σ H1) : tSeq (tDrop (tMeth a.Y "take" (sp_Yard_take K a) [] E0 ty (tCons tn tNil))) (tDrop (tCall (sp_law_take K a) [] E0 (tCons tw (tCons tn tNil)))) D σ H :=
  q_takeD gy (gn _) T.Y T.ok hs fun H1 b1 Y1 => s_ltakeD (gw _) (gn _) (b1 _ _ (Ne.symm T.ne) T.W) T.le T.ok hs fun H2 b2 w2 => k H2 (T.take hs b1 Y1.w b2 w2)
/-- put, told as walked, the list told cleared -/
theorem s_put3 (T : Twin a M H p r w rule row) (h2 : rule ≤ 2) (hc : c ∉ names row) (hr : (names row).length + 1 < row.length) (hi : i < σ.length) (gy : Ev ty σ H (.ref p)) (gn0 : Ev tn σ H (nV c)) (gn : ∀ l H', Ev tn (σ.set i (some (.ref l))) H' (nV c)) (gw : ∀ l H', Ev tw (σ.set i (some (.ref l))) H' (.ref w)) (gr : ∀ l H', Ev tr (σ.set i (some (.ref l))) H' (nV rule))
    (k : ∀ l H1, Twin a M H1 p r w rule (putR rule row c).1 → D.nx (σ.set i (some (.ref l))) H1) :
    (tSeq (tAsg (tMeth a.Y "put" (sp_Yard_put K a) [] E0 ty (tCons tn tNil)) (gName i))
    (tSeq (tIfS (tNot (tB (tCall (sp_law_stood K a) [] E0 (tCons (tVar i) (tCons (tCall (sp_law_put K a) [] E0 (tCons tw (tCons tr (tCons tn tNil)))) tNil))))) (tRet (tC (.bl false))) tNext)
    (tDrop (tBM0 K "list" rClear (tVar i))))) D σ H := by
  refine q_put gy gn0 T.Y T.ok hc hr fun l H1 hl hlr b1 Y1 m => ?_
  have nl := T.lr hl
  have gl : ∀ H', Ev (tVar i) (σ.set i (some (.ref l))) H' (.ref l) := fun H' => ev_var (List.getElem?_set_self hi)
  refine q_guard (t_stoodPut (gl _) (gw _ _) (gr _ _) (gn _ _) m (b1 _ _ (Ne.symm T.ne) T.W) nl.2 T.le h2 T.ok hc fun H2 b2 w2 => if_ff ?_)
  obtain ⟨ts, h1, -⟩ := m
  exact s_clear (gl _) (b2 _ _ nl.2 h1) fun H3 b3 _ => k l H3 ((T.put hc hr b1 Y1.w b2 w2).stay b3 (T.new hl) nl.1 nl.2)
theorem s_take3 (T : Twin a M H p r w rule row) (hs : row[s]? = some (some c)) (hi : i < σ.length) (gy : Ev ty σ H (.ref p)) (gn0 : Ev tn σ H (nV c)) (gn : ∀ l H', Ev tn (σ.set i (some (.ref l))) H' (nV c)) (gw : ∀ l H', Ev tw (σ.set i (some (.ref l))) H' (.ref w))
    (k : ∀ l H1, Twin a M H1 p r w rule (takeR row s).1 → D.nx (σ.set i (some (.ref l))) H1) :
    (tSeq (tAsg (tMeth a.Y "take" (sp_Yard_take K a) [] E0 ty (tCons tn tNil)) (gName i))
    (tSeq (tIfS (tNot (tB (tCall (sp_law_stood K a) [] E0 (tCons (tVar i) (tCons (tCall (sp_law_take K a) [] E0 (tCons tw (tCons tn tNil))) tNil))))) (tRet (tC (.bl false))) tNext)
    (tDrop (tBM0 K "list" rClear (tVar i))))) D σ H := by
  refine q_take gy gn0 T.Y T.ok hs fun l H1 hl hlr b1 Y1 m => ?_
  have nl := T.lr hl
  have gl : ∀ H', Ev (tVar i) (σ.set i (some (.ref l))) H' (.ref l) := fun H' => ev_var (List.getElem?_set_self hi)
  refine q_guard (t_stoodTake (gl _) (gw _ _) (gn _ _) m (b1 _ _ (Ne.symm T.ne) T.W) nl.2 T.le T.ok hs fun H2 b2 w2 => if_ff ?_)
  obtain ⟨ts, h1, -⟩ := m
  exact s_clear (gl _) (b2 _ _ nl.2 h1) fun H3 b3 _ => k l H3 ((T.take hs b1 Y1.w b2 w2).stay b3 (T.new hl) nl.1 nl.2)
end
/-- the layout told is the row: the guard goes on -/
theorem s_rowGuard {ty tw : TE} (T : Twin a M H p r w rule row) (gy : Ev ty σ H (.ref p)) (gw : Ev tw σ H (.ref w)) (k : ∀ H1, Twin a M H1 p r w rule row → D.nx σ H1) :
    tIfS (tNot (tB (tCall (sp_law_row K a) [] E0 (tCons (tMeth a.Y "stalls" (sp_Yard_stalls K a) [] E0 ty tNil) (tCons tw tNil))))) (tRet (tC (.bl false))) tNext D σ H :=
  s_when (et_not (et_B (ev_rowStalls gy gw T.Y T.W))) (fun hb => by simp at hb) (fun _ H1 e1 => k H1 (T.ex e1))
theorem s_retRow {ty tw : TE} (T : Twin a M H p r w rule row) (gy : Ev ty σ H (.ref p)) (gw : Ev tw σ H (.ref w)) (k : ∀ H1, D.rt (.bl true) H1) :
    tRet (tCall (sp_law_row K a) [] E0 (tCons (tMeth a.Y "stalls" (sp_Yard_stalls K a) [] E0 ty tNil) (tCons tw tNil))) D σ H :=
  s_ret (bl_is (ev_rowStalls gy gw T.Y T.W) (decide_eq_true rfl)) fun H1 _ => k H1
theorem count_names (row : Row) : row.count none = row.length - (names row).length := by have := names_len row; omega
theorem v_refused (Y : YR a H p r rule row) (R : Right rule row) (hc : c ∉ names row) : SpV (sp_law_refused K a) [.ref p, nV c] H (.bl true) := fun H1 e1 Q q E => ⟨p, r, rule, row, c, rfl, Y.ex e1, R, hc, q⟩
theorem ev_lenN' {tl : TE} {fs : List Nat} (h : Ev tl σ H (.ref l)) (hl : H l = some (.lst (fs.map nV))) : Ev (tCB (rLenL K) (tCons tl tNil)) σ H (nV fs.length) := by
  have := ev_len' (K := K) h (SqL.of hl)
  rw [List.length_map] at this
  exact this
/-- fs[cell % len(fs)] -/
theorem ev_pick {tl tc : TE} {fs : List Nat} {z : Int} (h : Ev tl σ H (.ref l)) (hc : Ev tc σ H (.int z)) (hl : H l = some (.lst (fs.map nV))) (h0 : fs ≠ []) : ∃ c, c ∈ fs ∧ Ev (tOp (rIxL K) tl (tOp rModI tc (tCB (rLenL K) (tCons tl tNil)))) σ H (nV c) := by
  have hn : 0 < fs.length := by cases fs with | nil => exact absurd rfl h0 | cons x r => exact Nat.succ_pos _
  have h1 := Int.emod_nonneg z (show (fs.length : Int) ≠ 0 by omega)
  have h2 := Int.emod_lt_of_pos z (show (0 : Int) < (fs.length : Int) by omega)
  have hj : (z % (fs.length : Int)).toNat < fs.length := by omega
  refine ⟨fs[(z % (fs.length : Int)).toNat], List.getElem_mem hj, ?_⟩
  refine ev_op h (ev_nat (ev_op hc (ev_lenN' h hl) (rv_mod (by omega))) h1) (rv_ixL (SqL.of hl) (atI_nat ?_))
  rw [List.getElem?_map, List.getElem?_eq_getElem hj]
  rfl
/-- cells about the rule -/
theorem ev_rule3 {ts : TE} {s : Addr} {ns : List Int} {z : Int} (k : Nat) (hz : z = (k : Int)) (h : Ev ts σ H (.ref s)) (hS : Ints K H s ns) : Ev (tOp rModI (tCall (sp_law_cell K a) [] E0 (tCons ts (tCons (tC (.int z)) tNil))) (tC (.int 3))) σ H (nV (cellAt ns k % 3).toNat) :=
  ev_nat (ev_op (ev_cell k hz h hS) ev_c (rv_mod (by decide))) (Int.emod_nonneg _ (by decide))
theorem rule_le (z : Int) : (z % 3).toNat ≤ 2 := by have := Int.emod_lt_of_pos z (show (0 : Int) < 3 by decide); omega
theorem ev_manyOf {ts : TE} {s : Addr} {ns : List Int} {z : Int} (k : Nat) (hz : z = (k : Int)) (h : Ev ts σ H (.ref s)) (hS : Ints K H s ns) : Ev (tCall (sp_law_many K a) [] E0 (tCons (tCall (sp_law_cell K a) [] E0 (tCons ts (tCons (tC (.int z)) tNil))) tNil)) σ H (nV (manyOf (cellAt ns k))) :=
  ev_callE (dvs := []) (ea_cons (ev_cell k hz h hS) ea_nil) v_many
/-- the yard of the laws, and its row: slots 1 to 5 -/
theorem q_open {s : Addr} {ns : List Int} (hS : Ints K H s ns) (h0 : σ[0]? = some (some (.ref s))) (hl : 6 ≤ σ.length)
    (k : ∀ (M H1 : Hp) (p r w : Addr) (rule n : Nat) (far : Bool), Ex H M → rule ≤ 2 → 2 ≤ n → n ≤ 200 → Twin a M H1 p r w rule (List.replicate n none) → tz D (((((σ.set 1 (some (nV n))).set 2 (some (nV rule))).set 3 (some (.bl far))).set 4 (some (.ref p))).set 5 (some (.ref w))) H1) :
    (tSeq (tAsg (tCall (sp_law_many K a) [] E0 (tCons (tCall (sp_law_cell K a) [] E0 (tCons (tVar 0) (tCons (tC (.int 0)) tNil))) tNil)) (gName 1))
    (tSeq (tAsg (tOp rModI (tCall (sp_law_cell K a) [] E0 (tCons (tVar 0) (tCons (tC (.int 1)) tNil))) (tC (.int 3))) (gName 2))
    (tSeq (tAsg (tOp rEq (tOp rModI (tOp rDivI (tCall (sp_law_cell K a) [] E0 (tCons (tVar 0) (tCons (tC (.int 1)) tNil))) (tC (.int 3))) (tC (.int 3))) (tC (.int 1))) (gName 3))
    (tSeq (tAsg (tMake a.Y (sp_Yard__init_ K a) [] E0 (tCons (tVar 1) (tCons (tVar 2) tNil))) (gName 4))
    (tSeq (tAsg (tOp rRep (tLst (tCons (tC .non) tNil)) (tVar 1)) (gName 5)) tz))))) D σ H := by
  have g0 : ∀ {i : Nat} {x : V}, i ≠ 0 → (σ.set i (some x))[0]? = some (some (.ref s)) := fun hi => by rw [List.getElem?_set_ne hi]; exact h0
  have hm := manyOf_le (cellAt ns 0)
  refine q_asg (ev_manyOf 0 rfl (ev_var h0) hS) fun H1 e1 => ?_
  generalize manyOf (cellAt ns 0) = n at *
  refine q_asg (ev_rule3 1 rfl (ev_var (by rw [List.getElem?_set_ne (by decide)]; exact h0)) (hS.ex e1)) fun H2 e2 => ?_
  have hr := rule_le (cellAt ns 1)
  generalize (cellAt ns 1 % 3).toNat = rule at *
  refine q_asg (ev_op (ev_op (ev_op (ev_cell 1 rfl (ev_var (by rw [List.getElem?_set_ne (by decide), List.getElem?_set_ne (by decide)]; exact h0)) (hS.ex (e1.trans e2))) ev_c (rv_div (by decide))) ev_c (rv_mod (by decide))) ev_c rv_eqI) fun H3 e3 => ?_
  generalize decide (cellAt ns 1 / 3 % 3 = 1) = far
  have v1 : ∀ (i j : Nat) (x y : V), i ≠ 1 → j ≠ 1 → ((((σ.set 1 (some (nV n))).set i (some x)).set j (some y)))[1]? = some (some (nV n)) := fun i j x y h1 h2 => by
    rw [List.getElem?_set_ne h2, List.getElem?_set_ne h1]; exact List.getElem?_set_self (by omega)
  have v2 : ∀ (x : V), ((((σ.set 1 (some (nV n))).set 2 (some (nV rule))).set 3 (some x)))[2]? = some (some (nV rule)) := fun x => by
    rw [List.getElem?_set_ne (by decide)]; exact List.getElem?_set_self (by rw [List.length_set]; omega)
  refine q_make (many := (n : Int)) (ev_var (v1 _ _ _ _ (by decide) (by decide))) (ev_var (v2 _)) (by omega) (by omega) fun p r H4 hp hr0 hne e4 Y4 => ?_
  refine q_asgL (el_rep (n := (n : Int)) (ev_var ?_) (by omega) (by omega)) fun w H5 hw e5 W5 => ?_
  · rw [List.getElem?_set_ne (by decide)]; exact v1 _ _ _ _ (by decide) (by decide)
  have W5 : RowAt H5 w (List.replicate (n : Int).toNat none) := W5
  rw [Int.toNat_natCast] at Y4 W5
  have Y5 := Y4.ex e5
  have e03 := (e1.trans e2).trans e3
  refine k (wo H5 [r, w]) H5 p r w rule n far (ex_wo ((e03.trans e4).trans e5) ?_) hr hm.1 hm.2 (Twin.start Y5 W5 ?_ ?_ (right_empty (by omega)))
  · intro b hb
    simp at hb
    rcases hb with rfl | rfl
    · exact fresh_back e03 hr0
    · exact fresh_back (e03.trans e4) hw
  · obtain ⟨dx, hp4⟩ := Y4.y
    exact ne_some hp4 hw
  · exact (ne_some Y4.w hw)
end
end SY

namespace SY
open PySem L2 Evl
/-! ### the laws' walks: stalls looked at, ways, names -/
def sp_law_seen (K : PySem.W.Frag) (a : Ad) : Sp := fun vs H Q _ => ∃ (w : Addr) (rule : Nat) (row : Row) (c : Nat), vs = [.ref w, nV rule, nV c] ∧ RowAt H w row ∧ row.length ≤ 200 ∧ rule ≤ 2 ∧ (names row).length < row.length ∧ RetL ((lookR rule row c).map nV) H Q
def sp_law_found (K : PySem.W.Frag) (a : Ad) : Sp := fun vs H Q _ => ∃ (p r w : Addr) (rule : Nat) (row : Row) (c : Nat), vs = [.ref p, .ref w, nV rule, nV c] ∧ YR a H p r rule row ∧ RowAt H w row ∧ rule ≤ 2 ∧ Right rule row ∧ RetV (.bl true) H Q
def sp_law_steps (K : PySem.W.Frag) (a : Ad) : Sp := fun vs H Q _ => ∃ (w : Addr) (row : Row), vs = [.ref w] ∧ RowAt H w row ∧ row.length ≤ 200 ∧ RetV (nV (stepsR row)) H Q
def sp_law_names (K : PySem.W.Frag) (a : Ad) : Sp := fun vs H Q _ => ∃ (w : Addr) (row : Row), vs = [.ref w] ∧ RowAt H w row ∧ row.length ≤ 200 ∧ RetL ((srt (names row)).map nV) H Q
def sp_law_tells5 (K : PySem.W.Frag) (a : Ad) : Sp := fun vs H Q _ => ∃ (p r w : Addr) (rule : Nat) (row : Row), vs = [.ref p, .ref w, nV rule] ∧ YR a H p r rule row ∧ RowAt H w row ∧ 0 < row.length ∧ RetV (.bl true) H Q
abbrev N_law_seen : List Str := ["row", "rule", "name", "many", "seen", "at"]
def t_law_seen (K : PySem.W.Frag) (a : Ad) (E : XK) : TS :=
  (tSeq (tAsg (tCB (rLenL K) (tCons (tVar 0) tNil)) (gName 3))
  (tSeq (tAsg (tLst (tCons (tOp rModI (tVar 2) (tVar 3)) tNil)) (gName 4))
  (tSeq (tAsg (tOp rModI (tVar 2) (tVar 3)) (gName 5))
  (tSeq (tWhile (tAnd (tTest (tOp (rIn K true) (tOp (rIxL K) (tVar 0) (tVar 5)) (tTup (tCons (tC .non) (tCons (tVar 2) tNil))))) (tB (tCall (sp_law_keeps K a) [] E0 (tCons (tVar 1) (tCons (tOp (rIxL K) (tVar 0) (tVar 5)) (tCons (tVar 2) (tCons (tVar 5) (tCons (tVar 3) tNil)))))))) (tSeq (tAsg (tOp rModI (tOp rAddI (tVar 5) (tC (.int 1))) (tVar 3)) (gName 5))
  (tDrop (tBM K "list" rAppend (tVar 4) (tCons (tVar 5) tNil)))))
  (tRet (tVar 4))))))
abbrev N_law_found : List Str := ["yard", "row", "rule", "name", "found", "due", "at"]
def t_law_found (K : PySem.W.Frag) (a : Ad) (E : XK) : TS :=
  (tSeq (tAsg (tMeth a.Y "looked" (sp_Yard_looked K a) [] E0 (tVar 0) (tCons (tVar 3) tNil)) (gName 4))
  (tSeq (tAsg (tCall (sp_law_seen K a) [] E0 (tCons (tVar 1) (tCons (tVar 2) (tCons (tVar 3) tNil)))) (gName 5))
  (tSeq (tIfS (tOr (tNot (tB (tCall (sp_law_row K a) [] E0 (tCons (tVar 4) (tCons (tVar 5) tNil))))) (tTest (tOp (rIn K false) (tC .non) (tVar 4)))) (tRet (tC (.bl false))) tNext)
  (tSeq (tDrop (tBM0 K "list" rClear (tVar 4)))
  (tSeq (tAsg (tMeth a.Y "where" (sp_Yard_where K a) [] E0 (tVar 0) (tCons (tVar 3) tNil)) (gName 6))
  (tSeq (tIfS (tTest (tOp (rIn K false) (tVar 3) (tVar 1))) (tRet (tAndV (tCall (sp_law_whole K a) [] E0 (tCons (tVar 6) tNil)) (tAndV (tOp rEq (tVar 6) (tBM K "list" (rIndex K) (tVar 1) (tCons (tVar 3) tNil))) (tOp rEq (tOp (rIxL K) (tVar 5) (tUn rNegI (tC (.int 1)))) (tVar 6))))) tNext)
  (tRet (tIsN (tVar 6)))))))))
abbrev N_law_steps : List Str := ["row", "total", "at", "name"]
def t_law_steps (K : PySem.W.Frag) (a : Ad) (E : XK) : TS :=
  (tSeq (tAsg (tC (.int 0)) (gName 1))
  (tSeq (tFor (iEnum K (tCons (tVar 0) tNil)) (gTup K 2 (gCons (gName 2) (gCons (gName 3) gNil))) (tIfS (tB (tNotN (tVar 3))) (tAsg (tOp rAddI (tVar 1) (tCall (sp_law_way K a) [] E0 (tCons (tVar 3) (tCons (tVar 2) (tCons (tCB (rLenL K) (tCons (tVar 0) tNil)) tNil))))) (gName 1)) tNext))
  (tRet (tVar 1))))
abbrev N_law_names : List Str := ["row", "name"]
def t_law_names (K : PySem.W.Frag) (a : Ad) (E : XK) : TS :=
  (tRet (tCB (rSortedI K) (tCons (tLc (iList K (tVar 0)) (gName 1) (tB (tNotN (tVar 1))) (tVar 1) [1]) tNil)))
abbrev N_law_tells5 : List Str := ["yard", "row", "rule", "found", "names", "count", "steps"]
def t_law_tells5 (K : PySem.W.Frag) (a : Ad) (E : XK) : TS :=
  (tSeq (tAsg (tMeth a.Y "stalls" (sp_Yard_stalls K a) [] E0 (tVar 0) tNil) (gName 3))
  (tSeq (tAsg (tMeth a.Y "names" (sp_Yard_names K a) [] E0 (tVar 0) tNil) (gName 4))
  (tSeq (tIfS (tOr (tNot (tB (tCall (sp_law_row K a) [] E0 (tCons (tVar 3) (tCons (tVar 1) tNil))))) (tNot (tB (tCall (sp_law_row K a) [] E0 (tCons (tVar 4) (tCons (tCall (sp_law_names K a) [] E0 (tCons (tVar 1) tNil)) tNil)))))) (tRet (tC (.bl false))) tNext)
  (tSeq (tAsg (tC (.int 5)) (gSub (tVar 3) (tC (.int 0)) rSetL))
  (tSeq (tDrop (tBM K "list" rAppend (tVar 4) (tCons (tC (.int 7)) tNil)))
  (tSeq (tAsg (tMeth a.Y "how_many" (sp_Yard_how_many K a) [] E0 (tVar 0) tNil) (gName 5))
  (tSeq (tAsg (tMeth a.Y "steps" (sp_Yard_steps K a) [] E0 (tVar 0) tNil) (gName 6))
  (tSeq (tIfS (tOr (tNot (tB (tCall (sp_law_whole K a) [] E0 (tCons (tVar 5) tNil)))) (tTest (tOp rNe (tVar 5) (tOp rSubI (tCB (rLenL K) (tCons (tVar 1) tNil)) (tBM K "list" (rCntV K) (tVar 1) (tCons (tC .non) tNil)))))) (tRet (tC (.bl false))) tNext)
  (tSeq (tIfS (tOr (tNot (tB (tCall (sp_law_whole K a) [] E0 (tCons (tVar 6) tNil)))) (tTest (tOp rNe (tVar 6) (tCall (sp_law_steps K a) [] E0 (tCons (tVar 1) tNil))))) (tRet (tC (.bl false))) tNext)
  (tRet (tAndV (tCall (sp_law_whole K a) [] E0 (tCons (tFld K (tVar 0) "many") tNil)) (tAndV (tOp rEq (tFld K (tVar 0) "many") (tCB (rLenL K) (tCons (tVar 1) tNil))) (tAndV (tCall (sp_law_whole K a) [] E0 (tCons (tFld K (tVar 0) "rule") tNil)) (tOp rEq (tFld K (tVar 0) "rule") (tVar 2)))))))))))))))
section
variable {K : PySem.W.Frag} {a : Ad} {H : Hp}
theorem el_cat {ta tb : TE} {σ : L2.St} {xs ys : List V} (h1 : EvL ta σ H xs) (h2 : EvL tb σ H ys) (hz : xs.length + ys.length ≤ 100000) : EvL (tOp rCat ta tb) σ H (xs ++ ys) := fun H1 e Q q =>
  h1 H1 e _ fun p H2 hp e2 hp2 => h2 H2 (e.trans e2) _ fun p' H3 hq e3 hq3 => ⟨p, p', xs, ys, rfl, rfl, e3 _ _ hp2, hq3, sz_of hz, fun l hl => q l _ (fresh_back (e2.trans e3) hl) ((e2.trans e3).trans (Ex.new hl)) upd_same⟩
theorem ev_mod30 {tc : TE} {σ : L2.St} {z : Int} (h : Ev tc σ H (.int z)) : Ev (tOp rModI tc (tOp rPowI (tC (.int 10)) (tC (.int 30)))) σ H (nV (z % 10 ^ 30).toNat) :=
  ev_nat (ev_op h (ev_op ev_c ev_c (rv_pow10 (by decide))) (rv_mod (by decide))) (Int.emod_nonneg _ (by decide))
theorem inV_pair {o : Option Nat} {c : Nat} : inV (oV o) [.non, nV c] = (decide (none = o) || decide (some c = o)) := by
  show ([oV none, oV (some c)].any fun z => eqV z (oV o)) = _
  simp only [List.any_cons, List.any_nil, eqV_oV, Bool.or_false]
theorem r_law_seen (vs : List V) (H : Hp) (Q : VK) (E : XK) (h : sp_law_seen K a vs H Q E) : Go (t_law_seen K a E) N_law_seen vs H Q := by
  obtain ⟨w, rule, row, c, rfl, W, hle, h2, room, k⟩ := h
  have hn : 0 < row.length := by omega
  refine q_asg (ev_lenRow (ev_var rfl) W) fun H0 e0 => ?_
  refine q_asgL (el_lst (vs := [nV (c % row.length)]) (ea_cons (int_is (ev_op (ev_var rfl) (ev_var rfl) (rv_mod (by omega))) mod_int) ea_nil) (by show 1 ≤ 100000; decide)) fun l H1 hl e1 h1 => ?_
  refine q_asg (v := nV (c % row.length)) (int_is (ev_op (ev_var rfl) (ev_var rfl) (rv_mod (by omega))) mod_int) fun H2 e2 => ?_
  have hl0 := fresh_back e0 hl
  refine q_while (fun m σ' H' => ∃ (s : Nat) (acc : List Nat), σ' = [some (.ref w), some (nV rule), some (nV c), some (nV row.length), some (.ref l), some (nV s)] ∧ s < row.length ∧ Ex H H' ∧ H' l = some (.lst ((acc ++ [s]).map nV)) ∧ FreeIn row s (m + 1) ∧ acc ++ lookF rule row.length row c (m + 1) s = lookR rule row c ∧ acc.length + m + 1 ≤ row.length) (row.length - 1) ?_ ?_
  · refine ⟨c % row.length, [], rfl, Nat.mod_lt _ hn, (e0.trans e1).trans e2, e2 _ _ h1, ?_, ?_, ?_⟩
    · obtain ⟨s0, hs0⟩ := free_of room
      rw [show row.length - 1 + 1 = row.length by omega]
      exact freeIn_of hs0 (Nat.mod_lt _ hn)
    · rw [show row.length - 1 + 1 = row.length by omega]
      rfl
    · show 0 + _ + 1 ≤ _; omega
  · rintro m σ' H' ⟨s, acc, rfl, hs, e, h3, hf, hlk, hz⟩
    have W' := W.ex e
    obtain ⟨o, ho⟩ : ∃ o, row[s]? = some o := ⟨_, List.getElem?_eq_getElem hs⟩
    have hin := ev_niU (K := K) (ev_item (K := K) (σ := [some (.ref w), some (nV rule), some (nV c), some (nV row.length), some (.ref l), some (nV s)]) (tl := tVar 0) (ti := tVar 5) (ev_var rfl) (ev_var rfl) W' ho) (eu_tup (ea_cons (ev_c (v := .non)) (ea_cons (ev_var (i := 2) rfl) ea_nil)) (by show 2 ≤ 100000; decide)) (flat_oV o) (by rfl)
    rw [inV_pair] at hin
    have hgo : EvT (tAnd (tTest (tOp (rIn K true) (tOp (rIxL K) (tVar 0) (tVar 5)) (tTup (tCons (tC .non) (tCons (tVar 2) tNil))))) (tB (tCall (sp_law_keeps K a) [] E0 (tCons (tVar 1) (tCons (tOp (rIxL K) (tVar 0) (tVar 5)) (tCons (tVar 2) (tCons (tVar 5) (tCons (tVar 3) tNil)))))))) [some (.ref w), some (nV rule), some (nV c), some (nV row.length), some (.ref l), some (nV s)] H' (goesOn rule row c s) := by
      cases o with
      | none =>
        refine et_is (et_and (b := false) (et_test hin) fun z => by simp at z) ?_
        unfold goesOn; rw [ho]; rfl
      | some x =>
        by_cases hx : x = c
        · subst hx
          refine et_is (et_and (b := false) (et_test hin) fun z => by simp at z) ?_
          unfold goesOn; rw [ho]; simp
        · refine et_is (et_and (et_test hin) fun z => et_B (ev_callE (dvs := []) (ea_cons (ev_var rfl) (ea_cons (ev_item (o := some x) (ev_var rfl) (ev_var rfl) W' ho) (ea_cons (ev_var rfl) (ea_cons (ev_var rfl) (ea_cons (ev_var rfl) ea_nil))))) (v_lkeeps hs h2))) ?_
          unfold goesOn; rw [ho]
          have : ¬ c = x := fun q => hx q.symm
          simp [hx, this]
    refine ⟨goesOn rule row c s, hgo, fun hb H3 e3 => ?_, fun hb H3 e3 => ?_⟩
    · obtain ⟨x, hx, _, _⟩ := goesOn_iff.mp hb
      have hf' := hf.next hs hx
      rw [lookF_go hb] at hlk
      cases m with
      | zero => obtain ⟨k0, h, _⟩ := hf'; omega
      | succ m =>
        refine ⟨fun σ2 H2 => ∃ (s : Nat) (acc : List Nat), σ2 = [some (.ref w), some (nV rule), some (nV c), some (nV row.length), some (.ref l), some (nV s)] ∧ s < row.length ∧ Ex H H2 ∧ H2 l = some (.lst ((acc ++ [s]).map nV)) ∧ FreeIn row s (m + 1) ∧ acc ++ lookF rule row.length row c (m + 1) s = lookR rule row c ∧ acc.length + m + 1 ≤ row.length, fun σ2 H2 hw => ⟨m, by omega, hw⟩, ?_⟩
        refine q_asg (v := nV (nx s row.length)) (int_is (ev_op (ev_op (ev_var rfl) ev_c rv_add) (ev_var rfl) (rv_mod (by omega))) (nx_int hs)) fun H4 e4 => ?_
        have h4 := (e3.trans e4) _ _ h3
        refine s_app h4 (ev_var rfl) (ev_var rfl) (lt_sz (by rw [List.length_map, List.length_append]; show acc.length + 1 ≤ 201; omega)) fun H5 e5 => ?_
        refine ⟨nx s row.length, acc ++ [s], rfl, nx_lt hs, Ex.mut (((e.trans e3).trans e4).trans e5) hl0, ?_, hf', ?_, ?_⟩
        · rw [upd_same, List.map_append (l₁ := acc ++ [s])]
          rfl
        · rw [← hlk, List.append_assoc]
          rfl
        · rw [List.length_append]; show acc.length + 1 + m + 1 ≤ _; omega
    · rw [lookF_stop hb] at hlk
      refine s_ret (ev_var rfl) fun H4 e4 => ?_
      refine k l H4 hl0 ((e.trans e3).trans e4) ?_
      rw [← hlk]
      exact (e3.trans e4) _ _ h3
theorem l_seen {w : Addr} {rule c : Nat} {row : Row} (W : RowAt H w row) (hle : row.length ≤ 200) (h2 : rule ≤ 2) (room : (names row).length < row.length) : SpL (sp_law_seen K a) [.ref w, nV rule, nV c] H ((lookR rule row c).map nV) := fun H1 e1 Q q E => ⟨w, rule, row, c, rfl, W.ex e1, hle, h2, room, q⟩
theorem nV_row (xs : List Nat) : xs.map nV = rowV (xs.map some) := by
  unfold rowV
  rw [List.map_map]
  rfl
theorem rowAt_nats {l : Addr} {xs : List Nat} (h : H l = some (.lst (xs.map nV))) : RowAt H l (xs.map some) := by
  unfold RowAt
  rw [← nV_row]
  exact h
theorem ev_rowTold {tf td : TE} {σ : L2.St} {l m : Addr} {A B : Row} (h1 : Ev tf σ H (.ref l)) (h2 : Ev td σ H (.ref m)) (w1 : RowAt H l A) (w2 : RowAt H m B) : Ev (tCall (sp_law_row K a) [] E0 (tCons tf (tCons td tNil))) σ H (.bl (decide (A = B))) :=
  ev_callE (dvs := []) (ea_cons h1 (ea_cons h2 ea_nil)) fun H1 e1 Q q E => ⟨l, m, A, B, rfl, w1.ex e1, w2.ex e1, q⟩
theorem in_nats_none (xs : List Nat) : inV .non (xs.map nV) = false := by
  show (xs.map nV).any (fun z => eqV z (oV none)) = false
  rw [List.any_map]
  refine List.any_eq_false.mpr fun x _ => ?_
  show ¬ eqV (oV (some x)) (oV none) = true
  rw [eqV_oV]; simp
theorem flat_nats (xs : List Nat) : (xs.map nV).all flatV = true := by rw [nV_row]; exact flat_rowV _
theorem where_last {rule c s : Nat} {row : Row} (h : whereR rule row c = some s) : lastR rule row c = s := by
  unfold whereR at h
  split at h
  · exact Option.some.inj h
  · cases h
theorem r_law_found (F : YFc K a) (vs : List V) (H : Hp) (Q : VK) (E : XK) (h : sp_law_found K a vs H Q E) : Go (t_law_found K a E) N_law_found vs H Q := by
  obtain ⟨p, r, w, rule, row, c, rfl, Y, W, h2, R, k⟩ := h
  have room := R.room
  refine q_asgL (el_ym (ev_var rfl) Y.y f_looked.1 f_looked.2.1 f_looked.2.2 (ea_cons (ev_var rfl) ea_nil) (l_looked Y room)) fun l H1 hl e1 h1 => ?_
  refine q_asgL (el_callE (ea_cons (ev_var rfl) (ea_cons (ev_var rfl) (ea_cons (ev_var rfl) ea_nil))) (l_seen (W.ex e1) Y.le h2 room)) fun m H2 hm e2 hm2 => ?_
  have nlm : m ≠ l := (ne_some h1 hm).symm
  refine q_when (et_or (et_not (et_B (ev_rowTold (ev_var rfl) (ev_var rfl) (rowAt_nats (e2 _ _ h1)) (rowAt_nats hm2)))) fun _ => et_test (bl_is (ev_op ev_c (ev_var rfl) (rv_isL (SqL.of (e2 _ _ h1)) rfl (flat_nats _))) (in_nats_none _))) (fun hb H3 e3 => by simp at hb) (fun hb H3 e3 => ?_)
  refine q_clear (ev_var rfl) (e3 _ _ (e2 _ _ h1)) fun H4 b4 _ => ?_
  have e4 : Ex H H4 := ex_but ((e1.trans e2).trans e3) hl b4
  have hm4 : H4 m = some (.lst ((lookR rule row c).map nV)) := b4 _ _ nlm (e3 _ _ hm2)
  have Y4 := Y.ex e4
  refine q_asg (ev_ym (ev_var rfl) Y4.y f_where.1 f_where.2.1 f_where.2.2 (ea_cons (ev_var rfl) ea_nil) (v_where Y4 room)) fun H5 e5 => ?_
  refine q_when (et_test (ev_inRow (ev_var rfl) (ev_var rfl) (W.ex (e4.trans e5)))) (fun hb H6 e6 => ?_) (fun hb H6 e6 => ?_)
  · obtain ⟨s, hs⟩ := mem_names.mp (of_decide_eq_true hb)
    have hw := where_of R hs
    have hlast := where_last hw
    rw [hw]
    obtain ⟨pre, hpre⟩ := look_last (rule := rule) (c := c) room
    have e46 := e5.trans e6
    refine s_ret (bl_is (ev_andV (a := true) (b := true) (ev_callE (dvs := []) (ea_cons (ev_var rfl) ea_nil) (v_whole rfl)) fun _ => bl_is (ev_andV (ev_op (ev_var rfl) (ev_index (ev_var rfl) (ev_var rfl) (W.ex (e4.trans e46)) R.nd hs) (rv_eqO (o := some s) (c := some s))) fun _ => ev_op (x := nV s) (ev_op (ev_var rfl) (ev_un ev_c ru_neg) (rv_ixL (SqL.of (e46 _ _ hm4)) ?_)) (ev_var rfl) (rv_eqO (o := some s) (c := some s))) (by simp)) rfl) fun H7 e7 => k H7 ((e4.trans e46).trans e7)
    rw [hpre, List.map_append, hlast]
    exact atI_last _ _
  · have hw := (where_none R).mpr (of_decide_eq_false hb)
    rw [hw]
    exact s_ret (bl_is (ev_isN (ev_var rfl)) (by rfl)) fun H7 e7 => k H7 (((e4.trans e5).trans e6).trans e7)
theorem v_found {p r w : Addr} {rule c : Nat} {row : Row} (Y : YR a H p r rule row) (W : RowAt H w row) (h2 : rule ≤ 2) (R : Right rule row) : SpV (sp_law_found K a) [.ref p, .ref w, nV rule, nV c] H (.bl true) := fun H1 e1 Q q E => ⟨p, r, w, rule, row, c, rfl, Y.ex e1, W.ex e1, h2, R, q⟩
end
end SY

namespace SY
open PySem L2 Evl
/-! ### what yards tell -/
def sp_law_tells (K : PySem.W.Frag) (a : Ad) : Sp := fun vs H Q _ => ∃ (p r w : Addr) (rule : Nat) (row : Row), vs = [.ref p, .ref w] ∧ YR a H p r rule row ∧ RowAt H w row ∧ RetV (.bl true) H Q
abbrev N_law_tells : List Str := ["yard", "row", "name", "count", "steps"]
def t_law_tells (K : PySem.W.Frag) (a : Ad) (E : XK) : TS :=
  (tSeq (tIfS (tNot (tB (tCall (sp_law_row K a) [] E0 (tCons (tMeth a.Y "stalls" (sp_Yard_stalls K a) [] E0 (tVar 0) tNil) (tCons (tVar 1) tNil))))) (tRet (tC (.bl false))) tNext)
  (tSeq (tIfS (tNot (tB (tCall (sp_law_row K a) [] E0 (tCons (tMeth a.Y "names" (sp_Yard_names K a) [] E0 (tVar 0) tNil) (tCons (tCB (rSortedI K) (tCons (tLc (iList K (tVar 1)) (gName 2) (tB (tNotN (tVar 2))) (tVar 2) [2]) tNil)) tNil))))) (tRet (tC (.bl false))) tNext)
  (tSeq (tAsg (tMeth a.Y "how_many" (sp_Yard_how_many K a) [] E0 (tVar 0) tNil) (gName 3))
  (tSeq (tAsg (tMeth a.Y "steps" (sp_Yard_steps K a) [] E0 (tVar 0) tNil) (gName 4))
  (tSeq (tIfS (tOr (tNot (tB (tCall (sp_law_whole K a) [] E0 (tCons (tVar 3) tNil)))) (tTest (tOp rNe (tVar 3) (tOp rSubI (tCB (rLenL K) (tCons (tVar 1) tNil)) (tBM K "list" (rCntV K) (tVar 1) (tCons (tC .non) tNil)))))) (tRet (tC (.bl false))) tNext)
  (tRet (tAndV (tCall (sp_law_whole K a) [] E0 (tCons (tVar 4) tNil)) (tOp rEq (tVar 4) (tCall (sp_law_steps K a) [] E0 (tCons (tVar 1) tNil))))))))))
section
variable {K : PySem.W.Frag} {a : Ad} {H : Hp}
theorem row_get {row : Row} {i : Nat} {x : V} (h : (rowV row)[i]? = some x) : ∃ o, row[i]? = some o ∧ x = oV o := by
  unfold rowV at h
  rw [List.getElem?_map] at h
  cases e : row[i]? with
  | none => rw [e] at h; cases h
  | some o => rw [e] at h; exact ⟨o, rfl, (Option.some.inj h).symm⟩
theorem drop_get {row : Row} {i : Nat} {o : Option Nat} (h : row[i]? = some o) : row.drop i = o :: row.drop (i + 1) := by
  have hl := get_lt h
  rw [List.drop_eq_getElem_cons hl]
  rw [List.getElem?_eq_getElem hl] at h
  rw [Option.some.inj h]
theorem r_law_steps (vs : List V) (H : Hp) (Q : VK) (E : XK) (h : sp_law_steps K a vs H Q E) : Go (t_law_steps K a E) N_law_steps vs H Q := by
  obtain ⟨w, row, rfl, W, hle, k⟩ := h
  refine q_asg (v := nV 0) ev_c fun H1 e1 => ?_
  refine q_forE (ev_var rfl) (fun i σ' H' => Ex H H' ∧ ∃ (t : Nat) (v2 v3 : Option V), σ' = [some (.ref w), some (nV t), v2, v3] ∧ t + stepsF row.length i (row.drop i) = stepsR row) (fun H2 e2 => ⟨e1.trans e2, 0, none, none, rfl, Nat.zero_add _⟩) (SqL.of (W.ex e1)) (fun i σ' H' _ ⟨e, _⟩ => SqL.of (W.ex e)) (fun i x σ' H' H2 hi ⟨e, t, v2, v3, hσ, ht⟩ e2 => ?_) (fun σ' H' ⟨e, t, v2, v3, hσ, ht⟩ => ?_)
  · subst hσ
    obtain ⟨o, ho, rfl⟩ := row_get hi
    rw [drop_get ho] at ht
    have hlt := get_lt ho
    refine s_when (et_B (ev_notN (ev_var rfl))) (fun hb H3 e3 => ?_) (fun hb H3 e3 => ?_)
    · cases o with
      | none => simp [oV] at hb
      | some c =>
        have e13 := (e.trans e2).trans e3
        refine s_asg (v := nV (t + way c i row.length)) (int_is (ev_op (ev_var rfl) (ev_callE (dvs := []) (ea_cons (ev_var rfl) (ea_cons (ev_var rfl) (ea_cons (ev_lenRow (ev_var rfl) (W.ex e13)) ea_nil))) (v_lway (c := c) (s := i) hlt)) rv_add) (by show ((t : Int) + (way c i row.length : Int)) = _; omega)) fun H4 e4 => ?_
        refine ⟨e13.trans e4, _, _, _, rfl, ?_⟩
        rw [← ht]
        show t + way c i row.length + _ = t + (way c i row.length + stepsF row.length (i + 1) (row.drop (i + 1)))
        omega
    · cases o with
      | none => exact ⟨(e.trans e2).trans e3, _, _, _, rfl, ht⟩
      | some c => simp [oV] at hb
  · subst hσ
    rw [rowV_len, List.drop_length] at ht
    have ht : t = stepsR row := ht
    subst ht
    exact s_ret (ev_var rfl) fun H3 e3 => k H3 (e.trans e3)
theorem v_lsteps {w : Addr} {row : Row} (W : RowAt H w row) (hle : row.length ≤ 200) : SpV (sp_law_steps K a) [.ref w] H (nV (stepsR row)) := fun H1 e1 Q q E => ⟨w, row, rfl, W.ex e1, hle, q⟩
theorem r_law_names (vs : List V) (H : Hp) (Q : VK) (E : XK) (h : sp_law_names K a vs H Q E) : Go (t_law_names K a E) N_law_names vs H Q := by
  obtain ⟨w, row, rfl, W, hle, k⟩ := h
  exact s_retL (el_sorted (el_names (ev_var rfl) (SqL.of W) (by omega) (Nat.le_of_ble_eq_true rfl))) k
theorem l_lnames {w : Addr} {row : Row} (W : RowAt H w row) (hle : row.length ≤ 200) : SpL (sp_law_names K a) [.ref w] H ((srt (names row)).map nV) := fun H1 e1 Q q E => ⟨w, row, rfl, W.ex e1, hle, q⟩
theorem ev_rowTL {tf td : TE} {σ : L2.St} {l : Addr} {A B : Row} (h1 : Ev tf σ H (.ref l)) (w1 : RowAt H l A) (h2 : EvL td σ H (rowV B)) : Ev (tCall (sp_law_row K a) [] E0 (tCons tf (tCons td tNil))) σ H (.bl (decide (A = B))) := fun H1 e Q q =>
  h1 H1 e _ fun H2 e2 => h2 H2 (e.trans e2) _ fun m H3 hm e3 h3 => ⟨l, m, A, B, rfl, w1.ex ((e.trans e2).trans e3), h3, fun H4 e4 => q H4 ((e2.trans e3).trans e4)⟩
theorem ev_rowLL {tf td : TE} {σ : L2.St} {A B : Row} (h1 : EvL tf σ H (rowV A)) (h2 : EvL td σ H (rowV B)) : Ev (tCall (sp_law_row K a) [] E0 (tCons tf (tCons td tNil))) σ H (.bl (decide (A = B))) := fun H1 e Q q =>
  h1 H1 e _ fun l H2 hl e2 hl2 => h2 H2 (e.trans e2) _ fun m H3 hm e3 h3 => ⟨l, m, A, B, rfl, e3 _ _ hl2, h3, fun H4 e4 => q H4 ((e2.trans e3).trans e4)⟩
theorem ev_rowLW {tf td : TE} {σ : L2.St} {m : Addr} {A B : Row} (h1 : EvL tf σ H (rowV A)) (h2 : Ev td σ H (.ref m)) (w2 : RowAt H m B) : Ev (tCall (sp_law_row K a) [] E0 (tCons tf (tCons td tNil))) σ H (.bl (decide (A = B))) := fun H1 e Q q =>
  h1 H1 e _ fun l H2 hl e2 hl2 => h2 H2 (e.trans e2) _ fun H3 e3 => ⟨l, m, A, B, rfl, e3 _ _ hl2, w2.ex ((e.trans e2).trans e3), fun H4 e4 => q H4 ((e2.trans e3).trans e4)⟩
theorem el_nats {te : TE} {σ : L2.St} {xs : List Nat} (h : EvL te σ H (xs.map nV)) : EvL te σ H (rowV (xs.map some)) := by rw [← nV_row]; exact h
section
variable {σ : L2.St} {ty tw tc : TE} {p r w : Addr} {rule : Nat} {row : Row}
theorem el_stalls (h : Ev ty σ H (.ref p)) (Y : YR a H p r rule row) : EvL (tMeth a.Y "stalls" (sp_Yard_stalls K a) [] E0 ty tNil) σ H (rowV row) := el_ym h Y.y f_stalls.1 f_stalls.2.1 f_stalls.2.2 ea_nil (l_stalls Y)
theorem el_ynames (h : Ev ty σ H (.ref p)) (Y : YR a H p r rule row) : EvL (tMeth a.Y "names" (sp_Yard_names K a) [] E0 ty tNil) σ H ((srt (names row)).map nV) := el_ym h Y.y f_names.1 f_names.2.1 f_names.2.2 ea_nil (l_names Y)
theorem ev_how (h : Ev ty σ H (.ref p)) (Y : YR a H p r rule row) : Ev (tMeth a.Y "how_many" (sp_Yard_how_many K a) [] E0 ty tNil) σ H (nV (names row).length) := ev_ym h Y.y f_howm.1 f_howm.2.1 f_howm.2.2 ea_nil (v_how_many Y)
theorem ev_steps (h : Ev ty σ H (.ref p)) (Y : YR a H p r rule row) : Ev (tMeth a.Y "steps" (sp_Yard_steps K a) [] E0 ty tNil) σ H (nV (stepsR row)) := ev_ym h Y.y f_steps.1 f_steps.2.1 f_steps.2.2 ea_nil (v_steps Y)
theorem ev_whole {n : Nat} (h : Ev tc σ H (nV n)) : Ev (tCall (sp_law_whole K a) [] E0 (tCons tc tNil)) σ H (.bl true) := ev_callE (dvs := []) (ea_cons h ea_nil) (v_whole rfl)
/-- how many carts: told as walked -/
theorem et_count (hc : Ev tc σ H (nV (names row).length)) (hw : Ev tw σ H (.ref w)) (W : RowAt H w row) : EvT (tOr (tNot (tB (tCall (sp_law_whole K a) [] E0 (tCons tc tNil)))) (tTest (tOp rNe tc (tOp rSubI (tCB (rLenL K) (tCons tw tNil)) (tBM K "list" (rCntV K) tw (tCons (tC .non) tNil)))))) σ H false := by
  refine et_is (et_or (et_not (et_B (ev_whole hc))) fun _ => et_test (ev_op hc (ev_op (ev_lenRow hw W) (ev_count hw W) rv_sub) rv_neI)) ?_
  have := names_len row
  have e : ((names row).length : Int) = (row.length : Int) - (row.count none : Nat) := by omega
  simp [e]
theorem et_way (hc : Ev tc σ H (nV (stepsR row))) (hw : Ev tw σ H (.ref w)) (W : RowAt H w row) (hle : row.length ≤ 200) : EvT (tOr (tNot (tB (tCall (sp_law_whole K a) [] E0 (tCons tc tNil)))) (tTest (tOp rNe tc (tCall (sp_law_steps K a) [] E0 (tCons tw tNil))))) σ H false := by
  refine et_is (et_or (et_not (et_B (ev_whole hc))) fun _ => et_test (ev_op hc (ev_callE (dvs := []) (ea_cons hw ea_nil) (v_lsteps W hle)) rv_neI)) (by simp)
end
theorem r_law_tells5 (F : YFc K a) (vs : List V) (H : Hp) (Q : VK) (E : XK) (h : sp_law_tells5 K a vs H Q E) : Go (t_law_tells5 K a E) N_law_tells5 vs H Q := by
  obtain ⟨p, r, w, rule, row, rfl, Y, W, h0, k⟩ := h
  have hle := Y.le
  refine q_asgL (el_stalls (ev_var rfl) Y) fun l H1 hl e1 h1 => ?_
  refine q_asgL (el_ynames (ev_var rfl) (Y.ex e1)) fun m H2 hm e2 hm2 => ?_
  have nlm : l ≠ m := ne_some h1 hm
  have e02 := e1.trans e2
  refine q_when (et_or (et_not (et_B (ev_rowTold (A := row) (ev_var rfl) (ev_var rfl) (e2 _ _ h1) (W.ex e02)))) fun _ => et_not (et_B (ev_rowTL (ev_var rfl) (rowAt_nats hm2) (el_nats (el_callE (ea_cons (ev_var rfl) ea_nil) (l_lnames (W.ex e02) hle)))))) (fun hb => by simp at hb) (fun hb H3 e3 => ?_)
  refine q_setL (v := .int 5) (j := 0) ((e2.trans e3) _ _ h1) ev_c (ev_var rfl) ev_c (by rw [rowV_len]; exact h0) fun H4 e4 => ?_
  have e5 : Ex H (upd H4 l (.lst ((rowV row).set 0 (.int 5)))) := Ex.mut ((e02.trans e3).trans e4) hl
  have hm5 : upd H4 l (.lst ((rowV row).set 0 (.int 5))) m = some (.lst ((srt (names row)).map nV)) := by rw [upd_ne (Ne.symm nlm)]; exact (e3.trans e4) _ _ hm2
  generalize upd H4 l (.lst ((rowV row).set 0 (.int 5))) = H5 at *
  refine q_app (v := .int 7) hm5 (ev_var rfl) ev_c (by rw [List.length_map, (srt_perm _).length_eq]; have := names_le row; omega) fun H6 e6 => ?_
  have e7 : Ex H (upd H6 m (.lst ((srt (names row)).map nV ++ [.int 7]))) := Ex.mut (e5.trans e6) (fresh_back e1 hm)
  generalize upd H6 m (.lst ((srt (names row)).map nV ++ [.int 7])) = H7 at *
  refine q_asg (ev_how (ev_var rfl) (Y.ex e7)) fun H8 e8 => ?_
  refine q_asg (ev_steps (ev_var rfl) (Y.ex (e7.trans e8))) fun H9 e9 => ?_
  have e09 := (e7.trans e8).trans e9
  refine q_when (et_count (ev_var rfl) (ev_var rfl) (W.ex e09)) (fun hb => by cases hb) (fun hb H10 e10 => ?_)
  refine q_when (et_way (ev_var rfl) (ev_var rfl) (W.ex (e09.trans e10)) hle) (fun hb => by cases hb) (fun hb H11 e11 => ?_)
  have e := (e09.trans e10).trans e11
  have Y1 := Y.ex e
  exact s_ret (bl_is (ev_andV (a := true) (b := true) (ev_whole (ev_many (ev_var rfl) Y1.y F)) fun _ => bl_is (ev_andV (b := true) (ev_op (ev_many (ev_var rfl) Y1.y F) (ev_lenRow (ev_var rfl) (W.ex e)) rv_eqI) fun _ => bl_is (ev_andV (a := true) (ev_whole (ev_rule (ev_var rfl) Y1.y F)) fun _ => ev_op (ev_rule (ev_var rfl) Y1.y F) (ev_var rfl) rv_eqI) (by simp)) (by simp)) rfl) fun H12 e12 => k H12 (e.trans e12)
theorem v_tells5 {p r w : Addr} {rule : Nat} {row : Row} (Y : YR a H p r rule row) (W : RowAt H w row) (h0 : 0 < row.length) : SpV (sp_law_tells5 K a) [.ref p, .ref w, nV rule] H (.bl true) := fun H1 e1 Q q E => ⟨p, r, w, rule, row, rfl, Y.ex e1, W.ex e1, h0, q⟩
theorem r_law_tells (F : YFc K a) (vs : List V) (H : Hp) (Q : VK) (E : XK) (h : sp_law_tells K a vs H Q E) : Go (t_law_tells K a E) N_law_tells vs H Q := by
  obtain ⟨p, r, w, rule, row, rfl, Y, W, k⟩ := h
  have hle := Y.le
  refine q_when (et_not (et_B (ev_rowLW (el_stalls (ev_var rfl) Y) (ev_var rfl) W))) (fun hb => by simp at hb) (fun hb H1 e1 => ?_)
  refine q_when (et_not (et_B (ev_rowLL (el_nats (el_ynames (ev_var rfl) (Y.ex e1))) (el_nats (el_sorted (el_names (ev_var rfl) (SqL.of (W.ex e1)) (by omega) (Nat.le_of_ble_eq_true rfl))))))) (fun hb => by simp at hb) (fun hb H2 e2 => ?_)
  have e02 := e1.trans e2
  refine q_asg (ev_how (ev_var rfl) (Y.ex e02)) fun H3 e3 => ?_
  refine q_asg (ev_steps (ev_var rfl) (Y.ex (e02.trans e3))) fun H4 e4 => ?_
  have e04 := (e02.trans e3).trans e4
  refine q_when (et_count (ev_var rfl) (ev_var rfl) (W.ex e04)) (fun hb => by cases hb) (fun hb H5 e5 => ?_)
  exact s_ret (bl_is (ev_andV (a := true) (b := true) (ev_whole (ev_var rfl)) fun _ => bl_is (ev_op (ev_var rfl) (ev_callE (dvs := []) (ea_cons (ev_var rfl) ea_nil) (v_lsteps (W.ex (e04.trans e5)) hle)) rv_eqI) (by simp)) rfl) fun H6 e6 => k H6 ((e04.trans e5).trans e6)
theorem v_tells {p r w : Addr} {rule : Nat} {row : Row} (Y : YR a H p r rule row) (W : RowAt H w row) : SpV (sp_law_tells K a) [.ref p, .ref w] H (.bl true) := fun H1 e1 Q q E => ⟨p, r, w, rule, row, rfl, Y.ex e1, W.ex e1, q⟩
end
end SY

namespace SY
open PySem L2 Evl
section
variable {K : PySem.W.Frag} {a : Ad} {M H H' H1 H2 : Hp} {σ : L2.St} {D : Ends} {tz : TS}
/-! ### yards made within expressions, and several of them -/
theorem w_make {E : XK} {tm tr : TE} {many : Int} {rule : Nat} {Q : VK} (hm : Ev tm σ H (.int many)) (hr : Ev tr σ H (nV rule)) (h1 : 2 ≤ many) (h2 : many ≤ 200)
    (k : ∀ p r H1, H p = none → H r = none → p ≠ r → Ex H H1 → YR a H1 p r rule (List.replicate many.toNat none) → Q (.ref p) H1) :
    tMake a.Y (sp_Yard__init_ K a) [] E (tCons tm (tCons tr tNil)) σ H Q := by
  refine hm H (Ex.refl H) _ fun H1 e1 => hr H1 e1 _ fun H2 e2 => ?_
  intro x dx hx hdx hne
  have ex1 : Ex H2 (upd (upd H2 dx (.own x)) x (.ins a.Y dx [])) := (Ex.new hdx).trans (Ex.new (by rw [upd_ne (Ne.symm hne)]; exact hx))
  refine ⟨x, dx, many, rule, rfl, upd_same, fun hb => by omega, fun _ r H3 hr3 b3 Y3 => ⟨rfl, ?_⟩⟩
  have hrx : r ≠ x := fun q => by subst q; rw [upd_same] at hr3; cases hr3
  refine k x r H3 (fresh_back (e1.trans e2) hx) (fresh_back ((e1.trans e2).trans ex1) hr3) (Ne.symm hrx) (fun b o h => ?_) Y3
  have nb : b ≠ x := ne_of_none ((e1.trans e2) _ _ h) hx
  exact b3 b o nb (ex1 _ _ ((e1.trans e2) _ _ h))
/-- [.. for j in range(n)], where each turn makes something -/
theorem w_lcR1 {ta : TA} {te : TE} {j : Nat} {vs : List Nat} {n : Int} {Q : VK} (W : Addr → Nat → Hp → Prop) (h : EvA ta σ H [.int n]) (hn : 0 ≤ n ∧ n ≤ 40000) (hw : ∀ x, wipe ((wipe σ vs).set j (some x)) vs = wipe σ vs)
    (h0 : ∀ Dl H1, Ex H H1 → H Dl = none → H1 Dl = some (.lst []) → W Dl 0 H1)
    (hs : ∀ Dl (i : Nat) H', (i : Int) < n → W Dl i H' → te ((wipe σ vs).set j (some (nV i))) H' fun y H4 => ∃ acc, H4 Dl = some (.lst acc) ∧ acc.length < sizeLine ∧ W Dl (i + 1) (upd H4 Dl (.lst (acc ++ [y])))) (hd : ∀ Dl H', W Dl n.toNat H' → Q (.ref Dl) H') :
    tLc (iRng1 ta) (gName j) tYes te vs σ H Q := h H (Ex.refl H) _ fun H1 e1 => ⟨n, rfl, by omega, by omega, fun Dl hD =>
  lc_range (lo := 0) (n := n.toNat) (W Dl) (h0 Dl _ (e1.trans (Ex.new hD)) (fresh_back e1 hD) upd_same) (fun i H' hi p => by
    have e0 : (0 : Int) + (i : Int) = (i : Int) := Int.zero_add _
    show wipe ((wipe σ vs).set j (some (.int ((0 : Int) + (i : Int))))) vs = wipe σ vs ∧ te ((wipe σ vs).set j (some (.int ((0 : Int) + (i : Int))))) H' fun y H4 => ∃ acc, H4 Dl = some (.lst acc) ∧ acc.length < sizeLine ∧ W Dl (i + 1) (upd H4 Dl (.lst (acc ++ [y])))
    rw [e0]
    exact ⟨hw _, hs Dl i H' (by omega) p⟩) (fun H' p => hd Dl H' p)⟩
theorem q_lcR1 {ta : TA} {te : TE} {i j : Nat} {vs : List Nat} {n : Int} (W : Addr → Nat → Hp → Prop) (h : EvA ta σ H [.int n]) (hn : 0 ≤ n ∧ n ≤ 40000) (hw : ∀ x, wipe ((wipe σ vs).set j (some x)) vs = wipe σ vs)
    (h0 : ∀ Dl H1, Ex H H1 → H Dl = none → H1 Dl = some (.lst []) → W Dl 0 H1)
    (hs : ∀ Dl (i : Nat) H', (i : Int) < n → W Dl i H' → te ((wipe σ vs).set j (some (nV i))) H' fun y H4 => ∃ acc, H4 Dl = some (.lst acc) ∧ acc.length < sizeLine ∧ W Dl (i + 1) (upd H4 Dl (.lst (acc ++ [y])))) (hd : ∀ Dl H', W Dl n.toNat H' → tz D (σ.set i (some (.ref Dl))) H') :
    tSeq (tAsg (tLc (iRng1 ta) (gName j) tYes te vs) (gName i)) tz D σ H := w_lcR1 (Q := fun v H' => tz D (σ.set i (some v)) H') W h hn hw h0 hs hd
/-- a list of two new lists -/
theorem q_asgLL {t1 t2 : TE} {i : Nat} {xs ys : List V} (h1 : EvL t1 σ H xs) (h2 : EvL t2 σ H ys)
    (k : ∀ p u v H1, H p = none → H u = none → H v = none → u ≠ v → p ≠ u → p ≠ v → Ex H H1 → H1 p = some (.lst [.ref u, .ref v]) → H1 u = some (.lst xs) → H1 v = some (.lst ys) → tz D (σ.set i (some (.ref p))) H1) :
    tSeq (tAsg (tLst (tCons t1 (tCons t2 tNil))) (gName i)) tz D σ H :=
  h1 H (Ex.refl H) _ fun u H1 hu e1 hu1 => h2 H1 e1 _ fun v H2 hv e2 hv2 => ⟨sz_of (by show 2 ≤ 100000; decide), fun p hp => k p u v _ (fresh_back (e1.trans e2) hp) hu (fresh_back e1 hv) (ne_some hu1 hv) (ne_some (e2 _ _ hu1) hp).symm (ne_some hv2 hp).symm ((e1.trans e2).trans (Ex.new hp)) upd_same ((Ex.new hp) _ _ (e2 _ _ hu1)) ((Ex.new hp) _ _ hv2)⟩
end
theorem YR.ne2 {a : Ad} {H : Hp} {p r r2 : Addr} {rule : Nat} {row row2 : Row} (h : YR a H p r rule row) (w : RowAt H r2 row2) : p ≠ r2 :=
  let ⟨_, h1⟩ := h.y
  ne_of h1 w (by intro z; cases z)
/-- several yards with their walked rows -/
structure Ys (a : Ad) (k : Nat) (M H : Hp) (P R W : Nat → Addr) (RU : Nat → Nat) (ROW : Nat → Row) : Prop where
  t : ∀ i, i < k → Twin a M H (P i) (R i) (W i) (RU i) (ROW i)
  d : ∀ i j, i < k → j < k → i ≠ j → R i ≠ R j ∧ R i ≠ W j ∧ W i ≠ R j ∧ W i ≠ W j
def up (ROW : Nat → Row) (i : Nat) (row : Row) : Nat → Row := fun j => if j = i then row else ROW j
theorem up_same {ROW : Nat → Row} {i : Nat} {row : Row} : up ROW i row i = row := if_pos rfl
theorem up_ne {ROW : Nat → Row} {i j : Nat} {row : Row} (h : j ≠ i) : up ROW i row j = ROW j := if_neg h
section
variable {K : PySem.W.Frag} {a : Ad} {M H H' H1 H2 : Hp} {k i : Nat} {P R W : Nat → Addr} {RU : Nat → Nat} {ROW : Nat → Row} {row : Row}
theorem Ys.ex (Y : Ys a k M H P R W RU ROW) (e : Ex H H') : Ys a k M H' P R W RU ROW := ⟨fun i hi => (Y.t i hi).ex e, Y.d⟩
theorem Ys.act (Y : Ys a k M H P R W RU ROW) (hi : i < k) : Twin a (wo H [R i, W i]) H (P i) (R i) (W i) (RU i) (ROW i) := by
  have T := Y.t i hi
  refine T.mono (ex_wo T.e fun b hb => ?_) (wo_ex _ _) (wo_none (by simp)) (wo_none (by simp))
  simp at hb
  rcases hb with rfl | rfl
  · exact T.mr
  · exact T.mw
theorem Ys.back (Y : Ys a k M H P R W RU ROW) (hi : i < k) (hl : row.length = (ROW i).length) (T' : Twin a (wo H [R i, W i]) H1 (P i) (R i) (W i) (RU i) row) : Ys a k M H1 P R W RU (up ROW i row) := by
  have T := Y.t i hi
  have eM : Ex M (wo H [R i, W i]) := ex_wo T.e fun b hb => by
    simp at hb
    rcases hb with rfl | rfl
    · exact T.mr
    · exact T.mw
  refine ⟨fun j hj => ?_, Y.d⟩
  by_cases hji : j = i
  · subst hji
    rw [up_same]
    exact { T' with e := eM.trans T'.e, y := by rw [hl]; exact T.y, mr := T.mr, mw := T.mw }
  · rw [up_ne hji]
    have Tj := Y.t j hj
    have d := Y.d j i hj hi hji
    have hR : ∀ {o b}, b ≠ R i → b ≠ W i → H b = some o → H1 b = some o := fun n1 n2 h => T'.e _ _ (by rw [wo_get (by simp [n1, n2])]; exact h)
    exact { Tj with e := eM.trans T'.e, R := hR d.1 d.2.1 Tj.R, W := hR d.2.2.1 d.2.2.2 Tj.W }
theorem Ys.mono {M' : Hp} (Y : Ys a k M H P R W RU ROW) (e : Ex M M') (e2 : Ex M' H) (m : ∀ i, i < k → M' (R i) = none ∧ M' (W i) = none) : Ys a k M' H P R W RU ROW :=
  ⟨fun i hi => (Y.t i hi).mono e e2 (m i hi).1 (m i hi).2, Y.d⟩
/-- a list made since: it stays, too -/
theorem Ys.fresh {q : Addr} {o : HO} (Y : Ys a k M H P R W RU ROW) (hq : H q = none) (e : Ex H H1) (h : H1 q = some o) (hk : 0 < k) : ∃ M', Ex M M' ∧ Ys a k M' H1 P R W RU ROW ∧ M' q = some o := by
  let S := (List.range k).map R ++ (List.range k).map W
  have hS : ∀ b, b ∈ S → M b = none := fun b hb => by
    simp only [S, List.mem_append, List.mem_map, List.mem_range] at hb
    rcases hb with ⟨i, hi, rfl⟩ | ⟨i, hi, rfl⟩
    · exact (Y.t i hi).mr
    · exact (Y.t i hi).mw
  have hqS : q ∉ S := fun hb => by
    simp only [S, List.mem_append, List.mem_map, List.mem_range] at hb
    rcases hb with ⟨i, hi, z⟩ | ⟨i, hi, z⟩
    · exact ((Y.t i hi).lr hq).1 z.symm
    · exact ((Y.t i hi).lr hq).2 z.symm
  have ee : Ex M (wo H1 S) := ex_wo ((Y.t 0 hk).e.trans e) hS
  refine ⟨wo H1 S, ee, (Y.ex e).mono ee (wo_ex _ _) fun i hi => ⟨wo_none ?_, wo_none ?_⟩, by rw [wo_get hqS]; exact h⟩
  · exact List.mem_append_left _ (List.mem_map.mpr ⟨i, List.mem_range.mpr hi, rfl⟩)
  · exact List.mem_append_right _ (List.mem_map.mpr ⟨i, List.mem_range.mpr hi, rfl⟩)
end
end SY

namespace L2
open PySem PySem.Spec PyProof.Rows
/-! ### len(set(xs)), whatever stands twice -/
/-- each once, as first met -/
def ddF (ns : List Int) : List Int := firstMet (fun i => ns.getD i 0) ns.length
def tLenSetN (K : PySem.W.Frag) (ta : TE) : TE := fun σ H Q => ta σ H fun x H1 => ∃ (l : Addr) (ns : List Int), x = V.ref l ∧ SqL K H1 l (ns.map V.int) ∧ ns.length ≤ 4000 ∧ Q (.int ((ddF ns).length : Nat)) H1
theorem pe_lenSetN {X : Cx} {a : Expr} {ta : TE} {p p2 q pos : Pos} (hc : X.calm = true) (hg : Gl X "len") (hm : X.mg "len" = none) (hg2 : Gl X "set") (hm2 : X.mg "set" = none) (ha : PE X a ta)
    (na : starEach [a] X.env = (false, eval a X.env) :: starEach [] X.env := by rfl) : PE X (.Call (.Name "len" p) [.Call (.Name "set" p2) [a] [] q] [] pos) (tLenSetN X.K ta) := by
  refine ⟨fun pins s σ H Q I h => ?_⟩
  refine Call_ (ld_blt I hg hm PySem.boot_len ?_)
  refine PyProof.Rows.callWith_builtin1 (PyProof.Rows.args_cons ?_ rfl) rfl rfl
  refine Call_ (ld_blt I hg2 hm2 PyProof.Rows.boot_set ?_)
  refine PyProof.Rows.callWith_type1 (PyProof.Rows.args_cons (thn (ha.run pins s σ H _ I h) fun v s1 ⟨x, H1, I1, r1, q1⟩ => PyProof.Rows.args_nil ?_) na) na rfl
  obtain ⟨l, ns, rfl, hq, h1, q1⟩ := q1
  cases r1
  obtain ⟨its, r, pl, hz⟩ := I1.list hq
  have hl : its.toArray.size = ns.length := by rw [List.size_toArray, ← r.length, List.length_map]
  refine call_set_list (I1.ok.hd hc) pl.isList (ns := ns) (by simpa using r.ints) (by unfold scanBound; omega) fun h' tk hS hk => ?_
  rw [hl] at hS
  have hle := firstMet_length_le (fun i => ns.getD i 0) ns.length
  refine PyProof.Rows.args_nil ?_
  obtain ⟨o, es, ep, t, ho, hex, hd, _, _, _, hf, hn⟩ := hS
  have I2 : Inv X pins σ H1 { s1 with heap := h', toks := tk } := I1.kept fun b o e => hk b o (Heap.lt_size e) e
  refine call_len_set ho hex hd hf (by rw [hn] <;> omega) ⟨.int (ddF ns).length, H1, I2.tok _, ⟨_, by rw [hn] <;> rfl⟩, q1⟩
end L2
namespace SY
open PySem L2 Evl
theorem dd_fold : ∀ (xs acc : List Int), acc.Nodup → (xs.foldl PyProof.Rows.step_dedup acc).Nodup ∧ (∀ k, k ∈ xs.foldl PyProof.Rows.step_dedup acc ↔ k ∈ acc ∨ k ∈ xs) ∧ (xs.foldl PyProof.Rows.step_dedup acc).length ≤ acc.length + xs.length ∧
    ((xs.foldl PyProof.Rows.step_dedup acc).length = acc.length + xs.length ↔ xs.Nodup ∧ ∀ k, k ∈ xs → k ∉ acc)
  | [], acc, h => ⟨h, fun k => by simp, by simp, by simp⟩
  | x :: r, acc, h => by
    rw [List.foldl_cons]
    by_cases hx : x ∈ acc
    · have e : PyProof.Rows.step_dedup acc x = acc := by
        unfold PyProof.Rows.step_dedup
        rw [if_pos (List.any_eq_true.mpr ⟨x, hx, by simp⟩)]
      rw [e]
      obtain ⟨h1, h2, h3, h4⟩ := dd_fold r acc h
      refine ⟨h1, fun k => ?_, by rw [List.length_cons]; omega, ⟨fun z => by rw [List.length_cons] at z; omega, fun z => absurd hx (z.2 x (List.mem_cons_self ..))⟩⟩
      rw [h2, List.mem_cons]
      constructor
      · rintro (z | z)
        · exact .inl z
        · exact .inr (.inr z)
      · rintro (z | rfl | z)
        · exact .inl z
        · exact .inl hx
        · exact .inr z
    · have e : PyProof.Rows.step_dedup acc x = acc ++ [x] := by
        unfold PyProof.Rows.step_dedup
        rw [if_neg]
        intro z
        obtain ⟨y, hy, q⟩ := List.any_eq_true.mp z
        simp at q
        subst q
        exact hx hy
      rw [e]
      have hn : (acc ++ [x]).Nodup := by
        rw [List.nodup_append]
        refine ⟨h, by simp, fun y hy z hz => ?_⟩
        simp at hz
        subst hz
        exact fun q => hx (q ▸ hy)
      obtain ⟨h1, h2, h3, h4⟩ := dd_fold r (acc ++ [x]) hn
      rw [List.length_append] at h3 h4
      have l1 : [x].length = 1 := rfl
      refine ⟨h1, fun k => ?_, by rw [List.length_cons]; omega, ?_⟩
      · rw [h2, List.mem_append, List.mem_singleton, List.mem_cons]
        constructor
        · rintro ((z | z) | z)
          · exact .inl z
          · exact .inr (.inl z)
          · exact .inr (.inr z)
        · rintro (z | z | z)
          · exact .inl (.inl z)
          · exact .inl (.inr z)
          · exact .inr z
      · rw [List.length_cons]
        have : ((r.foldl PyProof.Rows.step_dedup (acc ++ [x])).length = acc.length + (r.length + 1) ↔ (r.foldl PyProof.Rows.step_dedup (acc ++ [x])).length = acc.length + [x].length + r.length) := by omega
        rw [this, h4, List.nodup_cons]
        constructor
        · rintro ⟨z1, z2⟩
          refine ⟨⟨fun q => z2 x q (by simp), z1⟩, fun k hk => ?_⟩
          rcases List.mem_cons.mp hk with rfl | hk
          · exact hx
          · exact fun q => z2 k hk (List.mem_append_left _ q)
        · rintro ⟨⟨z1, z2⟩, z3⟩
          refine ⟨z2, fun k hk q => ?_⟩
          rcases List.mem_append.mp q with q | q
          · exact z3 k (List.mem_cons_of_mem _ hk) q
          · simp at q
            subst q
            exact z1 hk
theorem range_getD (ns : List Int) : (List.range ns.length).map (fun i => ns.getD i 0) = ns := by
  refine List.ext_getElem (by simp) fun i h1 h2 => ?_
  simp [List.getD_eq_getElem?_getD, List.getElem?_eq_getElem h2]
theorem dd_eq (ns : List Int) : ddF ns = ns.foldl PyProof.Rows.step_dedup [] := by
  unfold ddF PyProof.Rows.firstMet
  rw [range_getD]
theorem dd_nodup (ns : List Int) : (ddF ns).Nodup := by rw [dd_eq]; exact (dd_fold ns [] List.nodup_nil).1
theorem dd_mem (ns : List Int) (k : Int) : k ∈ ddF ns ↔ k ∈ ns := by rw [dd_eq, (dd_fold ns [] List.nodup_nil).2.1]; simp
theorem dd_len (ns : List Int) : (ddF ns).length = ns.length ↔ ns.Nodup := by
  rw [dd_eq]
  have := (dd_fold ns [] List.nodup_nil).2.2.2
  simp at this
  exact this
section
variable {K : PySem.W.Frag} {H : Hp} {σ : L2.St}
theorem ev_lenSet {ta : TE} {l : Addr} {ns : List Int} (h : Ev ta σ H (.ref l)) (hl : H l = some (.lst (ns.map V.int))) (hz : ns.length ≤ 4000) : Ev (tLenSetN K ta) σ H (.int ((ddF ns).length : Nat)) := fun H1 e Q q =>
  h H1 e _ fun H2 e2 => ⟨l, ns, rfl, SqL.of ((e.trans e2) _ _ hl), hz, q H2 e2⟩
theorem ev_lenSetL {ta : TE} {ns : List Int} (h : EvL ta σ H (ns.map V.int)) (hz : ns.length ≤ 4000) : Ev (tLenSetN K ta) σ H (.int ((ddF ns).length : Nat)) := fun H1 e Q q =>
  h H1 e _ fun l H2 hl e2 h2 => ⟨l, ns, rfl, SqL.of h2, hz, q H2 e2⟩
end
theorem nodup_ints {l : List Nat} : (l.map Int.ofNat).Nodup ↔ l.Nodup := by
  induction l with
  | nil => simp
  | cons x r ih =>
    rw [List.map_cons, List.nodup_cons, List.nodup_cons, ih]
    have : (Int.ofNat x ∈ r.map Int.ofNat) ↔ x ∈ r := by
      rw [List.mem_map]
      exact ⟨fun ⟨y, hy, e⟩ => by have := Int.ofNat.inj e; exact this ▸ hy, fun h => ⟨x, h, rfl⟩⟩
    rw [this]
end SY

namespace SY
open PySem L2 Evl
/-! ### layouts: who stands right -/
def Goes (rule : Nat) (row : Row) (c at_ : Nat) : Prop := ∀ s, s < row.length → way c s row.length < way c at_ row.length → ∃ m, row[s]? = some (some m) ∧ keeps rule m c s row.length = true
theorem goes_of {rule c at_ : Nat} {row : Row} (h : ∀ j, j < way c at_ row.length → ∃ m, row[spot (c % row.length) j row.length]? = some (some m) ∧ keeps rule m c (spot (c % row.length) j row.length) row.length = true) : Goes rule row c at_ := fun s hs hw => by
  have := h _ hw
  rw [spot_way hs] at this
  exact this
theorem right_iff {rule : Nat} {row : Row} : Right rule row ↔ (names row).length ≠ row.length ∧ (names row).Nodup ∧ ∀ at_ c : Nat, row[at_]? = some (some c) → Goes rule row c at_ := by
  constructor
  · intro R
    exact ⟨by have := R.room; omega, R.nd, fun at_ c h s hs hw => R.pass at_ c s h hs hw⟩
  · rintro ⟨h1, h2, h3⟩
    exact ⟨⟨h2, fun at_ c s h hs hw => h3 at_ c h s hs hw⟩, by have := names_le row; omega⟩
def sp_stands (K : PySem.W.Frag) (a : Ad) : Sp := fun vs H Q _ => ∃ (w : Addr) (rule : Nat) (row : Row) (c at_ : Nat), vs = [nV row.length, nV rule, .ref w, nV at_] ∧ RowAt H w row ∧ row.length ≤ 200 ∧ row[at_]? = some (some c) ∧ ∀ b : Bool, (b = true ↔ Goes rule row c at_) → RetV (.bl b) H Q
def sp_right (K : PySem.W.Frag) (a : Ad) : Sp := fun vs H Q _ => ∃ (w : Addr) (rule : Nat) (row : Row), vs = [nV row.length, nV rule, .ref w] ∧ RowAt H w row ∧ row.length ≤ 200 ∧ ∀ b : Bool, (b = true ↔ Right rule row) → RetV (.bl b) H Q
def sp_law_right (K : PySem.W.Frag) (a : Ad) : Sp := fun vs H Q _ => ∃ (w : Addr) (rule : Nat) (row : Row), vs = [.ref w, nV rule] ∧ RowAt H w row ∧ row.length ≤ 200 ∧ rule ≤ 2 ∧ ∀ b : Bool, (b = true ↔ Right rule row) → RetV (.bl b) H Q
def sp_law_spoiled (K : PySem.W.Frag) (a : Ad) : Sp := fun vs H Q _ => ∃ (w : Addr) (row : Row) (mode : Nat) (cell : Int), vs = [.ref w, nV mode, .int cell] ∧ RowAt H w row ∧ 0 < row.length ∧ row.length ≤ 200 ∧
  ∀ (w' : Addr) (row' : Row) (H' : Hp), (w' = w ∨ H w' = none) → But w H H' → RowAt H' w' row' → row'.length = row.length → Q (.ref w') H'
abbrev N_stands : List Str := ["many", "rule", "layout", "at", "name", "step", "spot"]
def t_stands (K : PySem.W.Frag) (a : Ad) (E : XK) : TS :=
  (tSeq (tAsg (tOp (rIxL K) (tVar 2) (tVar 3)) (gName 4))
  (tSeq (tFor (iRng1 (tCons (tCall (sp_way K a) [] E0 (tCons (tVar 4) (tCons (tVar 3) (tCons (tVar 0) tNil)))) tNil)) (gName 5) (tSeq (tAsg (tOp rModI (tOp rAddI (tVar 4) (tVar 5)) (tVar 0)) (gName 6))
  (tIfS (tOr (tB (tIsN (tOp (rIxL K) (tVar 2) (tVar 6)))) (tNot (tB (tCall (sp_keeps K a) [] E0 (tCons (tVar 1) (tCons (tOp (rIxL K) (tVar 2) (tVar 6)) (tCons (tVar 4) (tCons (tVar 6) (tCons (tVar 0) tNil))))))))) (tRet (tC (.bl false))) tNext)))
  (tRet (tC (.bl true)))))
abbrev N_right : List Str := ["many", "rule", "layout", "found", "name", "at"]
def t_right (K : PySem.W.Frag) (a : Ad) (E : XK) : TS :=
  (tSeq (tAsg (tLc (iList K (tVar 2)) (gName 4) (tB (tNotN (tVar 4))) (tVar 4) [4]) (gName 3))
  (tSeq (tIfS (tOr (tTest (tOp rEq (tCB (rLenL K) (tCons (tVar 3) tNil)) (tVar 0))) (tTest (tOp rNe (tLenSetN K (tVar 3)) (tCB (rLenL K) (tCons (tVar 3) tNil))))) (tRet (tC (.bl false))) tNext)
  (tSeq (tFor (iEnum K (tCons (tVar 2) tNil)) (gTup K 2 (gCons (gName 5) (gCons (gName 4) gNil))) (tIfS (tAnd (tB (tNotN (tVar 4))) (tNot (tB (tCall (sp_stands K a) [] E0 (tCons (tVar 0) (tCons (tVar 1) (tCons (tVar 2) (tCons (tVar 5) tNil)))))))) (tRet (tC (.bl false))) tNext))
  (tRet (tC (.bl true))))))
abbrev N_law_right : List Str := ["row", "rule", "many", "names", "name", "at", "spot"]
def t_law_right (K : PySem.W.Frag) (a : Ad) (E : XK) : TS :=
  (tSeq (tAsg (tCB (rLenL K) (tCons (tVar 0) tNil)) (gName 2))
  (tSeq (tAsg (tLc (iList K (tVar 0)) (gName 4) (tB (tNotN (tVar 4))) (tVar 4) [4]) (gName 3))
  (tSeq (tIfS (tOr (tTest (tOp rEq (tCB (rLenL K) (tCons (tVar 3) tNil)) (tVar 2))) (tTest (tOp rNe (tLenSetN K (tVar 3)) (tCB (rLenL K) (tCons (tVar 3) tNil))))) (tRet (tC (.bl false))) tNext)
  (tSeq (tFor (iEnum K (tCons (tVar 0) tNil)) (gTup K 2 (gCons (gName 5) (gCons (gName 4) gNil))) (tIfS (tB (tNotN (tVar 4))) (tSeq (tAsg (tOp rModI (tVar 4) (tVar 2)) (gName 6))
  (tWhile (tTest (tOp rNe (tVar 6) (tVar 5))) (tSeq (tIfS (tB (tIsN (tOp (rIxL K) (tVar 0) (tVar 6)))) (tRet (tC (.bl false))) tNext)
  (tSeq (tIfS (tNot (tB (tCall (sp_law_keeps K a) [] E0 (tCons (tVar 1) (tCons (tOp (rIxL K) (tVar 0) (tVar 6)) (tCons (tVar 4) (tCons (tVar 6) (tCons (tVar 2) tNil)))))))) (tRet (tC (.bl false))) tNext)
  (tAsg (tOp rModI (tOp rAddI (tVar 6) (tC (.int 1))) (tVar 2)) (gName 6)))))) tNext))
  (tRet (tC (.bl true)))))))
abbrev N_law_spoiled : List Str := ["row", "mode", "cell", "one", "other", "kept"]
def t_law_spoiled (K : PySem.W.Frag) (a : Ad) (E : XK) : TS :=
  (tSeq (tAsg (tOp rModI (tVar 2) (tCB (rLenL K) (tCons (tVar 0) tNil))) (gName 3))
  (tSeq (tAsg (tOp rModI (tOp rDivI (tVar 2) (tC (.int 256))) (tCB (rLenL K) (tCons (tVar 0) tNil))) (gName 4))
  (tCut (tIfS (tOr (tTest (tOp rEq (tVar 1) (tC (.int 1)))) (tTest (tOp rEq (tVar 1) (tC (.int 2))))) (tSeq (tAsg (tOp (rIxL K) (tVar 0) (tVar 3)) (gName 5))
  (tSeq (tAsg (tOp (rIxL K) (tVar 0) (tVar 4)) (gSub (tVar 0) (tVar 3) rSetL))
  (tAsg (tVar 5) (gSub (tVar 0) (tVar 4) rSetL)))) tNext)
  (tCut (tIfS (tTest (tOp rEq (tVar 1) (tC (.int 3)))) (tAsg (tC .non) (gSub (tVar 0) (tVar 3) rSetL)) tNext)
  (tCut (tIfS (tTest (tOp rEq (tVar 1) (tC (.int 4)))) (tAsg (tOp (rIxL K) (tVar 0) (tVar 4)) (gSub (tVar 0) (tVar 3) rSetL)) tNext)
  (tCut (tIfS (tTest (tOp rEq (tVar 1) (tC (.int 5)))) (tAsg (tOp rModI (tVar 2) (tOp rPowI (tC (.int 10)) (tC (.int 30)))) (gSub (tVar 0) (tVar 3) rSetL)) tNext)
  (tSeq (tIfS (tTest (tOp rEq (tVar 1) (tC (.int 6)))) (tRet (tOp rCat (tSl (rSlL K) (tVar 0) (tPart (tC (.int 1))) tNoPart) (tSl (rSlL K) (tVar 0) tNoPart (tPart (tC (.int 1)))))) tNext)
  (tRet (tVar 0)))))))))
section
variable {K : PySem.W.Frag} {a : Ad} {H : Hp}
theorem sum_int (c i n : Nat) : ((c : Int) + (i : Int)) % (n : Int) = (((c + i) % n : Nat) : Int) := by rw [← Int.natCast_add]; exact mod_int
theorem r_stands (vs : List V) (H : Hp) (Q : VK) (E : XK) (h : sp_stands K a vs H Q E) : Go (t_stands K a E) N_stands vs H Q := by
  obtain ⟨w, rule, row, c, at_, rfl, W, hle, hat, k⟩ := h
  have hlt := get_lt hat
  have hn : 0 < row.length := by omega
  refine q_asg (v := nV c) (ev_item (o := some c) (ev_var rfl) (ev_var rfl) W hat) fun H1 e1 => ?_
  have hwl := way_lt (c := c) hlt
  refine q_forR1 (n := (way c at_ row.length : Int)) (ea_cons (ev_callE (dvs := []) (ea_cons (ev_var rfl) (ea_cons (ev_var rfl) (ea_cons (ev_var rfl) ea_nil))) (v_way hlt)) ea_nil) (by omega) (fun i σ' H' => Ex H H' ∧ (∃ v5 v6, σ' = [some (nV row.length), some (nV rule), some (.ref w), some (nV at_), some (nV c), v5, v6]) ∧ ∀ j, j < i → ∃ m, row[spot (c % row.length) j row.length]? = some (some m) ∧ keeps rule m c (spot (c % row.length) j row.length) row.length = true)
    (fun H2 e2 => ⟨e1.trans e2, ⟨none, none, rfl⟩, fun j hj => absurd hj (by omega)⟩) (fun i σ' H' hi ⟨e, ⟨v5, v6, hσ⟩, hj⟩ => ?_) (fun σ' H' ⟨e, ⟨v5, v6, hσ⟩, hj⟩ => ?_)
  · subst hσ
    have hil : i < way c at_ row.length := by omega
    have hsp := spot_lt (Nat.mod_lt c hn) (show i < row.length by omega)
    refine q_asg (v := nV (spot (c % row.length) i row.length)) (int_is (ev_op (ev_op (ev_var rfl) (ev_var rfl) rv_add) (ev_var rfl) (rv_mod (by omega))) (by rw [sum_int, spot_eq hn (by omega)])) fun H3 e3 => ?_
    have e03 := e.trans e3
    obtain ⟨o, ho⟩ : ∃ o, row[spot (c % row.length) i row.length]? = some o := ⟨_, List.getElem?_eq_getElem hsp⟩
    have bad : (∀ m, o = some m → keeps rule m c (spot (c % row.length) i row.length) row.length = false) → RetV (.bl false) H Q := fun hb => k false ⟨nofun, fun G => by
      have hw : way c (spot (c % row.length) i row.length) row.length = i := way_spot hn (by omega)
      obtain ⟨m, h1, h2⟩ := G _ hsp (by omega)
      rw [ho] at h1
      have := hb m (Option.some.inj h1)
      rw [this] at h2
      exact h2⟩
    cases o with
    | none =>
      refine s_when (b := true) (et_is (et_or (b := false) (et_B (ev_isN (ev_item (ev_var rfl) (ev_var rfl) (W.ex e03) ho))) fun z => by simp [oV] at z) rfl) (fun _ H4 e4 => ?_) (fun z => by cases z)
      exact s_ret ev_c fun H5 e5 => bad (fun m z => by cases z) H5 ((e03.trans e4).trans e5)
    | some m =>
      refine s_when (b := !keeps rule m c (spot (c % row.length) i row.length) row.length) (et_is (et_or (et_B (ev_isN (ev_item (ev_var rfl) (ev_var rfl) (W.ex e03) ho))) fun _ => et_not (et_B (ev_callE (dvs := []) (ea_cons (ev_var rfl) (ea_cons (ev_item (o := some m) (ev_var rfl) (ev_var rfl) (W.ex e03) ho) (ea_cons (ev_var rfl) (ea_cons (ev_var rfl) (ea_cons (ev_var rfl) ea_nil))))) (v_keeps hsp)))) (by simp [oV])) (fun hb H4 e4 => ?_) (fun hb H4 e4 => ?_)
      · exact s_ret ev_c fun H5 e5 => bad (fun m' z => by rw [← Option.some.inj z]; simpa using hb) H5 ((e03.trans e4).trans e5)
      · refine ⟨e03.trans e4, ⟨_, _, rfl⟩, fun j hj' => ?_⟩
        by_cases q : j = i
        · subst q; exact ⟨m, ho, by simpa using hb⟩
        · exact hj j (by omega)
  · subst hσ
    exact s_ret ev_c fun H3 e3 => k true ⟨fun _ => goes_of fun j hj' => hj j (by omega), fun _ => rfl⟩ H3 (e.trans e3)
theorem bool_of (P : Prop) : ∃ b : Bool, b = true ↔ P := by
  by_cases h : P
  · exact ⟨true, by simp [h]⟩
  · exact ⟨false, by simp [h]⟩
theorem bool_uniq {P : Prop} {b c : Bool} (h1 : b = true ↔ P) (h2 : c = true ↔ P) : b = c := by
  cases b <;> cases c <;> simp at h1 h2 <;> first | rfl | exact absurd h1 h2 | exact absurd h2 h1
theorem v_stands {w : Addr} {rule c at_ : Nat} {row : Row} {b : Bool} (W : RowAt H w row) (hle : row.length ≤ 200) (hat : row[at_]? = some (some c)) (hb : b = true ↔ Goes rule row c at_) : SpV (sp_stands K a) [nV row.length, nV rule, .ref w, nV at_] H (.bl b) := fun H1 e1 Q q E =>
  ⟨w, rule, row, c, at_, rfl, W.ex e1, hle, hat, fun b' hb' => by rw [bool_uniq hb' hb]; exact q⟩
theorem names_int (row : Row) : (names row).map nV = ((names row).map Int.ofNat).map V.int := (map_int _).symm
/-- the guard ahead: too many, or one twice -/
theorem et_twice {tf tm : TE} {σ : L2.St} {l : Addr} {row : Row} (h : Ev tf σ H (.ref l)) (hm : Ev tm σ H (nV row.length)) (hl : H l = some (.lst ((names row).map nV))) (hle : row.length ≤ 200) :
    EvT (tOr (tTest (tOp rEq (tCB (rLenL K) (tCons tf tNil)) tm)) (tTest (tOp rNe (tLenSetN K tf) (tCB (rLenL K) (tCons tf tNil))))) σ H (!decide ((names row).length ≠ row.length ∧ (names row).Nodup)) := by
  have hnl := names_le row
  have hl2 : H l = some (.lst (((names row).map Int.ofNat).map V.int)) := by rw [← names_int]; exact hl
  refine et_is (et_or (et_test (ev_op (ev_lenN' h hl) hm rv_eqI)) fun _ => et_test (ev_op (ev_lenSet h hl2 (by rw [List.length_map]; omega)) (ev_lenN' h hl) rv_neI)) ?_
  have e := dd_len ((names row).map Int.ofNat)
  rw [nodup_ints, List.length_map] at e
  by_cases h1 : (names row).length = row.length
  · simp [h1]
  · have h1' : ¬ ((names row).length : Int) = (row.length : Int) := by omega
    by_cases h2 : (names row).Nodup
    · have h3 := e.mpr h2
      simp [h1, h2, h1', h3]
    · have h3 : ¬ (ddF ((names row).map Int.ofNat)).length = (names row).length := fun z => h2 (e.mp z)
      have h3' : ¬ ((ddF ((names row).map Int.ofNat)).length : Int) = ((names row).length : Int) := by omega
      simp [h1, h2, h1', h3']
theorem r_right (vs : List V) (H : Hp) (Q : VK) (E : XK) (h : sp_right K a vs H Q E) : Go (t_right K a E) N_right vs H Q := by
  obtain ⟨w, rule, row, rfl, W, hle, k⟩ := h
  refine q_asgL (el_names (ev_var rfl) (SqL.of W) (by omega) (Nat.le_of_ble_eq_true rfl)) fun l H1 hl e1 hl1 => ?_
  refine q_when (et_twice (row := row) (ev_var rfl) (ev_var rfl) hl1 hle) (fun hb H2 e2 => ?_) (fun hb H2 e2 => ?_)
  · refine s_ret ev_c fun H3 e3 => k false ⟨nofun, fun R => ?_⟩ H3 ((e1.trans e2).trans e3)
    rw [right_iff] at R
    simp [R.1, R.2.1] at hb
  · have hb : (names row).length ≠ row.length ∧ (names row).Nodup := by simpa using hb
    have e12 := e1.trans e2
    refine q_forE (ev_var rfl) (fun i σ' H' => Ex H H' ∧ (∃ v4 v5, σ' = [some (nV row.length), some (nV rule), some (.ref w), some (.ref l), v4, v5]) ∧ ∀ j c : Nat, j < i → row[j]? = some (some c) → Goes rule row c j) (fun H3 e3 => ⟨e12.trans e3, ⟨none, none, rfl⟩, fun j c hj => absurd hj (by omega)⟩) (SqL.of (W.ex e12)) (fun i σ' H' _ ⟨e, _⟩ => SqL.of (W.ex e)) (fun i x σ' H' H3 hi ⟨e, ⟨v4, v5, hσ⟩, hg⟩ e3 => ?_) (fun σ' H' ⟨e, ⟨v4, v5, hσ⟩, hg⟩ => ?_)
    · subst hσ
      obtain ⟨o, ho, rfl⟩ := row_get hi
      have e03 := e.trans e3
      cases o with
      | none =>
        refine s_when (b := false) (et_is (et_and (b := false) (et_B (ev_notN (ev_var rfl))) fun z => by simp [oV] at z) (by simp)) (fun z => by cases z) (fun _ H4 e4 => ⟨e03.trans e4, ⟨_, _, rfl⟩, fun j c hj hc => ?_⟩)
        by_cases q : j = i
        · subst q; rw [ho] at hc; cases hc
        · exact hg j c (by omega) hc
      | some c =>
        obtain ⟨b, hb3⟩ := bool_of (Goes rule row c i)
        refine s_when (et_and (et_B (ev_notN (ev_var rfl))) fun _ => et_not (et_B (ev_callE (dvs := []) (ea_cons (ev_var rfl) (ea_cons (ev_var rfl) (ea_cons (ev_var rfl) (ea_cons (ev_var rfl) ea_nil)))) (v_stands (W.ex e03) hle ho hb3)))) (fun z H4 e4 => ?_) (fun z H4 e4 => ?_)
        · have hf : b = false := by simpa [oV] using z
          refine s_ret ev_c fun H5 e5 => k false ⟨nofun, fun R => ?_⟩ H5 ((e03.trans e4).trans e5)
          have := hb3.mpr ((right_iff.mp R).2.2 i c ho)
          rw [hf] at this
          exact this
        · have ht : b = true := by simpa [oV] using z
          refine ⟨e03.trans e4, ⟨_, _, rfl⟩, fun j d hj hd => ?_⟩
          by_cases q : j = i
          · subst q
            rw [ho] at hd
            have := Option.some.inj (Option.some.inj hd)
            subst this
            exact hb3.mp ht
          · exact hg j d (by omega) hd
    · subst hσ
      rw [rowV_len] at hg
      exact s_ret ev_c fun H4 e4 => k true ⟨fun _ => right_iff.mpr ⟨hb.1, hb.2, fun at_ c h => hg at_ c (get_lt h) h⟩, fun _ => rfl⟩ H4 (e.trans e4)
theorem v_right {w : Addr} {rule : Nat} {row : Row} {b : Bool} (W : RowAt H w row) (hle : row.length ≤ 200) (hb : b = true ↔ Right rule row) : SpV (sp_right K a) [nV row.length, nV rule, .ref w] H (.bl b) := fun H1 e1 Q q E =>
  ⟨w, rule, row, rfl, W.ex e1, hle, fun b' hb' => by rw [bool_uniq hb' hb]; exact q⟩
theorem v_lright {w : Addr} {rule : Nat} {row : Row} {b : Bool} (W : RowAt H w row) (hle : row.length ≤ 200) (h2 : rule ≤ 2) (hb : b = true ↔ Right rule row) : SpV (sp_law_right K a) [.ref w, nV rule] H (.bl b) := fun H1 e1 Q q E =>
  ⟨w, rule, row, rfl, W.ex e1, hle, h2, fun b' hb' => by rw [bool_uniq hb' hb]; exact q⟩
theorem spot_nx {s j n : Nat} (hs : s < n) (hj : j + 1 < n) : nx (spot s j n) n = spot s (j + 1) n := by
  unfold nx spot
  split <;> split <;> split <;> omega
theorem r_law_right (vs : List V) (H : Hp) (Q : VK) (E : XK) (h : sp_law_right K a vs H Q E) : Go (t_law_right K a E) N_law_right vs H Q := by
  obtain ⟨w, rule, row, rfl, W, hle, h2, k⟩ := h
  refine q_asg (ev_lenRow (ev_var rfl) W) fun H0 e0 => ?_
  refine q_asgL (el_names (ev_var rfl) (SqL.of (W.ex e0)) (by omega) (Nat.le_of_ble_eq_true rfl)) fun l H1 hl e1' hl1 => ?_
  have e1 := e0.trans e1'
  refine q_when (et_twice (row := row) (ev_var rfl) (ev_var rfl) hl1 hle) (fun hb H2 e2 => ?_) (fun hb H2 e2 => ?_)
  · refine s_ret ev_c fun H3 e3 => k false ⟨nofun, fun R => ?_⟩ H3 ((e1.trans e2).trans e3)
    rw [right_iff] at R
    simp [R.1, R.2.1] at hb
  · have hb : (names row).length ≠ row.length ∧ (names row).Nodup := by simpa using hb
    have e12 := e1.trans e2
    refine q_forE (ev_var rfl) (fun i σ' H' => Ex H H' ∧ (∃ v4 v5 v6, σ' = [some (.ref w), some (nV rule), some (nV row.length), some (.ref l), v4, v5, v6]) ∧ ∀ j c : Nat, j < i → row[j]? = some (some c) → Goes rule row c j) (fun H3 e3 => ⟨e12.trans e3, ⟨none, none, none, rfl⟩, fun j c hj => absurd hj (by omega)⟩) (SqL.of (W.ex e12)) (fun i σ' H' _ ⟨e, _⟩ => SqL.of (W.ex e)) (fun i x σ' H' H3 hi ⟨e, ⟨v4, v5, v6, hσ⟩, hg⟩ e3 => ?_) (fun σ' H' ⟨e, ⟨v4, v5, v6, hσ⟩, hg⟩ => ?_)
    · subst hσ
      obtain ⟨o, ho, rfl⟩ := row_get hi
      have e03 := e.trans e3
      have hlt := get_lt ho
      have hn : 0 < row.length := by omega
      cases o with
      | none =>
        refine s_when (b := false) (et_is (et_B (ev_notN (ev_var rfl))) (by simp [oV])) (fun z => by cases z) (fun _ H4 e4 => ⟨e03.trans e4, ⟨_, _, _, rfl⟩, fun j c hj hc => ?_⟩)
        by_cases q : j = i
        · subst q; rw [ho] at hc; cases hc
        · exact hg j c (by omega) hc
      | some c =>
        refine s_when (b := true) (et_is (et_B (ev_notN (ev_var rfl))) (by simp [oV])) (fun _ H4 e4 => ?_) (fun z => by cases z)
        refine q_asg (v := nV (spot (c % row.length) 0 row.length)) (int_is (ev_op (ev_var rfl) (ev_var rfl) (rv_mod (by omega))) (by rw [spot_zero (Nat.mod_lt c hn)]; exact mod_int)) fun H5 e5 => ?_
        have e05 := (e03.trans e4).trans e5
        have hd := way_lt (c := c) hlt
        refine s_while (fun m σ' H' => ∃ j, m = way c i row.length - j ∧ j ≤ way c i row.length ∧ Ex H H' ∧ σ' = [some (.ref w), some (nV rule), some (nV row.length), some (.ref l), some (nV c), some (nV i), some (nV (spot (c % row.length) j row.length))] ∧ ∀ j', j' < j → ∃ m, row[spot (c % row.length) j' row.length]? = some (some m) ∧ keeps rule m c (spot (c % row.length) j' row.length) row.length = true) _ ⟨0, rfl, Nat.zero_le _, e05, rfl, fun j hj => absurd hj (by omega)⟩ ?_
        rintro m σ' H6 ⟨j, rfl, hj, e6, rfl, hgood⟩
        have hsp := spot_lt (Nat.mod_lt c hn) (show j < row.length by omega)
        have hne : spot (c % row.length) j row.length = i ↔ j = way c i row.length := by
          constructor
          · intro q; rw [← q, way_spot hn (by omega)]
          · intro q; rw [q, spot_way hlt]
        refine ⟨!decide ((spot (c % row.length) j row.length : Int) = (i : Int)), et_test (ev_op (ev_var rfl) (ev_var rfl) rv_neI), fun hb H7 e7 => ?_, fun hb H7 e7 => ?_⟩
        · have hlt2 : j < way c i row.length := by
            have : ¬ spot (c % row.length) j row.length = i := fun q => by simp [q] at hb
            rw [hne] at this
            omega
          have e07 := e6.trans e7
          obtain ⟨o, ho2⟩ : ∃ o, row[spot (c % row.length) j row.length]? = some o := ⟨_, List.getElem?_eq_getElem hsp⟩
          have bad : (∀ m, o = some m → keeps rule m c (spot (c % row.length) j row.length) row.length = false) → RetV (.bl false) H Q := fun hb => k false ⟨nofun, fun R => by
            have hw : way c (spot (c % row.length) j row.length) row.length = j := way_spot hn (by omega)
            obtain ⟨m, h1, h2⟩ := (right_iff.mp R).2.2 i c ho _ hsp (by omega)
            rw [ho2] at h1
            have := hb m (Option.some.inj h1)
            rw [this] at h2
            cases h2⟩
          refine ⟨fun σ2 H2 => ∃ j', j' = j + 1 ∧ j' ≤ way c i row.length ∧ Ex H H2 ∧ σ2 = [some (.ref w), some (nV rule), some (nV row.length), some (.ref l), some (nV c), some (nV i), some (nV (spot (c % row.length) j' row.length))] ∧ ∀ j2, j2 < j' → ∃ m, row[spot (c % row.length) j2 row.length]? = some (some m) ∧ keeps rule m c (spot (c % row.length) j2 row.length) row.length = true, fun σ2 H2 ⟨j', q, hj', hh⟩ => ⟨_, by omega, j', rfl, hj', hh⟩, ?_⟩
          cases o with
          | none =>
            refine q_when (b := true) (et_is (et_B (ev_isN (ev_item (ev_var rfl) (ev_var rfl) (W.ex e07) ho2))) (by simp [oV])) (fun _ H8 e8 => ?_) (fun z => by cases z)
            exact s_ret ev_c fun H9 e9 => bad (fun m z => by cases z) H9 ((e07.trans e8).trans e9)
          | some m =>
            refine q_when (b := false) (et_is (et_B (ev_isN (ev_item (ev_var rfl) (ev_var rfl) (W.ex e07) ho2))) (by simp [oV])) (fun z => by cases z) (fun _ H8 e8 => ?_)
            refine q_when (et_not (et_B (ev_callE (dvs := []) (ea_cons (ev_var rfl) (ea_cons (ev_item (o := some m) (ev_var rfl) (ev_var rfl) (W.ex (e07.trans e8)) ho2) (ea_cons (ev_var rfl) (ea_cons (ev_var rfl) (ea_cons (ev_var rfl) ea_nil))))) (v_lkeeps hsp h2)))) (fun hb H9 e9 => ?_) (fun hb H9 e9 => ?_)
            · exact s_ret ev_c fun H10 e10 => bad (fun m' z => by rw [← Option.some.inj z]; simpa using hb) H10 (((e07.trans e8).trans e9).trans e10)
            · refine s_asg (v := nV (spot (c % row.length) (j + 1) row.length)) (int_is (ev_op (ev_op (ev_var rfl) ev_c rv_add) (ev_var rfl) (rv_mod (by omega))) (by rw [nx_int hsp, spot_nx (Nat.mod_lt c hn) (by omega)])) fun H10 e10 => ?_
              refine ⟨j + 1, rfl, hlt2, ((e07.trans e8).trans e9).trans e10, rfl, fun j2 hj2 => ?_⟩
              by_cases q : j2 = j
              · subst q; exact ⟨m, ho2, by simpa using hb⟩
              · exact hgood j2 (by omega)
        · have hjd : j = way c i row.length := by
            have : spot (c % row.length) j row.length = i := by simp at hb; omega
            exact hne.mp this
          subst hjd
          refine ⟨e6.trans e7, ⟨_, _, _, rfl⟩, fun j2 d hj2 hd2 => ?_⟩
          by_cases q : j2 = i
          · subst q
            rw [ho] at hd2
            have := Option.some.inj (Option.some.inj hd2)
            subst this
            exact goes_of hgood
          · exact hg j2 d (by omega) hd2
    · subst hσ
      rw [rowV_len] at hg
      exact s_ret ev_c fun H4 e4 => k true ⟨fun _ => right_iff.mpr ⟨hb.1, hb.2, fun at_ c h => hg at_ c (get_lt h) h⟩, fun _ => rfl⟩ H4 (e.trans e4)
end
end SY

namespace SY
open PySem L2 Evl
/-! ### parts of lists; a row alone -/
def cutG {α : Type} (xs : List α) (lo hi : Option Int) : List α := (xs.drop (HT.sIx xs.length 0 lo)).take (HT.sIx xs.length xs.length hi - HT.sIx xs.length 0 lo)
theorem cutV_map {α : Type} (f : α → V) (xs : List α) (lo hi : Option Int) : cutV (xs.map f) lo hi = (cutG xs lo hi).map f := by
  unfold cutV cutG
  rw [List.length_map, List.map_take, List.map_drop]
theorem cutG_len {α : Type} (xs : List α) (lo hi : Option Int) : (cutG xs lo hi).length ≤ xs.length := by
  unfold cutG
  rw [List.length_take, List.length_drop]
  omega
theorem cutG_turn {α : Type} (xs : List α) (h : 0 < xs.length) : (cutG xs (some 1) none ++ cutG xs none (some 1)).length = xs.length := by
  have e1 : ∀ d, HT.sIx xs.length d (some 1) = min 1 xs.length := fun d => HT.sIx_nat xs.length d 1
  unfold cutG
  rw [HT.sIx_none, HT.sIx_none, e1, e1, List.length_append, List.length_take, List.length_take, List.length_drop, List.length_drop]
  omega
structure Lone (M H : Hp) (w : Addr) (rule : Nat) (row : Row) : Prop where
  e : Ex M H
  mw : M w = none
  W : RowAt H w row
  le : row.length ≤ 200
  ok : Right rule row
section
variable {K : PySem.W.Frag} {a : Ad} {M H H' H1 H2 : Hp} {σ : L2.St} {D : Ends} {tz : TS} {w : Addr} {rule c : Nat} {row : Row}
theorem Lone.ex (T : Lone M H w rule row) (e : Ex H H') : Lone M H' w rule row := { T with e := T.e.trans e, W := T.W.ex e }
theorem Lone.new {l : Addr} (T : Lone M H w rule row) (h : H l = none) : l ≠ w := (ne_some T.W h).symm
theorem Lone.fresh {q : Addr} {o : HO} (T : Lone M H w rule row) (hq : H q = none) (e : Ex H H1) (h : H1 q = some o) : ∃ M', Ex M M' ∧ Lone M' H1 w rule row ∧ M' q = some o := by
  have ee : Ex M (wo H1 [w]) := ex_wo (T.e.trans e) fun b hb => by
    simp at hb
    subst hb
    exact T.mw
  exact ⟨wo H1 [w], ee, { e := wo_ex _ _, mw := wo_none (by simp), W := T.W.ex e, le := T.le, ok := T.ok }, by rw [wo_get (by simp [T.new hq])]; exact h⟩
theorem s_loneput {tw tr tn : TE} (T : Lone M H w rule row) (h2 : rule ≤ 2) (hc : c ∉ names row) (hr : (names row).length + 1 < row.length) (gw : Ev tw σ H (.ref w)) (gr : Ev tr σ H (nV rule)) (gn : Ev tn σ H (nV c))
    (k : ∀ H1, Lone M H1 w rule (putR rule row c).1 → D.nx σ H1) : tDrop (tCall (sp_law_put K a) [] E0 (tCons tw (tCons tr (tCons tn tNil)))) D σ H :=
  s_lputD gw gr gn T.W T.le h2 T.ok hc fun H1 b1 w1 => k H1 { e := ex_but T.e T.mw b1, mw := T.mw, W := w1, le := by rw [(putR_ok T.ok hc).1]; exact T.le, ok := putR_right T.ok hc hr }
theorem r_law_spoiled (vs : List V) (H : Hp) (Q : VK) (E : XK) (h : sp_law_spoiled K a vs H Q E) : Go (t_law_spoiled K a E) N_law_spoiled vs H Q := by
  obtain ⟨w, row, mode, cell, rfl, W, h0, hle, k⟩ := h
  have m1 := Int.emod_lt_of_pos cell (show (0 : Int) < (row.length : Int) by omega)
  have m2 := Int.emod_lt_of_pos (cell / 256) (show (0 : Int) < (row.length : Int) by omega)
  have p1 := Int.emod_nonneg cell (show (row.length : Int) ≠ 0 by omega)
  have p2 := Int.emod_nonneg (cell / 256) (show (row.length : Int) ≠ 0 by omega)
  refine q_asg (ev_nat (ev_op (ev_var rfl) (ev_lenRow (ev_var rfl) W) (rv_mod (by omega))) p1) fun H1 e1 => ?_
  refine q_asg (ev_nat (ev_op (ev_op (ev_var rfl) ev_c (rv_div (by decide))) (ev_lenRow (ev_var rfl) (W.ex e1)) (rv_mod (by omega))) p2) fun H2 e2 => ?_
  have l1 : (cell % (row.length : Int)).toNat < row.length := by omega
  have l2 : (cell / 256 % (row.length : Int)).toNat < row.length := by omega
  generalize (cell % (row.length : Int)).toNat = one at *
  generalize (cell / 256 % (row.length : Int)).toNat = other at *
  have e02 := e1.trans e2
  let Md : L2.St → Hp → Prop := fun σ' H' => ∃ (cur : Row) (v5 : Option V), σ' = [some (.ref w), some (nV mode), some (.int cell), some (nV one), some (nV other), v5] ∧ RowAt H' w cur ∧ cur.length = row.length ∧ But w H H'
  have start : Md [some (.ref w), some (nV mode), some (.int cell), some (nV one), some (nV other), none] H2 := ⟨row, none, rfl, W.ex e02, rfl, But.of e02⟩
  -- one by one
  refine q_cut (M := Md) ?_ fun σ3 H3 ⟨cur, v5, hσ, W3, hl, b3⟩ => ?_
  · have W := W.ex e02
    refine s_when (et_or (et_test (ev_op (ev_var rfl) ev_c rv_eqI)) fun _ => et_test (ev_op (ev_var rfl) ev_c rv_eqI)) (fun hb H3 e3 => ?_) (fun hb H3 e3 => ⟨row, none, rfl, W.ex e3, rfl, But.of (e02.trans e3)⟩)
    have W := W.ex e3
    refine q_asg (ev_item (ev_var rfl) (ev_var rfl) W (List.getElem?_eq_getElem l1)) fun H4 e4 => ?_
    refine q_setW (W.ex e4) (ev_item (ev_var rfl) (ev_var rfl) (W.ex e4) (List.getElem?_eq_getElem l2)) (ev_var rfl) (ev_var rfl) l1 fun H5 b5 _ w5 => ?_
    refine s_setW w5 (ev_var rfl) (ev_var rfl) (ev_var rfl) (by rw [List.length_set]; exact l2) fun H6 b6 _ w6 => ?_
    exact ⟨_, _, rfl, w6, by rw [List.length_set, List.length_set], ((But.of (e02.trans (e3.trans e4))).trans b5).trans b6⟩
  subst hσ
  refine q_cut (M := Md) ?_ fun σ4 H4 ⟨cur, v5, hσ, W4, hl, b4⟩ => ?_
  · refine s_when (et_test (ev_op (ev_var rfl) ev_c rv_eqI)) (fun hb H4 e4 => ?_) (fun hb H4 e4 => ⟨cur, _, rfl, W3.ex e4, hl, b3.trans (But.of e4)⟩)
    exact s_setW (o := none) (W3.ex e4) ev_c (ev_var rfl) (ev_var rfl) (by omega) fun H5 b5 _ w5 => ⟨_, _, rfl, w5, by rw [List.length_set]; exact hl, (b3.trans (But.of e4)).trans b5⟩
  subst hσ
  refine q_cut (M := Md) ?_ fun σ5 H5 ⟨cur, v5, hσ, W5, hl, b5⟩ => ?_
  · refine s_when (et_test (ev_op (ev_var rfl) ev_c rv_eqI)) (fun hb H5 e5 => ?_) (fun hb H5 e5 => ⟨cur, _, rfl, W4.ex e5, hl, b4.trans (But.of e5)⟩)
    exact s_setW (W4.ex e5) (ev_item (ev_var rfl) (ev_var rfl) (W4.ex e5) (List.getElem?_eq_getElem (show other < cur.length by omega))) (ev_var rfl) (ev_var rfl) (by omega) fun H6 b6 _ w6 => ⟨_, _, rfl, w6, by rw [List.length_set]; exact hl, (b4.trans (But.of e5)).trans b6⟩
  subst hσ
  refine q_cut (M := Md) ?_ fun σ6 H6 ⟨cur, v5, hσ, W6, hl, b6⟩ => ?_
  · refine s_when (et_test (ev_op (ev_var rfl) ev_c rv_eqI)) (fun hb H6 e6 => ?_) (fun hb H6 e6 => ⟨cur, _, rfl, W5.ex e6, hl, b5.trans (But.of e6)⟩)
    exact s_setW (o := some (cell % 10 ^ 30).toNat) (W5.ex e6) (ev_mod30 (ev_var rfl)) (ev_var rfl) (ev_var rfl) (by omega) fun H7 b7 _ w7 => ⟨_, _, rfl, w7, by rw [List.length_set]; exact hl, (b5.trans (But.of e6)).trans b7⟩
  subst hσ
  refine q_when (et_test (ev_op (ev_var rfl) ev_c rv_eqI)) (fun hb H7 e7 => ?_) (fun hb H7 e7 => ?_)
  · have W7 := W6.ex e7
    have hc := el_cat (el_sl (K := K) (σ := [some (.ref w), some (nV mode), some (.int cell), some (nV one), some (nV other), v5]) (te := tVar 0) (lo := some 1) (hi := none) (ev_var rfl) (eo_some (ev_c (v := .int 1))) eo_none (SqL.of W7)) (el_sl (K := K) (te := tVar 0) (lo := none) (hi := some 1) (ev_var rfl) eo_none (eo_some (ev_c (v := .int 1))) (SqL.of W7)) (by
      have h1 := cutV_length (rowV cur) (some 1) none
      have h2 := cutV_length (rowV cur) none (some 1)
      rw [rowV_len] at h1 h2
      omega)
    unfold rowV at hc
    rw [cutV_map, cutV_map, ← List.map_append] at hc
    exact s_retL hc fun p H8 hp e8 h8 => k p _ H8 (.inr (b6.free (ne_some W7 hp).symm (fresh_back e7 hp))) (b6.trans (But.of (e7.trans e8))) h8 (by rw [cutG_turn cur (by omega)]; exact hl)
  · exact s_ret (ev_var rfl) fun H8 e8 => k w cur H8 (.inl rfl) (b6.trans (But.of (e7.trans e8))) (W6.ex (e7.trans e8)) hl
theorem q_spoiled {tw tm tc : TE} {i : Nat} {mode : Nat} {cell : Int} (gw : Ev tw σ H (.ref w)) (gm : Ev tm σ H (nV mode)) (gc : Ev tc σ H (.int cell)) (W : RowAt H w row) (h0 : 0 < row.length) (hle : row.length ≤ 200)
    (k : ∀ (w' : Addr) (row' : Row) (H' : Hp), (w' = w ∨ H w' = none) → But w H H' → RowAt H' w' row' → row'.length = row.length → tz D (σ.set i (some (.ref w'))) H') : tSeq (tAsg (tCall (sp_law_spoiled K a) [] E0 (tCons tw (tCons tm (tCons tc tNil)))) (gName i)) tz D σ H :=
  gw H (Ex.refl H) _ fun H1 e1 => gm H1 e1 _ fun H2 e2 => gc H2 (e1.trans e2) _ fun H3 e3 => by
    have e := (e1.trans e2).trans e3
    exact ⟨w, row, mode, cell, rfl, W.ex e, h0, hle, fun w' row' H' hw b W' hl => k w' row' H' (hw.imp_right fun z => fresh_back e z) ((But.of e).trans b) W' hl⟩
end
end SY

namespace SY
open PySem L2 Evl
/-! ### layouts laid -/
def sp_laid (K : PySem.W.Frag) (a : Ad) : Sp := fun vs H Q E => ∃ (w : Addr) (rule : Nat) (row : Row), vs = [nV row.length, nV rule, .ref w] ∧ RowAt H w row ∧ 2 ≤ row.length ∧ row.length ≤ 200 ∧
  (¬ Right rule row → ∀ H', Ex H H' → E (.ref a.NotLaid) none H') ∧ (Right rule row → ∀ p r H', H p = none → H r = none → p ≠ r → Ex H H' → YR a H' p r rule row → Q (.ref p) H')
def sp_law_made (K : PySem.W.Frag) (a : Ad) : Sp := fun vs H Q _ => ∃ (w : Addr) (rule : Nat) (row : Row), vs = [nV row.length, nV rule, .ref w] ∧ RowAt H w row ∧ 2 ≤ row.length ∧ row.length ≤ 200 ∧
  (¬ Right rule row → ∀ H', Ex H H' → Q (.bl true) H') ∧ (Right rule row → ∀ p r H', H p = none → H r = none → p ≠ r → Ex H H' → YR a H' p r rule row → Q (.ref p) H')
def sp_law_full (K : PySem.W.Frag) (a : Ad) : Sp := fun vs H Q _ => ∃ (p r : Addr) (rule : Nat) (row : Row) (c : Nat), vs = [.ref p, nV c] ∧ YR a H p r rule row ∧ Right rule row ∧ c ∉ names row ∧ row.length ≤ (names row).length + 1 ∧ RetV (.bl true) H Q
def sp_law_drawn (K : PySem.W.Frag) (a : Ad) : Sp := fun vs H Q _ => ∃ (s : Addr) (ns : List Int) (n led : Nat), vs = [.ref s, nV n, nV led] ∧ Ints K H s ns ∧ 2 ≤ n ∧ n ≤ 200 ∧ led ≤ 2 ∧ ∀ (w : Addr) (row : Row) (H' : Hp), H w = none → Ex H H' → RowAt H' w row → row.length = n → Q (.ref w) H'
def sp_law_deed7 (K : PySem.W.Frag) (a : Ad) : Sp := fun vs H Q _ => ∃ (p r w : Addr) (rule : Nat) (row : Row) (c : Nat), vs = [.ref p, .ref w, nV c] ∧ YR a H p r rule row ∧ RowAt H w row ∧ p ≠ w ∧ r ≠ w ∧ Right rule row ∧ rule ≤ 2 ∧
  ∀ (row' : Row) (H' : Hp), row'.length = row.length → Twin a (wo H [r, w]) H' p r w rule row' → Q (.bl true) H'
abbrev N_laid : List Str := ["many", "rule", "layout", "yard", "at", "name"]
def t_laid (K : PySem.W.Frag) (a : Ad) (E : XK) : TS :=
  (tSeq (tIfS (tNot (tB (tCall (sp_right K a) [] E0 (tCons (tVar 0) (tCons (tVar 1) (tCons (tVar 2) tNil)))))) (tRaiseO a.NotLaid E) tNext)
  (tSeq (tAsg (tMake a.Y (sp_Yard__init_ K a) [] E (tCons (tVar 0) (tCons (tVar 1) tNil))) (gName 3))
  (tSeq (tFor (iEnum K (tCons (tVar 2) tNil)) (gTup K 2 (gCons (gName 4) (gCons (gName 5) gNil))) (tAsg (tVar 5) (gSub (tFld K (tVar 3) "row") (tVar 4) rSetL)))
  (tRet (tVar 3)))))
abbrev N_law_full : List Str := ["yard", "name", "e"]
def ts_law_full (K : PySem.W.Frag) (a : Ad) (aE : Addr) (cls : Value) (d : Option Addr) : TS :=
  (tRet (tCB (rIsX K cls d aE) (tCons (tVar 2) (tCons (tC (.ref a.Full)) tNil))))
def t_law_full (K : PySem.W.Frag) (a : Ad) (E : XK) : TS :=
  (tSeq (tTryO K a.YardError 2 (fun W => (tDrop (tMethW a.Y "put" (sp_Yard_put K a) (WE W) (tVar 0) (tCons (tVar 1) tNil)))) (ts_law_full K a))
  (tRet (tC (.bl false))))
abbrev N_law_made : List Str := ["many", "rule", "layout", "e"]
def ts_law_made (K : PySem.W.Frag) (a : Ad) (aE : Addr) (cls : Value) (d : Option Addr) : TS :=
  (tRet (tAndV (tCB (rIsX K cls d aE) (tCons (tVar 3) (tCons (tC (.ref a.NotLaid)) tNil))) (tCB (rIsX K cls d aE) (tCons (tVar 3) (tCons (tC (.ty "ValueError")) tNil)))))
def t_law_made (K : PySem.W.Frag) (a : Ad) (E : XK) : TS :=
  (tTryO K a.YardError 3 (fun W => (tRet (tCallS (sp_laid K a) (WE W) (tCons (tVar 0) (tCons (tVar 1) (tCons (tVar 2) tNil)))))) (ts_law_made K a))
abbrev N_law_drawn : List Str := ["script", "many", "led", "row", "cell", "name", "one", "other", "kept"]
def t_law_drawn (K : PySem.W.Frag) (a : Ad) (E : XK) : TS :=
  (tSeq (tAsg (tOp rRep (tLst (tCons (tC .non) tNil)) (tVar 1)) (gName 3))
  (tSeq (tFor (iList K (tSl (rSlL K) (tVar 0) (tPart (tC (.int 4))) (tPart (tC (.int 34))))) (gName 4) (tSeq (tAsg (tCall (sp_law_name K a) [] E0 (tCons (tVar 4) (tCons (tVar 1) (tCons (tOp rEq (tOp rModI (tOp rDivI (tCall (sp_law_cell K a) [] E0 (tCons (tVar 0) (tCons (tC (.int 1)) tNil))) (tC (.int 27))) (tC (.int 3))) (tC (.int 1))) tNil)))) (gName 5))
  (tIfS (tAnd (tTest (tOp (rIn K true) (tVar 5) (tVar 3))) (tTest (tOp rGtI (tBM K "list" (rCntV K) (tVar 3) (tCons (tC .non) tNil)) (tC (.int 1))))) (tDrop (tCall (sp_law_put K a) [] E0 (tCons (tVar 3) (tCons (tVar 2) (tCons (tVar 5) tNil))))) tNext)))
  (tSeq (tAsg (tOp rModI (tCall (sp_law_cell K a) [] E0 (tCons (tVar 0) (tCons (tC (.int 3)) tNil))) (tVar 1)) (gName 6))
  (tSeq (tAsg (tOp rModI (tOp rDivI (tCall (sp_law_cell K a) [] E0 (tCons (tVar 0) (tCons (tC (.int 3)) tNil))) (tC (.int 256))) (tVar 1)) (gName 7))
  (tCut (tIfS (tTest (tOp rEq (tOp rModI (tCall (sp_law_cell K a) [] E0 (tCons (tVar 0) (tCons (tC (.int 2)) tNil))) (tC (.int 4))) (tC (.int 1)))) (tAsg (tC .non) (gSub (tVar 3) (tVar 6) rSetL)) tNext)
  (tCut (tIfS (tTest (tOp rEq (tOp rModI (tCall (sp_law_cell K a) [] E0 (tCons (tVar 0) (tCons (tC (.int 2)) tNil))) (tC (.int 4))) (tC (.int 2)))) (tSeq (tAsg (tOp (rIxL K) (tVar 3) (tVar 6)) (gName 8))
  (tSeq (tAsg (tOp (rIxL K) (tVar 3) (tVar 7)) (gSub (tVar 3) (tVar 6) rSetL))
  (tAsg (tVar 8) (gSub (tVar 3) (tVar 7) rSetL)))) tNext)
  (tRet (tVar 3))))))))
abbrev N_law_deed7 : List Str := ["yard", "row", "name"]
def t_law_deed7 (K : PySem.W.Frag) (a : Ad) (E : XK) : TS :=
  (tSeq (tIfS (tTest (tOp (rIn K false) (tVar 2) (tVar 1))) (tSeq (tDrop (tMeth a.Y "take" (sp_Yard_take K a) [] E0 (tVar 0) (tCons (tVar 2) tNil)))
  (tDrop (tCall (sp_law_take K a) [] E0 (tCons (tVar 1) (tCons (tVar 2) tNil))))) (tIfS (tTest (tOp rGtI (tBM K "list" (rCntV K) (tVar 1) (tCons (tC .non) tNil)) (tC (.int 1)))) (tSeq (tDrop (tMeth a.Y "put" (sp_Yard_put K a) [] E0 (tVar 0) (tCons (tVar 2) tNil)))
  (tDrop (tCall (sp_law_put K a) [] E0 (tCons (tVar 1) (tCons (tFld K (tVar 0) "rule") (tCons (tVar 2) tNil)))))) (tIfS (tNot (tB (tCall (sp_law_full K a) [] E0 (tCons (tVar 0) (tCons (tVar 2) tNil))))) (tRet (tC (.bl false))) tNext)))
  (tRet (tCall (sp_law_tells K a) [] E0 (tCons (tVar 0) (tCons (tVar 1) tNil)))))
/-- objects of the class Yard, as isinstance asks -/
structure TFc (K : PySem.W.Frag) (a : Ad) : Prop where
  ha : PySem.W.findIn K (.ref a.Y) "__class__" = some (some (.builtin "object.__class__"))
  hn : PySem.W.specialIn K (.builtin "object.__class__") "__get__" = some (some (.builtin "getset_descriptor.__get__"))
  ht : PySem.W.takesIn K (.builtin "object.__class__") = some true
  hm : PySem.W.mroIn K a.Y (.type "object") = some true
section
variable {K : PySem.W.Frag} {a : Ad} {M H H' H1 H2 : Hp} {σ : L2.St} {D : Ends} {tz : TS} {p r w : Addr} {rule c n : Nat} {row : Row}
theorem ev_isYard {ty : TE} (F : YFc K a) (X : TFc K a) (h : Ev ty σ H (.ref p)) (Y : YR a H p r rule row) : Ev (tCB (rIsi K) (tCons ty (tCons (tC (.ref a.Y)) tNil))) σ H (.bl true) :=
  ev_isi h ev_c (.own _) (fun H1 e1 => let ⟨dx, hp⟩ := (Y.ex e1).y; .base (.ins hp F.cl X.ha X.hn X.ht X.hm)) kit_self
theorem fill_get {row : Row} {i : Nat} {o : Option Nat} (h : row[i]? = some o) : (row.take i ++ List.replicate (row.length - i) none).set i o = row.take (i + 1) ++ List.replicate (row.length - (i + 1)) none := by
  have hl := get_lt h
  have e : List.replicate (row.length - i) (none : Option Nat) = none :: List.replicate (row.length - (i + 1)) none := by
    rw [← List.replicate_succ]; congr 1; omega
  rw [e, List.set_append_right _ _ (by rw [List.length_take]; omega), List.length_take, Nat.min_eq_left (by omega), Nat.sub_self, List.set_cons_zero, List.take_succ, h]
  simp
theorem fill_len (row : Row) {i : Nat} (h : i ≤ row.length) : (row.take i ++ List.replicate (row.length - i) (none : Option Nat)).length = row.length := by
  rw [List.length_append, List.length_take, List.length_replicate]; omega
theorem r_laid (F : YFc K a) (vs : List V) (H : Hp) (Q : VK) (E : XK) (h : sp_laid K a vs H Q E) : Go (t_laid K a E) N_laid vs H Q := by
  obtain ⟨w, rule, row, rfl, W, h2, hle, hno, hyes⟩ := h
  obtain ⟨b, hb⟩ := bool_of (Right rule row)
  refine q_when (et_not (et_B (ev_callE (dvs := []) (ea_cons (ev_var rfl) (ea_cons (ev_var rfl) (ea_cons (ev_var rfl) ea_nil))) (v_right W hle hb)))) (fun hz H1 e1 => ?_) (fun hz H1 e1 => ?_)
  · have hf : b = false := by simpa using hz
    exact hno (fun R => by have := hb.mpr R; rw [hf] at this; cases this) H1 e1
  · have R : Right rule row := hb.mp (by simpa using hz)
    have k := hyes R
    refine q_make (many := (row.length : Int)) (ev_var rfl) (ev_var rfl) (by omega) (by omega) fun p r H2 hp hr hpr e2 Y2 => ?_
    rw [Int.toNat_natCast] at Y2
    have e12 := e1.trans e2
    have hp0 := fresh_back e1 hp
    have hr0 := fresh_back e1 hr
    refine q_forE (ev_var rfl) (fun i σ' H' => Ex H H' ∧ i ≤ row.length ∧ YR a H' p r rule (row.take i ++ List.replicate (row.length - i) none) ∧ ∃ v4 v5, σ' = [some (nV row.length), some (nV rule), some (.ref w), some (.ref p), v4, v5]) (fun H3 e3 => ⟨e12.trans e3, Nat.zero_le _, Y2.ex e3, none, none, rfl⟩) (SqL.of (W.ex e12)) (fun i σ' H' _ ⟨e, _⟩ => SqL.of (W.ex e)) (fun i x σ' H' H3 hi ⟨e, hil, Y, v4, v5, hσ⟩ e3 => ?_) (fun σ' H' ⟨e, _, Y, v4, v5, hσ⟩ => ?_)
    · subst hσ
      obtain ⟨o, ho, rfl⟩ := row_get hi
      have hlt := get_lt ho
      have Y := Y.ex e3
      refine s_setR Y F (o := o) (ev_var rfl) (ev_row (ev_var rfl) Y.y F) (ev_var rfl) (by rw [fill_len row (by omega)]; exact hlt) fun H4 b4 _ Y4 => ⟨ex_but (e.trans e3) hr0 b4, by omega, ?_, _, _, rfl⟩
      rw [fill_get ho] at Y4
      exact Y4
    · subst hσ
      rw [rowV_len, List.take_length, Nat.sub_self] at Y
      have Y : YR a H' p r rule row := by simpa using Y
      exact s_ret (ev_var rfl) fun H4 e4 => k p r H4 hp0 hr0 hpr (e.trans e4) (Y.ex e4)
theorem r_law_full (F : YFc K a) (xF : XFc K a a.Full) (ff : IsX K a.Full a.Full true) (vs : List V) (H : Hp) (Q : VK) (E : XK) (h : sp_law_full K a vs H Q E) : Go (t_law_full K a E) N_law_full vs H Q := by
  obtain ⟨p, r, rule, row, c, rfl, Y, R, hc, hz, k⟩ := h
  obtain ⟨dx, hp⟩ := id Y.y
  refine ⟨_, rfl, p, dx, _, rfl, hp, yf_no _ _ _ f_put.1 f_put.2.1 f_put.2.2, _, rfl, p, r, rule, row, c, rfl, Y, R, fun z => absurd z hc, fun _ _ H' e1 => ?_, fun _ z => by omega⟩
  refine ⟨true, xF.ye, fun _ aE haE => ?_, nofun⟩
  exact s_ret (ev_isX rfl xF.ex (fun u z => z) ff) fun H2 e2 => k H2 (e1.trans e2)
theorem r_law_made (xN : XFc K a a.NotLaid) (nn : IsX K a.NotLaid a.NotLaid true) (vs : List V) (H : Hp) (Q : VK) (E : XK) (h : sp_law_made K a vs H Q E) : Go (t_law_made K a E) N_law_made vs H Q := by
  obtain ⟨w, rule, row, rfl, W, h2, hle, hno, hyes⟩ := h
  refine ⟨_, rfl, _, rfl, _, rfl, w, rule, row, rfl, W, h2, hle, fun R H' e1 => ?_, fun R p r H' hp hr hpr e Y => hyes R p r H' hp hr hpr e Y⟩
  refine ⟨true, xN.ye, fun _ aE haE => ?_, nofun⟩
  exact s_ret (bl_is (ev_andV (a := true) (b := true) (ev_isX rfl xN.ex (fun u z => z) nn) fun _ => ev_isX rfl xN.ex (fun u z => z) xN.ve) rfl) fun H2 e2 => hno R H2 (e1.trans e2)
theorem r_law_drawn (vs : List V) (H : Hp) (Q : VK) (E : XK) (h : sp_law_drawn K a vs H Q E) : Go (t_law_drawn K a E) N_law_drawn vs H Q := by
  obtain ⟨s, ns, n, led, rfl, hS, hn, hn2, h2, k⟩ := h
  refine q_asgL (el_rep (n := (n : Int)) (ev_var rfl) (by omega) (by omega)) fun w H1 hw e1 W1 => ?_
  have W1 : RowAt H1 w (List.replicate (n : Int).toNat none) := W1
  rw [Int.toNat_natCast] at W1
  have T : Lone (wo H1 [w]) H1 w led (List.replicate n none) := { e := wo_ex _ _, mw := wo_none (by simp), W := W1, le := by rw [List.length_replicate]; omega, ok := right_empty (by omega) }
  have eM : Ex H (wo H1 [w]) := ex_wo e1 fun b hb => by
    simp at hb
    subst hb
    exact hw
  generalize wo H1 [w] = M at *
  let St0 : Option V → Option V → Option V → Option V → Option V → L2.St := fun v4 v5 v6 v7 v8 => [some (.ref s), some (nV n), some (nV led), some (.ref w), v4, v5, v6, v7, v8]
  let Pv : Addr → Nat → L2.St → Hp → Prop := fun q i σ' H' => ∃ (M' : Hp) (row : Row) (v4 v5 : Option V), Ex M M' ∧ Lone M' H' w led row ∧ row.length = n ∧ M' q = some (.lst ((subL ns 4 34).map V.int)) ∧ σ' = St0 v4 v5 none none none
  refine q_forI (el_sub 4 34 rfl rfl (ev_var rfl) (hS.ex (eM.trans T.e))) Pv (fun q H7 hq e7 hq2 => ?_) (fun q i σ' H' ⟨M', row, v6, v7, _, T, _, hM, _⟩ => T.e _ _ hM) (fun q i cell σ' H' hi ⟨M', row, v6, v7, eM', T, hl, hM, hσ⟩ => ?_) (fun q σ' H' ⟨M', row, v6, v7, eM', T, hl, hM, hσ⟩ => ?_)
  · obtain ⟨M', eM', T', hM⟩ := T.fresh hq e7 hq2
    exact ⟨M', _, none, none, eM', T', List.length_replicate .., hM, rfl⟩
  · subst hσ
    refine q_asg (ev_callE (dvs := []) (ea_cons (ev_var rfl) (ea_cons (ev_var rfl) (ea_cons (ev_op (ev_op (ev_op (ev_cell 1 rfl (ev_var rfl) (hS.ex ((eM.trans eM').trans T.e))) ev_c (rv_div (by decide))) ev_c (rv_mod (by decide))) ev_c rv_eqI) ea_nil))) (v_name (by omega) (by omega))) fun H8 e8 => ?_
    generalize nameOf cell n _ = c
    have T := T.ex e8
    refine s_when (et_and (et_test (ev_niRow (ev_var rfl) (ev_var rfl) T.W)) fun _ => et_test (ev_op (ev_count (ev_var rfl) T.W) ev_c rv_gt)) (fun hb H9 e9 => ?_) (fun hb H9 e9 => ⟨M', row, _, _, eM', T.ex e9, hl, hM, rfl⟩)
    simp only [Bool.and_eq_true, Bool.not_eq_true', decide_eq_true_eq, decide_eq_false_iff_not] at hb
    have hc := hb.2
    rw [count_names] at hc
    exact s_loneput (T.ex e9) h2 hb.1 (by omega) (ev_var rfl) (ev_var rfl) (ev_var rfl) fun H10 T10 => ⟨M', _, _, _, eM', T10, by rw [(putR_ok T.ok hb.1).1]; exact hl, hM, rfl⟩
  · subst hσ
    have e := (eM.trans eM').trans T.e
    have W := T.W
    have m1 := Int.emod_lt_of_pos (cellAt ns 3) (show (0 : Int) < (n : Int) by omega)
    have m2 := Int.emod_lt_of_pos (cellAt ns 3 / 256) (show (0 : Int) < (n : Int) by omega)
    have p1 := Int.emod_nonneg (cellAt ns 3) (show (n : Int) ≠ 0 by omega)
    have p2 := Int.emod_nonneg (cellAt ns 3 / 256) (show (n : Int) ≠ 0 by omega)
    refine q_asg (ev_nat (ev_op (ev_cell 3 rfl (ev_var rfl) (hS.ex e)) (ev_var rfl) (rv_mod (by omega))) p1) fun H2 e2 => ?_
    refine q_asg (ev_nat (ev_op (ev_op (ev_cell 3 rfl (ev_var rfl) (hS.ex (e.trans e2))) ev_c (rv_div (by decide))) (ev_var rfl) (rv_mod (by omega))) p2) fun H3 e3 => ?_
    have l1 : (cellAt ns 3 % (n : Int)).toNat < n := by omega
    have l2 : (cellAt ns 3 / 256 % (n : Int)).toNat < n := by omega
    generalize (cellAt ns 3 % (n : Int)).toNat = one at *
    generalize (cellAt ns 3 / 256 % (n : Int)).toNat = other at *
    have W := W.ex (e2.trans e3)
    have e := (e.trans e2).trans e3
    let Md : L2.St → Hp → Prop := fun σ' H' => ∃ (cur : Row) (v8 : Option V), σ' = St0 v6 v7 (some (nV one)) (some (nV other)) v8 ∧ RowAt H' w cur ∧ cur.length = n ∧ Ex H H'
    refine q_cut (M := Md) ?_ fun σ4 H4 ⟨cur, v8, hσ, W4, hl4, e4⟩ => ?_
    · refine s_when (et_test (ev_op (ev_op (ev_cell 2 rfl (ev_var rfl) (hS.ex e)) ev_c (rv_mod (by decide))) ev_c rv_eqI)) (fun hb H4 e4 => ?_) (fun hb H4 e4 => ⟨row, none, rfl, W.ex e4, hl, e.trans e4⟩)
      exact s_setW (o := none) (W.ex e4) ev_c (ev_var rfl) (ev_var rfl) (by omega) fun H5 b5 _ w5 => ⟨_, _, rfl, w5, by rw [List.length_set]; exact hl, ex_but (e.trans e4) hw b5⟩
    subst hσ
    refine q_cut (M := Md) ?_ fun σ5 H5 ⟨cur5, v8, hσ, W5, hl5, e5⟩ => ?_
    · refine s_when (et_test (ev_op (ev_op (ev_cell 2 rfl (ev_var rfl) (hS.ex e4)) ev_c (rv_mod (by decide))) ev_c rv_eqI)) (fun hb H5 e5 => ?_) (fun hb H5 e5 => ⟨cur, _, rfl, W4.ex e5, hl4, e4.trans e5⟩)
      have W := W4.ex e5
      have l1 : one < cur.length := by omega
      have l2 : other < cur.length := by omega
      refine q_asg (ev_item (ev_var rfl) (ev_var rfl) W (List.getElem?_eq_getElem l1)) fun H6 e6 => ?_
      refine q_setW (W.ex e6) (ev_item (ev_var rfl) (ev_var rfl) (W.ex e6) (List.getElem?_eq_getElem l2)) (ev_var rfl) (ev_var rfl) l1 fun H7 b7 _ w7 => ?_
      refine s_setW w7 (ev_var rfl) (ev_var rfl) (ev_var rfl) (by rw [List.length_set]; exact l2) fun H8 b8 _ w8 => ?_
      exact ⟨_, _, rfl, w8, by rw [List.length_set, List.length_set]; exact hl4, ex_but (ex_but (e4.trans (e5.trans e6)) hw b7) hw b8⟩
    subst hσ
    exact s_ret (ev_var rfl) fun H6 e6 => k w cur5 H6 hw (e5.trans e6) (W5.ex e6) hl5
theorem v_full (Y : YR a H p r rule row) (R : Right rule row) (hc : c ∉ names row) (hz : row.length ≤ (names row).length + 1) : SpV (sp_law_full K a) [.ref p, nV c] H (.bl true) := fun H1 e1 Q q E => ⟨p, r, rule, row, c, rfl, Y.ex e1, R, hc, hz, q⟩
theorem r_law_deed7 (F : YFc K a) (vs : List V) (H : Hp) (Q : VK) (E : XK) (h : sp_law_deed7 K a vs H Q E) : Go (t_law_deed7 K a E) N_law_deed7 vs H Q := by
  obtain ⟨p, r, w, rule, row, c, rfl, Y, W, n1, n2, R, h2, k⟩ := h
  have T := Twin.start Y W n1 n2 R
  generalize hM : wo H [r, w] = M at *
  have fin : ∀ (row' : Row) (H' : Hp), row'.length = row.length → Twin a M H' p r w rule row' → tRet (tCall (sp_law_tells K a) [] E0 (tCons (tVar 0) (tCons (tVar 1) tNil))) { nx := fun _ H' => Q .non H', rt := Q } [some (.ref p), some (.ref w), some (nV c)] H' := fun row' H' hl T =>
    s_ret (ev_callE (dvs := []) (ea_cons (ev_var rfl) (ea_cons (ev_var rfl) ea_nil)) (v_tells T.Y T.W)) fun H2 e2 => k row' H2 hl (T.ex e2)
  refine q_if (et_test (ev_inRow (ev_var rfl) (ev_var rfl) T.W)) (fun hb H1 e1 => ?_) (fun hb H1 e1 => ?_)
  · obtain ⟨st, hs⟩ := mem_names.mp (of_decide_eq_true hb)
    exact s_take2 (T.ex e1) hs (ev_var rfl) (fun _ => ev_var rfl) (fun _ => ev_var rfl) fun H2 T2 => fin _ H2 (takeR_ok R hs).1 T2
  · have hc : c ∉ names row := of_decide_eq_false hb
    have T := T.ex e1
    refine s_if (et_test (ev_op (ev_count (ev_var rfl) T.W) ev_c rv_gt)) (fun hb H2 e2 => ?_) (fun hb H2 e2 => ?_)
    · have hn := of_decide_eq_true hb
      rw [count_names] at hn
      exact s_put2 (T.ex e2) h2 hc (by omega) (ev_var rfl) (fun _ => ev_var rfl) (fun _ => ev_var rfl) (fun H' _ Y' => ev_rule (ev_var rfl) Y'.y F) fun H3 T3 => fin _ H3 (putR_ok R hc).1 T3
    · have hn := of_decide_eq_false hb
      rw [count_names] at hn
      have T := T.ex e2
      exact s_when (et_not (et_B (ev_callE (dvs := []) (ea_cons (ev_var rfl) (ea_cons (ev_var rfl) ea_nil)) (v_full T.Y R hc (by omega))))) (fun hb => by simp at hb) (fun _ H3 e3 => fin _ H3 rfl (T.ex e3))
theorem w_callA {sp : Sp} {E : XK} {args : TA} {vs : List V} {Q : VK} (h : EvA args σ H vs) (k : ∀ H1, Ex H H1 → sp vs H1 Q E) : tCall sp [] E args σ H Q := h H (Ex.refl H) _ fun H1 e => by rw [List.append_nil]; exact k H1 e
theorem q_callA {sp : Sp} {E : XK} {args : TA} {vs : List V} {i : Nat} (h : EvA args σ H vs) (k : ∀ H1, Ex H H1 → sp vs H1 (fun v H' => tz D (σ.set i (some v)) H') E) : tSeq (tAsg (tCall sp [] E args) (gName i)) tz D σ H := w_callA (Q := fun v H' => tz D (σ.set i (some v)) H') h k
theorem s_callA {sp : Sp} {E : XK} {args : TA} {vs : List V} {i : Nat} (h : EvA args σ H vs) (k : ∀ H1, Ex H H1 → sp vs H1 (fun v H' => D.nx (σ.set i (some v)) H') E) : tAsg (tCall sp [] E args) (gName i) D σ H := w_callA (Q := fun v H' => D.nx (σ.set i (some v)) H') h k
theorem rv_isB {b c : Bool} : RV rIsB (.bl b) (.bl c) H (.bl (decide (b = c))) := fun H1 e1 Q q => ⟨b, c, rfl, rfl, q H1 (Ex.refl H1)⟩
theorem Twin.back {row' : Row} (T : Twin a M H p r w rule row) (hl : row'.length = row.length) (T' : Twin a (wo H [r, w]) H1 p r w rule row') : Twin a M H1 p r w rule row' := by
  have eM : Ex M (wo H [r, w]) := ex_wo T.e fun b hb => by
    simp at hb
    rcases hb with rfl | rfl
    · exact T.mr
    · exact T.mw
  exact { T' with e := eM.trans T'.e, y := by rw [hl]; exact T.y, mr := T.mr, mw := T.mw }
end
end SY

namespace SY
/-! ### carts put in one after the other, those that are there passed over -/
def fillN (rule : Nat) : Row → List Nat → Row
  | row, [] => row
  | row, c :: r => fillN rule (if c ∈ names row then row else (putR rule row c).1) r
def newOf (row : Row) (ns : List Nat) : List Nat := ns.filter fun c => decide (c ∉ names row)
theorem fillN_append (rule : Nat) : ∀ (A B : List Nat) (row : Row), fillN rule row (A ++ B) = fillN rule (fillN rule row A) B
  | [], B, row => rfl
  | c :: A, B, row => by
    show fillN rule _ (A ++ B) = _
    rw [fillN_append rule A B]
    rfl
theorem newOf_cons_in {row : Row} {c : Nat} {r : List Nat} (h : c ∈ names row) : newOf row (c :: r) = newOf row r := by
  unfold newOf
  rw [List.filter_cons, if_neg (by simp [h])]
theorem newOf_cons_no {row : Row} {c : Nat} {r : List Nat} (h : c ∉ names row) : newOf row (c :: r) = c :: newOf row r := by
  unfold newOf
  rw [List.filter_cons, if_pos (by simp [h])]
theorem newOf_congr {A B : Row} {ns : List Nat} (h : ∀ c, c ∈ ns → (c ∈ names A ↔ c ∈ names B)) : newOf A ns = newOf B ns := by
  unfold newOf
  refine List.filter_congr fun c hc => ?_
  have := h c hc
  by_cases h1 : c ∈ names A
  · simp [h1, this.mp h1]
  · have h2 : c ∉ names B := fun z => h1 (this.mpr z)
    simp [h1, h2]
theorem put_mem {rule c d : Nat} {row : Row} (R : Right rule row) (hc : c ∉ names row) : d ∈ names (putR rule row c).1 ↔ d = c ∨ d ∈ names row := by
  rw [(putR_ok R hc).2.1.mem_iff, List.mem_cons]
theorem fill_ok {rule : Nat} : ∀ (ns : List Nat) (row : Row), Right rule row → ns.Nodup → (names row).length + (newOf row ns).length < row.length →
    (fillN rule row ns).length = row.length ∧ Right rule (fillN rule row ns) ∧ (names (fillN rule row ns)).Perm (names row ++ newOf row ns)
  | [], row, R, _, _ => ⟨rfl, R, by show (names row).Perm (names row ++ []); rw [List.append_nil]⟩
  | c :: r, row, R, nd, hr => by
    rw [List.nodup_cons] at nd
    by_cases hc : c ∈ names row
    · rw [newOf_cons_in hc] at hr ⊢
      have e : fillN rule row (c :: r) = fillN rule row r := by show fillN rule (if c ∈ names row then _ else _) r = _; rw [if_pos hc]
      rw [e]
      exact fill_ok r row R nd.2 hr
    · rw [newOf_cons_no hc, List.length_cons] at hr
      rw [newOf_cons_no hc]
      have e : fillN rule row (c :: r) = fillN rule (putR rule row c).1 r := by show fillN rule (if c ∈ names row then _ else _) r = _; rw [if_neg hc]
      rw [e]
      have p := putR_ok R hc
      have hl := p.2.1.length_eq
      rw [List.length_cons] at hl
      have hn : newOf (putR rule row c).1 r = newOf row r := newOf_congr fun d hd => by
        rw [put_mem R hc]
        exact ⟨fun z => z.resolve_left fun q => nd.1 (q ▸ hd), .inr⟩
      obtain ⟨h1, h2, h3⟩ := fill_ok r (putR rule row c).1 (putR_right R hc (by omega)) nd.2 (by rw [hn, hl, p.1]; omega)
      refine ⟨by rw [h1, p.1], h2, ?_⟩
      rw [hn] at h3
      exact h3.trans ((p.2.1.append_right _).trans (List.perm_middle.symm))
theorem newOf_le (row : Row) (ns : List Nat) : (newOf row ns).length ≤ ns.length := List.length_filter_le ..
theorem newOf_append (row : Row) (A B : List Nat) : newOf row (A ++ B) = newOf row A ++ newOf row B := List.filter_append ..
theorem newOf_empty (n : Nat) (ns : List Nat) : newOf (List.replicate n none) ns = ns := by
  unfold newOf
  rw [List.filter_eq_self]
  intro c _
  rw [names_empty]
  simp
/-- the step from A to A ++ [c], where all has room -/
theorem fill_step {rule c : Nat} {row : Row} {A B : List Nat} (R : Right rule row) (nd : (A ++ c :: B).Nodup) (hr : (names row).length + (newOf row (A ++ c :: B)).length < row.length) :
    Right rule (fillN rule row A) ∧ (fillN rule row A).length = row.length ∧ (c ∈ names (fillN rule row A) ↔ c ∈ names row) ∧ (c ∉ names (fillN rule row A) → (names (fillN rule row A)).length + 1 < (fillN rule row A).length) ∧
    fillN rule row (A ++ [c]) = if c ∈ names (fillN rule row A) then fillN rule row A else (putR rule (fillN rule row A) c).1 := by
  rw [newOf_append, List.length_append] at hr
  have nA : A.Nodup := (List.nodup_append.mp nd).1
  have hcA : c ∉ A := fun h => (List.nodup_append.mp nd).2.2 c h c (List.mem_cons_self ..) rfl
  obtain ⟨h1, h2, h3⟩ := fill_ok A row R nA (by omega)
  have hm : c ∈ names (fillN rule row A) ↔ c ∈ names row := by
    rw [h3.mem_iff, List.mem_append]
    constructor
    · rintro (z | z)
      · exact z
      · exact absurd (List.mem_filter.mp z).1 hcA
    · exact .inl
  refine ⟨h2, h1, hm, fun hc => ?_, by rw [fillN_append]; rfl⟩
  have hl := h3.length_eq
  rw [List.length_append] at hl
  rw [hm] at hc
  rw [newOf_cons_no hc, List.length_cons] at hr
  rw [hl, h1]
  omega
theorem nodup_len {A B : List Nat} (hA : A.Nodup) (hB : B.Nodup) (h : ∀ c, c ∈ A ↔ c ∈ B) : A.Perm B := (List.perm_ext_iff_of_nodup hA hB).mpr fun c => h c
theorem newOf_nodup {row : Row} {ns : List Nat} (h : ns.Nodup) : (newOf row ns).Nodup := h.filter _
theorem join_nodup {row : Row} {ns : List Nat} (h1 : (names row).Nodup) (h : ns.Nodup) : (names row ++ newOf row ns).Nodup := by
  rw [List.nodup_append]
  refine ⟨h1, newOf_nodup h, fun x hx y hy e => ?_⟩
  subst e
  have := (List.mem_filter.mp hy).2
  simp at this
  exact this hx
theorem mem_join {row : Row} {ns : List Nat} {c : Nat} : c ∈ names row ++ newOf row ns ↔ c ∈ names row ∨ c ∈ ns := by
  rw [List.mem_append]
  unfold newOf
  rw [List.mem_filter]
  constructor
  · rintro (z | z)
    · exact .inl z
    · exact .inr z.1
  · rintro (z | z)
    · exact .inl z
    · by_cases h : c ∈ names row
      · exact .inl h
      · exact .inr ⟨z, by simp [h]⟩
theorem names_take_le {row : Row} {i : Nat} {o : Option Nat} (h : row[i]? = some o) : names row = names (row.take i) ++ names (o :: row.drop (i + 1)) := by
  rw [← drop_get h]
  unfold names
  rw [← List.filterMap_append, List.take_append_drop]
open PySem L2 Evl
theorem nats_get {ns : List Nat} {i : Nat} {x : V} (h : (ns.map nV)[i]? = some x) : ∃ c, ns[i]? = some c ∧ x = nV c := by
  rw [List.getElem?_map] at h
  cases e : ns[i]? with
  | none => rw [e] at h; cases h
  | some o => rw [e] at h; exact ⟨o, rfl, (Option.some.inj h).symm⟩
theorem take_next {α : Type} {ns : List α} {i : Nat} {c : α} (h : ns[i]? = some c) : ns.take (i + 1) = ns.take i ++ [c] := by
  rw [List.take_succ, h]; rfl
theorem take_mid {α : Type} {ns : List α} {i : Nat} {c : α} (h : ns[i]? = some c) : ns = ns.take i ++ c :: ns.drop (i + 1) := by
  have hl := (List.getElem?_eq_some_iff.mp h).1
  have e : ns.drop i = c :: ns.drop (i + 1) := by
    rw [List.drop_eq_getElem_cons hl]
    rw [List.getElem?_eq_getElem hl] at h
    rw [Option.some.inj h]
  rw [← e, List.take_append_drop]
theorem names_somes (xs : List Nat) : names (xs.map some) = xs := by
  unfold names
  induction xs with
  | nil => rfl
  | cons x r ih => rw [List.map_cons, List.filterMap_cons]; show x :: _ = _; rw [ih]
section
variable {K : PySem.W.Frag} {a : Ad} {H : Hp} {σ : L2.St}
theorem ev_inNats {tx tl : TE} {l : Addr} {xs : List Nat} {c : Nat} (hx : Ev tx σ H (nV c)) (hl : Ev tl σ H (.ref l)) (h : H l = some (.lst (xs.map nV))) : Ev (tOp (rIn K false) tx tl) σ H (.bl (decide (c ∈ xs))) := by
  have := ev_inRow (K := K) hx hl (rowAt_nats h)
  rw [names_somes] at this
  exact this
theorem ev_niNats {tx tl : TE} {l : Addr} {xs : List Nat} {c : Nat} (hx : Ev tx σ H (nV c)) (hl : Ev tl σ H (.ref l)) (h : H l = some (.lst (xs.map nV))) : Ev (tOp (rIn K true) tx tl) σ H (.bl (!decide (c ∈ xs))) := by
  have := ev_niRow (K := K) hx hl (rowAt_nats h)
  rw [names_somes] at this
  exact this
end
end SY

namespace SY
open PySem L2 Evl
def sp_filled (K : PySem.W.Frag) (a : Ad) : Sp := fun vs H Q _ => ∃ (p r l : Addr) (rule : Nat) (base opts : Row), vs = [.ref p, .ref l] ∧ YR a H p r rule base ∧ Right rule base ∧ RowAt H l opts ∧ l ≠ r ∧ (names opts).Nodup ∧ (names base).length + (newOf base (names opts)).length < base.length ∧
  ∀ H', But r H H' → RowAt H' r (fillN rule base (names opts)) → Q (.ref p) H'
def sp_moved (K : PySem.W.Frag) (a : Ad) : Sp := fun vs H Q E => ∃ (p r : Addr) (rule : Nat) (row : Row) (m : Int), vs = [.ref p, .int m] ∧ YR a H p r rule row ∧ Right rule row ∧
  ((m < 2 ∨ 200 < m) → ∀ H', Ex H H' → E (.ref a.NoSize) none H') ∧ (¬ (m < 2 ∨ 200 < m) → m ≤ (names row).length → ∀ H', Ex H H' → E (.ref a.Full) none H') ∧
  (¬ (m < 2 ∨ 200 < m) → ((names row).length : Int) < m → ∀ p' r' H', H p' = none → H r' = none → p' ≠ r' → Ex H H' → YR a H' p' r' rule (fillN rule (List.replicate m.toNat none) (names row)) → Q (.ref p') H')
def sp_joined (K : PySem.W.Frag) (a : Ad) : Sp := fun vs H Q E => ∃ (p r p2 r2 : Addr) (rule rule2 : Nat) (row row2 : Row), vs = [.ref p, .ref p2] ∧ 2 ≤ row.length ∧ YR a H p r rule row ∧ YR a H p2 r2 rule2 row2 ∧ Right rule row ∧ Right rule2 row2 ∧
  ((row.length ≠ row2.length ∨ rule ≠ rule2) → ∀ H', Ex H H' → E (.ref a.Unlike) none H') ∧ (¬ (row.length ≠ row2.length ∨ rule ≠ rule2) → row.length ≤ (names row).length + (newOf row (names row2)).length → ∀ H', Ex H H' → E (.ref a.Full) none H') ∧
  (¬ (row.length ≠ row2.length ∨ rule ≠ rule2) → (names row).length + (newOf row (names row2)).length < row.length → ∀ p' r' H', H p' = none → H r' = none → p' ≠ r' → Ex H H' → YR a H' p' r' rule (fillN rule (List.replicate row.length none) (names row ++ names row2)) → Q (.ref p') H')
def sp_law_yard (K : PySem.W.Frag) (a : Ad) : Sp := fun vs H Q _ => ∃ (n rule : Nat) (l : Addr) (ns : List Nat), vs = [nV n, nV rule, .ref l] ∧ 2 ≤ n ∧ n ≤ 200 ∧ H l = some (.lst (ns.map nV)) ∧ ns.Nodup ∧ ns.length < n ∧
  ∀ p r H', H p = none → H r = none → p ≠ r → Ex H H' → YR a H' p r rule (fillN rule (List.replicate n none) ns) → Q (.ref p) H'
def sp_law_row_of (K : PySem.W.Frag) (a : Ad) : Sp := fun vs H Q _ => ∃ (n rule : Nat) (l : Addr) (ns : List Nat), vs = [nV n, nV rule, .ref l] ∧ 2 ≤ n ∧ n ≤ 200 ∧ rule ≤ 2 ∧ H l = some (.lst (ns.map nV)) ∧ ns.Nodup ∧ ns.length < n ∧
  RetL (rowV (fillN rule (List.replicate n none) ns)) H Q
def sp_law_carts (K : PySem.W.Frag) (a : Ad) : Sp := fun vs H Q _ => ∃ (l : Addr) (cells : List Int) (n : Nat) (far : Bool) (most : Nat), vs = [.ref l, nV n, .bl far, nV most] ∧ H l = some (.lst (cells.map V.int)) ∧ 0 < n ∧ n ≤ 200 ∧ cells.length ≤ 200 ∧
  ∀ ns : List Nat, ns.Nodup → ns.length ≤ most → ns.length ≤ cells.length → (∀ c, c ∈ ns → c < 10 ^ 30) → RetL (ns.map nV) H Q
def sp_law_told8 (K : PySem.W.Frag) (a : Ad) : Sp := fun vs H Q _ => ∃ (p r : Addr) (rule : Nat) (row : Row) (m : Int), vs = [.ref p, .int m] ∧ YR a H p r rule row ∧ Right rule row ∧
  ((m < 2 ∨ 200 < m) → RetU [.bl true, .bl false, .bl true] H Q) ∧ (¬ (m < 2 ∨ 200 < m) → m ≤ (names row).length → RetU [.bl false, .bl true, .bl true] H Q) ∧
  (¬ (m < 2 ∨ 200 < m) → ((names row).length : Int) < m → ∀ p' r' H', H p' = none → H r' = none → p' ≠ r' → Ex H H' → YR a H' p' r' rule (fillN rule (List.replicate m.toNat none) (names row)) → Q (.ref p') H')
def sp_law_told9 (K : PySem.W.Frag) (a : Ad) : Sp := fun vs H Q _ => ∃ (p r p2 r2 : Addr) (rule rule2 : Nat) (row row2 : Row), vs = [.ref p, .ref p2] ∧ 2 ≤ row.length ∧ YR a H p r rule row ∧ YR a H p2 r2 rule2 row2 ∧ Right rule row ∧ Right rule2 row2 ∧
  ((row.length ≠ row2.length ∨ rule ≠ rule2) → RetU [.bl true, .bl false, .bl true] H Q) ∧ (¬ (row.length ≠ row2.length ∨ rule ≠ rule2) → row.length ≤ (names row).length + (newOf row (names row2)).length → RetU [.bl false, .bl true, .bl true] H Q) ∧
  (¬ (row.length ≠ row2.length ∨ rule ≠ rule2) → (names row).length + (newOf row (names row2)).length < row.length → ∀ p' r' H', H p' = none → H r' = none → p' ≠ r' → Ex H H' → YR a H' p' r' rule (fillN rule (List.replicate row.length none) (names row ++ names row2)) → Q (.ref p') H')
abbrev N_filled : List Str := ["yard", "names", "name"]
def t_filled (K : PySem.W.Frag) (a : Ad) (E : XK) : TS :=
  (tSeq (tFor (iList K (tVar 1)) (gName 2) (tIfS (tAnd (tB (tNotN (tVar 2))) (tB (tIsN (tMeth a.Y "where" (sp_Yard_where K a) [] E0 (tVar 0) (tCons (tVar 2) tNil))))) (tDrop (tMeth a.Y "put" (sp_Yard_put K a) [] E0 (tVar 0) (tCons (tVar 2) tNil))) tNext))
  (tRet (tVar 0)))
abbrev N_moved : List Str := ["yard", "many"]
def t_moved (K : PySem.W.Frag) (a : Ad) (E : XK) : TS :=
  (tSeq (tIfS (tOr (tTest (tOp rLtI (tVar 1) (tC (.int 2)))) (tTest (tOp rGtI (tVar 1) (tC (.int 200))))) (tRaiseO a.NoSize E) tNext)
  (tSeq (tIfS (tTest (tOp rGtI (tMeth a.Y "how_many" (sp_Yard_how_many K a) [] E0 (tVar 0) tNil) (tOp rSubI (tVar 1) (tC (.int 1))))) (tRaiseO a.Full E) tNext)
  (tRet (tCall (sp_filled K a) [] E0 (tCons (tMake a.Y (sp_Yard__init_ K a) [] E (tCons (tVar 1) (tCons (tFld K (tVar 0) "rule") tNil))) (tCons (tMeth a.Y "stalls" (sp_Yard_stalls K a) [] E0 (tVar 0) tNil) tNil))))))
abbrev N_law_yard : List Str := ["many", "rule", "names", "yard", "name"]
def t_law_yard (K : PySem.W.Frag) (a : Ad) (E : XK) : TS :=
  (tSeq (tAsg (tMake a.Y (sp_Yard__init_ K a) [] E0 (tCons (tVar 0) (tCons (tVar 1) tNil))) (gName 3))
  (tSeq (tFor (iList K (tVar 2)) (gName 4) (tDrop (tMeth a.Y "put" (sp_Yard_put K a) [] E0 (tVar 3) (tCons (tVar 4) tNil))))
  (tRet (tVar 3))))
abbrev N_law_row_of : List Str := ["many", "rule", "names", "row", "name"]
def t_law_row_of (K : PySem.W.Frag) (a : Ad) (E : XK) : TS :=
  (tSeq (tAsg (tOp rRep (tLst (tCons (tC .non) tNil)) (tVar 0)) (gName 3))
  (tSeq (tFor (iList K (tVar 2)) (gName 4) (tDrop (tCall (sp_law_put K a) [] E0 (tCons (tVar 3) (tCons (tVar 1) (tCons (tVar 4) tNil))))))
  (tRet (tVar 3))))
abbrev N_law_carts : List Str := ["cells", "many", "far", "most", "names", "cell", "name"]
def t_law_carts (K : PySem.W.Frag) (a : Ad) (E : XK) : TS :=
  (tSeq (tAsg (tLst tNil) (gName 4))
  (tSeq (tFor (iList K (tVar 0)) (gName 5) (tSeq (tAsg (tCall (sp_law_name K a) [] E0 (tCons (tVar 5) (tCons (tVar 1) (tCons (tVar 2) tNil)))) (gName 6))
  (tIfS (tAnd (tTest (tOp (rIn K true) (tVar 6) (tVar 4))) (tTest (tOp rLtI (tCB (rLenL K) (tCons (tVar 4) tNil)) (tVar 3)))) (tDrop (tBM K "list" rAppend (tVar 4) (tCons (tVar 6) tNil))) tNext)))
  (tRet (tVar 4))))
abbrev N_law_told8 : List Str := ["yard", "many", "e"]
def ts_law_told8 (K : PySem.W.Frag) (a : Ad) (aE : Addr) (cls : Value) (d : Option Addr) : TS :=
  (tRet (tTup (tCons (tCB (rIsX K cls d aE) (tCons (tVar 2) (tCons (tC (.ref a.NoSize)) tNil))) (tCons (tCB (rIsX K cls d aE) (tCons (tVar 2) (tCons (tC (.ref a.Full)) tNil))) (tCons (tCB (rIsX K cls d aE) (tCons (tVar 2) (tCons (tC (.ty "ValueError")) tNil))) tNil)))))
def t_law_told8 (K : PySem.W.Frag) (a : Ad) (E : XK) : TS :=
  (tTryO K a.YardError 2 (fun W => (tRet (tCallS (sp_moved K a) (WE W) (tCons (tVar 0) (tCons (tVar 1) tNil))))) (ts_law_told8 K a))
abbrev N_joined : List Str := ["one", "other"]
def t_joined (K : PySem.W.Frag) (a : Ad) (E : XK) : TS :=
  (tSeq (tIfS (tOr (tTest (tOp rNe (tFld K (tVar 0) "many") (tFld K (tVar 1) "many"))) (tTest (tOp rNe (tFld K (tVar 0) "rule") (tFld K (tVar 1) "rule")))) (tRaiseO a.Unlike E) tNext)
  (tSeq (tIfS (tTest (tOp rGtI (tLenSetN K (tOp rCat (tMeth a.Y "names" (sp_Yard_names K a) [] E0 (tVar 0) tNil) (tMeth a.Y "names" (sp_Yard_names K a) [] E0 (tVar 1) tNil))) (tOp rSubI (tFld K (tVar 0) "many") (tC (.int 1))))) (tRaiseO a.Full E) tNext)
  (tRet (tCall (sp_filled K a) [] E0 (tCons (tCall (sp_filled K a) [] E0 (tCons (tMake a.Y (sp_Yard__init_ K a) [] E (tCons (tFld K (tVar 0) "many") (tCons (tFld K (tVar 0) "rule") tNil))) (tCons (tMeth a.Y "stalls" (sp_Yard_stalls K a) [] E0 (tVar 0) tNil) tNil))) (tCons (tMeth a.Y "stalls" (sp_Yard_stalls K a) [] E0 (tVar 1) tNil) tNil))))))
abbrev N_law_told9 : List Str := ["one", "other", "e"]
def ts_law_told9 (K : PySem.W.Frag) (a : Ad) (aE : Addr) (cls : Value) (d : Option Addr) : TS :=
  (tRet (tTup (tCons (tCB (rIsX K cls d aE) (tCons (tVar 2) (tCons (tC (.ref a.Unlike)) tNil))) (tCons (tCB (rIsX K cls d aE) (tCons (tVar 2) (tCons (tC (.ref a.Full)) tNil))) (tCons (tCB (rIsX K cls d aE) (tCons (tVar 2) (tCons (tC (.ty "ValueError")) tNil))) tNil)))))
def t_law_told9 (K : PySem.W.Frag) (a : Ad) (E : XK) : TS :=
  (tTryO K a.YardError 2 (fun W => (tRet (tCallS (sp_joined K a) (WE W) (tCons (tVar 0) (tCons (tVar 1) tNil))))) (ts_law_told9 K a))
section
variable {K : PySem.W.Frag} {a : Ad} {M H H' H1 H2 : Hp} {σ : L2.St} {D : Ends} {tz : TS} {p r w : Addr} {rule c n : Nat} {row : Row}
theorem names_take_succ {row : Row} {i : Nat} {o : Option Nat} (h : row[i]? = some o) : names (row.take (i + 1)) = names (row.take i) ++ names [o] := by
  unfold names
  rw [List.take_succ, h, List.filterMap_append]
  rfl
theorem ev_where {ty tn : TE} (hy : Ev ty σ H (.ref p)) (hn : Ev tn σ H (nV c)) (Y : YR a H p r rule row) (R : Right rule row) : Ev (tMeth a.Y "where" (sp_Yard_where K a) [] E0 ty (tCons tn tNil)) σ H (oV (whereR rule row c)) := ev_ym hy Y.y f_where.1 f_where.2.1 f_where.2.2 (ea_cons hn ea_nil) (v_where Y R.room)
theorem et_absent {ty tn : TE} (hy : Ev ty σ H (.ref p)) (hn : Ev tn σ H (nV c)) (Y : YR a H p r rule row) (R : Right rule row) : EvT (tB (tIsN (tMeth a.Y "where" (sp_Yard_where K a) [] E0 ty (tCons tn tNil)))) σ H (!decide (c ∈ names row)) := by
  refine et_is (et_B (ev_isN (ev_where hy hn Y R))) ?_
  have := where_none (c := c) R
  cases e : whereR rule row c with
  | none =>
    rw [e] at this
    simp [oV, this.mp rfl]
  | some s =>
    rw [e] at this
    have : c ∈ names row := by
      refine Classical.byContradiction fun z => ?_
      have := this.mpr z
      cases this
    simp [oV, this]
theorem r_filled (vs : List V) (H : Hp) (Q : VK) (E : XK) (h : sp_filled K a vs H Q E) : Go (t_filled K a E) N_filled vs H Q := by
  obtain ⟨p, r, l, rule, base, opts, rfl, Y, R, L, nlr, nd, hroom, k⟩ := h
  refine q_forLn (ev_var rfl) (SqL.of L) (fun i σ' H' => But r H H' ∧ RowAt H' r (fillN rule base (names (opts.take i))) ∧ ∃ v2, σ' = [some (.ref p), some (.ref l), v2]) (fun H1 e1 => ⟨But.of e1, e1 _ _ Y.w, none, rfl⟩) (fun i σ' H' _ ⟨b, _⟩ => SqL.of (b _ _ nlr L)) (fun i x σ' H' hi ⟨b, W, v2, hσ⟩ => ?_) (fun σ' H' ⟨b, W, v2, hσ⟩ => ?_)
  · subst hσ
    obtain ⟨o, ho, rfl⟩ := row_get hi
    have hsucc := names_take_succ ho
    cases o with
    | none =>
      refine s_when (b := false) (et_is (et_and (b := false) (et_B (ev_notN (ev_var rfl))) fun z => by simp [oV] at z) (by simp)) (fun z => by cases z) (fun _ H1 e1 => ⟨b.trans (But.of e1), ?_, _, rfl⟩)
      have : names [none] = [] := rfl
      rw [hsucc, this, List.append_nil]
      exact e1 _ _ W
    | some c =>
      have hsplit := names_take_le ho
      have hst := fill_step (rule := rule) (row := base) (A := names (opts.take i)) (c := c) (B := names (opts.drop (i + 1))) R (by rw [← names_cons_some, ← hsplit]; exact nd) (by rw [← names_cons_some, ← hsplit]; exact hroom)
      obtain ⟨R1, l1, m1, room1, step1⟩ := hst
      have Y1 : YR a H' p r rule (fillN rule base (names (opts.take i))) := Y.but b l1 W
      refine s_when (et_and (et_B (ev_notN (ev_var rfl))) fun _ => et_absent (ev_var rfl) (ev_var (v := nV c) rfl) Y1 R1) (fun hb H1 e1 => ?_) (fun hb H1 e1 => ?_)
      · have hc : c ∉ names (fillN rule base (names (opts.take i))) := by simpa [oV] using hb
        refine s_putD (c := c) (ev_var rfl) (ev_var rfl) (Y1.ex e1) R1 hc (room1 hc) fun H2 b2 Y2 => ⟨(b.trans (But.of e1)).trans b2, ?_, _, rfl⟩
        have : names [some c] = [c] := rfl
        rw [hsucc, this, step1, if_neg hc]
        exact Y2.w
      · have hc : c ∈ names (fillN rule base (names (opts.take i))) := by simpa [oV] using hb
        refine ⟨b.trans (But.of e1), ?_, _, rfl⟩
        have : names [some c] = [c] := rfl
        rw [hsucc, this, step1, if_pos hc]
        exact e1 _ _ W
  · subst hσ
    rw [rowV_len, List.take_length] at W
    exact s_ret (ev_var rfl) fun H1 e1 => k H1 (b.trans (But.of e1)) (e1 _ _ W)
/-- filled(Yard(many, rule), yard.stalls()) -/
theorem w_fillMake {E E' : XK} {tm tr ty : TE} {q x : Addr} {rule' : Nat} {src : Row} {m : Int} {Q : VK} (hm : Ev tm σ H (.int m)) (hr : Ev tr σ H (nV rule)) (h1 : 2 ≤ m) (h2 : m ≤ 200) (hy : Ev ty σ H (.ref q)) (Y : YR a H q x rule' src) (nd : (names src).Nodup) (hroom : ((names src).length : Int) < m)
    (k : ∀ p r H1, H p = none → H r = none → p ≠ r → Ex H H1 → YR a H1 p r rule (fillN rule (List.replicate m.toNat none) (names src)) → Q (.ref p) H1) :
    tCall (sp_filled K a) [] E' (tCons (tMake a.Y (sp_Yard__init_ K a) [] E (tCons tm (tCons tr tNil))) (tCons (tMeth a.Y "stalls" (sp_Yard_stalls K a) [] E0 ty tNil) tNil)) σ H Q := by
  refine w_make (Q := fun v H1 => tMeth a.Y "stalls" (sp_Yard_stalls K a) [] E0 ty tNil σ H1 fun u H2 => sp_filled K a ([v, u] ++ []) H2 Q E') hm hr h1 h2 fun p r H1 hp hrr hpr e1 Y1 => ?_
  refine el_stalls (hy.mono e1) (Y.ex e1) H1 (Ex.refl H1) _ fun l H2 hl e2 h2l => ?_
  have nlr : l ≠ r := (ne_some Y1.w hl).symm
  have R0 : Right rule (List.replicate m.toNat none) := right_empty (by omega)
  have hnew := newOf_empty m.toNat (names src)
  have hroom2 : (names (List.replicate m.toNat none)).length + (newOf (List.replicate m.toNat none) (names src)).length < (List.replicate m.toNat (none : Option Nat)).length := by
    rw [hnew, names_empty, List.length_replicate, List.length_nil]; omega
  have hok := fill_ok (names src) (List.replicate m.toNat none) R0 nd hroom2
  refine ⟨p, r, l, rule, _, src, rfl, Y1.ex e2, R0, h2l, nlr, nd, hroom2, fun H3 b3 w3 => ?_⟩
  exact k p r H3 hp hrr hpr (ex_but (e1.trans e2) hrr b3) ((Y1.ex e2).but b3 hok.1 w3)
theorem r_moved (F : YFc K a) (vs : List V) (H : Hp) (Q : VK) (E : XK) (h : sp_moved K a vs H Q E) : Go (t_moved K a E) N_moved vs H Q := by
  obtain ⟨p, r, rule, row, m, rfl, Y, R, h1, h2, h3⟩ := h
  refine q_when (et_or (et_test (ev_op (ev_var rfl) ev_c rv_lt)) fun _ => et_test (ev_op (ev_var rfl) ev_c rv_gt)) (fun hb H1 e1 => ?_) (fun hb H1 e1 => ?_)
  · exact h1 (by simpa using hb) H1 e1
  · have hb : ¬ (m < 2 ∨ 200 < m) := by simpa using hb
    have Y := Y.ex e1
    refine q_when (et_test (ev_op (ev_how (ev_var rfl) Y) (ev_op (ev_var rfl) ev_c rv_sub) rv_gt)) (fun hc H2 e2 => ?_) (fun hc H2 e2 => ?_)
    · have hc := of_decide_eq_true hc
      exact h2 hb (by omega) H2 (e1.trans e2)
    · have hc := of_decide_eq_false hc
      have Y := Y.ex e2
      have e12 := e1.trans e2
      exact w_fillMake (m := m) (ev_var rfl) (ev_rule (ev_var rfl) Y.y F) (by omega) (by omega) (ev_var rfl) Y R.nd (by omega) fun p' r' H3 hp hr hpr e3 Y3 => h3 hb (by omega) p' r' H3 (fresh_back e12 hp) (fresh_back e12 hr) hpr (e12.trans e3) Y3
theorem r_law_yard (vs : List V) (H : Hp) (Q : VK) (E : XK) (h : sp_law_yard K a vs H Q E) : Go (t_law_yard K a E) N_law_yard vs H Q := by
  obtain ⟨n, rule, l, ns, rfl, hn, hn2, hl, nd, hlen, k⟩ := h
  refine q_make (many := (n : Int)) (ev_var rfl) (ev_var rfl) (by omega) (by omega) fun p r H1 hp hr hpr e1 Y1 => ?_
  rw [Int.toNat_natCast] at Y1
  have R0 : Right rule (List.replicate n none) := right_empty (by omega)
  have hnew := newOf_empty n ns
  refine q_forLn (ev_var rfl) (SqL.of (e1 _ _ hl)) (fun i σ' H' => Ex H H' ∧ YR a H' p r rule (fillN rule (List.replicate n none) (ns.take i)) ∧ ∃ v4, σ' = [some (nV n), some (nV rule), some (.ref l), some (.ref p), v4]) (fun H2 e2 => ⟨e1.trans e2, Y1.ex e2, none, rfl⟩) (fun i σ' H' _ ⟨e, _⟩ => SqL.of (e _ _ hl)) (fun i x σ' H' hi ⟨e, Y, v4, hσ⟩ => ?_) (fun σ' H' ⟨e, Y, v4, hσ⟩ => ?_)
  · subst hσ
    obtain ⟨c, hc, rfl⟩ := nats_get hi
    have hsp := take_mid hc
    obtain ⟨R1, l1, m1, room1, step1⟩ := fill_step (rule := rule) (row := List.replicate n none) (A := ns.take i) (c := c) (B := ns.drop (i + 1)) R0 (by rw [← hsp]; exact nd) (by rw [← hsp, hnew, names_empty, List.length_replicate, List.length_nil]; omega)
    have hcn : c ∉ names (fillN rule (List.replicate n none) (ns.take i)) := by rw [m1, names_empty]; simp
    refine s_putD (c := c) (ev_var rfl) (ev_var rfl) Y R1 hcn (room1 hcn) fun H2 b2 Y2 => ⟨ex_but e hr b2, ?_, _, rfl⟩
    rw [take_next hc, step1, if_neg hcn]
    exact Y2
  · subst hσ
    rw [List.length_map, List.take_length] at Y
    exact s_ret (ev_var rfl) fun H2 e2 => k p r H2 hp hr hpr (e.trans e2) (Y.ex e2)
theorem r_law_row_of (vs : List V) (H : Hp) (Q : VK) (E : XK) (h : sp_law_row_of K a vs H Q E) : Go (t_law_row_of K a E) N_law_row_of vs H Q := by
  obtain ⟨n, rule, l, ns, rfl, hn, hn2, h2, hl, nd, hlen, k⟩ := h
  refine q_asgL (el_rep (n := (n : Int)) (ev_var rfl) (by omega) (by omega)) fun w H1 hw e1 W1 => ?_
  have W1 : RowAt H1 w (List.replicate (n : Int).toNat none) := W1
  rw [Int.toNat_natCast] at W1
  have R0 : Right rule (List.replicate n none) := right_empty (by omega)
  have hnew := newOf_empty n ns
  refine q_forLn (ev_var rfl) (SqL.of (e1 _ _ hl)) (fun i σ' H' => Ex H H' ∧ RowAt H' w (fillN rule (List.replicate n none) (ns.take i)) ∧ ∃ v4, σ' = [some (nV n), some (nV rule), some (.ref l), some (.ref w), v4]) (fun H2 e2 => ⟨e1.trans e2, W1.ex e2, none, rfl⟩) (fun i σ' H' _ ⟨e, _⟩ => SqL.of (e _ _ hl)) (fun i x σ' H' hi ⟨e, W, v4, hσ⟩ => ?_) (fun σ' H' ⟨e, W, v4, hσ⟩ => ?_)
  · subst hσ
    obtain ⟨c, hc, rfl⟩ := nats_get hi
    have hsp := take_mid hc
    obtain ⟨R1, l1, m1, room1, step1⟩ := fill_step (rule := rule) (row := List.replicate n none) (A := ns.take i) (c := c) (B := ns.drop (i + 1)) R0 (by rw [← hsp]; exact nd) (by rw [← hsp, hnew, names_empty, List.length_replicate, List.length_nil]; omega)
    have hcn : c ∉ names (fillN rule (List.replicate n none) (ns.take i)) := by rw [m1, names_empty]; simp
    refine s_lputD (ev_var rfl) (ev_var rfl) (ev_var rfl) W (by rw [l1, List.length_replicate]; omega) h2 R1 hcn fun H2 b2 w2 => ⟨ex_but e hw b2, ?_, _, rfl⟩
    rw [take_next hc, step1, if_neg hcn]
    exact w2
  · subst hσ
    rw [List.length_map, List.take_length] at W
    exact s_ret (ev_var rfl) fun H2 e2 => k w H2 hw (e.trans e2) (W.ex e2)
theorem r_law_carts (vs : List V) (H : Hp) (Q : VK) (E : XK) (h : sp_law_carts K a vs H Q E) : Go (t_law_carts K a E) N_law_carts vs H Q := by
  obtain ⟨l, cells, n, far, most, rfl, hl, hn, hn2, hz, k⟩ := h
  refine q_asgL (el_lst ea_nil (by decide)) fun q H1 hq e1 hq1 => ?_
  refine q_forLn (ev_var rfl) (SqL.of (e1 _ _ hl)) (fun i σ' H' => Ex H H' ∧ ∃ (acc : List Nat) (v5 v6 : Option V), H' q = some (.lst (acc.map nV)) ∧ acc.Nodup ∧ acc.length ≤ most ∧ acc.length ≤ i ∧ (∀ c, c ∈ acc → c < 10 ^ 30) ∧ σ' = [some (.ref l), some (nV n), some (.bl far), some (nV most), some (.ref q), v5, v6]) (fun H2 e2 => ⟨e1.trans e2, [], none, none, e2 _ _ hq1, List.nodup_nil, Nat.zero_le _, Nat.le_refl _, fun c hc => (by simp at hc), rfl⟩) (fun i σ' H' _ ⟨e, _⟩ => SqL.of (e _ _ hl)) (fun i x σ' H' hi ⟨e, acc, v5, v6, hA, nd, hm, hli, hlt, hσ⟩ => ?_) (fun σ' H' ⟨e, acc, v5, v6, hA, nd, hm, hli, hlt, hσ⟩ => ?_)
  · subst hσ
    have hil := (List.getElem?_eq_some_iff.mp hi).1
    rw [List.length_map] at hil
    obtain ⟨cell, rfl⟩ : ∃ z : Int, x = .int z := by
      rw [List.getElem?_map] at hi
      cases q : cells[i]? with
      | none => rw [q] at hi; cases hi
      | some z => rw [q] at hi; exact ⟨z, (Option.some.inj hi).symm⟩
    refine q_asg (ev_callE (dvs := []) (ea_cons (ev_var rfl) (ea_cons (ev_var rfl) (ea_cons (ev_var rfl) ea_nil))) (v_name hn (by omega))) fun H2 e2 => ?_
    have hlt30 := nameOf_lt cell hn hn2 far
    generalize nameOf cell n far = c at *
    have hA2 := e2 _ _ hA
    refine s_when (et_and (et_test (ev_niNats (ev_var rfl) (ev_var rfl) hA2)) fun _ => et_test (ev_op (ev_lenN' (ev_var rfl) hA2) (ev_var rfl) rv_lt)) (fun hb H3 e3 => ?_) (fun hb H3 e3 => ⟨(e.trans e2).trans e3, acc, _, _, e3 _ _ hA2, nd, hm, by omega, hlt, rfl⟩)
    simp only [Bool.and_eq_true, Bool.not_eq_true', decide_eq_true_eq, decide_eq_false_iff_not] at hb
    refine s_app (v := nV c) (e3 _ _ hA2) (ev_var rfl) (ev_var rfl) (lt_sz (by rw [List.length_map]; omega)) fun H4 e4 => ⟨Ex.mut (((e.trans e2).trans e3).trans e4) hq, acc ++ [c], _, _, ?_, ?_, ?_, ?_, ?_, rfl⟩
    · rw [upd_same, List.map_append]; rfl
    · rw [List.nodup_append]
      refine ⟨nd, by simp, fun x hx y hy z => ?_⟩
      simp at hy
      subst hy
      exact hb.1 (z ▸ hx)
    · rw [List.length_append, List.length_singleton]; omega
    · rw [List.length_append, List.length_singleton]; omega
    · intro d hd
      rcases List.mem_append.mp hd with z | z
      · exact hlt d z
      · simp at z
        subst z
        exact hlt30
  · subst hσ
    rw [List.length_map] at hli
    exact s_ret (ev_var rfl) fun H2 e2 => k acc nd hm hli hlt q H2 hq (e.trans e2) (e2 _ _ hA)
theorem r_law_told8 (xN : XFc K a a.NoSize) (xF : XFc K a a.Full) (nn : IsX K a.NoSize a.NoSize true) (nf : IsX K a.NoSize a.Full false) (fn : IsX K a.Full a.NoSize false) (ff : IsX K a.Full a.Full true) (vs : List V) (H : Hp) (Q : VK) (E : XK) (h : sp_law_told8 K a vs H Q E) : Go (t_law_told8 K a E) N_law_told8 vs H Q := by
  obtain ⟨p, r, rule, row, m, rfl, Y, R, h1, h2, h3⟩ := h
  refine ⟨_, rfl, _, rfl, p, r, rule, row, m, rfl, Y, R, fun hm H' e1 => ?_, fun hm hf H' e1 => ?_, fun hm hf p' r' H' hp hr hpr e Y' => h3 hm hf p' r' H' hp hr hpr e Y'⟩
  · refine ⟨true, xN.ye, fun _ aE haE => ?_, nofun⟩
    exact s_retU (eu_tup (ea_cons (ev_isX rfl xN.ex (fun u z => z) nn) (ea_cons (ev_isX rfl xN.ex (fun u z => z) nf) (ea_cons (ev_isX rfl xN.ex (fun u z => z) xN.ve) ea_nil))) (by show 3 ≤ 100000; decide)) fun q H2 hq e2 hq2 => h1 hm q H2 (fresh_back e1 hq) (e1.trans e2) hq2
  · refine ⟨true, xF.ye, fun _ aE haE => ?_, nofun⟩
    exact s_retU (eu_tup (ea_cons (ev_isX rfl xF.ex (fun u z => z) fn) (ea_cons (ev_isX rfl xF.ex (fun u z => z) ff) (ea_cons (ev_isX rfl xF.ex (fun u z => z) xF.ve) ea_nil))) (by show 3 ≤ 100000; decide)) fun q H2 hq e2 hq2 => h2 hm hf q H2 (fresh_back e1 hq) (e1.trans e2) hq2
theorem r_law_told9 (xN : XFc K a a.Unlike) (xF : XFc K a a.Full) (nn : IsX K a.Unlike a.Unlike true) (nf : IsX K a.Unlike a.Full false) (fn : IsX K a.Full a.Unlike false) (ff : IsX K a.Full a.Full true) (vs : List V) (H : Hp) (Q : VK) (E : XK) (h : sp_law_told9 K a vs H Q E) : Go (t_law_told9 K a E) N_law_told9 vs H Q := by
  obtain ⟨p, r, p2, r2, rule, rule2, row, row2, rfl, hn, Y, Y2, R, R2, h1, h2, h3⟩ := h
  refine ⟨_, rfl, _, rfl, p, r, p2, r2, rule, rule2, row, row2, rfl, hn, Y, Y2, R, R2, fun hm H' e1 => ?_, fun hm hf H' e1 => ?_, fun hm hf p' r' H' hp hr hpr e Y' => h3 hm hf p' r' H' hp hr hpr e Y'⟩
  · refine ⟨true, xN.ye, fun _ aE haE => ?_, nofun⟩
    exact s_retU (eu_tup (ea_cons (ev_isX rfl xN.ex (fun u z => z) nn) (ea_cons (ev_isX rfl xN.ex (fun u z => z) nf) (ea_cons (ev_isX rfl xN.ex (fun u z => z) xN.ve) ea_nil))) (by show 3 ≤ 100000; decide)) fun q H2 hq e2 hq2 => h1 hm q H2 (fresh_back e1 hq) (e1.trans e2) hq2
  · refine ⟨true, xF.ye, fun _ aE haE => ?_, nofun⟩
    exact s_retU (eu_tup (ea_cons (ev_isX rfl xF.ex (fun u z => z) fn) (ea_cons (ev_isX rfl xF.ex (fun u z => z) ff) (ea_cons (ev_isX rfl xF.ex (fun u z => z) xF.ve) ea_nil))) (by show 3 ≤ 100000; decide)) fun q H2 hq e2 hq2 => h2 hm hf q H2 (fresh_back e1 hq) (e1.trans e2) hq2
end
end SY

namespace SY
open PySem L2 Evl
section
variable {K : PySem.W.Frag} {a : Ad} {M H H' H1 H2 : Hp} {σ : L2.St} {D : Ends} {tz : TS} {p r w : Addr} {rule c n : Nat} {row : Row}
theorem kit_noT {C : Addr} {s : String} (h : PySem.W.subIn K (.type s) (.ref C) = some false) (hdct : PySem.W.hasDictIn K C = true) (ht : PySem.W.typeIn K (.ref C) = some (.type "type")) : PySem.W.kitOne K (.type s) (.ref C) = some false := by
  have e2 : ((PySem.W.clsIn K C).isSome && PySem.W.typeIn K (.ref C) == some (.type "type")) = true := by
    obtain ⟨cd, hc, _⟩ := PySem.W.any_some hdct
    rw [hc, ht] <;> rfl
  unfold PySem.W.kitOne
  rw [if_neg (by simp)]
  show (if ((PySem.W.clsIn K C).isSome && PySem.W.typeIn K (.ref C) == some (.type "type")) = true then PySem.W.subIn K (.type s) (.ref C) else none) = some false
  rw [if_pos e2]
  exact h
theorem ev_isTup {te : TE} {u : Addr} {xs : List V} (N : PySem.W.kitOne K (.type "tuple") (.ref a.Y) = some false) (h : Ev te σ H (.ref u)) (hu : H u = some (.tup xs)) : Ev (tCB (rIsi K) (tCons te (tCons (tC (.ref a.Y)) tNil))) σ H (.bl false) :=
  ev_isi h ev_c (.own _) (fun H1 e1 => .base (.tup (e1 _ _ hu))) N
theorem rv_eqBools {p q : Addr} {A B : List Bool} (h1 : H p = some (.tup (A.map V.bl))) (h2 : H q = some (.tup (B.map V.bl))) : RV (rEqD K) (.ref p) (.ref q) H (.bl (decide (A = B))) := fun H1 e1 Q q' =>
  ⟨_, _, .tup (SqT.of (e1 _ _ h1)) (dp_bools A), .tup (SqT.of (e1 _ _ h2)) (dp_bools B), shaped_tup lay_dB A, shaped_tup lay_dB B, by
    rw [PyData.eqv, eqv_all eqv_dB]
    exact q' H1 (Ex.refl H1)⟩
theorem ev_neT3 {te : TE} {u : Addr} {b1 b2 b3 c1 c2 c3 : Bool} (h : Ev te σ H (.ref u)) (hu : H u = some (.tup [.bl b1, .bl b2, .bl b3])) : Ev (tOp (rNeD K) te (tTup (tCons (tC (.bl c1)) (tCons (tC (.bl c2)) (tCons (tC (.bl c3)) tNil))))) σ H (.bl (!decide ([b1, b2, b3] = [c1, c2, c3]))) :=
  ev_opU h (eu_tup (ea_cons ev_c (ea_cons ev_c (ea_cons ev_c ea_nil))) (by show 3 ≤ 100000; decide)) fun q H1 hq e1 => rv_neBools (A := [b1, b2, b3]) (B := [c1, c2, c3]) (e1 _ _ hu) hq
theorem ev_eqT3 {te : TE} {u : Addr} {b1 b2 b3 c1 c2 c3 : Bool} (h : Ev te σ H (.ref u)) (hu : H u = some (.tup [.bl b1, .bl b2, .bl b3])) : Ev (tOp (rEqD K) te (tTup (tCons (tC (.bl c1)) (tCons (tC (.bl c2)) (tCons (tC (.bl c3)) tNil))))) σ H (.bl (decide ([b1, b2, b3] = [c1, c2, c3]))) :=
  ev_opU h (eu_tup (ea_cons ev_c (ea_cons ev_c (ea_cons ev_c ea_nil))) (by show 3 ≤ 100000; decide)) fun q H1 hq e1 => rv_eqBools (A := [b1, b2, b3]) (B := [c1, c2, c3]) (e1 _ _ hu) hq
theorem w_callLA {sp : Sp} {E : XK} {t1 : TE} {args : TA} {xs vs : List V} {Q : VK} (h1 : EvL t1 σ H xs) (h2 : EvA args σ H vs) (k : ∀ l H1, H l = none → Ex H H1 → H1 l = some (.lst xs) → sp (.ref l :: vs) H1 Q E) : tCall sp [] E (tCons t1 args) σ H Q :=
  h1 H (Ex.refl H) _ fun l H1 hl e1 h1l => h2 H1 e1 _ fun H2 e2 => by show sp ((V.ref l :: vs) ++ []) H2 Q E; rw [List.append_nil]; exact k l H2 hl (e1.trans e2) (e2 _ _ h1l)
theorem q_callLA {sp : Sp} {E : XK} {t1 : TE} {args : TA} {xs vs : List V} {i : Nat} (h1 : EvL t1 σ H xs) (h2 : EvA args σ H vs) (k : ∀ l H1, H l = none → Ex H H1 → H1 l = some (.lst xs) → sp (.ref l :: vs) H1 (fun v H' => tz D (σ.set i (some v)) H') E) : tSeq (tAsg (tCall sp [] E (tCons t1 args)) (gName i)) tz D σ H :=
  w_callLA (Q := fun v H' => tz D (σ.set i (some v)) H') h1 h2 k
theorem w_call2L {sp : Sp} {E : XK} {t1 t2 t3 : TE} {xs : List V} {v1 v2 : V} {Q : VK} (h1 : Ev t1 σ H v1) (h2 : Ev t2 σ H v2) (h3 : EvL t3 σ H xs) (k : ∀ l H1, H l = none → Ex H H1 → H1 l = some (.lst xs) → sp [v1, v2, .ref l] H1 Q E) : tCall sp [] E (tCons t1 (tCons t2 (tCons t3 tNil))) σ H Q :=
  h1 H (Ex.refl H) _ fun H1 e1 => h2 H1 e1 _ fun H2 e2 => h3 H2 (e1.trans e2) _ fun l H3 hl e3 h3l => k l H3 (fresh_back (e1.trans e2) hl) ((e1.trans e2).trans e3) h3l
theorem q_call2L {sp : Sp} {E : XK} {t1 t2 t3 : TE} {xs : List V} {v1 v2 : V} {i : Nat} (h1 : Ev t1 σ H v1) (h2 : Ev t2 σ H v2) (h3 : EvL t3 σ H xs) (k : ∀ l H1, H l = none → Ex H H1 → H1 l = some (.lst xs) → sp [v1, v2, .ref l] H1 (fun v H' => tz D (σ.set i (some v)) H') E) : tSeq (tAsg (tCall sp [] E (tCons t1 (tCons t2 (tCons t3 tNil)))) (gName i)) tz D σ H :=
  w_call2L (Q := fun v H' => tz D (σ.set i (some v)) H') h1 h2 h3 k
theorem ev_pred {te : TE} (h : Ev te σ H (nV n)) (h0 : 0 < n) : Ev (tOp rSubI te (tC (.int 1))) σ H (nV (n - 1)) := int_is (ev_op h ev_c rv_sub) (by omega)
/-- a yard made of carts: what stands there -/
theorem filled_ok {ns : List Nat} (h0 : 0 < n) (nd : ns.Nodup) (hl : ns.length < n) : (fillN rule (List.replicate n none) ns).length = n ∧ Right rule (fillN rule (List.replicate n none) ns) ∧ (names (fillN rule (List.replicate n none) ns)).Perm ns := by
  have := fill_ok (rule := rule) ns (List.replicate n none) (right_empty h0) nd (by rw [newOf_empty, names_empty, List.length_replicate, List.length_nil]; omega)
  rw [newOf_empty, names_empty, List.length_replicate, List.nil_append] at this
  exact this
abbrev rMin2 : List V → Hp → VK → Prop := fun xs H Q => ∃ i j, xs = [.int i, .int j] ∧ Q (.int (if j < i then j else i)) H
theorem ev_min2 {ta tb : TE} {i j : Int} (ha : Ev ta σ H (.int i)) (hb : Ev tb σ H (.int j)) : Ev (tCB rMin2 (tCons ta (tCons tb tNil))) σ H (.int (if j < i then j else i)) := fun H1 e Q q =>
  ha H1 e _ fun H2 e2 => hb H2 (e.trans e2) _ fun H3 e3 => ⟨i, j, rfl, q H3 (e2.trans e3)⟩
theorem fill_skip {rule : Nat} : ∀ (ns : List Nat) (row : Row), Right rule row → ns.Nodup → (names row).length + (newOf row ns).length < row.length → fillN rule row ns = fillN rule row (newOf row ns)
  | [], row, _, _, _ => rfl
  | c :: r, row, R, nd, hr => by
    rw [List.nodup_cons] at nd
    by_cases hc : c ∈ names row
    · rw [newOf_cons_in hc] at hr ⊢
      have e : fillN rule row (c :: r) = fillN rule row r := by show fillN rule (if c ∈ names row then _ else _) r = _; rw [if_pos hc]
      rw [e]
      exact fill_skip r row R nd.2 hr
    · rw [newOf_cons_no hc, List.length_cons] at hr
      rw [newOf_cons_no hc]
      have e : ∀ r, fillN rule row (c :: r) = fillN rule (putR rule row c).1 r := fun r => by show fillN rule (if c ∈ names row then _ else _) r = _; rw [if_neg hc]
      rw [e, e]
      have p := putR_ok R hc
      have hl := p.2.1.length_eq
      rw [List.length_cons] at hl
      have hn : newOf (putR rule row c).1 r = newOf row r := newOf_congr fun d hd => by
        rw [put_mem R hc]
        exact ⟨fun z => z.resolve_left fun q => nd.1 (q ▸ hd), .inr⟩
      rw [fill_skip r (putR rule row c).1 (putR_right R hc (by omega)) nd.2 (by rw [hn, hl, p.1]; omega), hn]
/-- [x for x in xs if P x] -/
theorem el_filterN {tl : TE} {t : TT} {j : Nat} {l : Addr} {xs : List Nat} (P : Nat → Bool) (h : Ev tl σ H (.ref l)) (hx : H l = some (.lst (xs.map nV))) (hz : xs.length ≤ 40000) (hj : j < σ.length)
    (ht : ∀ c H1, Ex H H1 → EvT t ((wipe σ [j]).set j (some (nV c))) H1 (P c)) : EvL (tLc (iList K tl) (gName j) t (tVar j) [j]) σ H ((xs.filter P).map nV) := by
  have hv : ∀ x : V, ((wipe σ [j]).set j (some x))[j]? = some (some x) := fun x => by
    rw [List.getElem?_set_self]
    show j < (wipe σ [j]).length
    rw [wipe_length]; exact hj
  have := el_lcL (K := K) (te := tVar j) (t := t) (vs := [j]) (j := j) (fun i => P (xs.getD i 0)) (fun i => nV (xs.getD i 0)) h (SqL.of hx) (by rw [List.length_map]; exact hz) (fun x => by
      show (((σ.set j none).set j (some x)).set j none) = σ.set j none
      rw [List.set_set, List.set_set])
    (fun i x H1 e1 hi => ?_) (fun i x H1 e1 hi hf => ?_)
  · rw [List.length_map, given_opt (fun c => if P c = true then some c else none) nV xs _ _ (fun i x hi => ?_)] at this
    · have e : xs.filterMap (fun c => if P c = true then some c else none) = xs.filter P := by
        rw [← List.filterMap_eq_filter]; rfl
      rw [e] at this
      exact this
    · have : xs.getD i 0 = x := by rw [List.getD_eq_getElem?_getD, hi]; rfl
      rw [this]
      by_cases hp : P x = true
      · simp [hp]
      · simp [hp]
  · obtain ⟨c, hc, rfl⟩ := nats_get hi
    have : xs.getD i 0 = c := by rw [List.getD_eq_getElem?_getD, hc]; rfl
    rw [this]
    exact ht c H1 e1
  · obtain ⟨c, hc, rfl⟩ := nats_get hi
    have : xs.getD i 0 = c := by rw [List.getD_eq_getElem?_getD, hc]; rfl
    rw [this]
    exact ev_var (hv _)
theorem l_rowOf {l : Addr} {ns : List Nat} (hn : 2 ≤ n) (hn2 : n ≤ 200) (h2 : rule ≤ 2) (hl : H l = some (.lst (ns.map nV))) (nd : ns.Nodup) (hlen : ns.length < n) : SpL (sp_law_row_of K a) [nV n, nV rule, .ref l] H (rowV (fillN rule (List.replicate n none) ns)) := fun H1 e1 Q q E =>
  ⟨n, rule, l, ns, rfl, hn, hn2, h2, e1 _ _ hl, nd, hlen, q⟩
/-- how many are in the one or the other -/
theorem dd_join {row : Row} {A B : List Nat} (hA : A.Perm (names row)) (hB : B.Nodup) (nd : (names row).Nodup) : (ddF ((A ++ B).map Int.ofNat)).length = (names row ++ newOf row B).length := by
  have h1 := dd_nodup ((A ++ B).map Int.ofNat)
  have h2 : ((names row ++ newOf row B).map Int.ofNat).Nodup := nodup_ints.mpr (join_nodup nd hB)
  have p : (ddF ((A ++ B).map Int.ofNat)).Perm ((names row ++ newOf row B).map Int.ofNat) := (List.perm_ext_iff_of_nodup h1 h2).mpr fun k => by
    rw [dd_mem, List.mem_map, List.mem_map]
    constructor
    · rintro ⟨c, hc, e⟩
      refine ⟨c, mem_join.mpr ?_, e⟩
      rcases List.mem_append.mp hc with z | z
      · exact .inl (hA.mem_iff.mp z)
      · exact .inr z
    · rintro ⟨c, hc, e⟩
      refine ⟨c, List.mem_append.mpr ?_, e⟩
      rcases mem_join.mp hc with z | z
      · exact .inl (hA.mem_iff.mpr z)
      · exact .inr z
  rw [p.length_eq, List.length_map]
theorem newOf_perm {A B : List Nat} (h : A.Perm B) : (newOf row A).Perm (newOf row B) := h.filter _
theorem r_joined (F : YFc K a) (vs : List V) (H : Hp) (Q : VK) (E : XK) (h : sp_joined K a vs H Q E) : Go (t_joined K a E) N_joined vs H Q := by
  obtain ⟨p, r, p2, r2, rule, rule2, row, row2, rfl, hn, Y, Y2, R, R2, h1, h2, h3⟩ := h
  have hle := Y.le
  refine q_when (et_or (et_test (ev_op (ev_many (ev_var rfl) Y.y F) (ev_many (ev_var rfl) Y2.y F) rv_neI)) fun _ => et_test (ev_op (ev_rule (ev_var rfl) Y.y F) (ev_rule (ev_var rfl) Y2.y F) rv_neI)) (fun hb H1 e1 => ?_) (fun hb H1 e1 => ?_)
  · refine h1 ?_ H1 e1
    simp only [Bool.or_eq_true, Bool.not_eq_true', decide_eq_false_iff_not] at hb
    omega
  · have hb : ¬ (row.length ≠ row2.length ∨ rule ≠ rule2) := by
      simp only [Bool.or_eq_false_iff, Bool.not_eq_false', decide_eq_true_eq] at hb
      omega
    have Y := Y.ex e1
    have Y2 := Y2.ex e1
    have n1 := names_le row
    have n2 := names_le row2
    have hle2 := Y2.le
    have el := el_cat (el_ynames (K := K) (σ := [some (.ref p), some (.ref p2)]) (ty := tVar 0) (ev_var rfl) Y) (el_ynames (K := K) (ty := tVar 1) (ev_var rfl) Y2) (by rw [List.length_map, List.length_map, (srt_perm _).length_eq, (srt_perm _).length_eq]; omega)
    rw [← List.map_append, ← map_int] at el
    have hdd := dd_join (row := row) (A := srt (names row)) (B := srt (names row2)) (srt_perm _) ((srt_perm _).nodup_iff.mpr R2.nd) R.nd
    rw [List.length_append, (newOf_perm (srt_perm (names row2))).length_eq] at hdd
    refine q_when (et_test (ev_op (ev_lenSetL el (by rw [List.length_map, List.length_append, (srt_perm _).length_eq, (srt_perm _).length_eq]; omega)) (ev_op (ev_many (ev_var rfl) Y.y F) ev_c rv_sub) rv_gt)) (fun hc H2 e2 => ?_) (fun hc H2 e2 => ?_)
    · have hc := of_decide_eq_true hc
      exact h2 hb (by omega) H2 (e1.trans e2)
    · have hc := of_decide_eq_false hc
      have hroom : (names row).length + (newOf row (names row2)).length < row.length := by omega
      have Y := Y.ex e2
      have Y2 := Y2.ex e2
      have e12 := e1.trans e2
      refine w_fillMake (Q := fun v H1 => tMeth a.Y "stalls" (sp_Yard_stalls K a) [] E0 (tVar 1) tNil [some (.ref p), some (.ref p2)] H1 fun u H2 => sp_filled K a ([v, u] ++ []) H2 Q E0) (m := (row.length : Int)) (ev_many (ev_var rfl) Y.y F) (ev_rule (ev_var rfl) Y.y F) (by omega) (by omega) (ev_var rfl) Y R.nd (by have := R.room; omega) fun p' r' H3 hp hr hpr e3 Y3 => ?_
      rw [Int.toNat_natCast] at Y3
      have hr0 := fresh_back e12 hr
      obtain ⟨L1, R1, P1⟩ := filled_ok (rule := rule) (n := row.length) (by have := R.room; omega) R.nd R.room
      have h3 := h3 hb hroom
      rw [fillN_append] at h3
      generalize fillN rule (List.replicate row.length none) (names row) = b1 at *
      have hnew : newOf b1 (names row2) = newOf row (names row2) := newOf_congr fun c _ => P1.mem_iff
      have hroom2 : (names b1).length + (newOf b1 (names row2)).length < b1.length := by rw [hnew, P1.length_eq, L1]; exact hroom
      obtain ⟨L2, -, -⟩ := fill_ok (names row2) b1 R1 R2.nd hroom2
      refine el_stalls (ev_var rfl) (Y2.ex e3) H3 (Ex.refl H3) _ fun l H4 hl e4 h4 => ?_
      exact ⟨p', r', l, rule, b1, row2, rfl, Y3.ex e4, R1, h4, (ne_some Y3.w hl).symm, R2.nd, hroom2, fun H5 b5 w5 => h3 p' r' H5 (fresh_back e12 hp) hr0 hpr (ex_but ((e12.trans e3).trans e4) hr0 b5) ((Y3.ex e4).but b5 L2 w5)⟩
theorem el_catV {ta tb : TE} {l : Addr} {xs ys : List V} (h1 : Ev ta σ H (.ref l)) (hl : H l = some (.lst xs)) (h2 : EvL tb σ H ys) (hz : xs.length + ys.length ≤ 100000) : EvL (tOp rCat ta tb) σ H (xs ++ ys) := fun H1 e Q q =>
  h1 H1 e _ fun H2 e2 => h2 H2 (e.trans e2) _ fun p' H3 hq e3 hq3 => ⟨l, p', xs, ys, rfl, rfl, ((e.trans e2).trans e3) _ _ hl, hq3, sz_of hz, fun l hl => q l _ (fresh_back (e2.trans e3) hl) ((e2.trans e3).trans (Ex.new hl)) upd_same⟩
end
end SY

namespace SY
open PySem L2 Evl
/-! ### a yard of which only the names are told -/
structure Solo (a : Ad) (M H : Hp) (p r : Addr) (rule : Nat) (row : Row) : Prop where
  e : Ex M H
  y : YardAt a M p r row.length rule
  mr : M r = none
  R : RowAt H r row
  le : row.length ≤ 200
  ok : Right rule row
theorem set_any {α : Type} (σ : List (Option α)) (j : Nat) : ∃ v, σ = σ.set j v := by
  by_cases h : j < σ.length
  · exact ⟨σ[j], (List.set_getElem_self h).symm⟩
  · exact ⟨none, (List.set_eq_of_length_le (by omega)).symm⟩
section
variable {K : PySem.W.Frag} {a : Ad} {M H H' H1 H2 : Hp} {σ : L2.St} {D : Ends} {tz : TS} {p r w l : Addr} {rule c n s j : Nat} {row row' : Row}
theorem Solo.Y (T : Solo a M H p r rule row) : YR a H p r rule row := ⟨let ⟨dx, h⟩ := T.y; ⟨dx, T.e _ _ h⟩, T.R, T.le⟩
theorem Solo.ex (T : Solo a M H p r rule row) (e : Ex H H') : Solo a M H' p r rule row := { T with e := T.e.trans e, R := e _ _ T.R }
theorem Solo.stay (T : Solo a M H p r rule row) (b : But l H H') (m : M l = none) (n1 : l ≠ r) : Solo a M H' p r rule row := { T with e := ex_but T.e m b, R := b _ _ (Ne.symm n1) T.R }
theorem Solo.lr (T : Solo a M H p r rule row) (h : H l = none) : l ≠ r := (ne_some T.R h).symm
theorem Solo.new (T : Solo a M H p r rule row) (h : H l = none) : M l = none := fresh_back T.e h
theorem Solo.turn (T : Solo a M H p r rule row) (b1 : But r H H1) (h1 : RowAt H1 r row') (hl : row'.length = row.length) (ok : Right rule row') : Solo a M H1 p r rule row' :=
  { e := ex_but T.e T.mr b1, y := by rw [hl]; exact T.y, mr := T.mr, R := h1, le := by rw [hl]; exact T.le, ok := ok }
theorem Solo.put (T : Solo a M H p r rule row) (hc : c ∉ names row) (hr : (names row).length + 1 < row.length) (b1 : But r H H1) (h1 : RowAt H1 r (putR rule row c).1) : Solo a M H1 p r rule (putR rule row c).1 := T.turn b1 h1 (putR_ok T.ok hc).1 (putR_right T.ok hc hr)
theorem Solo.take (T : Solo a M H p r rule row) (hs : row[s]? = some (some c)) (b1 : But r H H1) (h1 : RowAt H1 r (takeR row s).1) : Solo a M H1 p r rule (takeR row s).1 := T.turn b1 h1 (takeR_ok T.ok hs).1 (takeR_ok T.ok hs).2.2
theorem Solo.mono {M' : Hp} (T : Solo a M H p r rule row) (e : Ex M M') (e2 : Ex M' H) (m1 : M' r = none) : Solo a M' H p r rule row := { T with e := e2, y := let ⟨dx, h⟩ := T.y; ⟨dx, e _ _ h⟩, mr := m1 }
theorem Solo.fresh {q : Addr} {o : HO} (T : Solo a M H p r rule row) (hq : H q = none) (e : Ex H H1) (h : H1 q = some o) : ∃ M', Ex M M' ∧ Solo a M' H1 p r rule row ∧ M' q = some o := by
  have n := T.lr hq
  have ee : Ex M (wo H1 [r]) := ex_wo (T.e.trans e) fun b hb => by
    simp at hb
    subst hb
    exact T.mr
  exact ⟨wo H1 [r], ee, (T.ex e).mono ee (wo_ex _ _) (wo_none (by simp)), by rw [wo_get (by simp [n])]; exact h⟩
theorem Solo.mono' {M' : Hp} {row' : Row} (T' : Solo a M' H p r rule row') (e : Ex M M') (mr : M r = none) (y : YardAt a M p r row.length rule) (hl : row'.length = row.length) : Solo a M H p r rule row' := { T' with e := e.trans T'.e, y := by rw [hl]; exact y, mr := mr }
theorem Solo.start (Y : YR a H p r rule row) (ok : Right rule row) : Solo a (wo H [r]) H p r rule row :=
  { e := wo_ex _ _, y := let ⟨dx, h⟩ := Y.y; ⟨dx, by rw [wo_get (by simp [Y.ne])]; exact h⟩, mr := wo_none (by simp), R := Y.w, le := Y.le, ok := ok }
theorem Solo.back (T : Solo a M H p r rule row) (hl : row'.length = row.length) (T' : Solo a (wo H [r]) H1 p r rule row') : Solo a M H1 p r rule row' := by
  have eM : Ex M (wo H [r]) := ex_wo T.e fun b hb => by
    simp at hb
    subst hb
    exact T.mr
  exact { T' with e := eM.trans T'.e, y := by rw [hl]; exact T.y, mr := T.mr }
/-- the yard of the laws: slots 1 to 4 -/
theorem q_open4 {s : Addr} {ns : List Int} (hS : Ints K H s ns) (h0 : σ[0]? = some (some (.ref s))) (hl : 5 ≤ σ.length)
    (k : ∀ (M H1 : Hp) (p r : Addr) (rule n : Nat) (far : Bool), Ex H M → rule ≤ 2 → 2 ≤ n → n ≤ 200 → Solo a M H1 p r rule (List.replicate n none) → tz D ((((σ.set 1 (some (nV n))).set 2 (some (nV rule))).set 3 (some (.bl far))).set 4 (some (.ref p))) H1) :
    (tSeq (tAsg (tCall (sp_law_many K a) [] E0 (tCons (tCall (sp_law_cell K a) [] E0 (tCons (tVar 0) (tCons (tC (.int 0)) tNil))) tNil)) (gName 1))
    (tSeq (tAsg (tOp rModI (tCall (sp_law_cell K a) [] E0 (tCons (tVar 0) (tCons (tC (.int 1)) tNil))) (tC (.int 3))) (gName 2))
    (tSeq (tAsg (tOp rEq (tOp rModI (tOp rDivI (tCall (sp_law_cell K a) [] E0 (tCons (tVar 0) (tCons (tC (.int 1)) tNil))) (tC (.int 3))) (tC (.int 3))) (tC (.int 1))) (gName 3))
    (tSeq (tAsg (tMake a.Y (sp_Yard__init_ K a) [] E0 (tCons (tVar 1) (tCons (tVar 2) tNil))) (gName 4)) tz)))) D σ H := by
  have hm := manyOf_le (cellAt ns 0)
  refine q_asg (ev_manyOf 0 rfl (ev_var h0) hS) fun H1 e1 => ?_
  generalize manyOf (cellAt ns 0) = n at *
  refine q_asg (ev_rule3 1 rfl (ev_var (by rw [List.getElem?_set_ne (by decide)]; exact h0)) (hS.ex e1)) fun H2 e2 => ?_
  have hr := rule_le (cellAt ns 1)
  generalize (cellAt ns 1 % 3).toNat = rule at *
  refine q_asg (ev_op (ev_op (ev_op (ev_cell 1 rfl (ev_var (by rw [List.getElem?_set_ne (by decide), List.getElem?_set_ne (by decide)]; exact h0)) (hS.ex (e1.trans e2))) ev_c (rv_div (by decide))) ev_c (rv_mod (by decide))) ev_c rv_eqI) fun H3 e3 => ?_
  generalize decide (cellAt ns 1 / 3 % 3 = 1) = far
  have v1 : ∀ (i j : Nat) (x y : V), i ≠ 1 → j ≠ 1 → ((((σ.set 1 (some (nV n))).set i (some x)).set j (some y)))[1]? = some (some (nV n)) := fun i j x y h1 h2 => by
    rw [List.getElem?_set_ne h2, List.getElem?_set_ne h1]; exact List.getElem?_set_self (by omega)
  have v2 : ∀ (x : V), ((((σ.set 1 (some (nV n))).set 2 (some (nV rule))).set 3 (some x)))[2]? = some (some (nV rule)) := fun x => by
    rw [List.getElem?_set_ne (by decide)]; exact List.getElem?_set_self (by rw [List.length_set]; omega)
  refine q_make (many := (n : Int)) (ev_var (v1 _ _ _ _ (by decide) (by decide))) (ev_var (v2 _)) (by omega) (by omega) fun p r H4 hp hr0 hne e4 Y4 => ?_
  rw [Int.toNat_natCast] at Y4
  have e03 := (e1.trans e2).trans e3
  refine k (wo H4 [r]) H4 p r rule n far (ex_wo (e03.trans e4) ?_) hr hm.1 hm.2 (Solo.start Y4 (right_empty (by omega)))
  intro b hb
  simp at hb
  subst hb
  exact fresh_back e03 hr0
/-- for c in ns: yard.put(c) -/
theorem s_putAll {tl ty : TE} {ns : List Nat} (h : EvL tl σ H (ns.map nV)) (T : Solo a M H p r rule row) (nd : ns.Nodup) (dj : ∀ c, c ∈ ns → c ∉ names row) (room : (names row).length + ns.length < row.length) (hj : j < σ.length) (gy : ∀ v H', Ev ty (σ.set j v) H' (.ref p))
    (k : ∀ row' v H', Solo a M H' p r rule row' → row'.length = row.length → (names row').Perm (names row ++ ns) → D.nx (σ.set j v) H') : tFor (iList K tl) (gName j) (tDrop (tMeth a.Y "put" (sp_Yard_put K a) [] E0 ty (tCons (tVar j) tNil))) D σ H := by
  refine q_forNLn (D := D) (tz := fun D σ H => D.nx σ H) h (fun q i σ' H' => ∃ (M' : Hp) (row' : Row) (v : Option V), Ex M M' ∧ Solo a M' H' p r rule row' ∧ row'.length = row.length ∧ (names row').Perm (names row ++ ns.take i) ∧ M' q = some (.lst (ns.map nV)) ∧ σ' = σ.set j v) (fun q H1 hq e1 hq1 => ?_) (fun q i σ' H' _ ⟨M', row', v, _, T, _, _, hM, _⟩ => SqL.of (T.e _ _ hM)) (fun q i x σ' H' hi ⟨M', row', v, eM, T, hl, hp, hM, hσ⟩ => ?_) (fun q σ' H' ⟨M', row', v, eM, T', hl, hp, hM, hσ⟩ => ?_)
  · obtain ⟨M', eM', T', hM⟩ := T.fresh hq e1 hq1
    obtain ⟨v, hv⟩ := set_any σ j
    exact ⟨M', row, v, eM', T', rfl, by simp, hM, hv⟩
  · subst hσ
    obtain ⟨c, hc, rfl⟩ := nats_get hi
    have hcm := List.mem_of_getElem? hc
    have hsp := take_mid hc
    have hlt := (List.getElem?_eq_some_iff.mp hc).1
    have hcn : c ∉ names row' := fun z => by
      rcases List.mem_append.mp (hp.mem_iff.mp z) with z | z
      · exact dj c hcm z
      · rw [hsp] at nd
        exact (List.nodup_append.mp nd).2.2 c z c (List.mem_cons_self ..) rfl
    have hln := hp.length_eq
    rw [List.length_append, List.length_take, Nat.min_eq_left (by omega)] at hln
    rw [List.set_set]
    refine s_putD (gy _ _) (ev_var (List.getElem?_set_self hj)) T.Y T.ok hcn (by omega) fun H2 b2 Y2 => ⟨M', _, _, eM, T.put hcn (by omega) b2 Y2.w, by rw [(putR_ok T.ok hcn).1]; exact hl, ?_, hM, rfl⟩
    rw [take_next hc]
    refine (putR_ok T.ok hcn).2.1.trans ((hp.cons c).trans ?_)
    rw [← List.append_assoc]
    exact (List.perm_append_singleton c _).symm
  · subst hσ
    rw [List.length_map, List.take_length] at hp
    refine k row' v H' (T'.mono' eM T.mr T.y hl) hl hp
/-- for c in ns: yard.take(c) -/
theorem s_takeAll {tl ty : TE} {ns : List Nat} (h : EvL tl σ H (ns.map nV)) (T : Solo a M H p r rule row) (nd : ns.Nodup) (dj : ∀ c, c ∈ ns → c ∈ names row) (hj : j < σ.length) (gy : ∀ v H', Ev ty (σ.set j v) H' (.ref p))
    (k : ∀ row' v H', Solo a M H' p r rule row' → row'.length = row.length → (names row).Perm (names row' ++ ns) → D.nx (σ.set j v) H') : tFor (iList K tl) (gName j) (tDrop (tMeth a.Y "take" (sp_Yard_take K a) [] E0 ty (tCons (tVar j) tNil))) D σ H := by
  refine q_forNLn (D := D) (tz := fun D σ H => D.nx σ H) h (fun q i σ' H' => ∃ (M' : Hp) (row' : Row) (v : Option V), Ex M M' ∧ Solo a M' H' p r rule row' ∧ row'.length = row.length ∧ (names row).Perm (names row' ++ ns.take i) ∧ M' q = some (.lst (ns.map nV)) ∧ σ' = σ.set j v) (fun q H1 hq e1 hq1 => ?_) (fun q i σ' H' _ ⟨M', row', v, _, T, _, _, hM, _⟩ => SqL.of (T.e _ _ hM)) (fun q i x σ' H' hi ⟨M', row', v, eM, T, hl, hp, hM, hσ⟩ => ?_) (fun q σ' H' ⟨M', row', v, eM, T', hl, hp, hM, hσ⟩ => ?_)
  · obtain ⟨M', eM', T', hM⟩ := T.fresh hq e1 hq1
    obtain ⟨v, hv⟩ := set_any σ j
    exact ⟨M', row, v, eM', T', rfl, by simp, hM, hv⟩
  · subst hσ
    obtain ⟨c, hc, rfl⟩ := nats_get hi
    have hcm := List.mem_of_getElem? hc
    have hsp := take_mid hc
    have hcn : c ∈ names row' := by
      rcases List.mem_append.mp (hp.mem_iff.mp (dj c hcm)) with z | z
      · exact z
      · rw [hsp] at nd
        exact absurd rfl ((List.nodup_append.mp nd).2.2 c z c (List.mem_cons_self ..))
    obtain ⟨st, hst⟩ := mem_names.mp hcn
    rw [List.set_set]
    refine s_takeD (gy _ _) (ev_var (List.getElem?_set_self hj)) T.Y T.ok hst fun H2 b2 Y2 => ⟨M', _, _, eM, T.take hst b2 Y2.w, by rw [(takeR_ok T.ok hst).1]; exact hl, ?_, hM, rfl⟩
    rw [take_next hc, ← List.append_assoc]
    exact hp.trans (((takeR_ok T.ok hst).2.1.symm.append_right _).trans (List.perm_append_singleton c _).symm)
  · subst hσ
    rw [List.length_map, List.take_length] at hp
    refine k row' v H' (T'.mono' eM T.mr T.y hl) hl hp
end
end SY

namespace SY
open PySem L2 Evl
def sp_law_mixed (K : PySem.W.Frag) (a : Ad) : Sp := fun vs H Q _ => ∃ (cell : Int) (l : Addr) (ns : List Nat), vs = [.int cell, .ref l] ∧ H l = some (.lst (ns.map nV)) ∧ ns.length ≤ 1000 ∧ ∀ ms : List Nat, ms.Perm ns → RetL (ms.map nV) H Q
def sp_law_taken17 (K : PySem.W.Frag) (a : Ad) : Sp := fun vs H Q _ => ∃ (p r : Addr) (rule : Nat) (row : Row), vs = [.ref p] ∧ YR a H p r rule row ∧ RetL ((row.map (·.isSome)).map V.bl) H Q
abbrev N_law_mixed : List Str := ["cell", "row", "left", "mixed"]
def t_law_mixed (K : PySem.W.Frag) (a : Ad) (E : XK) : TS :=
  (tSeq (tAsg (tCB (rListL K) (tCons (tVar 1) tNil)) (gName 2))
  (tSeq (tAsg (tLst tNil) (gName 3))
  (tSeq (tWhile (tTest (tOp (rNeD K) (tVar 2) (tLst tNil))) (tSeq (tAsg (tOp rModI (tOp rAddI (tOp rMulI (tVar 0) (tC (.int 48271))) (tC (.int 11))) (tC (.int 2147483647))) (gName 0))
  (tDrop (tBM K "list" rAppend (tVar 3) (tCons (tBM K "list" rPopAt (tVar 2) (tCons (tOp rModI (tVar 0) (tCB (rLenL K) (tCons (tVar 2) tNil))) tNil)) tNil)))))
  (tRet (tVar 3)))))
abbrev N_law_taken17 : List Str := ["yard", "found", "name"]
def t_law_taken17 (K : PySem.W.Frag) (a : Ad) (E : XK) : TS :=
  (tSeq (tAsg (tMeth a.Y "stalls" (sp_Yard_stalls K a) [] E0 (tVar 0) tNil) (gName 1))
  (tSeq (tIfS (tNot (tB (tCB (rIsi K) (tCons (tVar 1) (tCons (tC (.ty "list")) tNil))))) (tRet (tLst tNil)) tNext)
  (tRet (tLc (iList K (tVar 1)) (gName 2) tYes (tNotN (tVar 2)) [2]))))
section
variable {K : PySem.W.Frag} {a : Ad} {M H H' H1 H2 : Hp} {σ : L2.St} {D : Ends} {tz : TS} {p r w l : Addr} {rule c n s j : Nat} {row row' : Row}
theorem Solo.keep {q : Addr} {o : HO} (T : Solo a M H p r rule row) (n : q ≠ r) (h : H q = some o) : ∃ M', Ex M M' ∧ Solo a M' H p r rule row ∧ M' q = some o := by
  have ee : Ex M (wo H [r]) := ex_wo T.e fun b hb => by
    simp at hb
    subst hb
    exact T.mr
  exact ⟨wo H [r], ee, T.mono ee (wo_ex _ _) (wo_none (by simp)), by rw [wo_get (by simp [n])]; exact h⟩
theorem s_putAllV {tl ty : TE} {ns : List Nat} (gl : Ev tl σ H (.ref l)) (hl0 : H l = some (.lst (ns.map nV))) (nlr : l ≠ r) (T : Solo a M H p r rule row) (nd : ns.Nodup) (dj : ∀ c, c ∈ ns → c ∉ names row) (room : (names row).length + ns.length < row.length) (hj : j < σ.length) (gy : ∀ v H', Ev ty (σ.set j v) H' (.ref p))
    (k : ∀ row' v H', Solo a M H' p r rule row' → row'.length = row.length → (names row').Perm (names row ++ ns) → D.nx (σ.set j v) H') : tFor (iList K tl) (gName j) (tDrop (tMeth a.Y "put" (sp_Yard_put K a) [] E0 ty (tCons (tVar j) tNil))) D σ H := by
  refine q_forLn (D := D) (tz := fun D σ H => D.nx σ H) gl (SqL.of hl0) (fun i σ' H' => ∃ (M' : Hp) (row' : Row) (v : Option V), Ex M M' ∧ Solo a M' H' p r rule row' ∧ row'.length = row.length ∧ (names row').Perm (names row ++ ns.take i) ∧ M' l = some (.lst (ns.map nV)) ∧ σ' = σ.set j v) (fun H1 e1 => ?_) (fun i σ' H' _ ⟨M', row', v, _, T, _, _, hM, _⟩ => SqL.of (T.e _ _ hM)) (fun i x σ' H' hi ⟨M', row', v, eM, T, hl, hp, hM, hσ⟩ => ?_) (fun σ' H' ⟨M', row', v, eM, T', hl, hp, hM, hσ⟩ => ?_)
  · obtain ⟨M', eM', T', hM⟩ := T.keep nlr hl0
    obtain ⟨v, hv⟩ := set_any σ j
    exact ⟨M', row, v, eM', T'.ex e1, rfl, by simp, hM, hv⟩
  · subst hσ
    obtain ⟨c, hc, rfl⟩ := nats_get hi
    have hcm := List.mem_of_getElem? hc
    have hsp := take_mid hc
    have hlt := (List.getElem?_eq_some_iff.mp hc).1
    have hcn : c ∉ names row' := fun z => by
      rcases List.mem_append.mp (hp.mem_iff.mp z) with z | z
      · exact dj c hcm z
      · rw [hsp] at nd
        exact (List.nodup_append.mp nd).2.2 c z c (List.mem_cons_self ..) rfl
    have hln := hp.length_eq
    rw [List.length_append, List.length_take, Nat.min_eq_left (by omega)] at hln
    rw [List.set_set]
    refine s_putD (gy _ _) (ev_var (List.getElem?_set_self hj)) T.Y T.ok hcn (by omega) fun H2 b2 Y2 => ⟨M', _, _, eM, T.put hcn (by omega) b2 Y2.w, by rw [(putR_ok T.ok hcn).1]; exact hl, ?_, hM, rfl⟩
    rw [take_next hc]
    refine (putR_ok T.ok hcn).2.1.trans ((hp.cons c).trans ?_)
    rw [← List.append_assoc]
    exact (List.perm_append_singleton c _).symm
  · subst hσ
    rw [List.length_map, List.take_length] at hp
    refine k row' v H' (T'.mono' eM T.mr T.y hl) hl hp
theorem s_takeAllV {tl ty : TE} {ns : List Nat} (gl : Ev tl σ H (.ref l)) (hl0 : H l = some (.lst (ns.map nV))) (nlr : l ≠ r) (T : Solo a M H p r rule row) (nd : ns.Nodup) (dj : ∀ c, c ∈ ns → c ∈ names row) (hj : j < σ.length) (gy : ∀ v H', Ev ty (σ.set j v) H' (.ref p))
    (k : ∀ row' v H', Solo a M H' p r rule row' → row'.length = row.length → (names row).Perm (names row' ++ ns) → D.nx (σ.set j v) H') : tFor (iList K tl) (gName j) (tDrop (tMeth a.Y "take" (sp_Yard_take K a) [] E0 ty (tCons (tVar j) tNil))) D σ H := by
  refine q_forLn (D := D) (tz := fun D σ H => D.nx σ H) gl (SqL.of hl0) (fun i σ' H' => ∃ (M' : Hp) (row' : Row) (v : Option V), Ex M M' ∧ Solo a M' H' p r rule row' ∧ row'.length = row.length ∧ (names row).Perm (names row' ++ ns.take i) ∧ M' l = some (.lst (ns.map nV)) ∧ σ' = σ.set j v) (fun H1 e1 => ?_) (fun i σ' H' _ ⟨M', row', v, _, T, _, _, hM, _⟩ => SqL.of (T.e _ _ hM)) (fun i x σ' H' hi ⟨M', row', v, eM, T, hl, hp, hM, hσ⟩ => ?_) (fun σ' H' ⟨M', row', v, eM, T', hl, hp, hM, hσ⟩ => ?_)
  · obtain ⟨M', eM', T', hM⟩ := T.keep nlr hl0
    obtain ⟨v, hv⟩ := set_any σ j
    exact ⟨M', row, v, eM', T'.ex e1, rfl, by simp, hM, hv⟩
  · subst hσ
    obtain ⟨c, hc, rfl⟩ := nats_get hi
    have hcm := List.mem_of_getElem? hc
    have hsp := take_mid hc
    have hcn : c ∈ names row' := by
      rcases List.mem_append.mp (hp.mem_iff.mp (dj c hcm)) with z | z
      · exact z
      · rw [hsp] at nd
        exact absurd rfl ((List.nodup_append.mp nd).2.2 c z c (List.mem_cons_self ..))
    obtain ⟨st, hst⟩ := mem_names.mp hcn
    rw [List.set_set]
    refine s_takeD (gy _ _) (ev_var (List.getElem?_set_self hj)) T.Y T.ok hst fun H2 b2 Y2 => ⟨M', _, _, eM, T.take hst b2 Y2.w, by rw [(takeR_ok T.ok hst).1]; exact hl, ?_, hM, rfl⟩
    rw [take_next hc, ← List.append_assoc]
    exact hp.trans (((takeR_ok T.ok hst).2.1.symm.append_right _).trans (List.perm_append_singleton c _).symm)
  · subst hσ
    rw [List.length_map, List.take_length] at hp
    refine k row' v H' (T'.mono' eM T.mr T.y hl) hl hp
/-- a new list of which something is told -/
def EvP (te : TE) (σ : L2.St) (H : Hp) (P : List Nat → Prop) : Prop := ∀ H1, Ex H H1 → ∀ Q : VK, (∀ ms, P ms → ∀ p H2, H1 p = none → Ex H1 H2 → H2 p = some (.lst (ms.map nV)) → Q (.ref p) H2) → te σ H1 Q
theorem s_forP {tl : TE} {tu : TS} {P : List Nat → Prop} (h : EvP tl σ H P) (k : ∀ ms, P ms → ∀ p H1, H p = none → Ex H H1 → H1 p = some (.lst (ms.map nV)) → tFor (iList K (tC (.ref p))) (gName j) tu D σ H1) : tFor (iList K tl) (gName j) tu D σ H :=
  h H (Ex.refl H) _ fun ms hP p H1 hp e h1 => k ms hP p H1 hp e h1
theorem q_forP {tl : TE} {tu : TS} {P : List Nat → Prop} (h : EvP tl σ H P) (k : ∀ ms, P ms → ∀ p H1, H p = none → Ex H H1 → H1 p = some (.lst (ms.map nV)) → tSeq (tFor (iList K (tC (.ref p))) (gName j) tu) tz D σ H1) : tSeq (tFor (iList K tl) (gName j) tu) tz D σ H :=
  h H (Ex.refl H) _ fun ms hP p H1 hp e h1 => k ms hP p H1 hp e h1
theorem erase_map {α β : Type} (f : α → β) (xs : List α) (j : Nat) : (xs.map f).eraseIdx j = (xs.eraseIdx j).map f := by
  rw [List.eraseIdx_eq_take_drop_succ, List.eraseIdx_eq_take_drop_succ, List.map_append, List.map_take, List.map_drop]
/-- the list's cart at j is popped -/
theorem w_pop {tl ti : TE} {xs : List Nat} {Q : VK} (gl : Ev tl σ H (.ref l)) (hl : H l = some (.lst (xs.map nV))) (gi : Ev ti σ H (nV j)) (hj : xs[j]? = some c)
    (hz : xs.length ≤ 100000) (k : ∀ H1, But l H H1 → H1 l = some (.lst ((xs.eraseIdx j).map nV)) → Q (nV c) H1) : tBM K "list" rPopAt tl (tCons ti tNil) σ H Q := by
  have hjl := (List.getElem?_eq_some_iff.mp hj).1
  refine gl H (Ex.refl H) _ fun H1 e1 => ⟨Or.inl ⟨rfl, _, SqL.of (e1 _ _ hl)⟩, gi H1 e1 _ fun H2 e2 => ⟨l, xs.map nV, (j : Int), j, nV c, rfl, rfl, (e1.trans e2) _ _ hl, by omega, by omega, ?_, ?_, ?_⟩⟩
  · rw [List.length_map]
    have := seqIndex_of (k := (j : Int)) (n := xs.length) (by omega) (by omega)
    rw [Int.toNat_natCast] at this
    exact this
  · rw [List.getElem?_map, hj]; rfl
  · refine k _ ((But.of (e1.trans e2)).trans But.upd) ?_
    rw [upd_same, erase_map]
/-- mixed.append(left.pop(j)) -/
theorem s_appPop {tm tl ti : TE} {lm : Addr} {acc xs : List Nat} (gm : Ev tm σ H (.ref lm)) (hm : H lm = some (.lst (acc.map nV))) (n : lm ≠ l) (gl : Ev tl σ H (.ref l)) (hl : H l = some (.lst (xs.map nV))) (gi : Ev ti σ H (nV j)) (hj : xs[j]? = some c)
    (hz : xs.length ≤ 100000) (hz2 : acc.length < 100000) (k : ∀ H1, But l H H1 → H1 l = some (.lst ((xs.eraseIdx j).map nV)) → D.nx σ (upd H1 lm (.lst ((acc ++ [c]).map nV)))) : tDrop (tBM K "list" rAppend tm (tCons (tBM K "list" rPopAt tl (tCons ti tNil)) tNil)) D σ H :=
  gm H (Ex.refl H) _ fun H1 e1 => ⟨Or.inl ⟨rfl, _, SqL.of (e1 _ _ hm)⟩, w_pop (Q := fun v H2 => rAppend (.ref lm) [v] H2 (fun _ H' => D.nx σ H')) (gl.mono e1) (e1 _ _ hl) (gi.mono e1) hj hz fun H2 b2 h2 => ⟨lm, acc.map nV, nV c, rfl, rfl, b2 _ _ n (e1 _ _ hm), sz_lt (by rw [List.length_map]; exact hz2), by
    have := k H2 ((But.of e1).trans b2) h2
    rw [List.map_append] at this
    exact this⟩⟩
theorem erase_perm {α : Type} {xs : List α} {j : Nat} {c : α} (h : xs[j]? = some c) : (c :: xs.eraseIdx j).Perm xs := by
  have e := take_mid h
  rw [List.eraseIdx_eq_take_drop_succ]
  conv => rhs; rw [e]
  exact List.perm_middle.symm
theorem ev_lcg {tc : TE} {z : Int} (h : Ev tc σ H (.int z)) : Ev (tOp rModI (tOp rAddI (tOp rMulI tc (tC (.int 48271))) (tC (.int 11))) (tC (.int 2147483647))) σ H (.int ((z * 48271 + 11) % 2147483647)) :=
  ev_op (ev_op (ev_op h ev_c (rv_mulR (by decide))) ev_c rv_add) ev_c (rv_mod (by decide))
theorem ev_idx {tc tl : TE} {z : Int} {xs : List Nat} (hc : Ev tc σ H (.int z)) (gl : Ev tl σ H (.ref l)) (hl : H l = some (.lst (xs.map nV))) (h0 : 0 < xs.length) : Ev (tOp rModI tc (tCB (rLenL K) (tCons tl tNil))) σ H (nV (z % (xs.length : Int)).toNat) :=
  ev_nat (ev_op hc (ev_lenN' gl hl) (rv_mod (by omega))) (Int.emod_nonneg _ (by omega))
theorem idx_lt (z : Int) {n : Nat} (h : 0 < n) : (z % (n : Int)).toNat < n := by
  have h1 := Int.emod_nonneg z (show (n : Int) ≠ 0 by omega)
  have h2 := Int.emod_lt_of_pos z (show (0 : Int) < (n : Int) by omega)
  omega
theorem r_law_mixed (vs : List V) (H : Hp) (Q : VK) (E : XK) (h : sp_law_mixed K a vs H Q E) : Go (t_law_mixed K a E) N_law_mixed vs H Q := by
  obtain ⟨cell, l, ns, rfl, hl, hz, k⟩ := h
  refine q_asgL (el_list (ev_var rfl) (SqL.of hl)) fun lf H1 hlf e1 h1 => ?_
  refine q_asgL (el_lst ea_nil (by decide)) fun lm H2 hlm e2 h2 => ?_
  have nfm : lf ≠ lm := ne_some h1 hlm
  have hlm0 := fresh_back e1 hlm
  refine q_while (fun m σ' H' => ∃ (z : Int) (acc rest : List Nat), σ' = [some (.int z), some (.ref l), some (.ref lf), some (.ref lm)] ∧ m = rest.length ∧ Ex H H' ∧ H' lf = some (.lst (rest.map nV)) ∧ H' lm = some (.lst (acc.map nV)) ∧ (acc ++ rest).Perm ns) ns.length ⟨cell, [], ns, rfl, rfl, e1.trans e2, e2 _ _ h1, h2, List.Perm.refl _⟩ ?_
  rintro m σ' H' ⟨z, acc, rest, rfl, rfl, e, hf, hm, hp⟩
  have hln := hp.length_eq
  rw [List.length_append] at hln
  refine ⟨!rest.isEmpty, et_neNil (ev_var rfl) hf, fun hb H3 e3 => ?_, fun hb H3 e3 => ?_⟩
  · have h0 : 0 < rest.length := by cases rest with | nil => cases hb | cons x r => exact Nat.succ_pos _
    refine ⟨fun σ2 H2 => ∃ (z : Int) (acc rest2 : List Nat), σ2 = [some (.int z), some (.ref l), some (.ref lf), some (.ref lm)] ∧ rest2.length + 1 = rest.length ∧ Ex H H2 ∧ H2 lf = some (.lst (rest2.map nV)) ∧ H2 lm = some (.lst (acc.map nV)) ∧ (acc ++ rest2).Perm ns, fun σ2 H2 ⟨z, acc, rest2, h1, h2, h3⟩ => ⟨rest2.length, by omega, z, acc, rest2, h1, rfl, h3⟩, ?_⟩
    refine q_asg (ev_lcg (ev_var rfl)) fun H4 e4 => ?_
    generalize (z * 48271 + 11) % 2147483647 = z2
    have e34 := e3.trans e4
    have hj := idx_lt z2 h0
    have hg := List.getElem?_eq_getElem hj
    refine s_appPop (ev_var rfl) (e34 _ _ hm) nfm.symm (ev_var rfl) (e34 _ _ hf) (ev_idx (ev_var rfl) (ev_var rfl) (e34 _ _ hf) h0) hg (by omega) (by omega) fun H6 b6 h6 => ?_
    have E6 : Ex H H6 := ex_but (e.trans e34) hlf b6
    refine ⟨z2, acc ++ [rest[(z2 % (rest.length : Int)).toNat]], rest.eraseIdx (z2 % (rest.length : Int)).toNat, rfl, ?_, Ex.mut E6 hlm0, ?_, upd_same, ?_⟩
    · rw [List.length_eraseIdx_of_lt hj]; omega
    · rw [upd_ne nfm]; exact h6
    · rw [List.append_assoc]
      exact ((erase_perm hg).append_left acc).trans hp
  · have : rest = [] := by cases rest with | nil => rfl | cons x r => cases hb
    subst this
    rw [List.append_nil] at hp
    exact s_ret (ev_var rfl) fun H4 e4 => k acc hp lm H4 hlm0 ((e.trans e3).trans e4) ((e3.trans e4) _ _ hm)
/-- mixed(cell, names): some order of them -/
theorem w_mixed {tc tl : TE} {cell : Int} {ns : List Nat} {Q : VK} (gc : Ev tc σ H (.int cell)) (gl : Ev tl σ H (.ref l)) (hl : H l = some (.lst (ns.map nV))) (hz : ns.length ≤ 1000)
    (k : ∀ ms : List Nat, ms.Perm ns → ∀ q H1, H q = none → Ex H H1 → H1 q = some (.lst (ms.map nV)) → Q (.ref q) H1) : tCall (sp_law_mixed K a) [] E0 (tCons tc (tCons tl tNil)) σ H Q :=
  w_callA (ea_cons gc (ea_cons gl ea_nil)) fun H1 e1 => ⟨cell, l, ns, rfl, e1 _ _ hl, hz, fun ms hp q H2 hq e2 h2 => k ms hp q H2 (fresh_back e1 hq) (e1.trans e2) h2⟩
theorem ep_mixed {tc tl : TE} {cell : Int} {ns : List Nat} (gc : Ev tc σ H (.int cell)) (gl : Ev tl σ H (.ref l)) (hl : H l = some (.lst (ns.map nV))) (hz : ns.length ≤ 1000) : EvP (tCall (sp_law_mixed K a) [] E0 (tCons tc (tCons tl tNil))) σ H (fun ms => ms.Perm ns) := fun H1 e1 Q q =>
  w_mixed (gc.mono e1) (gl.mono e1) (e1 _ _ hl) hz fun ms hp p H2 hp2 e2 h2 => q ms hp p H2 hp2 e2 h2
theorem Solo.start2 {g : Addr} (Y : YR a H p r rule row) (ok : Right rule row) (n : p ≠ g) : Solo a (wo H [r, g]) H p r rule row :=
  { e := wo_ex _ _, y := let ⟨dx, h⟩ := Y.y; ⟨dx, by rw [wo_get (by simp [Y.ne, n])]; exact h⟩, mr := wo_none (by simp), R := Y.w, le := Y.le, ok := ok }
theorem Solo.fresh2 {g q : Addr} {o og : HO} (T : Solo a M H p r rule row) (mg : M g = none) (hg : H g = some og) (hq : H q = none) (e : Ex H H1) (h : H1 q = some o) : ∃ M', Ex M M' ∧ Solo a M' H1 p r rule row ∧ M' g = none ∧ M' q = some o := by
  have n := T.lr hq
  have n2 := (ne_some hg hq).symm
  have ee : Ex M (wo H1 [r, g]) := ex_wo (T.e.trans e) fun b hb => by
    simp at hb
    rcases hb with rfl | rfl
    · exact T.mr
    · exact mg
  exact ⟨wo H1 [r, g], ee, (T.ex e).mono ee (wo_ex _ _) (wo_none (by simp)), wo_none (by simp), by rw [wo_get (by simp [n, n2])]; exact h⟩
/-- [name is None for name in row] and the like -/
theorem el_mapRow {tl te : TE} {j : Nat} {g : Option Nat → V} (h : Ev tl σ H (.ref l)) (hx : RowAt H l row) (hz : row.length ≤ 40000) (he : ∀ o H1, Ex H H1 → Ev te ((wipe σ [j]).set j (some (oV o))) H1 (g o)) :
    EvL (tLc (iList K tl) (gName j) tYes te [j]) σ H (row.map g) := by
  have := el_lcL (K := K) (te := te) (t := tYes) (vs := [j]) (j := j) (fun i => true) (fun i => g (row.getD i none)) h (SqL.of hx) (by rw [rowV_len]; exact hz) (fun x => by
      show (((σ.set j none).set j (some x)).set j none) = σ.set j none
      rw [List.set_set, List.set_set])
    (fun i x H1 e1 hi => fun H2 e2 Q q => q H2 (Ex.refl H2)) (fun i x H1 e1 hi hf => ?_)
  · rw [rowV_len] at this
    have e : given row.length (fun i => true) (fun i => g (row.getD i none)) = row.map g := by
      have := given_opt (α := Option Nat) (fun o => some o) g row (fun i => true) (fun i => g (row.getD i none)) (fun i x hi => ⟨rfl, fun y hy => by
        have : row.getD i none = x := by rw [List.getD_eq_getElem?_getD, hi]; rfl
        rw [this, Option.some.inj hy]⟩)
      rw [this, List.filterMap_some]
    rw [e] at this
    exact this
  · obtain ⟨o, ho, rfl⟩ := row_get hi
    have : row.getD i none = o := by rw [List.getD_eq_getElem?_getD, ho]; rfl
    rw [this]
    exact he o H1 e1
theorem el_isNones {tl : TE} {j : Nat} (h : Ev tl σ H (.ref l)) (hx : RowAt H l row) (hz : row.length ≤ 40000) (hj : j < σ.length) : EvL (tLc (iList K tl) (gName j) tYes (tIsN (tVar j)) [j]) σ H ((row.map (·.isNone)).map V.bl) := by
  rw [List.map_map]
  refine el_mapRow h hx hz fun o H1 e1 => bl_is (ev_isN (ev_var (v := oV o) ?_)) (by cases o <;> rfl)
  rw [List.getElem?_set_self]
  rw [wipe_length]; exact hj
theorem el_notNones {tl : TE} {j : Nat} (h : Ev tl σ H (.ref l)) (hx : RowAt H l row) (hz : row.length ≤ 40000) (hj : j < σ.length) : EvL (tLc (iList K tl) (gName j) tYes (tNotN (tVar j)) [j]) σ H ((row.map (·.isSome)).map V.bl) := by
  rw [List.map_map]
  refine el_mapRow h hx hz fun o H1 e1 => bl_is (ev_notN (ev_var (v := oV o) ?_)) (by cases o <;> rfl)
  rw [List.getElem?_set_self]
  rw [wipe_length]; exact hj
theorem et_neBoolsL {ta tb : TE} {A B : List Bool} (h1 : EvL ta σ H (A.map V.bl)) (h2 : EvL tb σ H (B.map V.bl)) : EvT (tTest (tOp (rNeD K) ta tb)) σ H (!decide (A = B)) :=
  et_test (ev_opLL h1 h2 fun p q H1 hp hq e1 => fun H2 e2 Q q' => ⟨_, _, .lst (SqL.of (e2 _ _ hp)) (dp_bools A), .lst (SqL.of (e2 _ _ hq)) (dp_bools B), shaped_list lay_dB A, shaped_list lay_dB B, by
    rw [PyData.eqv, eqv_all eqv_dB]
    exact q' H2 (Ex.refl H2)⟩)
theorem r_law_taken17 (vs : List V) (H : Hp) (Q : VK) (E : XK) (h : sp_law_taken17 K a vs H Q E) : Go (t_law_taken17 K a E) N_law_taken17 vs H Q := by
  obtain ⟨p, r, rule, row, rfl, Y, k⟩ := h
  refine q_asgL (el_stalls (ev_var rfl) Y) fun l H1 hl e1 h1 => ?_
  refine q_when (et_not (et_B (ev_isi (b := true) (ev_var rfl) ev_c (.ty _) (fun H2 e2 => .base (.lst (e2 _ _ h1))) (kit_ty (by decide +kernel))))) (fun hb => by cases hb) (fun _ H2 e2 => ?_)
  have hle := Y.le
  exact s_retL (el_notNones (ev_var rfl) (e2 _ _ h1) (by omega) (Nat.le_of_ble_eq_true rfl)) fun q H3 hq e3 h3 => k q H3 (fresh_back (e1.trans e2) hq) ((e1.trans e2).trans e3) h3
theorem isSome_of {A B : Row} (h : A.map (·.isNone) = B.map (·.isNone)) : A.map (·.isSome) = B.map (·.isSome) := by
  have e : ∀ R : Row, R.map (·.isSome) = (R.map (·.isNone)).map (!·) := fun R => by
    rw [List.map_map]
    exact List.map_congr_left fun o _ => by cases o <;> rfl
  rw [e, e, h]
end
end SY

namespace SY
open PySem L2 Evl
/-- several yards -/
structure Sy (a : Ad) (k : Nat) (M H : Hp) (P R : Nat → Addr) (RU : Nat → Nat) (ROW : Nat → Row) : Prop where
  t : ∀ i, i < k → Solo a M H (P i) (R i) (RU i) (ROW i)
  d : ∀ i j, i < k → j < k → i ≠ j → R i ≠ R j
section
variable {K : PySem.W.Frag} {a : Ad} {M H H' H1 H2 : Hp} {k i : Nat} {P R : Nat → Addr} {RU : Nat → Nat} {ROW : Nat → Row} {row : Row}
theorem Sy.ex (Y : Sy a k M H P R RU ROW) (e : Ex H H') : Sy a k M H' P R RU ROW := ⟨fun i hi => (Y.t i hi).ex e, Y.d⟩
theorem Sy.act (Y : Sy a k M H P R RU ROW) (hi : i < k) : Solo a (wo H [R i]) H (P i) (R i) (RU i) (ROW i) := by
  have T := Y.t i hi
  refine T.mono (ex_wo T.e fun b hb => ?_) (wo_ex _ _) (wo_none (by simp))
  simp at hb
  subst hb
  exact T.mr
theorem Sy.back (Y : Sy a k M H P R RU ROW) (hi : i < k) (hl : row.length = (ROW i).length) (T' : Solo a (wo H [R i]) H1 (P i) (R i) (RU i) row) : Sy a k M H1 P R RU (up ROW i row) := by
  have T := Y.t i hi
  have eM : Ex M (wo H [R i]) := ex_wo T.e fun b hb => by
    simp at hb
    subst hb
    exact T.mr
  refine ⟨fun j hj => ?_, Y.d⟩
  by_cases hji : j = i
  · subst hji
    rw [up_same]
    exact { T' with e := eM.trans T'.e, y := by rw [hl]; exact T.y, mr := T.mr }
  · rw [up_ne hji]
    have Tj := Y.t j hj
    have d := Y.d j i hj hi hji
    exact { Tj with e := eM.trans T'.e, R := T'.e _ _ (by rw [wo_get (by simp [d])]; exact Tj.R) }
theorem Sy.mono {M' : Hp} (Y : Sy a k M H P R RU ROW) (e : Ex M M') (e2 : Ex M' H) (m : ∀ i, i < k → M' (R i) = none) : Sy a k M' H P R RU ROW := ⟨fun i hi => (Y.t i hi).mono e e2 (m i hi), Y.d⟩
theorem Sy.fresh {q : Addr} {o : HO} (Y : Sy a k M H P R RU ROW) (hq : H q = none) (e : Ex H H1) (h : H1 q = some o) (hk : 0 < k) : ∃ M', Ex M M' ∧ Sy a k M' H1 P R RU ROW ∧ M' q = some o := by
  let S := (List.range k).map R
  have hS : ∀ b, b ∈ S → M b = none := fun b hb => by
    simp only [S, List.mem_map, List.mem_range] at hb
    obtain ⟨i, hi, rfl⟩ := hb
    exact (Y.t i hi).mr
  have hqS : q ∉ S := fun hb => by
    simp only [S, List.mem_map, List.mem_range] at hb
    obtain ⟨i, hi, z⟩ := hb
    exact (Y.t i hi).lr hq z.symm
  have ee : Ex M (wo H1 S) := ex_wo ((Y.t 0 hk).e.trans e) hS
  exact ⟨wo H1 S, ee, (Y.ex e).mono ee (wo_ex _ _) fun i hi => wo_none (List.mem_map.mpr ⟨i, List.mem_range.mpr hi, rfl⟩), by rw [wo_get hqS]; exact h⟩
end
theorem q_asgVL {σ : L2.St} {H : Hp} {D : Ends} {tz : TS} {t1 t2 : TE} {i : Nat} {x : V} {ys : List V} (h1 : Ev t1 σ H x) (h2 : EvL t2 σ H ys)
    (k : ∀ p v H1, H p = none → H v = none → p ≠ v → Ex H H1 → H1 p = some (.lst [x, .ref v]) → H1 v = some (.lst ys) → tz D (σ.set i (some (.ref p))) H1) :
    tSeq (tAsg (tLst (tCons t1 (tCons t2 tNil))) (gName i)) tz D σ H :=
  h1 H (Ex.refl H) _ fun H1 e1 => h2 H1 e1 _ fun v H2 hv e2 hv2 => ⟨sz_of (by show 2 ≤ 100000; decide), fun p hp => k p v _ (fresh_back (e1.trans e2) hp) (fresh_back e1 hv) (ne_some hv2 hp).symm ((e1.trans e2).trans (Ex.new hp)) upd_same ((Ex.new hp) _ _ hv2)⟩
def upA {α : Type} (f : Nat → α) (i : Nat) (x : α) : Nat → α := fun j => if j = i then x else f j
theorem upA_same {α : Type} {f : Nat → α} {i : Nat} {x : α} : upA f i x i = x := if_pos rfl
theorem upA_ne {α : Type} {f : Nat → α} {i j : Nat} {x : α} (h : j ≠ i) : upA f i x j = f j := if_neg h
theorem cutG_sub {α : Type} (xs : List α) (lo hi : Option Int) : (cutG xs lo hi).Sublist xs := (List.take_sublist ..).trans (List.drop_sublist ..)
theorem range_map_succ {α : Type} (f : Nat → α) (i : Nat) : (List.range (i + 1)).map f = (List.range i).map f ++ [f i] := by rw [List.range_succ, List.map_append]; rfl
theorem split_perm {A G : List Nat} (nd : A.Nodup) (hs : G.Sublist A) : A.Perm (A.filter (fun c => decide (c ∉ G)) ++ G) := by
  refine nodup_len nd ?_ fun c => ?_
  · rw [List.nodup_append]
    refine ⟨nd.filter _, hs.nodup nd, fun x hx y hy z => ?_⟩
    subst z
    have := (List.mem_filter.mp hx).2
    simp at this
    exact this hy
  · rw [List.mem_append, List.mem_filter]
    constructor
    · intro h
      by_cases hg : c ∈ G
      · exact .inr hg
      · exact .inl ⟨h, by simp [hg]⟩
    · rintro (z | z)
      · exact z.1
      · exact hs.subset z
end SY

namespace SY
open PySem L2 Evl
def sp_law_other_way16 (K : PySem.W.Frag) (a : Ad) : Sp := fun vs H Q _ => ∃ (p r l1 l2 : Addr) (rule : Nat) (row : Row) (ms st : List Nat) (cell : Int), vs = [.ref p, .ref l1, .ref l2, .int cell] ∧ YR a H p r rule row ∧ Right rule row ∧ names row = [] ∧ H l1 = some (.lst (ms.map nV)) ∧ H l2 = some (.lst (st.map nV)) ∧ l1 ≠ r ∧ l2 ≠ r ∧ ms.Nodup ∧ st.Nodup ∧ (∀ c, c ∈ st → c ∉ ms) ∧ ms.length < row.length ∧ st.length ≤ 200 ∧
  ∀ (row' : Row) (H' : Hp), But r H H' → RowAt H' r row' → row'.length = row.length → Right rule row' → (names row').Perm ms → Q .non H'
def sp_law_alike (K : PySem.W.Frag) (a : Ad) : Sp := fun vs H Q _ => ∃ (p1 r1 p2 r2 : Addr) (rule1 rule2 : Nat) (row : Row), vs = [.ref p1, .ref p2] ∧ YR a H p1 r1 rule1 row ∧ YR a H p2 r2 rule2 row ∧ RetV (.bl true) H Q
abbrev N_law_other_way16 : List Str := ["yard", "names", "strangers", "cell", "guests", "at", "name", "guest"]
def t_law_other_way16 (K : PySem.W.Frag) (a : Ad) (E : XK) : TS :=
  (tSeq (tAsg (tLst tNil) (gName 4))
  (tSeq (tFor (iEnum K (tCons (tVar 1) tNil)) (gTup K 2 (gCons (gName 5) (gCons (gName 6) gNil))) (tSeq (tAsg (tOp rModI (tOp rAddI (tOp rMulI (tVar 3) (tC (.int 48271))) (tC (.int 11))) (tC (.int 2147483647))) (gName 3))
  (tCut (tIfS (tAnd (tTest (tOp rLtI (tVar 5) (tCB (rLenL K) (tCons (tVar 2) tNil)))) (tTest (tOp rLtI (tOp rAddI (tOp rAddI (tCB (rLenL K) (tCons (tVar 1) tNil)) (tCB (rLenL K) (tCons (tVar 4) tNil))) (tC (.int 1))) (tFld K (tVar 0) "many")))) (tSeq (tDrop (tMeth a.Y "put" (sp_Yard_put K a) [] E0 (tVar 0) (tCons (tOp (rIxL K) (tVar 2) (tVar 5)) tNil)))
  (tDrop (tBM K "list" rAppend (tVar 4) (tCons (tOp (rIxL K) (tVar 2) (tVar 5)) tNil)))) tNext)
  (tCut (tIfS (tAnd (tTest (tOp (rNeD K) (tVar 4) (tLst tNil))) (tTest (tOp rEq (tOp rModI (tVar 3) (tC (.int 3))) (tC (.int 1))))) (tDrop (tMeth a.Y "take" (sp_Yard_take K a) [] E0 (tVar 0) (tCons (tBM K "list" rPopAt (tVar 4) (tCons (tOp rModI (tOp rDivI (tVar 3) (tC (.int 3))) (tCB (rLenL K) (tCons (tVar 4) tNil))) tNil)) tNil))) tNext)
  (tDrop (tMeth a.Y "put" (sp_Yard_put K a) [] E0 (tVar 0) (tCons (tVar 6) tNil)))))))
  (tFor (iList K (tVar 4)) (gName 7) (tDrop (tMeth a.Y "take" (sp_Yard_take K a) [] E0 (tVar 0) (tCons (tVar 7) tNil))))))
abbrev N_law_alike : List Str := ["one", "other"]
def t_law_alike (K : PySem.W.Frag) (a : Ad) (E : XK) : TS :=
  (tSeq (tIfS (tOr (tNot (tB (tCall (sp_law_row K a) [] E0 (tCons (tMeth a.Y "stalls" (sp_Yard_stalls K a) [] E0 (tVar 0) tNil) (tCons (tMeth a.Y "stalls" (sp_Yard_stalls K a) [] E0 (tVar 1) tNil) tNil))))) (tNot (tB (tCall (sp_law_row K a) [] E0 (tCons (tMeth a.Y "names" (sp_Yard_names K a) [] E0 (tVar 0) tNil) (tCons (tMeth a.Y "names" (sp_Yard_names K a) [] E0 (tVar 1) tNil) tNil)))))) (tRet (tC (.bl false))) tNext)
  (tRet (tAndV (tOp rEq (tMeth a.Y "how_many" (sp_Yard_how_many K a) [] E0 (tVar 0) tNil) (tMeth a.Y "how_many" (sp_Yard_how_many K a) [] E0 (tVar 1) tNil)) (tOp rEq (tMeth a.Y "steps" (sp_Yard_steps K a) [] E0 (tVar 0) tNil) (tMeth a.Y "steps" (sp_Yard_steps K a) [] E0 (tVar 1) tNil)))))
section
variable {K : PySem.W.Frag} {a : Ad} {M H H' H1 H2 : Hp} {σ : L2.St} {D : Ends} {tz : TS} {p r w l : Addr} {rule c n s j : Nat} {row row' : Row}
theorem r_law_alike (vs : List V) (H : Hp) (Q : VK) (E : XK) (h : sp_law_alike K a vs H Q E) : Go (t_law_alike K a E) N_law_alike vs H Q := by
  obtain ⟨p1, r1, p2, r2, rule1, rule2, row, rfl, Y1, Y2, k⟩ := h
  refine q_when (et_or (et_not (et_B (ev_rowLL (el_stalls (ev_var rfl) Y1) (el_stalls (ev_var rfl) Y2)))) fun _ => et_not (et_B (ev_rowLL (el_nats (el_ynames (ev_var rfl) Y1)) (el_nats (el_ynames (ev_var rfl) Y2))))) (fun hb => by simp at hb) (fun _ H1 e1 => ?_)
  exact s_ret (bl_is (ev_andV (ev_op (ev_how (ev_var rfl) (Y1.ex e1)) (ev_how (ev_var rfl) (Y2.ex e1)) rv_eqI) fun _ => ev_op (ev_steps (ev_var rfl) (Y1.ex e1)) (ev_steps (ev_var rfl) (Y2.ex e1)) rv_eqI) (by simp)) fun H2 e2 => k H2 (e1.trans e2)
theorem v_alike {p1 r1 p2 r2 : Addr} {rule1 rule2 : Nat} (Y1 : YR a H p1 r1 rule1 row) (Y2 : YR a H p2 r2 rule2 row) : SpV (sp_law_alike K a) [.ref p1, .ref p2] H (.bl true) := fun H1 e1 Q q E => ⟨p1, r1, p2, r2, rule1, rule2, row, rfl, Y1.ex e1, Y2.ex e1, q⟩
/-- yard.take(guests.pop(j)) -/
theorem s_takePop {ty tl ti : TE} {xs : List Nat} (T : Solo a M H p r rule row) (hy : Ev ty σ H (.ref p)) (gl : Ev tl σ H (.ref l)) (hl : H l = some (.lst (xs.map nV))) (ml : M l = none) (nlr : l ≠ r) (gi : Ev ti σ H (nV j)) (hj : xs[j]? = some c) (hz : xs.length ≤ 100000) (hs : row[s]? = some (some c))
    (k : ∀ H1, Solo a M H1 p r rule (takeR row s).1 → H1 l = some (.lst ((xs.eraseIdx j).map nV)) → D.nx σ H1) : tDrop (tMeth a.Y "take" (sp_Yard_take K a) [] E0 ty (tCons (tBM K "list" rPopAt tl (tCons ti tNil)) tNil)) D σ H := by
  refine hy H (Ex.refl H) _ fun H1 e1 => ?_
  obtain ⟨dx, hp⟩ := (T.Y.ex e1).y
  refine ⟨p, dx, _, rfl, hp, yf_no _ _ _ f_take.1 f_take.2.1 f_take.2.2, ?_⟩
  refine w_pop (Q := fun v H2 => sp_Yard_take K a (.ref p :: ([v] ++ [])) H2 (fun _ H3 => D.nx σ H3) E0) (gl.mono e1) (e1 _ _ hl) (gi.mono e1) hj hz fun H2 b2 h2 => ?_
  have T2 := (T.ex e1).stay b2 ml nlr
  refine ⟨p, r, rule, row, c, rfl, T2.Y, T2.ok, fun z => absurd (mem_names.mpr ⟨s, hs⟩) z, fun s' hs' => ?_⟩
  have := names_inj T2.ok.nd hs' hs
  subst this
  exact fun l' ts H3 hl' hlr b w h Ts => k H3 (T2.take hs b w) (b _ _ nlr h2)
theorem r_law_other_way16 (F : YFc K a) (vs : List V) (H : Hp) (Q : VK) (E : XK) (h : sp_law_other_way16 K a vs H Q E) : Go (t_law_other_way16 K a E) N_law_other_way16 vs H Q := by
  obtain ⟨p, r, l1, l2, rule, row, ms, st, cell, rfl, Y, R, hemp, h1, h2, n1, n2, ndm, nds, dj, hlen, hst, k⟩ := h
  have hle := Y.le
  refine q_asgL (el_lst ea_nil (by decide)) fun g H1 hg e1 hg1 => ?_
  have npg : p ≠ g := by obtain ⟨dx, h⟩ := id Y.y; exact ne_some h hg
  have nrg : r ≠ g := ne_some Y.w hg
  have T1 := Solo.start2 (Y.ex e1) R npg
  have m1 : wo H1 [r, g] l1 = some (.lst (ms.map nV)) := by rw [wo_get (by simp [n1, ne_some h1 hg])]; exact e1 _ _ h1
  have m2 : wo H1 [r, g] l2 = some (.lst (st.map nV)) := by rw [wo_get (by simp [n2, ne_some h2 hg])]; exact e1 _ _ h2
  have mg : wo H1 [r, g] g = none := wo_none (by simp)
  have hback : ∀ {H'}, Ex (wo H1 [r, g]) H' → But r H H' := fun {H'} e b o nb hb => e b o (by rw [wo_get (by simp [nb, ne_some hb hg])]; exact e1 _ _ hb)
  generalize wo H1 [r, g] = M at *
  let St0 : Int → Option V → Option V → L2.St := fun z v5 v6 => [some (.ref p), some (.ref l1), some (.ref l2), some (.int z), some (.ref g), v5, v6, none]
  refine q_forE (ev_var rfl) (fun i σ' H' => ∃ (row' : Row) (acc : List Nat) (z : Int) (v5 v6 : Option V), Solo a M H' p r rule row' ∧ row'.length = row.length ∧ H' g = some (.lst (acc.map nV)) ∧ acc.Nodup ∧ (∀ c, c ∈ acc → c ∈ st.take i) ∧ (names row').Perm (ms.take i ++ acc) ∧ ms.length + acc.length < row.length ∧ σ' = St0 z v5 v6) (fun H2 e2 => ⟨row, [], cell, none, none, T1.ex e2, rfl, e2 _ _ hg1, List.nodup_nil, fun c hc => by simp at hc, by rw [hemp]; simp, by show ms.length + 0 < _; omega, rfl⟩) (SqL.of (T1.e _ _ m1)) (fun i σ' H' _ ⟨row', acc, z, v5, v6, T, _⟩ => SqL.of (T.e _ _ m1)) (fun i x σ' H' H2 hi ⟨row', acc, z, v5, v6, T, hl, hga, nd, hsub, hp, hroom, hσ⟩ e2 => ?_) (fun σ' H' ⟨row', acc, z, v5, v6, T, hl, hga, nd, hsub, hp, hroom, hσ⟩ => ?_)
  · subst hσ
    obtain ⟨c, hc, rfl⟩ := nats_get hi
    have hil := (List.getElem?_eq_some_iff.mp hc).1
    refine q_asg (ev_lcg (ev_var rfl)) fun H3 e3 => ?_
    generalize (z * 48271 + 11) % 2147483647 = z2
    have T := T.ex (e2.trans e3)
    have hga := (e2.trans e3) _ _ hga
    let Md : Nat → L2.St → Hp → Prop := fun t σ' H' => ∃ (row' : Row) (acc : List Nat), Solo a M H' p r rule row' ∧ row'.length = row.length ∧ H' g = some (.lst (acc.map nV)) ∧ acc.Nodup ∧ (∀ c, c ∈ acc → c ∈ st.take t) ∧ (names row').Perm (ms.take i ++ acc) ∧ ms.length + acc.length < row.length ∧ σ' = St0 z2 (some (nV i)) (some (nV c))
    have hmono : ∀ c, c ∈ st.take i → c ∈ st.take (i + 1) := fun c h => (List.take_subset_take_left st (Nat.le_succ i)) h
    refine q_cut (M := Md (i + 1)) ?_ fun σ4 H4 ⟨row4, acc4, T4, hl4, hg4, nd4, hsub4, hp4, hroom4, hσ⟩ => ?_
    · refine s_when (et_and (et_test (ev_op (ev_var rfl) (ev_lenN' (ev_var rfl) (T.e _ _ m2)) rv_lt)) fun _ => et_test (ev_op (ev_op (ev_op (ev_lenN' (ev_var rfl) (T.e _ _ m1)) (ev_lenN' (ev_var rfl) hga) rv_add) ev_c rv_add) (ev_many (ev_var rfl) T.Y.y F) rv_lt)) (fun hb H4 e4 => ?_) (fun hb H4 e4 => ⟨row', acc, T.ex e4, hl, e4 _ _ hga, nd, fun c h => hmono c (hsub c h), hp, hroom, rfl⟩)
      simp only [Bool.and_eq_true, decide_eq_true_eq] at hb
      have his : i < st.length := by omega
      have hd := List.getElem?_eq_getElem his
      generalize st[i] = d at hd
      have hdm := List.mem_of_getElem? hd
      have hdn : d ∉ st.take i := fun z => by
        have hsp := take_mid hd
        rw [hsp] at nds
        exact (List.nodup_append.mp nds).2.2 d z d (List.mem_cons_self ..) rfl
      have hdr : d ∉ names row' := fun z => by
        rcases List.mem_append.mp (hp.mem_iff.mp z) with z | z
        · exact dj d hdm (List.mem_of_mem_take z)
        · exact hdn (hsub d z)
      have hln := hp.length_eq
      rw [List.length_append, List.length_take, Nat.min_eq_left (by omega)] at hln
      have T4 := T.ex e4
      have evd : ∀ {H'}, Ex M H' → Ev (tOp (rIxL K) (tVar 2) (tVar 5)) (St0 z2 (some (nV i)) (some (nV c))) H' (nV d) := fun {H'} e => ev_op (ev_var rfl) (ev_var rfl) (rv_ixL (SqL.of (e _ _ m2)) (atI_nat (by rw [List.getElem?_map, hd]; rfl)))
      refine q_putD (ev_var rfl) (evd T4.e) T4.Y T4.ok hdr (by omega) fun H5 b5 Y5 => ?_
      have T5 := T4.put hdr (by omega) b5 Y5.w
      refine s_app (v := nV d) (b5 _ _ nrg.symm (e4 _ _ hga)) (ev_var rfl) (evd T5.e) (lt_sz (by rw [List.length_map]; omega)) fun H6 e6 => ⟨_, acc ++ [d], (T5.ex e6).stay But.upd mg nrg.symm, by rw [(putR_ok T.ok hdr).1]; exact hl, by rw [upd_same, List.map_append]; rfl, ?_, fun c hc => ?_, ?_, ?_, rfl⟩
      · rw [List.nodup_append]
        refine ⟨nd, by simp, fun x hx y hy q => ?_⟩
        simp at hy
        subst hy
        exact hdn (hsub _ (q ▸ hx))
      · rcases List.mem_append.mp hc with q | q
        · exact hmono c (hsub c q)
        · simp at q
          subst q
          rw [take_next hd]; simp
      · refine (putR_ok T.ok hdr).2.1.trans ((hp.cons d).trans ?_)
        rw [← List.append_assoc]
        exact (List.perm_append_singleton d _).symm
      · rw [List.length_append, List.length_singleton]; omega
    subst hσ
    refine q_cut (M := Md (i + 1)) ?_ fun σ5 H5 ⟨row5, acc5, T5, hl5, hg5, nd5, hsub5, hp5, hroom5, hσ⟩ => ?_
    · refine s_when (et_and (et_neNil (ev_var rfl) hg4) fun _ => et_test (ev_op (ev_op (ev_var rfl) ev_c (rv_mod (by decide))) ev_c rv_eqI)) (fun hb H5 e5 => ?_) (fun hb H5 e5 => ⟨row4, acc4, T4.ex e5, hl4, e5 _ _ hg4, nd4, hsub4, hp4, hroom4, rfl⟩)
      have h0 : 0 < acc4.length := by cases acc4 with | nil => simp at hb | cons x r => exact Nat.succ_pos _
      have hj := idx_lt (z2 / 3) h0
      have hgj := List.getElem?_eq_getElem hj
      generalize hjj : (z2 / 3 % (acc4.length : Int)).toNat = jj at *
      generalize acc4[jj] = d at hgj
      have hdr : d ∈ names row4 := hp4.mem_iff.mpr (List.mem_append_right _ (List.mem_of_getElem? hgj))
      obtain ⟨sp, hsp⟩ := mem_names.mp hdr
      have hep := erase_perm hgj
      have evi := ev_idx (K := K) (σ := St0 z2 (some (nV i)) (some (nV c))) (H := H5) (tc := tOp rDivI (tVar 3) (tC (.int 3))) (tl := tVar 4) (z := z2 / 3) (ev_op (ev_var rfl) ev_c (rv_div (by decide))) (ev_var rfl) (e5 _ _ hg4) h0
      rw [hjj] at evi
      refine s_takePop (T4.ex e5) (ev_var rfl) (ev_var rfl) (e5 _ _ hg4) mg nrg.symm evi hgj (by omega) hsp fun H6 T6 hg6 => ⟨_, _, T6, by rw [(takeR_ok T4.ok hsp).1]; exact hl4, hg6, (List.nodup_cons.mp (hep.nodup_iff.mpr nd4)).2, fun c hc => hsub4 c (hep.mem_iff.mp (List.mem_cons_of_mem _ hc)), ?_, ?_, rfl⟩
      · refine List.Perm.cons_inv ((takeR_ok T4.ok hsp).2.1.trans (hp4.trans ((hep.symm.append_left _).trans List.perm_middle)))
      · have := hep.length_eq
        rw [List.length_cons] at this
        omega
    subst hσ
    have hcr : c ∉ names row5 := fun z => by
      rcases List.mem_append.mp (hp5.mem_iff.mp z) with z | z
      · rw [take_mid hc] at ndm
        exact (List.nodup_append.mp ndm).2.2 c z c (List.mem_cons_self ..) rfl
      · exact dj c (List.mem_of_mem_take (hsub5 c z)) (List.mem_of_getElem? hc)
    have hln := hp5.length_eq
    rw [List.length_append, List.length_take, Nat.min_eq_left (by omega)] at hln
    refine s_putD (ev_var rfl) (ev_var rfl) T5.Y T5.ok hcr (by omega) fun H6 b6 Y6 => ⟨_, acc5, z2, _, _, T5.put hcr (by omega) b6 Y6.w, by rw [(putR_ok T5.ok hcr).1]; exact hl5, b6 _ _ nrg.symm hg5, nd5, hsub5, ?_, hroom5, rfl⟩
    refine (putR_ok T5.ok hcr).2.1.trans ((hp5.cons c).trans ?_)
    rw [take_next hc, List.append_assoc]
    exact List.perm_middle.symm
  · subst hσ
    rw [List.length_map, List.take_length] at hp
    exact s_takeAllV (ev_var rfl) hga nrg.symm T nd (fun c hc => hp.mem_iff.mpr (List.mem_append_right _ hc)) (Nat.le_of_ble_eq_true rfl) (fun _ _ => ev_var rfl) fun row2 v H2 T2 hl2 hp2 => k row2 H2 (hback T2.e) T2.R (by omega) T2.ok ((List.perm_append_right_iff acc).mp (hp2.symm.trans hp))
theorem ep_carts {ts te tf tm : TE} {xs : List Int} {far : Bool} {most : Nat} (hs : EvL ts σ H (xs.map V.int)) (hn : Ev te σ H (nV n)) (hf : Ev tf σ H (.bl far)) (hm : Ev tm σ H (nV most)) (h0 : 0 < n) (h2 : n ≤ 200) (hx : xs.length ≤ 200) :
    EvP (tCall (sp_law_carts K a) [] E0 (tCons ts (tCons te (tCons tf (tCons tm tNil))))) σ H (fun cs => cs.Nodup ∧ cs.length ≤ most ∧ cs.length ≤ xs.length ∧ ∀ c, c ∈ cs → c < 10 ^ 30) := fun H1 e1 Q q =>
  w_callLA (hs.mono e1) (ea_cons (hn.mono e1) (ea_cons (hf.mono e1) (ea_cons (hm.mono e1) ea_nil))) fun l H2 hl e2 h2l => ⟨l, xs, n, far, most, rfl, h2l, h0, h2, hx, fun cs nd hmo hli hlt p H3 hp e3 h3 => q cs ⟨nd, hmo, hli, hlt⟩ p H3 (fresh_back e2 hp) (e2.trans e3) h3⟩
theorem q_lcP {tl : TE} {P : List Nat → Prop} {g : TG} {t : TT} {te : TE} {vs : List Nat} {i : Nat} (h : EvP tl σ H P) (k : ∀ ms, P ms → ∀ p H1, H p = none → Ex H H1 → H1 p = some (.lst (ms.map nV)) → tSeq (tAsg (tLc (iList K (tC (.ref p))) g t te vs) (gName i)) tz D σ H1) : tSeq (tAsg (tLc (iList K tl) g t te vs) (gName i)) tz D σ H :=
  h H (Ex.refl H) _ fun ms hP p H1 hp e h1 => k ms hP p H1 hp e h1
/-- the other way, names mixed -/
theorem q_otherWay {t1 t2 t3 t4 : TE} {l2 : Addr} {ns st : List Nat} {cell : Int} (g1 : Ev t1 σ H (.ref p)) (g2 : EvP t2 σ H (fun ms => ms.Perm ns)) (g3 : Ev t3 σ H (.ref l2)) (g4 : Ev t4 σ H (.int cell)) (Y : YR a H p r rule row) (R : Right rule row) (hemp : names row = []) (h2 : H l2 = some (.lst (st.map nV))) (n2 : l2 ≠ r) (nd : ns.Nodup) (nds : st.Nodup) (dj : ∀ c, c ∈ st → c ∉ ns) (hlen : ns.length < row.length) (hst : st.length ≤ 200)
    (k : ∀ (row' : Row) (H' : Hp), But r H H' → RowAt H' r row' → row'.length = row.length → Right rule row' → (names row').Perm ns → tz D σ H') : tSeq (tDrop (tCall (sp_law_other_way16 K a) [] E0 (tCons t1 (tCons t2 (tCons t3 (tCons t4 tNil)))))) tz D σ H := by
  refine g1 H (Ex.refl H) _ fun H1 e1 => g2 H1 e1 _ fun ms hms q H2 hq e2 hq2 => g3 H2 (e1.trans e2) _ fun H3 e3 => g4 H3 ((e1.trans e2).trans e3) _ fun H4 e4 => ?_
  have e := ((e1.trans e2).trans e3).trans e4
  refine ⟨p, r, q, l2, rule, row, ms, st, cell, rfl, Y.ex e, R, hemp, (e3.trans e4) _ _ hq2, e _ _ h2, (ne_some (Y.ex e1).w hq).symm, n2, hms.nodup_iff.mpr nd, nds, fun c hc z => dj c hc (hms.mem_iff.mp z), by rw [hms.length_eq]; exact hlen, hst, fun row' H' b w hl R' p' => k row' H' ((But.of e).trans b) w hl R' (p'.trans hms)⟩
end
end SY

namespace SY
open PySem L2 Evl
def sp_law_shows (K : PySem.W.Frag) (a : Ad) : Sp := fun vs H Q _ => ∃ (w l : Addr) (rule : Nat) (row : Row) (c : Nat), vs = [.ref w, nV rule, nV c, .ref l, oV (whereR rule row c)] ∧ RowAt H w row ∧ row.length ≤ 200 ∧ rule ≤ 2 ∧ Right rule row ∧ H l = some (.lst ((lookR rule row c).map nV)) ∧ RetV (.bl true) H Q
abbrev N_law_shows : List Str := ["row", "rule", "name", "seen", "at", "k", "stall", "last"]
def t_law_shows (K : PySem.W.Frag) (a : Ad) (E : XK) : TS :=
  (tSeq (tIfS (tOr (tNot (tB (tCB (rIsi K) (tCons (tVar 3) (tCons (tC (.ty "list")) tNil))))) (tTest (tOp (rEqD K) (tVar 3) (tLst tNil)))) (tRet (tC (.bl false))) tNext)
  (tSeq (tFor (iEnum K (tCons (tVar 3) tNil)) (gTup K 2 (gCons (gName 5) (gCons (gName 6) gNil))) (tIfS (tOr (tNot (tB (tCall (sp_law_whole K a) [] E0 (tCons (tVar 6) tNil)))) (tTest (tOp rNe (tVar 6) (tOp rModI (tOp rAddI (tVar 2) (tVar 5)) (tCB (rLenL K) (tCons (tVar 0) tNil)))))) (tRet (tC (.bl false))) tNext))
  (tSeq (tFor (iList K (tSl (rSlL K) (tVar 3) tNoPart (tPart (tUn rNegI (tC (.int 1)))))) (gName 6) (tSeq (tIfS (tTest (tOp (rIn K false) (tOp (rIxL K) (tVar 0) (tVar 6)) (tTup (tCons (tC .non) (tCons (tVar 2) tNil))))) (tRet (tC (.bl false))) tNext)
  (tIfS (tNot (tB (tCall (sp_law_keeps K a) [] E0 (tCons (tVar 1) (tCons (tOp (rIxL K) (tVar 0) (tVar 6)) (tCons (tVar 2) (tCons (tVar 6) (tCons (tCB (rLenL K) (tCons (tVar 0) tNil)) tNil)))))))) (tRet (tC (.bl false))) tNext)))
  (tSeq (tAsg (tOp (rIxL K) (tVar 0) (tOp (rIxL K) (tVar 3) (tUn rNegI (tC (.int 1))))) (gName 7))
  (tSeq (tIfS (tTest (tOp (rIn K false) (tVar 2) (tVar 0))) (tRet (tAndV (tOp rEq (tVar 7) (tVar 2)) (tAndV (tCall (sp_law_whole K a) [] E0 (tCons (tVar 4) tNil)) (tOp rEq (tVar 4) (tOp (rIxL K) (tVar 3) (tUn rNegI (tC (.int 1)))))))) tNext)
  (tSeq (tIfS (tB (tNotN (tVar 4))) (tRet (tC (.bl false))) tNext)
  (tRet (tOrV (tIsN (tVar 7)) (tNotV (tCall (sp_law_keeps K a) [] E0 (tCons (tVar 1) (tCons (tVar 7) (tCons (tVar 2) (tCons (tOp (rIxL K) (tVar 3) (tUn rNegI (tC (.int 1)))) (tCons (tCB (rLenL K) (tCons (tVar 0) tNil)) tNil)))))))))))))))
section
variable {K : PySem.W.Frag} {a : Ad} {M H H' H1 H2 : Hp} {σ : L2.St} {D : Ends} {tz : TS} {p r w l : Addr} {rule c n s j : Nat} {row row' : Row}
theorem et_eqNil {tl : TE} {fs : List Nat} (h : Ev tl σ H (.ref l)) (hl : H l = some (.lst (fs.map nV))) : EvT (tTest (tOp (rEqD K) tl (tLst tNil))) σ H fs.isEmpty :=
  et_test (ev_opL h (el_lst ea_nil (by decide)) fun p H1 hp e1 => fun H2 e2 Q q => ⟨_, _, .lst (SqL.of ((e1.trans e2) _ _ hl)) (dp_nats fs), .lst (SqL.of (e2 _ _ hp)) .nil, shaped_list lay_dN fs, shaped_list (α := Nat) lay_dN [], by
    have e := eqv_nil (f := dN) fs
    rw [e]
    exact q H2 (Ex.refl H2)⟩)
theorem cut_last {α : Type} (xs : List α) (v : α) : cutG (xs ++ [v]) none (some (-1)) = xs := by
  have hl : (xs ++ [v]).length = xs.length + 1 := by simp
  have e : HT.sIx (xs ++ [v]).length (xs ++ [v]).length (some (-1)) = xs.length := by
    show (if (-1 : Int) < 0 then ((-1 : Int) + ((xs ++ [v]).length : Int)).toNat else min (-1 : Int).toNat (xs ++ [v]).length) = _
    rw [if_pos (by decide), hl]; omega
  unfold cutG
  rw [HT.sIx_none, e, List.drop_zero, Nat.sub_zero]
  simp
theorem s_forEL {tl : TE} {tu : TS} {g : TG} {xs : List V} (h : EvL tl σ H xs) (k : ∀ p H1, H p = none → Ex H H1 → H1 p = some (.lst xs) → tSeq (tFor (iEnum K (tCons (tC (.ref p)) tNil)) g tu) tz D σ H1) : tSeq (tFor (iEnum K (tCons tl tNil)) g tu) tz D σ H :=
  h H (Ex.refl H) _ fun p H1 hp e h1 => k p H1 hp e h1
theorem q_forNLs {tl : TE} {tu : TS} {g : TG} {xs : List V} (h : EvL tl σ H xs) (k : ∀ p H1, H p = none → Ex H H1 → H1 p = some (.lst xs) → tSeq (tFor (iList K (tC (.ref p))) g tu) tz D σ H1) : tSeq (tFor (iList K tl) g tu) tz D σ H :=
  h H (Ex.refl H) _ fun p H1 hp e h1 => k p H1 hp e h1
theorem r_law_shows (vs : List V) (H : Hp) (Q : VK) (E : XK) (h : sp_law_shows K a vs H Q E) : Go (t_law_shows K a E) N_law_shows vs H Q := by
  obtain ⟨w, l, rule, row, c, rfl, W, hle, h2, R, hl, k⟩ := h
  have room := R.room
  have hn : 0 < row.length := by omega
  obtain ⟨kk, hk, hlook, hgo, hstop⟩ := lookR_says (rule := rule) (c := c) room
  have hlast := last_of hlook
  have hsplit : lookR rule row c = (List.range kk).map (fun j => spot (c % row.length) j row.length) ++ [spot (c % row.length) kk row.length] := by rw [hlook, List.range_succ, List.map_append]; rfl
  have hnoemp : (lookR rule row c).isEmpty = false := by rw [hsplit]; cases (List.range kk).map (fun j => spot (c % row.length) j row.length) <;> rfl
  have hget : ∀ i d, (lookR rule row c)[i]? = some d → i ≤ kk ∧ d = spot (c % row.length) i row.length := fun i d h => by
    rw [hlook, List.getElem?_map] at h
    have hi : i < kk + 1 := by
      by_cases z : i < kk + 1
      · exact z
      · rw [List.getElem?_eq_none (by rw [List.length_range]; omega)] at h; cases h
    rw [List.getElem?_range hi] at h
    exact ⟨by omega, (Option.some.inj h).symm⟩
  refine q_when (et_is (b := false) (et_or (et_not (et_B (ev_isi (b := true) (ev_var rfl) ev_c (.ty _) (fun H2 e2 => .base (.lst (e2 _ _ hl))) (kit_ty (by decide +kernel))))) fun _ => et_eqNil (ev_var rfl) hl) (by rw [hnoemp]; rfl)) (fun z => by cases z) (fun _ H1 e1 => ?_)
  refine q_forE (ev_var rfl) (fun i σ' H' => Ex H H' ∧ ∃ v5 v6, σ' = [some (.ref w), some (nV rule), some (nV c), some (.ref l), some (oV (whereR rule row c)), v5, v6, none]) (fun H2 e2 => ⟨e1.trans e2, none, none, rfl⟩) (SqL.of (e1 _ _ hl)) (fun i σ' H' _ ⟨e, _⟩ => SqL.of (e _ _ hl)) (fun i x σ' H' H2 hi ⟨e, v5, v6, hσ⟩ e2 => ?_) (fun σ' H' ⟨e, v5, v6, hσ⟩ => ?_)
  · subst hσ
    obtain ⟨d, hd, rfl⟩ := nats_get hi
    obtain ⟨hik, rfl⟩ := hget i d hd
    have e02 := e.trans e2
    refine s_when (et_is (b := false) (et_or (et_not (et_B (ev_whole (ev_var rfl)))) fun _ => et_test (ev_op (ev_var rfl) (int_is (j := (spot (c % row.length) i row.length : Int)) (ev_op (ev_op (ev_var rfl) (ev_var rfl) rv_add) (ev_lenRow (ev_var rfl) (W.ex e02)) (rv_mod (by omega))) (by rw [sum_int, spot_eq hn (by omega)])) rv_neI)) (by simp)) (fun z => by cases z) (fun _ H3 e3 => ⟨e02.trans e3, _, _, rfl⟩)
  · subst hσ
    have hcut : EvL (tSl (rSlL K) (tVar 3) tNoPart (tPart (tUn rNegI (tC (.int 1))))) [some (.ref w), some (nV rule), some (nV c), some (.ref l), some (oV (whereR rule row c)), v5, v6, none] H' (((List.range kk).map (fun j => spot (c % row.length) j row.length)).map nV) := by
      have := el_sl (K := K) (σ := [some (.ref w), some (nV rule), some (nV c), some (.ref l), some (oV (whereR rule row c)), v5, v6, none]) (te := tVar 3) (tl := tNoPart) (th := tPart (tUn rNegI (tC (.int 1)))) (lo := none) (hi := some (-1)) (ev_var rfl) eo_none (eo_some (ev_un ev_c ru_neg)) (SqL.of (e _ _ hl))
      rw [cutV_map, hsplit, cut_last] at this
      exact this
    refine q_forNLs hcut fun q H2 hq e2 hq2 => ?_
    refine q_forLn ev_c (SqL.of hq2) (fun i σ' H' => Ex H2 H' ∧ ∃ v6, σ' = [some (.ref w), some (nV rule), some (nV c), some (.ref l), some (oV (whereR rule row c)), v5, v6, none]) (fun H3 e3 => ⟨e3, v6, rfl⟩) (fun i σ' H' _ ⟨e, _⟩ => SqL.of (e _ _ hq2)) (fun i x σ' H3 hi ⟨e3, v6, hσ⟩ => ?_) (fun σ' H3 ⟨e3, v6, hσ⟩ => ?_)
    · subst hσ
      obtain ⟨d, hd, rfl⟩ := nats_get hi
      have hik : i < kk := by
        have := (List.getElem?_eq_some_iff.mp hd).1
        rw [List.length_map, List.length_range] at this; exact this
      have hds : d = spot (c % row.length) i row.length := by
        rw [List.getElem?_map, List.getElem?_range hik] at hd
        exact (Option.some.inj hd).symm
      subst hds
      obtain ⟨m, hm, hmc, hkeep⟩ := goesOn_iff.mp (hgo i hik)
      have W3 := W.ex ((e.trans e2).trans e3)
      have hsp := spot_lt (Nat.mod_lt c hn) (show i < row.length by omega)
      have hin := ev_inU (K := K) (ev_item (K := K) (o := some m) (σ := [some (.ref w), some (nV rule), some (nV c), some (.ref l), some (oV (whereR rule row c)), v5, some (nV (spot (c % row.length) i row.length)), none]) (tl := tVar 0) (ti := tVar 6) (ev_var rfl) (ev_var rfl) W3 hm) (eu_tup (ea_cons (ev_c (v := .non)) (ea_cons (ev_var (i := 2) rfl) ea_nil)) (by show 2 ≤ 100000; decide)) (flat_oV _) (by rfl)
      rw [inV_pair] at hin
      have hmc' : ¬ c = m := fun z => hmc z.symm
      refine q_when (et_is (b := false) (et_test hin) (by simp [hmc'])) (fun z => by cases z) (fun _ H4 e4 => ?_)
      refine s_when (et_is (b := false) (et_not (et_B (ev_callE (dvs := []) (ea_cons (ev_var rfl) (ea_cons (ev_item (o := some m) (ev_var rfl) (ev_var rfl) (W3.ex e4) hm) (ea_cons (ev_var rfl) (ea_cons (ev_var rfl) (ea_cons (ev_lenRow (ev_var rfl) (W3.ex e4)) ea_nil))))) (v_lkeeps hsp h2)))) (by rw [hkeep]; rfl)) (fun z => by cases z) (fun _ H5 e5 => ⟨(e3.trans e4).trans e5, _, rfl⟩)
    · subst hσ
      have e03 := (e.trans e2).trans e3
      have hsp := spot_lt (Nat.mod_lt c hn) hk
      obtain ⟨o, ho⟩ : ∃ o, row[spot (c % row.length) kk row.length]? = some o := ⟨_, List.getElem?_eq_getElem hsp⟩
      have evl : ∀ {σ : L2.St} {H' : Hp}, Ex H H' → σ[3]? = some (some (.ref l)) → Ev (tOp (rIxL K) (tVar 3) (tUn rNegI (tC (.int 1)))) σ H' (nV (spot (c % row.length) kk row.length)) := fun {σ H'} e q => ev_op (ev_var q) (ev_un ev_c ru_neg) (rv_ixL (SqL.of (e _ _ hl)) (by rw [hsplit, List.map_append]; exact atI_last _ _))
      refine q_asg (ev_item (ev_var rfl) (evl e03 rfl) (W.ex e03) ho) fun H4 e4 => ?_
      have e04 := e03.trans e4
      refine q_when (et_test (ev_inRow (ev_var rfl) (ev_var rfl) (W.ex e04))) (fun hb H5 e5 => ?_) (fun hb H5 e5 => ?_)
      · obtain ⟨s, hs⟩ := mem_names.mp (of_decide_eq_true hb)
        have hw := where_of R hs
        have hls := where_last hw
        rw [hlast] at hls
        rw [hls, hs] at ho
        have ho' := Option.some.inj ho
        subst ho'
        rw [hw]
        exact s_ret (bl_is (ev_andV (a := true) (b := true) (bl_is (ev_op (ev_var rfl) (ev_var rfl) (rv_eqO (o := some c) (c := some c))) (by simp)) fun _ => bl_is (ev_andV (a := true) (b := true) (ev_callE (dvs := []) (ea_cons (ev_var rfl) ea_nil) (v_whole rfl)) fun _ => bl_is (ev_op (ev_var rfl) (evl (e04.trans e5) rfl) (rv_eqO (o := some s) (c := some (spot (c % row.length) kk row.length)))) (by rw [hls]; simp)) rfl) rfl) fun H6 e6 => k H6 ((e04.trans e5).trans e6)
      · have hcn : c ∉ names row := of_decide_eq_false hb
        have hw := (where_none R).mpr hcn
        rw [hw]
        refine q_when (et_is (b := false) (et_B (ev_notN (ev_var (v := oV none) rfl))) (by rfl)) (fun z => by cases z) (fun _ H6 e6 => ?_)
        have e06 := (e04.trans e5).trans e6
        cases o with
        | none => exact s_ret (bl_is (ev_orV (a := true) (b := true) (bl_is (ev_isN (ev_var (v := oV none) rfl)) (by rfl)) fun z => by cases z) rfl) fun H7 e7 => k H7 (e06.trans e7)
        | some m =>
          have hmc : m ≠ c := fun z => hcn (mem_names.mpr ⟨_, z ▸ ho⟩)
          have hkf : keeps rule m c (spot (c % row.length) kk row.length) row.length = false := by
            cases q : keeps rule m c (spot (c % row.length) kk row.length) row.length with
            | false => rfl
            | true =>
              have := goesOn_iff.mpr ⟨m, ho, hmc, q⟩
              rw [hstop] at this; cases this
          exact s_ret (bl_is (ev_orV (a := false) (b := true) (bl_is (ev_isN (ev_var (v := oV (some m)) rfl)) (by rfl)) fun _ => bl_is (ev_notV (ev_callE (dvs := []) (ea_cons (ev_var rfl) (ea_cons (ev_var (v := oV (some m)) rfl) (ea_cons (ev_var rfl) (ea_cons (evl e06 rfl) (ea_cons (ev_lenRow (ev_var rfl) (W.ex e06)) ea_nil))))) (v_lkeeps hsp h2))) (by rw [hkf]; rfl)) rfl) fun H7 e7 => k H7 (e06.trans e7)
theorem ev_shows {t1 t2 t3 t4 t5 : TE} (g1 : Ev t1 σ H (.ref w)) (g2 : Ev t2 σ H (nV rule)) (g3 : Ev t3 σ H (nV c)) (g4 : EvL t4 σ H ((lookR rule row c).map nV)) (g5 : Ev t5 σ H (oV (whereR rule row c))) (W : RowAt H w row) (hle : row.length ≤ 200) (h2 : rule ≤ 2) (R : Right rule row) : Ev (tCall (sp_law_shows K a) [] E0 (tCons t1 (tCons t2 (tCons t3 (tCons t4 (tCons t5 tNil)))))) σ H (.bl true) := fun H1 e Q q =>
  g1 H1 e _ fun H2 e2 => g2 H2 (e.trans e2) _ fun H3 e3 => g3 H3 ((e.trans e2).trans e3) _ fun H4 e4 => g4 H4 (((e.trans e2).trans e3).trans e4) _ fun l H5 hl e5 h5 => g5 H5 ((((e.trans e2).trans e3).trans e4).trans e5) _ fun H6 e6 =>
    ⟨w, l, rule, row, c, rfl, W.ex (((((e.trans e2).trans e3).trans e4).trans e5).trans e6), hle, h2, R, e6 _ _ h5, fun H7 e7 => q H7 (((((e2.trans e3).trans e4).trans e5).trans e6).trans e7)⟩
/-- names.remove(c) -/
theorem q_remove {tl tx : TE} {xs : List Nat} (gl : Ev tl σ H (.ref l)) (hl : H l = some (.lst (xs.map nV))) (gx : Ev tx σ H (nV c)) (nd : xs.Nodup) (hj : xs[j]? = some c) (k : ∀ H1, But l H H1 → H1 l = some (.lst ((xs.eraseIdx j).map nV)) → tz D σ H1) :
    tSeq (tDrop (tBM K "list" rRemI tl (tCons tx tNil))) tz D σ H := by
  refine gl H (Ex.refl H) _ fun H1 e1 => ⟨Or.inl ⟨rfl, _, SqL.of (e1 _ _ hl)⟩, gx H1 e1 _ fun H2 e2 => ?_⟩
  refine ⟨l, xs.map Int.ofNat, (c : Int), j, rfl, rfl, by rw [map_int]; exact (e1.trans e2) _ _ hl, by rw [List.getElem?_map, hj]; rfl, fun m hm z => ?_, ?_⟩
  · rw [List.getElem?_map] at z
    cases q : xs[m]? with
    | none => rw [q] at z; cases z
    | some d =>
      rw [q] at z
      have hdc : d = c := by have := Option.some.inj z; exact Int.ofNat.inj this
      subst hdc
      have h1 : d ∈ xs.take j := by
        refine List.mem_of_getElem? (i := m) ?_
        rw [List.getElem?_take_of_lt hm]; exact q
      rw [take_mid hj] at nd
      exact (List.nodup_append.mp nd).2.2 d h1 d (List.mem_cons_self ..) rfl
  · refine k _ ((But.of (e1.trans e2)).trans But.upd) ?_
    rw [upd_same, erase_map, map_int]
theorem el_sortedV {tl : TE} {ns : List Nat} (h : Ev tl σ H (.ref l)) (hl : H l = some (.lst (ns.map nV))) : EvL (tCB (rSortedI K) (tCons tl tNil)) σ H ((srt ns).map nV) := fun H1 e Q q =>
  h H1 e _ fun H2 e2 => ⟨l, ns.map Int.ofNat, rfl, by rw [map_int]; exact SqL.of ((e.trans e2) _ _ hl), fun ns' l' hpm hso hl' => by
    rw [srt_uniq hpm hso, map_int]
    exact q l' _ (fresh_back e2 hl') (e2.trans (Ex.new hl')) upd_same⟩
theorem eqv_dN (x y : Nat) : PyData.eqv (dN x) (dN y) = decide (x = y) := by
  have h : PyData.eqv (dN x) (dN y) = decide (some x = some y) := eqv_dO (some x) (some y)
  rw [h]
  by_cases e : x = y
  · simp [e]
  · simp [e]
theorem et_neNatsL {ta tb : TE} {A B : List Nat} (h1 : EvL ta σ H (A.map nV)) (h2 : EvL tb σ H (B.map nV)) (e : A = B) : EvT (tTest (tOp (rNeD K) ta tb)) σ H false := by
  subst e
  exact et_test (ev_opLL h1 h2 fun p q H1 hp hq e1 => fun H2 e2 Q q' => ⟨_, _, .lst (SqL.of (e2 _ _ hp)) (dp_nats A), .lst (SqL.of (e2 _ _ hq)) (dp_nats A), shaped_list lay_dN A, shaped_list lay_dN A, by
    have : PyData.eqv (.list (A.map dN)) (.list (A.map dN)) = true := by
      rw [PyData.eqv, eqv_all (f := dN) (fun x y => eqv_dN x y)]
      simp
    rw [this]
    exact q' H2 (Ex.refl H2)⟩)
end
end SY

namespace SY
open PySem L2 Evl
open SX (S S_inj S_len S_cat S_beq_eq)
/-! ### texts -/
abbrev rAddS : R2 := fun x y H Q => ∃ i j, x = .str i ∧ y = .str j ∧ i.length + j.length ≤ sizeLine ∧ Q (.str (i ++ j)) H
abbrev rStrI : List V → Hp → VK → Prop := fun xs H Q => ∃ i : Int, xs = [.int i] ∧ i.natAbs.log2 < 1920 ∧ Q (.str (Str.ofString (toString i))) H
abbrev rLenStr : List V → Hp → VK → Prop := fun xs H Q => ∃ z : Str, xs = [.str z] ∧ z.length ≤ sizeLine ∧ Q (.int z.length) H
abbrev rIntS : List V → Hp → VK → Prop := fun xs H Q => ∃ a n, xs = [.str a] ∧ PySem.intText? a = some n ∧ a.length ≤ 640 ∧ Q (.int n) H
abbrev rNiSg : R2 := fun x y H Q => ∃ (c : Nat) (z : Str), x = .str ⟨#[c]⟩ ∧ y = .str z ∧ Q (.bl (!decide (c ∈ z.cps.toList))) H
abbrev rInSg : R2 := fun x y H Q => ∃ (c : Nat) (z : Str), x = .str ⟨#[c]⟩ ∧ y = .str z ∧ Q (.bl (decide (c ∈ z.cps.toList))) H
abbrev rSplit : V → List V → Hp → VK → Prop := fun x xs H Q => ∃ a b, x = .str a ∧ xs = [.str b] ∧ (b.length == 0) = false ∧ a.length + 2 ≤ sizeLine ∧ rNewStrs (Txt.split a b) H Q
abbrev rJoin (K : PySem.W.Frag) : V → List V → Hp → VK → Prop := fun x xs H Q => ∃ a p, ∃ ys : List Str, x = .str a ∧ xs = [.ref p] ∧ (SqL K H p (ys.map V.str) ∨ SqT K H p (ys.map V.str)) ∧ (ys.map (·.length)).sum + ys.length * a.length ≤ 16777216 ∧ Q (.str (Txt.join a ys)) H
abbrev rTupIdx (K : PySem.W.Frag) : V → List V → Hp → VK → Prop := fun x xs H Q => ∃ p, ∃ ys : List Str, ∃ z j, x = .ref p ∧ xs = [.str z] ∧ SqT K H p (ys.map V.str) ∧ ys[j]? = some z ∧ (∀ m, m < j → ys[m]? ≠ some z) ∧ Q (.int (j : Nat)) H
/-- a text by its signs -/
def sV (w : List Nat) : V := .str (S w)
def wordsV (W : List (List Nat)) : List V := W.map sV
def wordsOf (t : List Nat) : List (List Nat) := TL.spl [32] 0 [] t
theorem words_eq (t : List Nat) : Txt.split (S t) (S [32]) = (wordsOf t).map S := SX.split_S (by simp) (by decide)
theorem sum_mem : ∀ {l : List Nat} {x : Nat}, x ∈ l → x ≤ l.sum
  | y :: r, x, h => by
    rw [List.sum_cons]
    rcases List.mem_cons.mp h with z | z
    · omega
    · have := sum_mem z; omega
theorem words_len (t : List Nat) : (wordsOf t).length ≤ t.length + 1 ∧ ∀ w, w ∈ wordsOf t → w.length ≤ t.length + 1 := by
  have h := PyProof.Rows.split_weight (S t) (S [32]) (by rw [S_len]; decide)
  rw [words_eq, S_len, List.length_map, List.map_map] at h
  refine ⟨by omega, fun w hw => ?_⟩
  have : w.length ∈ (wordsOf t).map ((fun x : Str => x.length) ∘ S) := List.mem_map.mpr ⟨w, hw, S_len w⟩
  have := sum_mem this
  omega
def kind0 : List Nat := [102, 105, 114, 115, 116]
def kind1 : List Nat := [110, 97, 109, 101]
def kind2 : List Nat := [102, 97, 114]
def kindW (rule : Nat) : List Nat := if rule = 0 then kind0 else if rule = 1 then kind1 else kind2
def digit (c : Nat) : Bool := decide (48 ≤ c) && decide (c ≤ 57)
/-- the number that a word writes by at most so many figures -/
def numW (w : List Nat) (most : Nat) : Option Nat := if w = [] ∨ most < w.length ∨ (w.head? = some 48 ∧ w ≠ [48]) ∨ ¬ (w.all digit = true) then none else some (PySem.NumText.digitsVal w)
def kindOf (w : List Nat) : Option Nat := if w.getLast? = some 58 then (if w.dropLast = kind0 then some 0 else if w.dropLast = kind1 then some 1 else if w.dropLast = kind2 then some 2 else none) else none
def cellW (w : List Nat) : Option (Option Nat) := if w = [45] then some none else (numW w 30).map some
def cellsM (W : List (List Nat)) : Option Row := if W.all (fun w => (cellW w).isSome) = true then some (W.map fun w => (cellW w).getD none) else none
def readM (W : List (List Nat)) : Option (Nat × Row) :=
  if W.length < 2 then none else
  match kindOf (W.getD 1 []), numW (W.getD 0 []) 3 with
  | some rule, some n => if n < 2 ∨ 200 < n ∨ W.length ≠ n + 2 then none else (cellsM (W.drop 2)).map fun row => (rule, row)
  | _, _ => none
/-- the kinds' tuple stands where the top has made it -/
structure WFc (K : PySem.W.Frag) (a : Ad) : Prop where
  w : ∃ (o : Obj) (its : Array Value) (n : Nat), K.lookup a.WORDS = some o ∧ o.cls = .type "tuple" ∧ o.dict = none ∧ o.data = .seq its n ∧ its.size ≤ sizeLine ∧ Vals [sV kind0, sV kind1, sV kind2] its.toList
def sp_number_of (K : PySem.W.Frag) (a : Ad) : Sp := fun vs H Q E => ∃ (w : List Nat) (most : Nat), vs = [sV w, nV most] ∧ most ≤ 600 ∧ w.length ≤ 100000 ∧
  (numW w most = none → ∀ H', Ex H H' → E (.ref a.NotRead) none H') ∧ (∀ n, numW w most = some n → RetV (nV n) H Q)
def sp_read (K : PySem.W.Frag) (a : Ad) : Sp := fun vs H Q E => ∃ t : List Nat, vs = [sV t] ∧ t.length ≤ 90000 ∧
  (readM (wordsOf t) = none → ∀ H', Ex H H' → E (.ref a.NotRead) none H') ∧ (∀ rule row, readM (wordsOf t) = some (rule, row) → ¬ Right rule row → ∀ H', Ex H H' → E (.ref a.NotLaid) none H') ∧
  (∀ rule row, readM (wordsOf t) = some (rule, row) → Right rule row → ∀ p r H', H p = none → H r = none → p ≠ r → Ex H H' → YR a H' p r rule row → Q (.ref p) H')
/-- a cell's text -/
def cellT : Option Nat → List Nat
  | none => [45]
  | some c => TL.numL c
def showT (rule : Nat) (row : Row) : List Nat := TL.numL row.length ++ [32] ++ kindW rule ++ [58] ++ (row.map fun o => 32 :: cellT o).flatten
def sp_shown (K : PySem.W.Frag) (a : Ad) : Sp := fun vs H Q _ => ∃ (p r : Addr) (rule : Nat) (row : Row), vs = [.ref p] ∧ YR a H p r rule row ∧ rule ≤ 2 ∧ (∀ c, c ∈ names row → c < 10 ^ 30) ∧ RetV (sV (showT rule row)) H Q
abbrev N_shown : List Str := ["yard", "line", "name"]
def t_shown (K : PySem.W.Frag) (a : Ad) (E : XK) : TS :=
  (tSeq (tAsg (tOp rAddS (tOp rAddS (tOp rAddS (tCB rStrI (tCons (tFld K (tVar 0) "many") tNil)) (tC (.str (" " : Str)))) (tOp (rIxT K) (tC (.ref a.WORDS)) (tFld K (tVar 0) "rule"))) (tC (.str (":" : Str)))) (gName 1))
  (tSeq (tFor (iList K (tMeth a.Y "stalls" (sp_Yard_stalls K a) [] E0 (tVar 0) tNil)) (gName 2) (tIfS (tB (tIsN (tVar 2))) (tAsg (tOp rAddS (tVar 1) (tC (.str (" -" : Str)))) (gName 1)) (tAsg (tOp rAddS (tOp rAddS (tVar 1) (tC (.str (" " : Str)))) (tCB rStrI (tCons (tVar 2) tNil))) (gName 1))))
  (tRet (tVar 1))))
abbrev N_number_of : List Str := ["word", "most", "sign"]
def t_number_of (K : PySem.W.Frag) (a : Ad) (E : XK) : TS :=
  (tSeq (tIfS (tOr (tTest (tOp rEq (tVar 0) (tC (.str ("" : Str))))) (tOr (tTest (tOp rGtI (tCB rLenStr (tCons (tVar 0) tNil)) (tVar 1))) (tAnd (tTest (tOp rEq (tOp rIxS (tVar 0) (tC (.int 0))) (tC (.str ("0" : Str))))) (tTest (tOp rNe (tVar 0) (tC (.str ("0" : Str)))))))) (tRaiseO a.NotRead E) tNext)
  (tSeq (tFor (iStr (tVar 0)) (gName 2) (tIfS (tTest (tOp rNiSg (tVar 2) (tC (.str ("0123456789" : Str))))) (tRaiseO a.NotRead E) tNext))
  (tRet (tCB rIntS (tCons (tVar 0) tNil)))))
abbrev N_read : List Str := ["text", "words", "many", "layout", "word"]
def t_read (K : PySem.W.Frag) (a : Ad) (E : XK) : TS :=
  (tSeq (tAsg (tM1 rSplit (tVar 0) (tC (.str (" " : Str)))) (gName 1))
  (tSeq (tIfS (tOr (tTest (tOp rLtI (tCB (rLenL K) (tCons (tVar 1) tNil)) (tC (.int 2)))) (tOr (tTest (tOp rNe (tSl C8.rSlX (tOp (rIxL K) (tVar 1) (tC (.int 1))) (tPart (tUn rNegI (tC (.int 1)))) tNoPart) (tC (.str (":" : Str))))) (tTest (tOp (rIn K true) (tSl C8.rSlX (tOp (rIxL K) (tVar 1) (tC (.int 1))) tNoPart (tPart (tUn rNegI (tC (.int 1))))) (tC (.ref a.WORDS)))))) (tRaiseO a.NotRead E) tNext)
  (tSeq (tAsg (tCall (sp_number_of K a) [] E (tCons (tOp (rIxL K) (tVar 1) (tC (.int 0))) (tCons (tC (.int 3)) tNil))) (gName 2))
  (tSeq (tIfS (tOr (tTest (tOp rLtI (tVar 2) (tC (.int 2)))) (tOr (tTest (tOp rGtI (tVar 2) (tC (.int 200)))) (tTest (tOp rNe (tCB (rLenL K) (tCons (tVar 1) tNil)) (tOp rAddI (tVar 2) (tC (.int 2))))))) (tRaiseO a.NotRead E) tNext)
  (tSeq (tAsg (tLst tNil) (gName 3))
  (tSeq (tFor (iList K (tSl (rSlL K) (tVar 1) (tPart (tC (.int 2))) tNoPart)) (gName 4) (tIfS (tTest (tOp rEq (tVar 4) (tC (.str ("-" : Str))))) (tDrop (tBM K "list" rAppend (tVar 3) (tCons (tC .non) tNil))) (tDrop (tBM K "list" rAppend (tVar 3) (tCons (tCall (sp_number_of K a) [] E (tCons (tVar 4) (tCons (tC (.int 30)) tNil))) tNil)))))
  (tRet (tCall (sp_laid K a) [] E (tCons (tVar 2) (tCons (tBM K "tuple" (rTupIdx K) (tC (.ref a.WORDS)) (tCons (tSl C8.rSlX (tOp (rIxL K) (tVar 1) (tC (.int 1))) tNoPart (tPart (tUn rNegI (tC (.int 1))))) tNil)) (tCons (tVar 3) tNil)))))))))))
section
variable {K : PySem.W.Frag} {a : Ad} {M H H' H1 H2 : Hp} {σ : L2.St} {D : Ends} {tz : TS}
theorem sV_inj {x y : List Nat} : sV x = sV y ↔ x = y := ⟨fun h => S_inj (V.str.inj h), fun h => by rw [h]⟩
theorem ev_eqS {ta tb : TE} {x y : List Nat} (h1 : Ev ta σ H (sV x)) (h2 : Ev tb σ H (sV y)) : Ev (tOp rEq ta tb) σ H (.bl (decide (x = y))) := by
  have := ev_op h1 h2 (rv_eq (H := H) (x := sV x) (y := sV y) rfl)
  rw [show decide (sV x = sV y) = decide (x = y) from decide_eq_decide.mpr sV_inj] at this
  exact this
theorem ev_neS {ta tb : TE} {x y : List Nat} (h1 : Ev ta σ H (sV x)) (h2 : Ev tb σ H (sV y)) : Ev (tOp rNe ta tb) σ H (.bl (!decide (x = y))) := by
  have := ev_op h1 h2 (rv_ne (H := H) (x := sV x) (y := sV y) rfl)
  rw [show decide (sV x = sV y) = decide (x = y) from decide_eq_decide.mpr sV_inj] at this
  exact this
theorem ev_lenS {ta : TE} {x : List Nat} (h : Ev ta σ H (sV x)) (hl : x.length ≤ 100000) : Ev (tCB rLenStr (tCons ta tNil)) σ H (nV x.length) :=
  ev_cb (ea_cons h ea_nil) fun H1 e1 Q q => ⟨S x, rfl, by rw [S_len]; exact sz_of hl, by rw [S_len]; exact q H1 (Ex.refl H1)⟩
theorem ev_addS {ta tb : TE} {x y : List Nat} (h1 : Ev ta σ H (sV x)) (h2 : Ev tb σ H (sV y)) (hl : x.length + y.length ≤ 100000) : Ev (tOp rAddS ta tb) σ H (sV (x ++ y)) :=
  ev_op h1 h2 fun H1 e1 Q q => ⟨S x, S y, rfl, rfl, by rw [S_len, S_len]; exact sz_of hl, by rw [S_cat]; exact q H1 (Ex.refl H1)⟩
theorem ev_strI {ta : TE} {n : Nat} (h : Ev ta σ H (nV n)) (hl : n < 10 ^ 30) : Ev (tCB rStrI (tCons ta tNil)) σ H (sV (TL.numL n)) :=
  ev_cb (ea_cons h ea_nil) fun H1 e1 Q q => ⟨(n : Int), rfl, by
    rw [Int.natAbs_natCast]
    by_cases h0 : n = 0
    · subst h0; decide
    · exact Nat.lt_of_lt_of_le ((Nat.log2_lt h0).mpr (Nat.lt_trans hl (show 10 ^ 30 < 2 ^ 100 by decide))) (by decide), by
    have := q H1 (Ex.refl H1)
    rw [show sV (TL.numL n) = .str (Str.ofString (toString ((n : Nat) : Int))) from by rw [SX.num_S]; rfl] at this
    exact this⟩
theorem atI0 {α : Type} {x : α} {r : List α} : atI (x :: r) 0 = some x := atI_nat (j := 0) rfl
theorem ev_sign0 {ta : TE} {c : Nat} {r : List Nat} (h : Ev ta σ H (sV (c :: r))) (hl : (c :: r).length ≤ 100000) : Ev (tOp rIxS ta (tC (.int 0))) σ H (sV [c]) :=
  ev_op h ev_c (rv_ixS (by rw [S_len]; exact hl) (atI0 (x := c) (r := r)))
theorem ev_slS {ts : TE} {tl th : TO} {z : Str} {lo hi : Option Int} (h : Ev ts σ H (.str z)) (h1 : EvO tl σ H lo) (h2 : EvO th σ H hi) (hl : z.length ≤ 100000) : Ev (tSl C8.rSlX ts tl th) σ H (.str (Txt.slice z lo hi)) := fun H1 e _ q =>
  h H1 e _ fun H2 e2 => h1 H2 (e.trans e2) _ fun H3 e3 => h2 H3 ((e.trans e2).trans e3) _ fun H4 e4 => ⟨z, rfl, sz_of hl, q H4 ((e2.trans e3).trans e4)⟩
/-- for sign in word -/
theorem q_forS {te : TE} {tu : TS} {j : Nat} {w : List Nat} (h : Ev te σ H (sV w)) (Pv : Nat → L2.St → Hp → Prop) (h0 : ∀ H1, Ex H H1 → Pv 0 σ H1)
    (hs : ∀ (i c : Nat) σ' H', w[i]? = some c → Pv i σ' H' → tu { D with nx := Pv (i + 1), ct := Pv (i + 1), bk := tz D } (σ'.set j (some (sV [c]))) H') (hd : ∀ σ' H', Pv w.length σ' H' → tz D σ' H') : tSeq (tFor (iStr te) (gName j) tu) tz D σ H :=
  h H (Ex.refl H) _ fun H1 e1 => ⟨S w, rfl, by
    have hsz : (S w).cps.size = w.length := by show w.toArray.size = _; simp
    refine ⟨fun i m σ' H' => m = w.length - i ∧ i ≤ w.length ∧ Pv i σ' H', ⟨_, rfl, Nat.zero_le _, h0 H1 e1⟩, ?_⟩
    rintro i m σ' H' ⟨rfl, hi, p'⟩
    by_cases hlt : i < w.length
    · refine .inr ⟨by show i < (S w).cps.size; rw [hsz]; exact hlt, Pv (i + 1), fun σ2 H2 p2 => ⟨w.length - (i + 1), by omega, rfl, hlt, p2⟩, ?_⟩
      rintro y H2 ⟨rfl, c, hc, rfl⟩
      refine hs i c σ' _ ?_ p'
      have : (S w).cps[i]? = w[i]? := by show w.toArray[i]? = _; simp
      rw [← this]; exact hc
    · have : i = w.length := by omega
      subst this
      exact .inl ⟨by show (S w).cps.size ≤ _; rw [hsz]; exact Nat.le_refl _, hd σ' H' p'⟩⟩
theorem r_number_of (vs : List V) (H : Hp) (Q : VK) (E : XK) (h : sp_number_of K a vs H Q E) : Go (t_number_of K a E) N_number_of vs H Q := by
  obtain ⟨w, most, rfl, hm, hl, hno, hyes⟩ := h
  have hw : numW w most = if w = [] ∨ most < w.length ∨ (w.head? = some 48 ∧ w ≠ [48]) ∨ ¬ (w.all digit = true) then none else some (PySem.NumText.digitsVal w) := rfl
  refine q_when (b := decide (w = [] ∨ most < w.length ∨ (w.head? = some 48 ∧ w ≠ [48]))) ?_ (fun hb H1 e1 => ?_) (fun hb H1 e1 => ?_)
  · cases w with
    | nil => exact et_is (et_or (b := false) (et_test (ev_eqS (y := []) (ev_var rfl) ev_c)) fun z => by simp at z) (by simp)
    | cons c r =>
      refine et_is (et_or (et_test (ev_eqS (y := []) (ev_var rfl) ev_c)) fun _ => et_or (et_test (ev_op (ev_lenS (x := c :: r) (ev_var rfl) hl) (ev_var rfl) rv_gt)) fun _ => et_and (et_test (ev_eqS (y := [48]) (ev_sign0 (ev_var rfl) hl) ev_c)) fun _ => et_test (ev_neS (y := [48]) (ev_var rfl) ev_c)) ?_
      have hcast : decide ((most : Int) < ((c :: r).length : Int)) = decide (most < (c :: r).length) := decide_eq_decide.mpr (by omega)
      rw [hcast]
      simp
  · have hb := of_decide_eq_true hb
    refine hno ?_ H1 e1
    rw [hw, if_pos]
    rcases hb with z | z | z
    · exact .inl z
    · exact .inr (.inl z)
    · exact .inr (.inr (.inl z))
  · have hb := of_decide_eq_false hb
    refine q_forS (ev_var rfl) (fun i σ' H' => Ex H H' ∧ (w.take i).all digit = true ∧ ∃ v2, σ' = [some (sV w), some (nV most), v2]) (fun H2 e2 => ⟨e1.trans e2, rfl, none, rfl⟩) (fun i c σ' H' hc ⟨e, hall, v2, hσ⟩ => ?_) (fun σ' H' ⟨e, hall, v2, hσ⟩ => ?_)
    · subst hσ
      have hin : EvT (tTest (tOp rNiSg (tVar 2) (tC (.str ("0123456789" : Str))))) [some (sV w), some (nV most), some (sV [c])] H' (!digit c) := by
        refine et_is (et_test (ev_op (z := .bl (!decide (c ∈ [48, 49, 50, 51, 52, 53, 54, 55, 56, 57]))) (ev_var rfl) ev_c fun H1 e1 Q q => ⟨c, S [48, 49, 50, 51, 52, 53, 54, 55, 56, 57], rfl, rfl, q H1 (Ex.refl H1)⟩)) ?_
        congr 1
        unfold digit
        by_cases h1 : 48 ≤ c ∧ c ≤ 57
        · rw [decide_eq_true h1.1, decide_eq_true h1.2]
          refine decide_eq_true ?_
          have : c = 48 ∨ c = 49 ∨ c = 50 ∨ c = 51 ∨ c = 52 ∨ c = 53 ∨ c = 54 ∨ c = 55 ∨ c = 56 ∨ c = 57 := by omega
          simp only [List.mem_cons, List.not_mem_nil, or_false]
          exact this
        · rw [decide_eq_false]
          · by_cases h2 : 48 ≤ c
            · rw [decide_eq_false (show ¬ c ≤ 57 by omega), Bool.and_false]
            · rw [decide_eq_false h2, Bool.false_and]
          · simp only [List.mem_cons, List.not_mem_nil, or_false]
            omega
      refine s_when hin (fun hz H2 e2 => ?_) (fun hz H2 e2 => ⟨e.trans e2, ?_, _, rfl⟩)
      · have hf : ¬ (w.all digit = true) := fun hall => by
          have := List.all_eq_true.mp hall c (List.mem_of_getElem? hc)
          rw [this] at hz; cases hz
        refine hno ?_ H2 (e.trans e2)
        rw [hw, if_pos (.inr (.inr (.inr hf)))]
      · rw [take_next hc, List.all_append, hall]
        simpa using hz
    · subst hσ
      rw [List.take_length] at hall
      have hnum : numW w most = some (PySem.NumText.digitsVal w) := by
        rw [hw, if_neg]
        rintro (z | z | z | z)
        · exact hb (.inl z)
        · exact hb (.inr (.inl z))
        · exact hb (.inr (.inr z))
        · exact z hall
      have hne : w ≠ [] := fun z => hb (.inl z)
      have hlen : w.length ≤ 600 := by
        have : ¬ most < w.length := fun z => hb (.inr (.inl z))
        omega
      exact s_ret (v := nV (PySem.NumText.digitsVal w)) (ev_cb (ea_cons (ev_var rfl) ea_nil) fun H1 e1 Q q => ⟨S w, _, rfl, SX.int_S hall hne (by omega), by rw [S_len]; omega, q H1 (Ex.refl H1)⟩) fun H2 e2 => hyes _ hnum H2 (e.trans e2)
theorem words_at {l : Addr} {W : List (List Nat)} {i : Nat} {w : List Nat} {tl ti : TE} (h : Ev tl σ H (.ref l)) (hl : H l = some (.lst (wordsV W))) (hi : Ev ti σ H (nV i)) (hw : W[i]? = some w) : Ev (tOp (rIxL K) tl ti) σ H (sV w) :=
  ev_op h hi (rv_ixL (SqL.of hl) (atI_nat (by unfold wordsV; rw [List.getElem?_map, hw]; rfl)))
theorem sqT_W (F : WFc K a) : SqT K H a.WORDS [sV kind0, sV kind1, sV kind2] := let ⟨o, its, n, h1, h2, _, h3, h4, h5⟩ := F.w; .inr ⟨o, its, n, h1, h2, h3, h4, h5⟩
theorem inV_kinds (k : List Nat) : inV (sV k) [sV kind0, sV kind1, sV kind2] = (decide (k = kind0) || decide (k = kind1) || decide (k = kind2)) := by
  have e : ∀ z : List Nat, eqV (sV z) (sV k) = decide (k = z) := fun z => by
    show (S z == S k) = decide (k = z)
    rw [S_beq_eq]
    exact decide_eq_decide.mpr ⟨fun h => h.symm, fun h => h.symm⟩
  show [sV kind0, sV kind1, sV kind2].any (fun z => eqV z (sV k)) = _
  simp only [List.any_cons, List.any_nil, e, Bool.or_false, Bool.or_assoc]
theorem kindOf_snoc (k : List Nat) (c : Nat) : kindOf (k ++ [c]) = if c = 58 then (if k = kind0 then some 0 else if k = kind1 then some 1 else if k = kind2 then some 2 else none) else none := by
  unfold kindOf
  rw [List.getLast?_concat, List.dropLast_concat]
  by_cases h : c = 58
  · rw [if_pos (by rw [h]), if_pos h]
  · rw [if_neg (fun z => h (Option.some.inj z)), if_neg h]
theorem split_at {te ts : TE} {t : List Nat} {i : Nat} (h : Ev te σ H (sV t)) (h2 : Ev ts σ H (sV [32])) (hl : t.length ≤ 90000) (k : ∀ p H1, H p = none → Ex H H1 → H1 p = some (.lst (wordsV (wordsOf t))) → tz D (σ.set i (some (.ref p))) H1) : tSeq (tAsg (tM1 rSplit te ts) (gName i)) tz D σ H :=
  h H (Ex.refl H) _ fun H1 e1 => ⟨⟨S t, rfl⟩, h2 H1 e1 _ fun H2 e2 => ⟨S t, S [32], rfl, rfl, by rw [S_len]; rfl, by rw [S_len]; exact sz_of (by omega), fun p hp => k p _ (fresh_back (e1.trans e2) hp) ((e1.trans e2).trans (Ex.new hp)) (by rw [upd_same, words_eq]; unfold wordsV; rw [List.map_map]; rfl)⟩⟩
theorem cut_two {α : Type} (x y : α) (r : List α) : cutG (x :: y :: r) (some 2) none = r := by
  have e : HT.sIx (x :: y :: r).length 0 (some 2) = 2 := by
    have := HT.sIx_nat (x :: y :: r).length 0 2
    rw [show ((2 : Nat) : Int) = 2 from rfl] at this
    rw [this, List.length_cons, List.length_cons]; omega
  unfold cutG
  rw [HT.sIx_none, e]
  show r.take _ = r
  exact List.take_of_length_le (by rw [List.length_cons, List.length_cons]; omega)
/-- xs.append(f(..)) -/
theorem s_appCall {sp : Sp} {E : XK} {tl : TE} {args : TA} {l : Addr} {xs vs : List V} (gl : Ev tl σ H (.ref l)) (hl : H l = some (.lst xs)) (ha : EvA args σ H vs) (hz : xs.length < 100000)
    (k : ∀ H1, Ex H H1 → sp vs H1 (fun v H2 => Ex H1 H2 ∧ D.nx σ (upd H2 l (.lst (xs ++ [v])))) E) (mono : ∀ (Q1 Q2 : VK), (∀ v H', Q1 v H' → Q2 v H') → ∀ H1, sp vs H1 Q1 E → sp vs H1 Q2 E) : tDrop (tBM K "list" rAppend tl (tCons (tCall sp [] E args) tNil)) D σ H :=
  gl H (Ex.refl H) _ fun H1 e1 => ⟨Or.inl ⟨rfl, _, SqL.of (e1 _ _ hl)⟩, w_callA (Q := fun v H2 => rAppend (.ref l) [v] H2 (fun _ H3 => D.nx σ H3)) (ha.mono e1) fun H2 e2 => mono _ _ (fun v H3 ⟨e3, q⟩ => ⟨l, xs, v, rfl, rfl, ((e1.trans e2).trans e3) _ _ hl, sz_lt hz, q⟩) H2 (k H2 (e1.trans e2))⟩
theorem num_mono {vs : List V} {E : XK} (Q1 Q2 : VK) (h : ∀ v H', Q1 v H' → Q2 v H') (H1 : Hp) (hs : sp_number_of K a vs H1 Q1 E) : sp_number_of K a vs H1 Q2 E :=
  let ⟨w, most, h1, h2, h3, h4, h5⟩ := hs
  ⟨w, most, h1, h2, h3, h4, fun n hn H2 e2 => h _ _ (h5 n hn H2 e2)⟩
theorem ev_kindIdx {ts : TE} {k : List Nat} {rule : Nat} (F : WFc K a) (h : Ev ts σ H (sV k)) (hr : rule ≤ 2) (hk : k = kindW rule) : Ev (tBM K "tuple" (rTupIdx K) (tC (.ref a.WORDS)) (tCons ts tNil)) σ H (nV rule) := fun H1 e Q q => by
  obtain ⟨o, its, m, h1, h2, h3, h4, h5, h6⟩ := F.w
  refine ⟨Or.inr (Or.inl ⟨rfl, o, h1, h2, h3⟩), h H1 e _ fun H2 e2 => ⟨a.WORDS, [S kind0, S kind1, S kind2], S k, rule, rfl, rfl, sqT_W F, ?_, ?_, q H2 e2⟩⟩
  · subst hk
    match rule, hr with
    | 0, _ => rfl
    | 1, _ => rfl
    | 2, _ => rfl
  · subst hk
    intro m hm
    match rule, hr, m, hm with
    | 1, _, 0, _ => exact fun z => absurd (S_inj (Option.some.inj z)) (by decide)
    | 2, _, 0, _ => exact fun z => absurd (S_inj (Option.some.inj z)) (by decide)
    | 2, _, 1, _ => exact fun z => absurd (S_inj (Option.some.inj z)) (by decide)
theorem r_read (F : WFc K a) (vs : List V) (H : Hp) (Q : VK) (E : XK) (h : sp_read K a vs H Q E) : Go (t_read K a E) N_read vs H Q := by
  obtain ⟨t, rfl, hl, hno, hnl, hyes⟩ := h
  have hlen := words_len t
  refine split_at (ev_var rfl) ev_c hl fun wl H1 hwl e1 hw1 => ?_
  generalize wordsOf t = W at *
  have hwlen : ∀ {H'}, Ex H1 H' → Ev (tCB (rLenL K) (tCons (tVar 1) tNil)) [some (sV t), some (.ref wl), none, none, none] H' (nV W.length) := fun {H'} e => by
    have := ev_len' (K := K) (σ := [some (sV t), some (.ref wl), none, none, none]) (ta := tVar 1) (ev_var rfl) (SqL.of (e _ _ hw1))
    unfold wordsV at this
    rw [List.length_map] at this
    exact this
  -- the head: two words, the kind
  have hsl : ∀ {H'} {w : List Nat} {k : List Nat} {c : Nat} {v2 v3 v4 : Option V}, Ex H1 H' → W[1]? = some w → w = k ++ [c] → Ev (tSl C8.rSlX (tOp (rIxL K) (tVar 1) (tC (.int 1))) (tPart (tUn rNegI (tC (.int 1)))) tNoPart) [some (sV t), some (.ref wl), v2, v3, v4] H' (sV [c]) ∧ Ev (tSl C8.rSlX (tOp (rIxL K) (tVar 1) (tC (.int 1))) tNoPart (tPart (tUn rNegI (tC (.int 1))))) [some (sV t), some (.ref wl), v2, v3, v4] H' (sV k) := fun {H' w k c v2 v3 v4} e hw hk => by
    subst hk
    have hz : (k ++ [c]).length ≤ 100000 := by have := hlen.2 _ (List.mem_of_getElem? hw); omega
    have hz' : (S (k ++ [c])).length ≤ 100000 := by rw [S_len]; exact hz
    have ew := words_at (K := K) (σ := [some (sV t), some (.ref wl), v2, v3, v4]) (tl := tVar 1) (ti := tC (.int 1)) (i := 1) (ev_var rfl) (e _ _ hw1) ev_c hw
    have s1 := ev_slS (lo := some (-1)) (hi := none) ew (eo_some (ev_un (ev_c (v := .int 1)) ru_neg)) eo_none hz'
    have s2 := ev_slS (lo := none) (hi := some (-1)) ew eo_none (eo_some (ev_un (ev_c (v := .int 1)) ru_neg)) hz'
    rw [SX.last_snoc] at s1
    rw [SX.butlast_snoc] at s2
    exact ⟨s1, s2⟩
  obtain ⟨b, hb, hb2⟩ : ∃ b : Bool, EvT (tOr (tTest (tOp rLtI (tCB (rLenL K) (tCons (tVar 1) tNil)) (tC (.int 2)))) (tOr (tTest (tOp rNe (tSl C8.rSlX (tOp (rIxL K) (tVar 1) (tC (.int 1))) (tPart (tUn rNegI (tC (.int 1)))) tNoPart) (tC (.str (":" : Str))))) (tTest (tOp (rIn K true) (tSl C8.rSlX (tOp (rIxL K) (tVar 1) (tC (.int 1))) tNoPart (tPart (tUn rNegI (tC (.int 1))))) (tC (.ref a.WORDS)))))) [some (sV t), some (.ref wl), none, none, none] H1 b ∧
      (b = true → readM W = none) ∧ (b = false → ∃ w0 k rest rule, W = w0 :: (k ++ [58]) :: rest ∧ kindOf (k ++ [58]) = some rule ∧ rule ≤ 2 ∧ k = kindW rule) := by
    have hlt := et_test (ev_op (hwlen (Ex.refl H1)) (ev_c (v := .int 2)) rv_lt)
    match hW : W with
    | [] => exact ⟨true, et_is (et_or (b := false) hlt fun z => by cases z) rfl, fun _ => rfl, fun z => by cases z⟩
    | [w] => exact ⟨true, et_is (et_or (b := false) hlt fun z => by cases z) rfl, fun _ => rfl, fun z => by cases z⟩
    | w0 :: w1 :: rest =>
      rcases List.eq_nil_or_concat w1 with z | ⟨k, c, z⟩
      · subst z
        have ew := words_at (K := K) (σ := [some (sV t), some (.ref wl), none, none, none]) (tl := tVar 1) (ti := tC (.int 1)) (i := 1) (ev_var rfl) hw1 ev_c rfl
        have s1 := ev_slS (lo := some (-1)) (hi := none) ew (eo_some (ev_un (ev_c (v := .int 1)) ru_neg)) eo_none (by decide)
        refine ⟨true, et_is (et_or hlt fun _ => et_or (b := false) (et_test (ev_neS (x := []) (y := [58]) s1 ev_c)) fun z => by cases z) (by simp), fun _ => rfl, fun z => by cases z⟩
      · rw [List.concat_eq_append] at z
        subst z
        obtain ⟨s1, s2⟩ := hsl (v2 := none) (v3 := none) (v4 := none) (Ex.refl H1) rfl rfl
        have hin := ev_op (r := rIn K true) s2 (ev_c (v := .ref a.WORDS)) (rv_niT (sqT_W F) rfl rfl)
        rw [inV_kinds] at hin
        refine ⟨_, et_or hlt fun _ => et_or (et_test (ev_neS (x := [c]) (y := [58]) s1 ev_c)) fun _ => et_test hin, fun hz => ?_, fun hz => ?_⟩
        · have hk : kindOf (k ++ [c]) = none := by
            rw [kindOf_snoc]
            by_cases hc : c = 58
            · rw [if_pos hc]
              subst hc
              by_cases h0 : k = kind0
              · simp [h0] at hz; omega
              · by_cases h1 : k = kind1
                · simp [h1] at hz; omega
                · by_cases h2 : k = kind2
                  · simp [h2] at hz; omega
                  · rw [if_neg h0, if_neg h1, if_neg h2]
            · rw [if_neg hc]
          show (if (w0 :: (k ++ [c]) :: rest).length < 2 then none else match kindOf (k ++ [c]), numW w0 3 with
            | some rule, some n => if n < 2 ∨ 200 < n ∨ (w0 :: (k ++ [c]) :: rest).length ≠ n + 2 then none else (cellsM rest).map fun row => (rule, row)
            | _, _ => none) = none
          rw [hk]
          split <;> rfl
        · have hc : c = 58 := by
            by_cases hc : c = 58
            · exact hc
            · simp [hc] at hz
          subst hc
          by_cases h0 : k = kind0
          · exact ⟨w0, k, rest, 0, rfl, by rw [kindOf_snoc, if_pos rfl, if_pos h0], by decide, h0⟩
          · by_cases h1 : k = kind1
            · exact ⟨w0, k, rest, 1, rfl, by rw [kindOf_snoc, if_pos rfl, if_neg h0, if_pos h1], by decide, h1⟩
            · by_cases h2 : k = kind2
              · exact ⟨w0, k, rest, 2, rfl, by rw [kindOf_snoc, if_pos rfl, if_neg h0, if_neg h1, if_pos h2], by decide, h2⟩
              · simp [h0, h1, h2] at hz
  refine q_when hb (fun hz H2 e2 => hno (hb2.1 hz) H2 (e1.trans e2)) (fun hz H2 e2 => ?_)
  obtain ⟨w0, k, rest, rule, hW, hkind, hr2, hkw⟩ := hb2.2 hz
  have hread : readM W = match numW w0 3 with
      | some n => if n < 2 ∨ 200 < n ∨ W.length ≠ n + 2 then none else (cellsM rest).map fun row => (rule, row)
      | none => none := by
    subst hW
    show (if (w0 :: (k ++ [58]) :: rest).length < 2 then none else match kindOf (k ++ [58]), numW w0 3 with
      | some rule, some n => if n < 2 ∨ 200 < n ∨ (w0 :: (k ++ [58]) :: rest).length ≠ n + 2 then none else (cellsM rest).map fun row => (rule, row)
      | _, _ => none) = _
    rw [hkind, if_neg (by rw [List.length_cons, List.length_cons]; omega)]
    cases numW w0 3 with
    | none => rfl
    | some n => rfl
  have hW0 : W[0]? = some w0 := by rw [hW]; rfl
  have hW1 : W[1]? = some (k ++ [58]) := by rw [hW]; rfl
  have hWl : W.length = rest.length + 2 := by rw [hW]; rfl
  have hwbound : ∀ w, w ∈ W → w.length ≤ 100000 := fun w hw => by have := hlen.2 w hw; omega
  have e12 := e1.trans e2
  refine q_callA (vs := [sV w0, nV 3]) (ea_cons (words_at (i := 0) (ev_var rfl) (e2 _ _ hw1) ev_c hW0) (ea_cons ev_c ea_nil)) fun H3 e3 => ⟨w0, 3, rfl, by decide, hwbound _ (List.mem_of_getElem? hW0), fun hn H' e' => hno (by rw [hread, hn]) H' ((e12.trans e3).trans e'), fun n hn H4 e4 => ?_⟩
  have e14 := e2.trans (e3.trans e4)
  have e04 := e1.trans e14
  rw [hn] at hread
  have hlen4 : Ev (tCB (rLenL K) (tCons (tVar 1) tNil)) [some (sV t), some (.ref wl), some (nV n), none, none] H4 (nV W.length) := by
    have := ev_len' (K := K) (σ := [some (sV t), some (.ref wl), some (nV n), none, none]) (ta := tVar 1) (ev_var rfl) (SqL.of (e14 _ _ hw1))
    unfold wordsV at this
    rw [List.length_map] at this
    exact this
  refine q_when (b := decide (n < 2 ∨ 200 < n ∨ W.length ≠ n + 2)) (et_is (et_or (et_test (ev_op (ev_var rfl) ev_c rv_lt)) fun _ => et_or (et_test (ev_op (ev_var rfl) ev_c rv_gt)) fun _ => et_test (ev_op hlen4 (ev_op (ev_var rfl) ev_c rv_add) rv_neI)) ?_) (fun hz H5 e5 => ?_) (fun hz H5 e5 => ?_)
  · have d1 : decide ((n : Int) < 2) = decide (n < 2) := decide_eq_decide.mpr (by omega)
    have d2 : decide ((200 : Int) < (n : Int)) = decide (200 < n) := decide_eq_decide.mpr (by omega)
    have d3 : decide ((W.length : Int) = (n : Int) + 2) = decide (W.length = n + 2) := decide_eq_decide.mpr (by omega)
    rw [d1, d2, d3]
    simp
  · exact hno (by rw [hread]; exact if_pos (of_decide_eq_true hz)) H5 (e04.trans e5)
  · have hz := of_decide_eq_false hz
    have hread2 : readM W = (cellsM rest).map fun row => (rule, row) := by rw [hread]; exact if_neg hz
    have hn2 : 2 ≤ n ∧ n ≤ 200 ∧ rest.length = n := by omega
    have e05 := e04.trans e5
    have e15 := e14.trans e5
    refine q_asgL (el_lst ea_nil (by decide)) fun lay H6 hlay e6 hlay6 => ?_
    have hlay0 := fresh_back e05 hlay
    have e16 := e15.trans e6
    have hcut : EvL (tSl (rSlL K) (tVar 1) (tPart (tC (.int 2))) tNoPart) [some (sV t), some (.ref wl), some (nV n), some (.ref lay), none] H6 (wordsV rest) := by
      have := el_sl (K := K) (σ := [some (sV t), some (.ref wl), some (nV n), some (.ref lay), none]) (te := tVar 1) (tl := tPart (tC (.int 2))) (th := tNoPart) (lo := some 2) (hi := none) (ev_var rfl) (eo_some ev_c) eo_none (SqL.of (e16 _ _ hw1))
      unfold wordsV at this
      rw [cutV_map, hW, cut_two] at this
      exact this
    refine q_forNLs hcut fun q H7 hq e7 hq7 => ?_
    let g : List Nat → Option Nat := fun w => (cellW w).getD none
    have nql : lay ≠ q := ne_some hlay6 hq
    refine q_forLn ev_c (SqL.of hq7) (fun i σ' H' => Ex H H' ∧ H' q = some (.lst (wordsV rest)) ∧ H' wl = some (.lst (wordsV W)) ∧ (rest.take i).all (fun w => (cellW w).isSome) = true ∧ H' lay = some (.lst (rowV ((rest.take i).map g))) ∧ ∃ v4, σ' = [some (sV t), some (.ref wl), some (nV n), some (.ref lay), v4]) (fun H8 e8 => ⟨(e05.trans e6).trans (e7.trans e8), e8 _ _ hq7, (e16.trans (e7.trans e8)) _ _ hw1, rfl, (e7.trans e8) _ _ hlay6, none, rfl⟩) (fun i σ' H' _ ⟨_, hq, _⟩ => SqL.of hq) (fun i x σ' H' hi ⟨e, hq', hwl', hall, hlay', v4, hσ⟩ => ?_) (fun σ' H' ⟨e, hq', hwl', hall, hlay', v4, hσ⟩ => ?_)
    · subst hσ
      obtain ⟨w, hw, rfl⟩ : ∃ w, rest[i]? = some w ∧ x = sV w := by
        unfold wordsV at hi
        rw [List.getElem?_map] at hi
        cases z : rest[i]? with
        | none => rw [z] at hi; cases hi
        | some w => rw [z] at hi; exact ⟨w, rfl, (Option.some.inj hi).symm⟩
      have hwm : w ∈ W := by rw [hW]; exact List.mem_cons_of_mem _ (List.mem_cons_of_mem _ (List.mem_of_getElem? hw))
      have hil := (List.getElem?_eq_some_iff.mp hw).1
      have hnwl : lay ≠ wl := fun z => by subst z; rw [fresh_back e12 (fresh_back (e3.trans (e4.trans e5)) hlay)] at hwl; have := e15 _ _ hw1; rw [hlay] at this; cases this
      -- one cell more
      have step : ∀ (o : Option Nat) (H8 : Hp), cellW w = some o → Ex H H8 → H8 q = some (.lst (wordsV rest)) → H8 wl = some (.lst (wordsV W)) → H8 lay = some (.lst (rowV ((rest.take i).map g))) → (fun σ' H' => Ex H H' ∧ H' q = some (.lst (wordsV rest)) ∧ H' wl = some (.lst (wordsV W)) ∧ (rest.take (i + 1)).all (fun w => (cellW w).isSome) = true ∧ H' lay = some (.lst (rowV ((rest.take (i + 1)).map g))) ∧ ∃ v4, σ' = [some (sV t), some (.ref wl), some (nV n), some (.ref lay), v4]) ([some (sV t), some (.ref wl), some (nV n), some (.ref lay), some (sV w)] : L2.St) (upd H8 lay (.lst (rowV ((rest.take i).map g) ++ [oV o]))) := fun o H8 hc e8 h1 h2 h3 => by
        refine ⟨Ex.mut e8 hlay0, by rw [upd_ne nql.symm]; exact h1, by rw [upd_ne hnwl.symm]; exact h2, ?_, ?_, _, rfl⟩
        · rw [take_next hw, List.all_append, hall]
          simp [hc]
        · rw [upd_same, take_next hw, List.map_append]
          have : g w = o := by show (cellW w).getD none = o; rw [hc]; rfl
          show _ = some (HO.lst (rowV ((rest.take i).map g ++ [g w])))
          rw [this]
          unfold rowV
          rw [List.map_append]; rfl
      refine s_if (et_test (ev_eqS (y := [45]) (ev_var rfl) ev_c)) (fun hz H8 e8 => ?_) (fun hz H8 e8 => ?_)
      · have hw45 := of_decide_eq_true hz
        refine s_app (v := .non) (e8 _ _ hlay') (ev_var rfl) ev_c (lt_sz (by rw [rowV_len, List.length_map, List.length_take]; omega)) fun H9 e9 => ?_
        have e89 := e8.trans e9
        exact step none H9 (by unfold cellW; rw [if_pos hw45]) (e.trans e89) (e89 _ _ hq') (e89 _ _ hwl') (e89 _ _ hlay')
      · have hw45 := of_decide_eq_false hz
        have hcw : cellW w = (numW w 30).map some := by unfold cellW; rw [if_neg hw45]
        refine s_appCall (K := K) (σ := [some (sV t), some (.ref wl), some (nV n), some (.ref lay), some (sV w)]) (sp := sp_number_of K a) (E := E) (tl := tVar 3) (args := tCons (tVar 4) (tCons (tC (.int 30)) tNil)) (l := lay) (xs := rowV ((rest.take i).map g)) (vs := [sV w, nV 30]) (ev_var rfl) (e8 _ _ hlay') (ea_cons (ev_var rfl) (ea_cons ev_c ea_nil)) (lt_sz (by rw [rowV_len, List.length_map, List.length_take]; omega)) (fun H9 e9 => ⟨w, 30, rfl, by decide, hwbound w hwm, fun hn9 H10 e10 => ?_, fun m hm H10 e10 => ⟨e10, ?_⟩⟩) num_mono
        · refine hno ?_ H10 (e.trans ((e8.trans e9).trans e10))
          rw [hread2]
          have : cellsM rest = none := by
            unfold cellsM
            rw [if_neg]
            intro z
            have := List.all_eq_true.mp z w (List.mem_of_getElem? hw)
            rw [hcw, hn9] at this
            cases this
          rw [this]; rfl
        · have e810 := (e8.trans e9).trans e10
          exact step (some m) H10 (by rw [hcw, hm]; rfl) (e.trans e810) (e810 _ _ hq') (e810 _ _ hwl') (e810 _ _ hlay')
    · subst hσ
      have hrl : (wordsV rest).length = rest.length := by unfold wordsV; exact List.length_map ..
      rw [hrl, List.take_length] at hall hlay'
      have hrow : cellsM rest = some (rest.map g) := by unfold cellsM; rw [if_pos hall]
      have hr3 : readM W = some (rule, rest.map g) := by rw [hread2, hrow]; rfl
      have hrowl : (rest.map g).length = n := by rw [List.length_map]; exact hn2.2.2
      have hsl2 : Ev (tSl C8.rSlX (tOp (rIxL K) (tVar 1) (tC (.int 1))) tNoPart (tPart (tUn rNegI (tC (.int 1))))) [some (sV t), some (.ref wl), some (nV n), some (.ref lay), v4] H' (sV k) := by
        have hz : (k ++ [58]).length ≤ 100000 := hwbound _ (List.mem_of_getElem? hW1)
        have ew := words_at (K := K) (σ := [some (sV t), some (.ref wl), some (nV n), some (.ref lay), v4]) (tl := tVar 1) (ti := tC (.int 1)) (i := 1) (ev_var rfl) hwl' ev_c hW1
        have s2 := ev_slS (lo := none) (hi := some (-1)) ew eo_none (eo_some (ev_un (ev_c (v := .int 1)) ru_neg)) (by rw [S_len]; exact hz)
        rw [SX.butlast_snoc] at s2
        exact s2
      refine w_callA (vs := [nV n, nV rule, .ref lay]) (ea_cons (ev_var rfl) (ea_cons (ev_kindIdx F hsl2 hr2 hkw) (ea_cons (ev_var rfl) ea_nil))) fun H8 e8 => ?_
      refine ⟨lay, rule, rest.map g, by rw [hrowl], e8 _ _ hlay', by omega, by omega, fun nR H9 e9 => hnl _ _ hr3 nR H9 ((e.trans e8).trans e9), fun R p r H9 hp hr hpr e9 Y => hyes _ _ hr3 R p r H9 (fresh_back (e.trans e8) hp) (fresh_back (e.trans e8) hr) hpr ((e.trans e8).trans e9) Y⟩
end
end SY

namespace SY
open PySem L2 Evl
open SX (S S_inj S_len S_cat S_beq_eq)
theorem joinL_flat : ∀ (ws : List (List Nat)) (p : List Nat), TL.joinL [32] (p :: ws) = p ++ (ws.map fun w => 32 :: w).flatten
  | [], p => by show p = p ++ []; rw [List.append_nil]
  | q :: r, p => by
    show p ++ ([32] ++ TL.joinL [32] (q :: r)) = _
    rw [joinL_flat r q]
    simp
theorem numL_head {n : Nat} (h : (TL.numL n).head? = some 48) : n = 0 := by
  induction n using Nat.strongRecOn with
  | _ n ih =>
    by_cases hn : n < 10
    · rw [TL.numL_lt hn] at h
      have := Option.some.inj h
      omega
    · rw [TL.numL_step (by omega)] at h
      have hne := TL.numL_ne (n / 10)
      have hh : (TL.numL (n / 10)).head? = some 48 := by
        cases e : TL.numL (n / 10) with
        | nil => exact absurd e hne
        | cons c r => rw [e] at h; exact h
      have := ih (n / 10) (by omega) hh
      omega
theorem numW_num {n k : Nat} (hk : 0 < k) (h : n < 10 ^ k) : numW (TL.numL n) k = some n := by
  unfold numW
  rw [if_neg, TL.numL_val]
  rintro (z | z | z | z)
  · exact TL.numL_ne n z
  · have := TL.numL_len hk h; omega
  · have := numL_head z.1
    subst this
    exact z.2 (TL.numL_lt (by decide))
  · refine z (List.all_eq_true.mpr fun c hc => ?_)
    have := TL.numL_digits n c hc
    unfold digit
    rw [decide_eq_true this.1, decide_eq_true this.2]; rfl
theorem cellW_T {o : Option Nat} (h : ∀ c, o = some c → c < 10 ^ 30) : cellW (cellT o) = some o := by
  cases o with
  | none => rfl
  | some c =>
    unfold cellW
    show (if TL.numL c = [45] then some none else (numW (TL.numL c) 30).map some) = _
    rw [if_neg, numW_num (by decide) (h c rfl)]
    · rfl
    · intro z
      have := TL.numL_digits c 45 (by rw [z]; simp)
      omega
theorem free_num (n : Nat) : 32 ∉ TL.numL n := TL.numL_free (by decide)
theorem free_cell (o : Option Nat) : 32 ∉ cellT o := by
  cases o with
  | none => decide
  | some c => exact free_num c
theorem free_kind (rule : Nat) : 32 ∉ kindW rule ++ [58] := by
  unfold kindW
  split
  · decide
  · split <;> decide
theorem kind_of {rule : Nat} (h : rule ≤ 2) : kindOf (kindW rule ++ [58]) = some rule := by
  match rule, h with
  | 0, _ => rfl
  | 1, _ => rfl
  | 2, _ => rfl
theorem showT_eq (rule : Nat) (row : Row) : showT rule row = TL.joinL [32] (TL.numL row.length :: (kindW rule ++ [58]) :: row.map cellT) := by
  rw [joinL_flat]
  unfold showT
  simp [List.map_map, Function.comp_def]
theorem show_words (rule : Nat) (row : Row) : wordsOf (showT rule row) = TL.numL row.length :: (kindW rule ++ [58]) :: row.map cellT := by
  rw [showT_eq]
  refine TL.spl_join (by simp) fun p hp => ?_
  rcases List.mem_cons.mp hp with rfl | hp
  · exact free_num _
  · rcases List.mem_cons.mp hp with rfl | hp
    · exact free_kind rule
    · obtain ⟨o, _, rfl⟩ := List.mem_map.mp hp
      exact free_cell o
/-- what is shown is read back -/
theorem read_show {rule : Nat} {row : Row} (h2 : 2 ≤ row.length) (h200 : row.length ≤ 200) (hr : rule ≤ 2) (hn : ∀ c, c ∈ names row → c < 10 ^ 30) : readM (wordsOf (showT rule row)) = some (rule, row) := by
  have ho : ∀ o, o ∈ row → cellW (cellT o) = some o := fun o ho => cellW_T fun c hc => by
    subst hc
    obtain ⟨i, hi⟩ := List.mem_iff_getElem?.mp ho
    exact hn c (mem_names.mpr ⟨i, hi⟩)
  have hcells : cellsM (row.map cellT) = some row := by
    unfold cellsM
    rw [if_pos]
    · rw [List.map_map]
      congr 1
      have : row.map ((fun w => (cellW w).getD none) ∘ cellT) = row.map id := List.map_congr_left fun o h => by show (cellW (cellT o)).getD none = o; rw [ho o h]; rfl
      rw [this, List.map_id]
    · rw [List.all_map]
      exact List.all_eq_true.mpr fun o h => by show (cellW (cellT o)).isSome = true; rw [ho o h]; rfl
  rw [show_words]
  show (if (TL.numL row.length :: (kindW rule ++ [58]) :: row.map cellT).length < 2 then none else match kindOf (kindW rule ++ [58]), numW (TL.numL row.length) 3 with
    | some rule, some n => if n < 2 ∨ 200 < n ∨ (TL.numL row.length :: (kindW rule ++ [58]) :: row.map cellT).length ≠ n + 2 then none else (cellsM (row.map cellT)).map fun row => (rule, row)
    | _, _ => none) = some (rule, row)
  rw [if_neg (by rw [List.length_cons, List.length_cons]; omega), kind_of hr, numW_num (by decide) (show row.length < 10 ^ 3 by omega)]
  show (if row.length < 2 ∨ 200 < row.length ∨ (TL.numL row.length :: (kindW rule ++ [58]) :: row.map cellT).length ≠ row.length + 2 then none else (cellsM (row.map cellT)).map fun row => (rule, row)) = _
  rw [if_neg (by rw [List.length_cons, List.length_cons, List.length_map]; omega), hcells]
  rfl
/-- the text as far as it is written -/
def partT (n rule : Nat) (cells : Row) : List Nat := TL.numL n ++ [32] ++ kindW rule ++ [58] ++ (cells.map fun o => 32 :: cellT o).flatten
theorem partT_next (n rule : Nat) (cells : Row) (o : Option Nat) : partT n rule (cells ++ [o]) = partT n rule cells ++ (32 :: cellT o) := by
  unfold partT
  simp
theorem cells_len : ∀ {cells : Row}, (∀ c, c ∈ names cells → c < 10 ^ 30) → ((cells.map fun o => 32 :: cellT o).flatten).length ≤ 31 * cells.length
  | [], _ => Nat.le_refl _
  | o :: r, h => by
    rw [List.map_cons, List.flatten_cons, List.length_append, List.length_cons, List.length_cons]
    have ih := cells_len (cells := r) fun c hc => h c (by cases o with | none => exact hc | some d => rw [names_cons_some]; exact List.mem_cons_of_mem _ hc)
    have : (cellT o).length ≤ 30 := by
      cases o with
      | none => show 1 ≤ 30; decide
      | some c => exact TL.numL_len (by decide) (h c (by rw [names_cons_some]; exact List.mem_cons_self ..))
    omega
theorem kindW_len (rule : Nat) : (kindW rule).length ≤ 5 := by
  unfold kindW
  split
  · decide
  · split <;> decide
theorem partT_len {n rule : Nat} {cells : Row} (hn : n ≤ 200) (h : ∀ c, c ∈ names cells → c < 10 ^ 30) : (partT n rule cells).length ≤ 20 + 31 * cells.length := by
  have h1 := TL.numL_len (n := n) (k := 3) (by decide) (by omega)
  have h2 := kindW_len rule
  have h3 := cells_len h
  unfold partT
  rw [List.length_append, List.length_append, List.length_append, List.length_append]
  show _ + 1 + _ + 1 + _ ≤ _
  omega
theorem names_take_mem {row : Row} {i c : Nat} (h : c ∈ names (row.take i)) : c ∈ names row := by
  obtain ⟨j, hj⟩ := mem_names.mp h
  refine mem_names.mpr ⟨j, ?_⟩
  have hjl := (List.getElem?_eq_some_iff.mp hj).1
  rw [List.length_take] at hjl
  rw [List.getElem?_take_of_lt (by omega)] at hj
  exact hj
section
variable {K : PySem.W.Frag} {a : Ad} {M H H' H1 H2 : Hp} {σ : L2.St} {D : Ends} {tz : TS} {p r w : Addr} {rule c s n : Nat} {row : Row} {ty tn tw tr : TE}
/-- line + " " + str(name) -/
theorem ev_lineName {tl tc : TE} {x : List Nat} (h1 : Ev tl σ H (sV x)) (h2 : Ev tc σ H (nV c)) (hx : x.length ≤ 50000) (hc : c < 10 ^ 30) : Ev (tOp rAddS (tOp rAddS tl (tC (.str (" " : Str)))) (tCB rStrI (tCons tc tNil))) σ H (sV (x ++ (32 :: cellT (some c)))) := by
  have hl := TL.numL_len (k := 30) (by decide) hc
  have := ev_addS (ev_addS h1 (ev_c (v := sV [32])) (by show _ + 1 ≤ _; omega)) (ev_strI h2 hc) (by rw [List.length_append]; show _ + 1 + _ ≤ _; omega)
  rw [List.append_assoc] at this
  exact this
theorem ev_lineNone {tl : TE} {x : List Nat} (h1 : Ev tl σ H (sV x)) (hx : x.length ≤ 50000) : Ev (tOp rAddS tl (tC (.str (" -" : Str)))) σ H (sV (x ++ (32 :: cellT none))) := ev_addS (y := [32, 45]) h1 ev_c (by show _ + 2 ≤ _; omega)
theorem r_shown (Y0 : YFc K a) (F : WFc K a) (vs : List V) (H : Hp) (Q : VK) (E : XK) (h : sp_shown K a vs H Q E) : Go (t_shown K a E) N_shown vs H Q := by
  obtain ⟨p, r, rule, row, rfl, Y, hr, hn, k⟩ := h
  have hle := Y.le
  have hk := kindW_len rule
  have hnl := TL.numL_len (n := row.length) (k := 3) (by decide) (by omega)
  have hkind : Ev (tOp (rIxT K) (tC (.ref a.WORDS)) (tFld K (tVar 0) "rule")) [some (.ref p), none, none] H (sV (kindW rule)) := ev_op ev_c (ev_rule (ev_var rfl) Y.y Y0) (rv_ixT (sqT_W F) (atI_nat (by
    match rule, hr with
    | 0, _ => rfl
    | 1, _ => rfl
    | 2, _ => rfl)))
  refine q_asg (v := sV (partT row.length rule [])) (ev_is (ev_addS (ev_addS (ev_addS (ev_strI (ev_many (ev_var rfl) Y.y Y0) (by omega)) (ev_c (v := sV [32])) (by show _ + 1 ≤ _; omega)) hkind (by rw [List.length_append]; show _ + 1 + _ ≤ _; omega)) (ev_c (v := sV [58])) (by rw [List.length_append, List.length_append]; show _ + 1 + _ + 1 ≤ _; omega)) (by unfold partT; simp)) fun H1 e1 => ?_
  refine q_forNLn (el_stalls (ev_var rfl) (Y.ex e1)) (fun q i σ' H' => Ex H H' ∧ H' q = some (.lst (rowV row)) ∧ ∃ v2, σ' = [some (.ref p), some (sV (partT row.length rule (row.take i))), v2]) (fun q H2 hq e2 hq2 => ⟨e1.trans e2, hq2, none, rfl⟩) (fun q i σ' H' _ ⟨_, hq, _⟩ => SqL.of hq) (fun q i x σ' H' hi ⟨e, hq, v2, hσ⟩ => ?_) (fun q σ' H' ⟨e, hq, v2, hσ⟩ => ?_)
  · subst hσ
    obtain ⟨o, ho, rfl⟩ := row_get hi
    have hil := get_lt ho
    have hpl := partT_len (n := row.length) (rule := rule) (cells := row.take i) hle fun c hc => hn c (names_take_mem hc)
    rw [List.length_take] at hpl
    have hnext : partT row.length rule (row.take (i + 1)) = partT row.length rule (row.take i) ++ (32 :: cellT o) := by rw [take_next ho, partT_next]
    rw [hnext]
    cases o with
    | none =>
      refine s_if (b := true) (et_is (et_B (ev_isN (ev_var rfl))) (by rfl)) (fun _ H2 e2 => s_asg (ev_lineNone (ev_var rfl) (by omega)) fun H3 e3 => ⟨(e.trans e2).trans e3, (e2.trans e3) _ _ hq, _, rfl⟩) (fun z => by cases z)
    | some c =>
      refine s_if (b := false) (et_is (et_B (ev_isN (ev_var rfl))) (by rfl)) (fun z => by cases z) (fun _ H2 e2 => s_asg (ev_lineName (c := c) (ev_var rfl) (ev_var rfl) (by omega) (hn c (mem_names.mpr ⟨i, ho⟩))) fun H3 e3 => ⟨(e.trans e2).trans e3, (e2.trans e3) _ _ hq, _, rfl⟩)
  · subst hσ
    rw [rowV_len, List.take_length]
    exact s_ret (ev_var rfl) fun H3 e3 => k H3 (e.trans e3)
theorem v_shown (Y : YR a H p r rule row) (hr : rule ≤ 2) (hn : ∀ c, c ∈ names row → c < 10 ^ 30) : SpV (sp_shown K a) [.ref p] H (sV (showT rule row)) := fun H1 e1 Q q E => ⟨p, r, rule, row, rfl, Y.ex e1, hr, hn, q⟩
/-- put into both: told alike -/
theorem t_stoodPutB {Q : Bool → Hp → Prop} (T : Twin a M H p r w rule row) (h2 : rule ≤ 2) (hc : c ∉ names row) (hr : (names row).length + 1 < row.length) (gy : Ev ty σ H (.ref p)) (gn : ∀ H', Ev tn σ H' (nV c)) (gw : ∀ H', Ev tw σ H' (.ref w)) (gr : ∀ H', Ev tr σ H' (nV rule))
    (k : ∀ H1, Twin a M H1 p r w rule (putR rule row c).1 → Q false H1) : tNot (tB (tCall (sp_law_stood K a) [] E0 (tCons (tMeth a.Y "put" (sp_Yard_put K a) [] E0 ty (tCons tn tNil)) (tCons (tCall (sp_law_put K a) [] E0 (tCons tw (tCons tr (tCons tn tNil)))) tNil)))) σ H Q := by
  refine w_put (Q := fun v H1 => tCall (sp_law_put K a) [] E0 (tCons tw (tCons tr (tCons tn tNil))) σ H1 fun u H2 => sp_law_stood K a ([v, u] ++ []) H2 (fun x H3 => ∃ c, x = .bl c ∧ Q (!c) H3) E0) gy (gn _) T.Y T.ok hc hr fun l1 H1 hl1 hlr1 b1 Y1 m1 => ?_
  have W1 := b1 _ _ (Ne.symm T.ne) T.W
  refine w_lput (gw _) (gr _) (gn _) W1 T.le h2 T.ok hc fun l2 H2 hl2 hlw2 b2 w2 m2 => ?_
  refine ⟨l1, l2, _, _, rfl, m1.but b2 (T.lr hl1).2 (row_ntup W1), m2, fun H3 e3 => ⟨true, by rw [decide_eq_true rfl], ?_⟩⟩
  exact k H3 ((T.put hc hr b1 Y1.w b2 w2).ex e3)
end
end SY

namespace SY
open PySem L2 Evl
/-! ### names with worths -/
abbrev Tab := List (Nat × Int)
def keyN (c : Nat) : Key := .inl (c : Int)
theorem keyN_inj {c d : Nat} : keyN c = keyN d ↔ c = d := ⟨fun h => by have := Sum.inl.inj h; omega, fun h => by rw [h]⟩
def tabK (W : Tab) : List (Key × V) := W.map fun p => (keyN p.1, .int p.2)
def keysW (W : Tab) : List Nat := W.map (·.1)
def valW : Tab → Nat → Option Int
  | [], _ => none
  | p :: r, c => if p.1 = c then some p.2 else valW r c
def putW (W : Tab) (c : Nat) (z : Int) : Tab := if c ∈ keysW W then W.map (fun p => if p.1 = c then (p.1, z) else p) else W ++ [(c, z)]
def dropW (W : Tab) (c : Nat) : Tab := W.filter fun p => decide (p.1 ≠ c)
def zO : Option Int → V
  | none => .non
  | some z => .int z
theorem tab_val : ∀ (W : Tab) (c : Nat), valV (tabK W) (keyN c) = (valW W c).map V.int
  | [], _ => rfl
  | p :: r, c => by
    show valV ((keyN p.1, V.int p.2) :: tabK r) (keyN c) = (if p.1 = c then some p.2 else valW r c).map V.int
    by_cases h : p.1 = c
    · rw [if_pos h, valV_pos (keyN_inj.mpr h)]; rfl
    · rw [if_neg h, valV_neg (fun z => h (keyN_inj.mp z)), tab_val r c]
theorem val_isSome : ∀ (W : Tab) (c : Nat), (valW W c).isSome = decide (c ∈ keysW W)
  | [], c => by simp [valW, keysW]
  | p :: r, c => by
    show (if p.1 = c then some p.2 else valW r c).isSome = decide (c ∈ p.1 :: keysW r)
    by_cases h : p.1 = c
    · rw [if_pos h, decide_eq_true (by rw [h]; exact List.mem_cons_self ..)]; rfl
    · rw [if_neg h, val_isSome r c]
      refine decide_eq_decide.mpr ?_
      rw [List.mem_cons]
      exact ⟨.inr, fun z => z.resolve_left fun z => h z.symm⟩
theorem val_in {W : Tab} {c : Nat} (h : c ∈ keysW W) : ∃ z, valW W c = some z := by
  have := val_isSome W c
  rw [decide_eq_true h] at this
  exact Option.isSome_iff_exists.mp this
theorem val_no {W : Tab} {c : Nat} (h : c ∉ keysW W) : valW W c = none := by
  have := val_isSome W c
  rw [decide_eq_false h] at this
  cases hv : valW W c with
  | none => rfl
  | some z => rw [hv] at this; cases this
theorem tab_put (W : Tab) (c : Nat) (z : Int) : putK (tabK W) (keyN c) (.int z) = tabK (putW W c z) := by
  have hany : ((tabK W).any fun kv => decide (kv.1 = keyN c)) = decide (c ∈ keysW W) := by
    rw [valV_any, tab_val, ← val_isSome, Option.isSome_map]
  unfold putK putW
  rw [hany]
  by_cases h : c ∈ keysW W
  · rw [if_pos (decide_eq_true h), if_pos h]
    unfold tabK
    rw [List.map_map, List.map_map]
    refine List.map_congr_left fun p _ => ?_
    show (if keyN p.1 = keyN c then (keyN p.1, V.int z) else (keyN p.1, V.int p.2)) = _
    by_cases hp : p.1 = c
    · show _ = (keyN (if p.1 = c then (p.1, z) else p).1, V.int (if p.1 = c then (p.1, z) else p).2)
      rw [if_pos (keyN_inj.mpr hp), if_pos hp]
    · show _ = (keyN (if p.1 = c then (p.1, z) else p).1, V.int (if p.1 = c then (p.1, z) else p).2)
      rw [if_neg (fun q => hp (keyN_inj.mp q)), if_neg hp]
  · rw [if_neg (by rw [decide_eq_false h]; simp), if_neg h]
    unfold tabK
    rw [List.map_append]; rfl
theorem tab_drop : ∀ (W : Tab) (c : Nat), dropK (tabK W) (keyN c) = tabK (dropW W c)
  | [], _ => rfl
  | p :: r, c => by
    have ih := tab_drop r c
    unfold dropW at *
    by_cases h : p.1 = c
    · show dropK ((keyN p.1, V.int p.2) :: tabK r) (keyN c) = _
      rw [dropK_pos (keyN_inj.mpr h), ih, List.filter_cons, if_neg (by simp [h])]
    · show dropK ((keyN p.1, V.int p.2) :: tabK r) (keyN c) = _
      rw [dropK_neg (fun z => h (keyN_inj.mp z)), ih, List.filter_cons, if_pos (by simp [h])]
      rfl
theorem tab_len (W : Tab) : (tabK W).length = W.length := List.length_map ..
theorem keys_len (W : Tab) : (keysW W).length = W.length := List.length_map ..
theorem keys_put (W : Tab) (c : Nat) (z : Int) : keysW (putW W c z) = if c ∈ keysW W then keysW W else keysW W ++ [c] := by
  unfold putW
  by_cases h : c ∈ keysW W
  · rw [if_pos h, if_pos h]
    unfold keysW
    rw [List.map_map]
    refine List.map_congr_left fun p _ => ?_
    show (if p.1 = c then (p.1, z) else p).1 = p.1
    split <;> rfl
  · rw [if_neg h, if_neg h]
    unfold keysW
    rw [List.map_append]; rfl
theorem put_len (W : Tab) (c : Nat) (z : Int) : (putW W c z).length = if c ∈ keysW W then W.length else W.length + 1 := by
  rw [← keys_len, keys_put]
  split
  · exact keys_len W
  · rw [List.length_append, keys_len]; rfl
theorem put_nd {W : Tab} (c : Nat) (z : Int) (nd : (keysW W).Nodup) : (keysW (putW W c z)).Nodup := by
  rw [keys_put]
  split
  · exact nd
  · exact nd_snoc nd ‹_›
theorem keys_drop (W : Tab) (c : Nat) : keysW (dropW W c) = (keysW W).filter fun d => decide (d ≠ c) := by
  unfold keysW dropW
  rw [List.filter_map]; rfl
theorem drop_nd {W : Tab} (c : Nat) (nd : (keysW W).Nodup) : (keysW (dropW W c)).Nodup := by
  rw [keys_drop]; exact nd.filter _
theorem keys_drop_mem {W : Tab} {c d : Nat} : d ∈ keysW (dropW W c) ↔ d ∈ keysW W ∧ d ≠ c := by
  rw [keys_drop, List.mem_filter, decide_eq_true_eq]
theorem keys_drop_perm {W : Tab} {c : Nat} (nd : (keysW W).Nodup) (h : c ∈ keysW W) : (c :: keysW (dropW W c)).Perm (keysW W) := by
  refine nodup_len (List.nodup_cons.mpr ⟨fun z => (keys_drop_mem.mp z).2 rfl, drop_nd c nd⟩) nd fun d => ?_
  rw [List.mem_cons, keys_drop_mem]
  by_cases hd : d = c
  · exact ⟨fun _ => hd ▸ h, fun _ => .inl hd⟩
  · exact ⟨fun z => (z.resolve_left hd).1, fun z => .inr ⟨z, hd⟩⟩
theorem drop_len {W : Tab} {c : Nat} (nd : (keysW W).Nodup) (h : c ∈ keysW W) : (dropW W c).length + 1 = W.length := by
  have := (keys_drop_perm nd h).length_eq
  rw [List.length_cons, keys_len, keys_len] at this
  exact this
theorem val_put : ∀ (W : Tab) (c : Nat) (z : Int) (j : Nat), valW (putW W c z) j = if j = c then some z else valW W j := fun W c z j => by
  have h := tab_val (putW W c z) j
  rw [← tab_put, valV_put, tab_val] at h
  by_cases e : j = c
  · rw [if_pos (keyN_inj.mpr e)] at h
    rw [if_pos e]
    cases hv : valW (putW W c z) j with
    | none => rw [hv] at h; cases h
    | some x => rw [hv] at h; have := V.int.inj (Option.some.inj h); rw [this]
  · rw [if_neg (fun q => e (keyN_inj.mp q))] at h
    rw [if_neg e]
    cases hv : valW (putW W c z) j with
    | none =>
      cases hw : valW W j with
      | none => rfl
      | some y => rw [hv, hw] at h; cases h
    | some x =>
      cases hw : valW W j with
      | none => rw [hv, hw] at h; cases h
      | some y => rw [hv, hw] at h; have := V.int.inj (Option.some.inj h); rw [this]
theorem val_drop : ∀ (W : Tab) (c j : Nat), valW (dropW W c) j = if j = c then none else valW W j
  | [], c, j => by
    show none = if j = c then none else none
    split <;> rfl
  | p :: r, c, j => by
    have ih := val_drop r c j
    unfold dropW at *
    rw [List.filter_cons]
    by_cases h : p.1 = c
    · rw [if_neg (by simp [h]), ih]
      by_cases e : j = c
      · rw [if_pos e, if_pos e]
      · rw [if_neg e, if_neg e]
        show _ = if p.1 = j then some p.2 else valW r j
        rw [if_neg (fun z => e (z.symm.trans h))]
    · rw [if_pos (by simp [h])]
      show (if p.1 = j then some p.2 else valW (r.filter fun p => decide (p.1 ≠ c)) j) = if j = c then none else if p.1 = j then some p.2 else valW r j
      rw [ih]
      by_cases e : j = c
      · rw [if_pos e, if_pos e, if_neg (fun z => h (z.trans e))]
      · rw [if_neg e, if_neg e]
/-! ### how many stalls -/
def sizeN (k : Nat) : Nat := if k ≤ 3 then 4 else if k ≤ 6 then 8 else if k ≤ 12 then 16 else if k ≤ 24 then 32 else if k ≤ 48 then 64 else 128
theorem size_ok {k : Nat} (h : k ≤ 96) : k < sizeN k ∧ 4 ≤ sizeN k ∧ sizeN k ≤ 128 := by
  unfold sizeN
  repeat' split
  all_goals omega
def fitR (rule : Nat) (row : Row) (k : Nat) : Row := if sizeN k = row.length then row else fillN rule (List.replicate (sizeN k) none) (names row)
theorem fit_ok {rule : Nat} {row : Row} {k : Nat} (R : Right rule row) (hk : k ≤ 96) (hn : (names row).length < sizeN k) : (fitR rule row k).length = sizeN k ∧ Right rule (fitR rule row k) ∧ (names (fitR rule row k)).Perm (names row) := by
  unfold fitR
  split
  · exact ⟨by omega, R, .refl _⟩
  · exact filled_ok (by have := size_ok hk; omega) R.nd hn
/-! ### the book as it stands -/
theorem f_yw : ¬ (("yard" : Str) = "worths") := by decide +kernel
theorem f_wy : ¬ (("worths" : Str) = "yard") := by decide +kernel
def bf (p d : Addr) : List (Str × V) := [("yard", .ref p), ("worths", .ref d)]
theorem bf_yard (p d : Addr) : (bf p d).lookup ("yard" : Str) = some (.ref p) := by unfold bf; rw [List.lookup_cons]; simp
theorem bf_worths (p d : Addr) : (bf p d).lookup ("worths" : Str) = some (.ref d) := by unfold bf; rw [List.lookup_cons, beq_false_of_ne f_wy]; simp
structure BFc (K : PySem.W.Frag) (a : Ad) : Prop where
  cl : Cls K a.B
  nY : NoAttr K a.B "yard"
  nW : NoAttr K a.B "worths"
def BookAt (a : Ad) (H : Hp) (b p d : Addr) : Prop := ∃ dx, H b = some (.ins a.B dx (bf p d))
def TabAt (H : Hp) (d : Addr) (W : Tab) : Prop := H d = some (.dK (tabK W))
theorem TabAt.ex {H H' : Hp} {d : Addr} {W : Tab} (h : TabAt H d W) (e : Ex H H') : TabAt H' d W := e _ _ h
structure BQ (a : Ad) (H : Hp) (b p d r : Addr) (rule : Nat) (row : Row) (W : Tab) : Prop where
  B : BookAt a H b p d
  D : TabAt H d W
  Y : YR a H p r rule row
structure BR (a : Ad) (H : Hp) (b p d r : Addr) (rule : Nat) (row : Row) (W : Tab) : Prop extends BQ a H b p d r rule row W where
  ok : Right rule row
  nd : (keysW W).Nodup
  perm : (names row).Perm (keysW W)
  len : row.length = sizeN W.length
  most : W.length ≤ 96
theorem BQ.ex {a : Ad} {H H' : Hp} {b p d r : Addr} {rule : Nat} {row : Row} {W : Tab} (h : BQ a H b p d r rule row W) (e : Ex H H') : BQ a H' b p d r rule row W := ⟨let ⟨dx, q⟩ := h.B; ⟨dx, e _ _ q⟩, e _ _ h.D, h.Y.ex e⟩
theorem BR.ex {a : Ad} {H H' : Hp} {b p d r : Addr} {rule : Nat} {row : Row} {W : Tab} (h : BR a H b p d r rule row W) (e : Ex H H') : BR a H' b p d r rule row W := { h with toBQ := h.toBQ.ex e }
theorem BQ.bd {a : Ad} {H : Hp} {b p d r : Addr} {rule : Nat} {row : Row} {W : Tab} (h : BQ a H b p d r rule row W) : b ≠ d := fun z => by
  obtain ⟨dx, q⟩ := h.B
  have := h.D
  unfold TabAt at this
  rw [← z, q] at this
  cases this
theorem BQ.br {a : Ad} {H : Hp} {b p d r : Addr} {rule : Nat} {row : Row} {W : Tab} (h : BQ a H b p d r rule row W) : b ≠ r := fun z => by
  obtain ⟨dx, q⟩ := h.B
  have := h.Y.w
  unfold RowAt at this
  rw [← z, q] at this
  cases this
theorem BQ.dr {a : Ad} {H : Hp} {b p d r : Addr} {rule : Nat} {row : Row} {W : Tab} (h : BQ a H b p d r rule row W) : d ≠ r := fun z => by
  have q := h.D
  have := h.Y.w
  unfold RowAt at this
  unfold TabAt at q
  rw [← z, q] at this
  cases this
theorem BQ.pd {a : Ad} {H : Hp} {b p d r : Addr} {rule : Nat} {row : Row} {W : Tab} (h : BQ a H b p d r rule row W) : p ≠ d := fun z => by
  obtain ⟨dx, q⟩ := h.Y.y
  have := h.D
  unfold TabAt at this
  rw [← z, q] at this
  cases this
theorem BQ.bp {a : Ad} {H : Hp} {b p d r : Addr} {rule : Nat} {row : Row} {W : Tab} (h : BQ a H b p d r rule row W) : b ≠ p := fun z => by
  obtain ⟨dx, q⟩ := h.B
  obtain ⟨dx2, q2⟩ := h.Y.y
  rw [← z, q] at q2
  have q2 := Option.some.inj q2
  unfold bf yf at q2
  injection q2 with _ _ q3
  have := congrArg List.length q3
  cases this
/-- what else stays -/
def Bt (b d r : Addr) (H H' : Hp) : Prop := ∀ x o, x ≠ b → x ≠ d → x ≠ r → H x = some o → H' x = some o
theorem Bt.of {b d r : Addr} {H H' : Hp} (e : Ex H H') : Bt b d r H H' := fun x o _ _ _ h => e x o h
theorem BR.count {a : Ad} {H : Hp} {b p d r : Addr} {rule : Nat} {row : Row} {W : Tab} (h : BR a H b p d r rule row W) : (names row).length = W.length := by rw [h.perm.length_eq, keys_len]
theorem BR.mem {a : Ad} {H : Hp} {b p d r : Addr} {rule : Nat} {row : Row} {W : Tab} (h : BR a H b p d r rule row W) {c : Nat} : c ∈ names row ↔ c ∈ keysW W := h.perm.mem_iff
section
variable {K : PySem.W.Frag} {a : Ad} {M H H' H1 H2 : Hp} {σ : L2.St} {D : Ends} {tz : TS} {b p d r : Addr} {rule c : Nat} {row : Row} {W : Tab} {z : Int} {td ty tv tb : TE}
abbrev rLenD : List V → Hp → VK → Prop := fun xs H Q => ∃ a kvs, xs = [V.ref a] ∧ H a = some (.dK kvs) ∧ Q (.int kvs.length) H
theorem ev_byard (F : BFc K a) (h : Ev tb σ H (.ref b)) (B : BookAt a H b p d) : Ev (tFld K tb "yard") σ H (.ref p) := let ⟨_, hb⟩ := B; ev_fld h hb F.cl F.nY (bf_yard p d)
theorem ev_bworths (F : BFc K a) (h : Ev tb σ H (.ref b)) (B : BookAt a H b p d) : Ev (tFld K tb "worths") σ H (.ref d) := let ⟨_, hb⟩ := B; ev_fld h hb F.cl F.nW (bf_worths p d)
theorem isD_of {H : Hp} (h : TabAt H d W) : IsD H d := .inl ⟨_, .inl h⟩
theorem ev_dIn (hy : Ev ty σ H (nV c)) (hd : Ev td σ H (.ref d)) (T : TabAt H d W) : Ev (tDIn ty td) σ H (.bl (decide (c ∈ keysW W))) := fun H1 e Q q =>
  hy H1 e _ fun H2 e2 => hd H2 (e.trans e2) _ fun H3 e3 => ⟨d, _, rfl, DGet.k (k := keyN c) (T.ex ((e.trans e2).trans e3)), by
    rw [tab_val, Option.isSome_map, val_isSome]
    exact q H3 (e2.trans e3)⟩
theorem ev_dNotIn (hy : Ev ty σ H (nV c)) (hd : Ev td σ H (.ref d)) (T : TabAt H d W) : Ev (tDNotIn ty td) σ H (.bl (!decide (c ∈ keysW W))) := fun H1 e Q q =>
  hy H1 e _ fun H2 e2 => hd H2 (e.trans e2) _ fun H3 e3 => ⟨d, _, rfl, DGet.k (k := keyN c) (T.ex ((e.trans e2).trans e3)), by
    rw [tab_val, Option.isSome_map, val_isSome]
    exact q H3 (e2.trans e3)⟩
theorem ev_dGet (hd : Ev td σ H (.ref d)) (hy : Ev ty σ H (nV c)) (T : TabAt H d W) (hv : valW W c = some z) : Ev (tDGet td ty) σ H (.int z) := fun H1 e Q q =>
  hd H1 e _ fun H2 e2 => hy H2 (e.trans e2) _ fun H3 e3 => ⟨d, .int z, rfl, by
    have := DGet.k (k := keyN c) (T.ex ((e.trans e2).trans e3))
    rw [tab_val, hv] at this
    exact this, q H3 (e2.trans e3)⟩
theorem ev_dGet1 (hd : Ev td σ H (.ref d)) (hy : Ev ty σ H (nV c)) (T : TabAt H d W) : Ev (tDGet1 td ty) σ H (zO (valW W c)) := fun H1 e Q q =>
  hd H1 e _ fun H2 e2 => ⟨d, rfl, isD_of (T.ex (e.trans e2)), hy H2 (e.trans e2) _ fun H3 e3 => ⟨_, DGet.k (k := keyN c) (T.ex ((e.trans e2).trans e3)), by
    rw [tab_val]
    have h := q H3 (e2.trans e3)
    cases hv : valW W c with
    | none => rw [hv] at h; exact h
    | some x => rw [hv] at h; exact h⟩⟩
theorem ev_lenD (hd : Ev td σ H (.ref d)) (T : TabAt H d W) : Ev (tCB rLenD (tCons td tNil)) σ H (nV W.length) :=
  ev_cb (ea_cons hd ea_nil) fun H1 e1 Q q => ⟨d, _, rfl, T.ex e1, by rw [tab_len]; exact q H1 (Ex.refl H1)⟩
theorem el_listD (hd : Ev td σ H (.ref d)) (T : TabAt H d W) : EvL (tCB rListD (tCons td tNil)) σ H ((keysW W).map nV) := fun H1 e Q q =>
  hd H1 e _ fun H2 e2 => ⟨d, _, rfl, T.ex (e.trans e2), fun l hl => q l _ (fresh_back e2 hl) (e2.trans (Ex.new hl)) (by
    rw [upd_same]
    unfold tabK keysW
    rw [List.map_map, List.map_map]; rfl)⟩
theorem q_dPut (hd : Ev td σ H (.ref d)) (hy : Ev ty σ H (nV c)) (hv : Ev tv σ H (.int z)) (T : TabAt H d W) (hl : W.length ≤ 1000) (k : ∀ H1, But d H H1 → TabAt H1 d (putW W c z) → tz D σ H1) : tSeq (sDPut td ty tv) tz D σ H :=
  hv H (Ex.refl H) _ fun H1 e1 => hd H1 e1 _ fun H2 e2 => hy H2 (e1.trans e2) _ fun H3 e3 => ⟨d, _, rfl, DPut.k (k := keyN c) (T.ex ((e1.trans e2).trans e3)) (by rw [tab_len]; exact sz_lt (by omega)), k _ (But.ofEx ((e1.trans e2).trans e3) But.upd) (by unfold TabAt; rw [upd_same, tab_put])⟩
theorem s_dPut (hd : Ev td σ H (.ref d)) (hy : Ev ty σ H (nV c)) (hv : Ev tv σ H (.int z)) (T : TabAt H d W) (hl : W.length ≤ 1000) (k : ∀ H1, But d H H1 → TabAt H1 d (putW W c z) → D.nx σ H1) : sDPut td ty tv D σ H :=
  hv H (Ex.refl H) _ fun H1 e1 => hd H1 e1 _ fun H2 e2 => hy H2 (e1.trans e2) _ fun H3 e3 => ⟨d, _, rfl, DPut.k (k := keyN c) (T.ex ((e1.trans e2).trans e3)) (by rw [tab_len]; exact sz_lt (by omega)), k _ (But.ofEx ((e1.trans e2).trans e3) But.upd) (by unfold TabAt; rw [upd_same, tab_put])⟩
theorem w_dPop {Q : VK} (hd : Ev td σ H (.ref d)) (hy : Ev ty σ H (nV c)) (T : TabAt H d W) (hv : valW W c = some z) (k : ∀ H1, But d H H1 → TabAt H1 d (dropW W c) → Q (.int z) H1) : tDPop1 td ty σ H Q :=
  hd H (Ex.refl H) _ fun H1 e1 => ⟨d, rfl, isD_of (T.ex e1), hy H1 e1 _ fun H2 e2 => ⟨_, keyN c, .int z, T.ex (e1.trans e2), rfl, by rw [tab_val, hv]; rfl, k _ (But.ofEx (e1.trans e2) But.upd) (by unfold TabAt; rw [upd_same, tab_drop])⟩⟩
end
/-! ### promises -/
def sp_size_for (K : PySem.W.Frag) (a : Ad) : Sp := fun vs H Q _ => ∃ c : Nat, vs = [nV c] ∧ c ≤ 96 ∧ RetV (nV (sizeN c)) H Q
def sp_Book__init_ (K : PySem.W.Frag) (a : Ad) : Sp := fun vs H Q _ => ∃ (b dx : Addr) (rule : Nat), vs = [.ref b, nV rule] ∧ H b = some (.ins a.B dx []) ∧
  ∀ p d r H', H p = none → H d = none → H r = none → But b H H' → BR a H' b p d r rule (List.replicate 4 none) [] → Q .non H'
def sp_Book_fit (K : PySem.W.Frag) (a : Ad) : Sp := fun vs H Q _ => ∃ (b p d r : Addr) (rule : Nat) (row : Row) (W : Tab) (k : Nat), vs = [.ref b, nV k] ∧ BQ a H b p d r rule row W ∧ Right rule row ∧ k ≤ 96 ∧ (names row).length < sizeN k ∧
  ∀ p' r' H', But b H H' → (p' = p ∨ H p' = none) → (r' = r ∨ H r' = none) → BQ a H' b p' d r' rule (fitR rule row k) W → Q .non H'
def writeR (rule : Nat) (row : Row) (W : Tab) (c : Nat) : Row := if c ∈ keysW W then row else (putR rule (fitR rule row (W.length + 1)) c).1
def sp_Book_write (K : PySem.W.Frag) (a : Ad) : Sp := fun vs H Q E => ∃ (b p d r : Addr) (rule : Nat) (row : Row) (W : Tab) (c : Nat) (z : Int), vs = [.ref b, nV c, .int z] ∧ BR a H b p d r rule row W ∧
  (c ∉ keysW W → W.length = 96 → ∀ H', Ex H H' → E (.ref a.Full) none H') ∧
  ((c ∈ keysW W ∨ W.length < 96) → ∀ p' r' H', Bt b d r H H' → (p' = p ∨ H p' = none) → (r' = r ∨ H r' = none) → BR a H' b p' d r' rule (writeR rule row W c) (putW W c z) → Q (.bl (decide (c ∈ keysW W))) H')
def sp_Book_worth (K : PySem.W.Frag) (a : Ad) : Sp := fun vs H Q _ => ∃ (b p d r : Addr) (rule : Nat) (row : Row) (W : Tab) (c : Nat), vs = [.ref b, nV c] ∧ BQ a H b p d r rule row W ∧ RetV (zO (valW W c)) H Q
def sp_Book_drop (K : PySem.W.Frag) (a : Ad) : Sp := fun vs H Q E => ∃ (b p d r : Addr) (rule : Nat) (row : Row) (W : Tab) (c : Nat), vs = [.ref b, nV c] ∧ BR a H b p d r rule row W ∧
  (c ∉ keysW W → ∀ H', Ex H H' → E (.ref a.NoCart) none H') ∧
  (∀ s z, row[s]? = some (some c) → valW W c = some z → ∀ p' r' H', Bt b d r H H' → (p' = p ∨ H p' = none) → (r' = r ∨ H r' = none) → BR a H' b p' d r' rule (fitR rule (takeR row s).1 (W.length - 1)) (dropW W c) → Q (.int z) H')
def sp_Book_how_many (K : PySem.W.Frag) (a : Ad) : Sp := fun vs H Q _ => ∃ (b p d r : Addr) (rule : Nat) (row : Row) (W : Tab), vs = [.ref b] ∧ BQ a H b p d r rule row W ∧ RetV (nV W.length) H Q
/-- the layout told: None, or a name with its worth -/
def Lay (H : Hp) (W : Tab) : List V → Row → Prop
  | [], [] => True
  | x :: xs, none :: row => x = .non ∧ Lay H W xs row
  | x :: xs, some c :: row => (∃ t z, x = .ref t ∧ H t = some (.tup [nV c, .int z]) ∧ valW W c = some z) ∧ Lay H W xs row
  | _, _ => False
def sp_Book_layout (K : PySem.W.Frag) (a : Ad) : Sp := fun vs H Q _ => ∃ (b p d r : Addr) (rule : Nat) (row : Row) (W : Tab), vs = [.ref b] ∧ BQ a H b p d r rule row W ∧ (∀ c, c ∈ names row → c ∈ keysW W) ∧
  ∀ l xs H', H l = none → Ex H H' → H' l = some (.lst xs) → Lay H' W xs row → Q (.ref l) H'
def sp_Book_names (K : PySem.W.Frag) (a : Ad) : Sp := fun vs H Q _ => ∃ (b p d r : Addr) (rule : Nat) (row : Row) (W : Tab), vs = [.ref b] ∧ BR a H b p d r rule row W ∧ RetL ((srt (keysW W)).map nV) H Q
end SY

namespace SY
open PySem L2 Evl
abbrev N_size_for : List Str := ["count", "size"]
def t_size_for (K : PySem.W.Frag) (a : Ad) (E : XK) : TS :=
  (tSeq (tAsg (tC (.int 4)) (gName 1))
  (tSeq (tWhile (tTest (tOp rGtI (tOp rMulI (tC (.int 4)) (tVar 0)) (tOp rMulI (tC (.int 3)) (tVar 1)))) (tAsg (tOp rMulI (tC (.int 2)) (tVar 1)) (gName 1)))
  (tRet (tVar 1))))
abbrev N_Book__init_ : List Str := ["self", "rule"]
def t_Book__init_ (K : PySem.W.Frag) (a : Ad) (E : XK) : TS :=
  (tSeq (sFld K (tVar 0) (tMake a.Y (sp_Yard__init_ K a) [] E0 (tCons (tC (.int 4)) (tCons (tVar 1) tNil))) "yard")
  (sFld K (tVar 0) tDNewK "worths"))
abbrev N_Book_fit : List Str := ["self", "count"]
def t_Book_fit (K : PySem.W.Frag) (a : Ad) (E : XK) : TS :=
  (tIfS (tTest (tOp rNe (tCall (sp_size_for K a) [] E0 (tCons (tVar 1) tNil)) (tFld K (tFld K (tVar 0) "yard") "many"))) (sFld K (tVar 0) (tCall (sp_moved K a) [] E0 (tCons (tFld K (tVar 0) "yard") (tCons (tCall (sp_size_for K a) [] E0 (tCons (tVar 1) tNil)) tNil))) "yard") tNext)
abbrev N_Book_write : List Str := ["self", "name", "worth", "was"]
def t_Book_write (K : PySem.W.Frag) (a : Ad) (E : XK) : TS :=
  (tSeq (tAsg (tDIn (tVar 1) (tFld K (tVar 0) "worths")) (gName 3))
  (tSeq (tIfS (tNot (tB (tVar 3))) (tSeq (tIfS (tTest (tOp rEq (tCB rLenD (tCons (tFld K (tVar 0) "worths") tNil)) (tC (.int 96)))) (tRaiseO a.Full E) tNext)
  (tSeq (tDrop (tMeth a.B "fit" (sp_Book_fit K a) [] E0 (tVar 0) (tCons (tOp rAddI (tCB rLenD (tCons (tFld K (tVar 0) "worths") tNil)) (tC (.int 1))) tNil)))
  (tDrop (tMeth a.Y "put" (sp_Yard_put K a) [] E (tFld K (tVar 0) "yard") (tCons (tVar 1) tNil))))) tNext)
  (tSeq (sDPut (tFld K (tVar 0) "worths") (tVar 1) (tVar 2))
  (tRet (tVar 3)))))
abbrev N_Book_worth : List Str := ["self", "name"]
def t_Book_worth (K : PySem.W.Frag) (a : Ad) (E : XK) : TS :=
  (tRet (tDGet1 (tFld K (tVar 0) "worths") (tVar 1)))
abbrev N_Book_drop : List Str := ["self", "name", "gone"]
def t_Book_drop (K : PySem.W.Frag) (a : Ad) (E : XK) : TS :=
  (tSeq (tIfS (tB (tDNotIn (tVar 1) (tFld K (tVar 0) "worths"))) (tRaiseO a.NoCart E) tNext)
  (tSeq (tDrop (tMeth a.Y "take" (sp_Yard_take K a) [] E (tFld K (tVar 0) "yard") (tCons (tVar 1) tNil)))
  (tSeq (tAsg (tDPop1 (tFld K (tVar 0) "worths") (tVar 1)) (gName 2))
  (tSeq (tDrop (tMeth a.B "fit" (sp_Book_fit K a) [] E0 (tVar 0) (tCons (tCB rLenD (tCons (tFld K (tVar 0) "worths") tNil)) tNil)))
  (tRet (tVar 2))))))
abbrev N_Book_how_many : List Str := ["self"]
def t_Book_how_many (K : PySem.W.Frag) (a : Ad) (E : XK) : TS :=
  (tRet (tCB rLenD (tCons (tFld K (tVar 0) "worths") tNil)))
abbrev N_Book_layout : List Str := ["self", "found", "name"]
def t_Book_layout (K : PySem.W.Frag) (a : Ad) (E : XK) : TS :=
  (tSeq (tAsg (tLst tNil) (gName 1))
  (tSeq (tFor (iList K (tMeth a.Y "stalls" (sp_Yard_stalls K a) [] E0 (tFld K (tVar 0) "yard") tNil)) (gName 2) (tIfS (tB (tIsN (tVar 2))) (tDrop (tBM K "list" rAppend (tVar 1) (tCons (tC .non) tNil))) (tDrop (tBM K "list" rAppend (tVar 1) (tCons (tTup (tCons (tVar 2) (tCons (tDGet (tFld K (tVar 0) "worths") (tVar 2)) tNil))) tNil)))))
  (tRet (tVar 1))))
abbrev N_Book_names : List Str := ["self"]
def t_Book_names (K : PySem.W.Frag) (a : Ad) (E : XK) : TS :=
  (tRet (tMeth a.Y "names" (sp_Yard_names K a) [] E0 (tFld K (tVar 0) "yard") tNil))
section
variable {K : PySem.W.Frag} {a : Ad} {M H H' H1 H2 : Hp} {σ : L2.St} {D : Ends} {tz : TS} {b p d r : Addr} {rule c s k : Nat} {row : Row} {W : Tab} {z : Int} {td ty tv tb tn : TE}
theorem bf_no (p d : Addr) {m : Str} (h1 : ¬ m = "yard") (h2 : ¬ m = "worths") : (bf p d).lookup m = none := by
  unfold bf
  rw [List.lookup_cons, beq_false_of_ne h1]
  show List.lookup m [("worths", V.ref d)] = none
  rw [List.lookup_cons, beq_false_of_ne h2]
  rfl
theorem w_bm {sp : Sp} {m : Str} {args : TA} {vs : List V} {Q : VK} {E : XK} (hb : Ev tb σ H (.ref b)) (B : BookAt a H b p d) (hm1 : ¬ m = "yard") (hm2 : ¬ m = "worths") (ha : EvA args σ H vs) (k : ∀ H1, Ex H H1 → sp (.ref b :: vs) H1 Q E) : tMeth a.B m sp [] E tb args σ H Q := by
  obtain ⟨dx, hp⟩ := B
  refine hb H (Ex.refl H) _ fun H1 e1 => ⟨b, dx, _, rfl, e1 _ _ hp, bf_no _ _ hm1 hm2, ha H1 e1 _ fun H2 e2 => ?_⟩
  show sp (.ref b :: (vs ++ [])) H2 Q E
  rw [List.append_nil]
  exact k H2 (e1.trans e2)
theorem w_putB {E : XK} {Q : VK} (hy : Ev ty σ H (.ref p)) (hn : Ev tn σ H (nV c)) (Y : YR a H p r rule row) (R : Right rule row) (hc : c ∉ names row) (hr : (names row).length + 1 < row.length)
    (k : ∀ l H1, H l = none → l ≠ r → But r H H1 → YR a H1 p r rule (putR rule row c).1 → Q (.ref l) H1) : tMeth a.Y "put" (sp_Yard_put K a) [] E ty (tCons tn tNil) σ H Q := by
  refine hy H (Ex.refl H) _ fun H1 e1 => ?_
  have Y1 := Y.ex e1
  obtain ⟨dx, hp⟩ := Y1.y
  refine ⟨p, dx, _, rfl, hp, yf_no _ _ _ f_put.1 f_put.2.1 f_put.2.2, hn H1 e1 _ fun H2 e2 => ?_⟩
  refine ⟨p, r, rule, row, c, rfl, Y1.ex e2, R, fun z => absurd z hc, fun _ z => by omega, fun _ _ => told_go (e1.trans e2) fun l H3 hl hlr b w m => ?_⟩
  exact k l H3 hl hlr b (Y.but b (putR_ok R hc).1 w)
theorem w_takeB {E : XK} {Q : VK} (hy : Ev ty σ H (.ref p)) (hn : Ev tn σ H (nV c)) (Y : YR a H p r rule row) (R : Right rule row) (hs : row[s]? = some (some c))
    (k : ∀ l H1, H l = none → l ≠ r → But r H H1 → YR a H1 p r rule (takeR row s).1 → Q (.ref l) H1) : tMeth a.Y "take" (sp_Yard_take K a) [] E ty (tCons tn tNil) σ H Q := by
  refine hy H (Ex.refl H) _ fun H1 e1 => ?_
  have Y1 := Y.ex e1
  obtain ⟨dx, hp⟩ := Y1.y
  refine ⟨p, dx, _, rfl, hp, yf_no _ _ _ f_take.1 f_take.2.1 f_take.2.2, hn H1 e1 _ fun H2 e2 => ?_⟩
  have hc : c ∈ names row := mem_names.mpr ⟨s, hs⟩
  refine ⟨p, r, rule, row, c, rfl, Y1.ex e2, R, fun z => absurd hc z, fun s' hs' => ?_⟩
  have := names_inj R.nd hs' hs
  subst this
  exact told_go (e1.trans e2) fun l H3 hl hlr b w m => k l H3 hl hlr b (Y.but b (takeR_ok R hs).1 w)
theorem r_size_for (vs : List V) (H : Hp) (Q : VK) (E : XK) (h : sp_size_for K a vs H Q E) : Go (t_size_for K a E) N_size_for vs H Q := by
  obtain ⟨c, rfl, hc, k⟩ := h
  refine q_asg (v := nV 4) ev_c fun H1 e1 => ?_
  refine q_while (fun m σ' H' => Ex H H' ∧ ∃ size : Nat, σ' = [some (nV c), some (nV size)] ∧ ((size = 4 ∧ m = 5) ∨ (size = 8 ∧ m = 4 ∧ 3 < c) ∨ (size = 16 ∧ m = 3 ∧ 6 < c) ∨ (size = 32 ∧ m = 2 ∧ 12 < c) ∨ (size = 64 ∧ m = 1 ∧ 24 < c) ∨ (size = 128 ∧ m = 0 ∧ 48 < c))) 5 ⟨e1, 4, rfl, .inl ⟨rfl, rfl⟩⟩ fun m σ' H' ⟨e, size, hσ, hs⟩ => ?_
  subst hσ
  refine ⟨_, et_test (ev_op (ev_op ev_c (ev_var (v := nV c) rfl) (rv_mulL (by decide))) (ev_op ev_c (ev_var (v := nV size) rfl) (rv_mulL (by decide))) rv_gt), fun hb H2 e2 => ?_, fun hb H2 e2 => ?_⟩
  · have hb := of_decide_eq_true hb
    refine ⟨fun σ2 H3 => Ex H H3 ∧ σ2 = [some (nV c), some (nV (2 * size))], fun σ2 H3 ⟨e3, hσ⟩ => ?_, ?_⟩
    · rcases hs with ⟨rfl, rfl⟩ | ⟨rfl, rfl, h⟩ | ⟨rfl, rfl, h⟩ | ⟨rfl, rfl, h⟩ | ⟨rfl, rfl, h⟩ | ⟨rfl, rfl, h⟩
      · exact ⟨4, by omega, e3, 8, hσ, .inr (.inl ⟨rfl, rfl, by omega⟩)⟩
      · exact ⟨3, by omega, e3, 16, hσ, .inr (.inr (.inl ⟨rfl, rfl, by omega⟩))⟩
      · exact ⟨2, by omega, e3, 32, hσ, .inr (.inr (.inr (.inl ⟨rfl, rfl, by omega⟩)))⟩
      · exact ⟨1, by omega, e3, 64, hσ, .inr (.inr (.inr (.inr (.inl ⟨rfl, rfl, by omega⟩))))⟩
      · exact ⟨0, by omega, e3, 128, hσ, .inr (.inr (.inr (.inr (.inr ⟨rfl, rfl, by omega⟩))))⟩
      · omega
    · exact s_asg (v := nV (2 * size)) (int_is (ev_op ev_c (ev_var (v := nV size) rfl) (rv_mulL (by decide))) (by omega)) fun H3 e3 => ⟨(e.trans e2).trans e3, rfl⟩
  · have hb := of_decide_eq_false hb
    have hsz : size = sizeN c := by
      unfold sizeN
      rcases hs with ⟨rfl, rfl⟩ | ⟨rfl, rfl, h⟩ | ⟨rfl, rfl, h⟩ | ⟨rfl, rfl, h⟩ | ⟨rfl, rfl, h⟩ | ⟨rfl, rfl, h⟩
      · rw [if_pos (by omega)]
      · rw [if_neg (by omega), if_pos (by omega)]
      · rw [if_neg (by omega), if_neg (by omega), if_pos (by omega)]
      · rw [if_neg (by omega), if_neg (by omega), if_neg (by omega), if_pos (by omega)]
      · rw [if_neg (by omega), if_neg (by omega), if_neg (by omega), if_neg (by omega), if_pos (by omega)]
      · rw [if_neg (by omega), if_neg (by omega), if_neg (by omega), if_neg (by omega), if_neg (by omega)]
    rw [hsz]
    exact s_ret (ev_var rfl) fun H3 e3 => k H3 ((e.trans e2).trans e3)
theorem ev_size_for (h : Ev tn σ H (nV c)) (hc : c ≤ 96) : Ev (tCall (sp_size_for K a) [] E0 (tCons tn tNil)) σ H (nV (sizeN c)) := ev_callE (dvs := []) (ea_cons h ea_nil) fun H1 e1 Q q E => ⟨c, rfl, hc, q⟩
theorem q_fldM {E : XK} {ta tm tr : TE} {many : Int} {C dx : Addr} {fs : List (Str × V)} {f : Str} (hm : Ev tm σ H (.int many)) (hr : Ev tr σ H (nV rule)) (h1 : 2 ≤ many) (h2 : many ≤ 200) (ho : Ev ta σ H (.ref b)) (hb : H b = some (.ins C dx fs)) (c : Cls K C) (n : NoAttr K C f) (hl : fs.length < 1000)
    (k : ∀ p r H1, H p = none → H r = none → Ex H H1 → YR a H1 p r rule (List.replicate many.toNat none) → tz D σ (upd H1 b (.ins C dx (putF f (.ref p) fs)))) : tSeq (sFld K ta (tMake a.Y (sp_Yard__init_ K a) [] E (tCons tm (tCons tr tNil))) f) tz D σ H :=
  w_make (Q := fun y H1 => ta σ H1 fun x H2 => ∃ a C dx fs, x = .ref a ∧ H2 a = some (.ins C dx fs) ∧ Cls K C ∧ NoAttr K C f ∧ fs.length < 1000 ∧ tz D σ (upd H2 a (.ins C dx (putF f y fs)))) hm hr h1 h2 fun p r H1 hp hr _ e Y => ho H1 e _ fun H2 e2 => ⟨b, C, dx, fs, rfl, (e.trans e2) _ _ hb, c, n, hl, k p r H2 hp hr (e.trans e2) (Y.ex e2)⟩
theorem r_Book__init_ (F : BFc K a) (vs : List V) (H : Hp) (Q : VK) (E : XK) (h : sp_Book__init_ K a vs H Q E) : Go (t_Book__init_ K a E) N_Book__init_ vs H Q := by
  obtain ⟨b, dx, rule, rfl, hb, k⟩ := h
  refine q_fldM (many := 4) (rule := rule) ev_c (ev_var rfl) (by decide) (by decide) (ev_var rfl) hb F.cl F.nY (by decide) fun p r H2 hp hr e02 Y2 => ?_
  have nbp : b ≠ p := fun z => by rw [z, hp] at hb; cases hb
  have nbr : b ≠ r := fun z => by rw [z, hr] at hb; cases hb
  intro d hd
  have hd2 : H2 d = none := by
    by_cases z : d = b
    · rw [z, upd_same] at hd; cases hd
    · rw [upd_ne z] at hd; exact hd
  have ndb : d ≠ b := fun z => by rw [z, (e02) _ _ hb] at hd2; cases hd2
  refine ev_var (v := .ref b) (i := 0) rfl _ (Ex.refl _) _ fun H3 e3 => ?_
  have hb3 : H3 b = some (.ins a.B dx (putF "yard" (.ref p) [])) := e3 _ _ (by rw [upd_ne ndb.symm, upd_same])
  refine ⟨b, a.B, dx, _, rfl, hb3, F.cl, F.nW, by show 1 < 1000; decide, ?_⟩
  have hput : putF "worths" (.ref d) (putF "yard" (.ref p) []) = bf p d := by
    show (if ("yard" : Str) = "worths" then _ else _) = _
    rw [if_neg f_yw]; rfl
  rw [hput]
  have nd2 : ∀ x o, H2 x = some o → x ≠ d := fun x o hx z => by rw [z, hd2] at hx; cases hx
  have base : ∀ x o, x ≠ b → H2 x = some o → upd H3 b (.ins a.B dx (bf p d)) x = some o := fun x o hx h => by
    rw [upd_ne hx]
    exact e3 _ _ (by rw [upd_ne (nd2 x o h), upd_ne hx]; exact h)
  refine k p d r _ hp (fresh_back e02 hd2) hr (fun x o hx h => base x o hx (e02 _ _ h)) ?_
  obtain ⟨dx2, hy⟩ := Y2.y
  have hrow : (List.replicate (4 : Int).toNat (none : Option Nat)) = List.replicate 4 none := rfl
  exact { B := ⟨dx, upd_same⟩, D := by
            unfold TabAt
            rw [upd_ne ndb]
            exact e3 _ _ upd_same
          Y := ⟨⟨dx2, base _ _ nbp.symm hy⟩, base _ _ nbr.symm Y2.w, Y2.le⟩
          ok := right_empty (by decide), nd := List.nodup_nil, perm := by rw [names_empty]; exact .refl _, len := rfl, most := by decide }
theorem r_Book_fit (Y0 : YFc K a) (F : BFc K a) (vs : List V) (H : Hp) (Q : VK) (E : XK) (h : sp_Book_fit K a vs H Q E) : Go (t_Book_fit K a E) N_Book_fit vs H Q := by
  obtain ⟨b, p, d, r, rule, row, W, n, rfl, B, R, hn, hroom, k⟩ := h
  have hsz := size_ok hn
  refine s_when (et_test (ev_op (ev_size_for (ev_var rfl) hn) (ev_many (ev_byard F (ev_var rfl) B.B) B.Y.y Y0) rv_neI)) (fun hb H1 e1 => ?_) (fun hb H1 e1 => ?_)
  · have hne : sizeN n ≠ row.length := fun z => by rw [z] at hb; simp at hb
    have B1 := B.ex e1
    refine w_callA (vs := [.ref p, .int (sizeN n)]) (ea_cons (ev_byard F (ev_var rfl) B1.B) (ea_cons (ev_size_for (ev_var rfl) hn) ea_nil)) fun H2 e2 => ⟨p, r, rule, row, (sizeN n : Int), rfl, B1.Y.ex e2, R, fun z => by omega, fun _ z => by omega, fun _ _ p' r' H3 hp hr hpr e3 Y3 => ?_⟩
    rw [Int.toNat_natCast] at Y3
    refine ev_var (v := .ref b) (i := 0) rfl H3 (Ex.refl H3) _ fun H4 e4 => ?_
    have e14 := e1.trans (e2.trans (e3.trans e4))
    have B4 := B.ex e14
    obtain ⟨dx, hb4⟩ := B4.B
    have Y4 := Y3.ex e4
    refine ⟨b, a.B, dx, _, rfl, hb4, F.cl, F.nY, by show 2 < 1000; decide, ?_⟩
    have hput : putF "yard" (.ref p') (bf p d) = bf p' d := by
      show (if ("yard" : Str) = "yard" then _ else _) = _
      rw [if_pos rfl]; rfl
    rw [hput]
    have hb2 := (B.ex (e1.trans e2)).B
    have nbp : b ≠ p' := fun z => by
      obtain ⟨_, q⟩ := hb2
      rw [z, hp] at q; cases q
    have nbr : b ≠ r' := fun z => by
      obtain ⟨_, q⟩ := hb2
      rw [z, hr] at q; cases q
    obtain ⟨dx2, hy⟩ := Y4.y
    have hfit : fitR rule row n = fillN rule (List.replicate (sizeN n) none) (names row) := by unfold fitR; rw [if_neg hne]
    refine k p' r' _ (fun x o hx h => by rw [upd_ne hx]; exact e14 _ _ h) (.inr (fresh_back (e1.trans e2) hp)) (.inr (fresh_back (e1.trans e2) hr)) ⟨⟨dx, upd_same⟩, by unfold TabAt; rw [upd_ne B4.bd.symm]; exact B4.D, ?_⟩
    rw [hfit]
    exact ⟨⟨dx2, by rw [upd_ne nbp.symm]; exact hy⟩, by unfold RowAt; rw [upd_ne nbr.symm]; exact Y4.w, Y4.le⟩
  · have heq : sizeN n = row.length := by
      have : decide ((sizeN n : Int) = (row.length : Int)) = true := by simpa using hb
      have := of_decide_eq_true this
      omega
    have hfit : fitR rule row n = row := by unfold fitR; rw [if_pos heq]
    exact k p r H1 (But.of e1) (.inl rfl) (.inl rfl) (by rw [hfit]; exact B.ex e1)
theorem BQ.putY (B : BQ a H b p d r rule row W) {row' : Row} (bt : But r H H1) (Y : YR a H1 p r rule row') : BQ a H1 b p d r rule row' W :=
  ⟨let ⟨dx, q⟩ := B.B; ⟨dx, bt _ _ B.br q⟩, bt _ _ B.dr B.D, Y⟩
theorem BQ.putD (B : BQ a H b p d r rule row W) {W' : Tab} (bt : But d H H1) (T : TabAt H1 d W') : BQ a H1 b p d r rule row W' :=
  ⟨let ⟨dx, q⟩ := B.B; ⟨dx, bt _ _ B.bd q⟩, T, B.Y.stay bt B.pd B.dr.symm⟩
theorem BR.put (B : BR a H b p d r rule row W) {p' r' : Addr} {H' : Hp} (hc : c ∉ keysW W) (hW : W.length < 96) (Q : BQ a H' b p' d r' rule (putR rule (fitR rule row (W.length + 1)) c).1 (putW W c z)) : BR a H' b p' d r' rule (putR rule (fitR rule row (W.length + 1)) c).1 (putW W c z) := by
  have hcount := B.count
  have hsz := size_ok (show W.length + 1 ≤ 96 by omega)
  obtain ⟨fl, fr, fp⟩ := fit_ok (k := W.length + 1) B.ok (by omega) (by omega)
  have hcf : c ∉ names (fitR rule row (W.length + 1)) := fun h => hc (B.mem.mp (fp.mem_iff.mp h))
  have hroom : (names (fitR rule row (W.length + 1))).length + 1 < (fitR rule row (W.length + 1)).length := by rw [fp.length_eq, fl]; omega
  have hpl := put_len W c z
  rw [if_neg hc] at hpl
  exact { toBQ := Q, ok := putR_right fr hcf hroom, nd := put_nd c z B.nd, perm := by
            rw [keys_put, if_neg hc]
            exact (putR_ok fr hcf).2.1.trans (((fp.trans B.perm).cons c).trans (List.perm_append_singleton c _).symm)
          len := by rw [(putR_ok fr hcf).1, fl, hpl]
          most := by rw [hpl]; omega }
theorem r_Book_write (F : BFc K a) (vs : List V) (H : Hp) (Q : VK) (E : XK) (h : sp_Book_write K a vs H Q E) : Go (t_Book_write K a E) N_Book_write vs H Q := by
  obtain ⟨b, p, d, r, rule, row, W, c, z, rfl, B, kf, k⟩ := h
  have hm := B.most
  refine q_asg (ev_dIn (ev_var rfl) (ev_bworths F (ev_var rfl) B.B) B.D) fun H1 e1 => ?_
  have B1 := B.ex e1
  refine q_when (et_not (et_B (ev_var rfl))) (fun hb H2 e2 => ?_) (fun hb H2 e2 => ?_)
  · have hc : c ∉ keysW W := by simpa using hb
    have B2 := B1.ex e2
    have e12 := e1.trans e2
    refine q_when (et_test (ev_op (ev_lenD (ev_bworths F (ev_var rfl) B2.B) B2.D) ev_c rv_eqI)) (fun hz H3 e3 => ?_) (fun hz H3 e3 => ?_)
    · have hz := of_decide_eq_true hz
      exact kf hc (by omega) H3 (e12.trans e3)
    · have hz := of_decide_eq_false hz
      have hlt : W.length < 96 := by omega
      have B3 := B2.ex e3
      have hcount := B.count
      have hsz := size_ok (show W.length + 1 ≤ 96 by omega)
      obtain ⟨fl, fr, fp⟩ := fit_ok (k := W.length + 1) B.ok (by omega) (by omega)
      have hcf : c ∉ names (fitR rule row (W.length + 1)) := fun h => hc (B.mem.mp (fp.mem_iff.mp h))
      have hroom : (names (fitR rule row (W.length + 1))).length + 1 < (fitR rule row (W.length + 1)).length := by rw [fp.length_eq, fl]; omega
      refine w_bm (ev_var rfl) B3.B (by decide +kernel) (by decide +kernel) (ea_cons (ev_op (ev_lenD (ev_bworths F (ev_var rfl) B3.B) B3.D) ev_c rv_add) ea_nil) fun H4 e4 => ⟨b, p, d, r, rule, row, W, W.length + 1, rfl, (B3.ex e4).toBQ, B.ok, by omega, by omega, fun p' r' H5 b5 hp' hr' B5 => ?_⟩
      have e04 := (e12.trans e3).trans e4
      have hr0 : r' = r ∨ H r' = none := hr'.imp id (fresh_back e04)
      have hp0 : p' = p ∨ H p' = none := hp'.imp id (fresh_back e04)
      refine w_putB (ev_byard F (ev_var rfl) B5.B) (ev_var rfl) B5.Y fr hcf hroom fun l H6 hl hlr b6 Y6 => ?_
      have B6 := B5.putY b6 Y6
      refine q_dPut (ev_bworths F (ev_var rfl) B6.B) (ev_var rfl) (ev_var rfl) B6.D (by omega) fun H7 b7 T7 => ?_
      have B7 := B6.putD b7 T7
      refine s_ret (ev_var rfl) fun H8 e8 => k (.inr hlt) p' r' H8 (fun x o h1 h2 h3 h => ?_) hp0 hr0 ?_
      · have nr : x ≠ r' := by
          rcases hr0 with z | z
          · rw [z]; exact h3
          · exact fun q => by rw [q, z] at h; cases h
        exact e8 _ _ (b7 _ _ h2 (b6 _ _ nr (b5 _ _ h1 (e04 _ _ h))))
      · unfold writeR
        rw [if_neg hc]
        exact BR.put B hc hlt (B7.ex e8)
  · have hc : c ∈ keysW W := by simpa using hb
    have B2 := B1.ex e2
    refine q_dPut (ev_bworths F (ev_var rfl) B2.B) (ev_var rfl) (ev_var rfl) B2.D (by omega) fun H7 b7 T7 => ?_
    have B7 := B2.toBQ.putD b7 T7
    refine s_ret (ev_var rfl) fun H8 e8 => k (.inl hc) p r H8 (fun x o h1 h2 h3 h => e8 _ _ (b7 _ _ h2 ((e1.trans e2) _ _ h))) (.inl rfl) (.inl rfl) ?_
    unfold writeR
    rw [if_pos hc]
    have hk := keys_put W c z
    have hpl := put_len W c z
    rw [if_pos hc] at hk hpl
    exact { toBQ := B7.ex e8, ok := B.ok, nd := by rw [hk]; exact B.nd, perm := by rw [hk]; exact B.perm, len := by rw [hpl]; exact B.len, most := by rw [hpl]; exact B.most }
theorem r_Book_worth (F : BFc K a) (vs : List V) (H : Hp) (Q : VK) (E : XK) (h : sp_Book_worth K a vs H Q E) : Go (t_Book_worth K a E) N_Book_worth vs H Q := by
  obtain ⟨b, p, d, r, rule, row, W, c, rfl, B, k⟩ := h
  exact s_ret (ev_dGet1 (ev_bworths F (ev_var rfl) B.B) (ev_var rfl) B.D) k
theorem r_Book_how_many (F : BFc K a) (vs : List V) (H : Hp) (Q : VK) (E : XK) (h : sp_Book_how_many K a vs H Q E) : Go (t_Book_how_many K a E) N_Book_how_many vs H Q := by
  obtain ⟨b, p, d, r, rule, row, W, rfl, B, k⟩ := h
  exact s_ret (ev_lenD (ev_bworths F (ev_var rfl) B.B) B.D) k
theorem r_Book_names (F : BFc K a) (vs : List V) (H : Hp) (Q : VK) (E : XK) (h : sp_Book_names K a vs H Q E) : Go (t_Book_names K a E) N_Book_names vs H Q := by
  obtain ⟨b, p, d, r, rule, row, W, rfl, B, k⟩ := h
  have := el_ynames (K := K) (ev_byard F (ev_var (σ := [some (.ref b)]) (i := 0) rfl) B.B) B.Y
  rw [srt_of_perm B.perm] at this
  exact s_retL this k
theorem r_Book_drop (F : BFc K a) (vs : List V) (H : Hp) (Q : VK) (E : XK) (h : sp_Book_drop K a vs H Q E) : Go (t_Book_drop K a E) N_Book_drop vs H Q := by
  obtain ⟨b, p, d, r, rule, row, W, c, rfl, B, kn, k⟩ := h
  have hm := B.most
  refine q_when (et_B (ev_dNotIn (ev_var rfl) (ev_bworths F (ev_var rfl) B.B) B.D)) (fun hb H1 e1 => kn (by simpa using hb) H1 e1) (fun hb H1 e1 => ?_)
  have hc : c ∈ keysW W := by simpa using hb
  have B1 := B.ex e1
  obtain ⟨s, hs⟩ := mem_names.mp (B.mem.mpr hc)
  obtain ⟨z, hz⟩ := val_in hc
  have hcount := B.count
  obtain ⟨tl, tp, tr⟩ := takeR_ok B.ok hs
  have hdl := drop_len B.nd hc
  have htl := tp.length_eq
  rw [List.length_cons] at htl
  have hsz := size_ok (show W.length - 1 ≤ 96 by omega)
  refine w_takeB (ev_byard F (ev_var rfl) B1.B) (ev_var rfl) B1.Y B.ok hs fun l H2 hl hlr b2 Y2 => ?_
  have B2 := B1.toBQ.putY b2 Y2
  refine w_dPop (ev_bworths F (ev_var rfl) B2.B) (ev_var rfl) B2.D hz fun H3 b3 T3 => ?_
  have B3 := B2.putD b3 T3
  refine w_bm (ev_var rfl) B3.B (by decide +kernel) (by decide +kernel) (ea_cons (ev_lenD (ev_bworths F (ev_var rfl) B3.B) B3.D) ea_nil) fun H4 e4 => ⟨b, p, d, r, rule, _, _, (dropW W c).length, rfl, B3.ex e4, tr, by omega, ?_, fun p' r' H5 b5 hp' hr' B5 => ?_⟩
  · rw [show (dropW W c).length = W.length - 1 by omega]; omega
  have hback : ∀ x, H4 x = none → H x = none := fun x h => by
    cases q : H x with
    | none => rfl
    | some o =>
      have h1 := e1 _ _ q
      by_cases xr : x = r
      · have := (B3.ex e4).Y.w; unfold RowAt at this; rw [← xr, h] at this; cases this
      · have h2 := b2 _ _ xr h1
        by_cases xd : x = d
        · have := (B3.ex e4).D; unfold TabAt at this; rw [← xd, h] at this; cases this
        · rw [e4 _ _ (b3 _ _ xd h2)] at h; cases h
  refine s_ret (ev_var rfl) fun H6 e6 => k s z hs hz p' r' H6 (fun x o h1 h2 h3 h => e6 _ _ (b5 _ _ h1 (e4 _ _ (b3 _ _ h2 (b2 _ _ h3 (e1 _ _ h)))))) (hp'.imp id (hback _)) (hr'.imp id (hback _)) ?_
  have hk : (dropW W c).length = W.length - 1 := by omega
  rw [hk] at B5
  obtain ⟨fl, fr, fp⟩ := fit_ok (k := W.length - 1) tr (by omega) (by omega)
  exact { toBQ := B5.ex e6, ok := fr, nd := drop_nd c B.nd, perm := fp.trans (List.Perm.cons_inv (tp.trans (B.perm.trans (keys_drop_perm B.nd hc).symm))), len := by rw [fl, hk], most := by omega }
theorem Lay.ex {W : Tab} : ∀ {xs : List V} {row : Row}, Lay H W xs row → Ex H H' → Lay H' W xs row
  | [], [], _, _ => trivial
  | x :: xs, none :: row, h, e => ⟨h.1, Lay.ex h.2 e⟩
  | x :: xs, some c :: row, h, e => ⟨let ⟨t, z, h1, h2, h3⟩ := h.1; ⟨t, z, h1, e _ _ h2, h3⟩, Lay.ex h.2 e⟩
theorem Lay.but {W : Tab} {l : Addr} (hl : ∀ xs, H l ≠ some (.tup xs)) (bt : But l H H') : ∀ {xs : List V} {row : Row}, Lay H W xs row → Lay H' W xs row
  | [], [], _ => trivial
  | x :: xs, none :: row, h => ⟨h.1, Lay.but hl bt h.2⟩
  | x :: xs, some c :: row, h => ⟨let ⟨t, z, h1, h2, h3⟩ := h.1; ⟨t, z, h1, bt _ _ (fun q => hl _ (q ▸ h2)) h2, h3⟩, Lay.but hl bt h.2⟩
theorem Lay.snocN {W : Tab} : ∀ {xs : List V} {row : Row}, Lay H W xs row → Lay H W (xs ++ [.non]) (row ++ [none])
  | [], [], _ => ⟨rfl, trivial⟩
  | x :: xs, none :: row, h => ⟨h.1, Lay.snocN h.2⟩
  | x :: xs, some c :: row, h => ⟨h.1, Lay.snocN h.2⟩
theorem Lay.snocS {W : Tab} {t : Addr} {c : Nat} {z : Int} (h2 : H t = some (.tup [nV c, .int z])) (h3 : valW W c = some z) : ∀ {xs : List V} {row : Row}, Lay H W xs row → Lay H W (xs ++ [.ref t]) (row ++ [some c])
  | [], [], _ => ⟨⟨t, z, rfl, h2, h3⟩, trivial⟩
  | x :: xs, none :: row, h => ⟨h.1, Lay.snocS h2 h3 h.2⟩
  | x :: xs, some c :: row, h => ⟨h.1, Lay.snocS h2 h3 h.2⟩
theorem Lay.len {W : Tab} : ∀ {xs : List V} {row : Row}, Lay H W xs row → xs.length = row.length
  | [], [], _ => rfl
  | x :: xs, none :: row, h => congrArg (· + 1) (Lay.len h.2)
  | x :: xs, some c :: row, h => congrArg (· + 1) (Lay.len h.2)
theorem r_Book_layout (F : BFc K a) (vs : List V) (H : Hp) (Q : VK) (E : XK) (h : sp_Book_layout K a vs H Q E) : Go (t_Book_layout K a E) N_Book_layout vs H Q := by
  obtain ⟨b, p, d, r, rule, row, W, rfl, B, hsub, k⟩ := h
  have hle := B.Y.le
  refine q_asgL (el_lst ea_nil (by decide)) fun l H1 hl e1 hl1 => ?_
  have B1 := B.ex e1
  refine q_forNLn (el_stalls (ev_byard F (ev_var rfl) B1.B) B1.Y) (fun q i σ' H' => Ex H H' ∧ H' q = some (.lst (rowV row)) ∧ q ≠ l ∧ ∃ xs v2, H' l = some (.lst xs) ∧ Lay H' W xs (row.take i) ∧ σ' = [some (.ref b), some (.ref l), v2]) (fun q H2 hq e2 hq2 => ⟨e1.trans e2, hq2, (ne_some hl1 hq).symm, [], none, e2 _ _ hl1, trivial, rfl⟩) (fun q i σ' H' _ ⟨_, hq, _⟩ => SqL.of hq) (fun q i x σ' H' hi ⟨e, hq, nq, xs, v2, hl', L, hσ⟩ => ?_) (fun q σ' H' ⟨e, hq, nq, xs, v2, hl', L, hσ⟩ => ?_)
  · subst hσ
    obtain ⟨o, ho, rfl⟩ := row_get hi
    have hil := get_lt ho
    have hxl := L.len
    rw [List.length_take] at hxl
    have hnt : ∀ {H'' : Hp} {ys : List V}, H'' l = some (.lst ys) → ∀ xs, H'' l ≠ some (.tup xs) := fun h xs z => by rw [h] at z; cases z
    rw [take_next ho]
    cases o with
    | none =>
      refine s_if (b := true) (et_is (et_B (ev_isN (ev_var rfl))) (by rfl)) (fun _ H2 e2 => s_app (v := .non) (e2 _ _ hl') (ev_var rfl) ev_c (by omega) fun H3 e3 => ?_) (fun z => by cases z)
      have e23 := e2.trans e3
      exact ⟨Ex.mut (e.trans e23) hl, by rw [upd_ne nq]; exact e23 _ _ hq, nq, _, _, upd_same, Lay.but (hnt (e23 _ _ hl')) But.upd (L.ex e23).snocN, rfl⟩
    | some c =>
      have hck : c ∈ keysW W := hsub c (mem_names.mpr ⟨i, ho⟩)
      obtain ⟨z, hz⟩ := val_in hck
      refine s_if (b := false) (et_is (et_B (ev_isN (ev_var rfl))) (by rfl)) (fun z => by cases z) (fun _ H2 e2 => ?_)
      have B2 := B.ex (e.trans e2)
      refine s_appU (xs := xs) (ys := [nV c, .int z]) (e2 _ _ hl') (ev_var rfl) (eu_tup (ea_cons (ev_var rfl) (ea_cons (ev_dGet (ev_bworths F (ev_var rfl) B2.B) (ev_var rfl) B2.D hz) ea_nil)) (by show 2 ≤ 100000; decide)) (by omega) fun t H3 ht e3 ht3 => ?_
      have e23 := e2.trans e3
      exact ⟨Ex.mut (e.trans e23) hl, by rw [upd_ne nq]; exact e23 _ _ hq, nq, _, _, upd_same, Lay.but (hnt (e23 _ _ hl')) But.upd ((L.ex e23).snocS ht3 hz), rfl⟩
  · subst hσ
    rw [rowV_len, List.take_length] at L
    exact s_ret (ev_var rfl) fun H3 e3 => k l xs H3 hl (e.trans e3) (e3 _ _ hl') (L.ex e3)
end
end SY

namespace SY
open PySem L2 Evl
/-! ### the law's own book -/
def sp_law_size (K : PySem.W.Frag) (a : Ad) : Sp := fun vs H Q _ => ∃ c : Nat, vs = [nV c] ∧ RetV (nV (sizeN c)) H Q
def sp_law_moved (K : PySem.W.Frag) (a : Ad) : Sp := fun vs H Q _ => ∃ (w : Addr) (rule : Nat) (row : Row) (m : Nat), vs = [.ref w, nV rule, nV m] ∧ RowAt H w row ∧ rule ≤ 2 ∧ (names row).Nodup ∧ (names row).length < m ∧ m ≤ 200 ∧ row.length ≤ 200 ∧
  RetL (rowV (fillN rule (List.replicate m none) (names row))) H Q
def sp_law_written (K : PySem.W.Frag) (a : Ad) : Sp := fun vs H Q _ => ∃ (w : Addr) (rule : Nat) (row : Row) (c : Nat), vs = [.ref w, nV rule, nV c] ∧ RowAt H w row ∧ Right rule row ∧ rule ≤ 2 ∧ c ∉ names row ∧ (names row).length < 96 ∧ row.length ≤ 200 ∧
  ∀ w' H', But w H H' → (w' = w ∨ H w' = none) → RowAt H' w' (putR rule (fitR rule row ((names row).length + 1)) c).1 → Q (.ref w') H'
def sp_law_dropped (K : PySem.W.Frag) (a : Ad) : Sp := fun vs H Q _ => ∃ (w : Addr) (rule : Nat) (row : Row) (c s : Nat), vs = [.ref w, nV rule, nV c] ∧ RowAt H w row ∧ Right rule row ∧ rule ≤ 2 ∧ row[s]? = some (some c) ∧ (names row).length ≤ 96 ∧ row.length ≤ 200 ∧
  ∀ w' H', But w H H' → (w' = w ∨ H w' = none) → RowAt H' w' (fitR rule (takeR row s).1 ((names row).length - 1)) → Q (.ref w') H'
def sp_law_layout (K : PySem.W.Frag) (a : Ad) : Sp := fun vs H Q _ => ∃ (l w v : Addr) (xs : List V) (row : Row) (W : Tab), vs = [.ref l, .ref w, .ref v] ∧ H l = some (.lst xs) ∧ Lay H W xs row ∧ RowAt H w row ∧ TabAt H v W ∧ RetV (.bl true) H Q
def sp_law_refusal10 (K : PySem.W.Frag) (a : Ad) : Sp := fun vs H Q _ => ∃ (b p d r : Addr) (rule : Nat) (row : Row) (W : Tab) (c : Nat) (full : Bool), vs = [.ref b, nV c, .bl full] ∧ BR a H b p d r rule row W ∧ c ∉ keysW W ∧ (full = true → W.length = 96) ∧
  RetU [.bl full, .bl (!full), .bl true] H Q
/-- the book, the row walked and the plain dict, side by side -/
structure Bx (a : Ad) (M H : Hp) (b d w v : Addr) (rule : Nat) (row : Row) (W : Tab) : Prop where
  e : Ex M H
  mb : M b = none
  md : M d = none
  mw : M w = none
  mv : M v = none
  bk : ∃ p r, M r = none ∧ w ≠ r ∧ BR a H b p d r rule row W
  hw : RowAt H w row
  hv : TabAt H v W
  ne : d ≠ v
def sp_law_deed10 (K : PySem.W.Frag) (a : Ad) : Sp := fun vs H Q _ => ∃ (M : Hp) (b d w v : Addr) (rule : Nat) (row : Row) (W : Tab) (cell : Int) (c : Nat), vs = [.ref b, .ref w, nV rule, .ref v, .int cell, nV c] ∧ rule ≤ 2 ∧ Bx a M H b d w v rule row W ∧
  ∀ w' row' W' H', Bx a M H' b d w' v rule row' W' → Q (.ref w') H'
abbrev N_law_size : List Str := ["count", "size"]
def t_law_size (K : PySem.W.Frag) (a : Ad) (E : XK) : TS :=
  (tSeq (tFor (iList K (tLst (tCons (tC (.int 4)) (tCons (tC (.int 8)) (tCons (tC (.int 16)) (tCons (tC (.int 32)) (tCons (tC (.int 64)) tNil))))))) (gName 1) (tIfS (tTest (tOp rLeI (tOp rMulI (tC (.int 4)) (tVar 0)) (tOp rMulI (tC (.int 3)) (tVar 1)))) (tRet (tVar 1)) tNext))
  (tRet (tC (.int 128))))
abbrev N_law_moved : List Str := ["row", "rule", "many", "new", "name"]
def t_law_moved (K : PySem.W.Frag) (a : Ad) (E : XK) : TS :=
  (tSeq (tAsg (tOp rRep (tLst (tCons (tC .non) tNil)) (tVar 2)) (gName 3))
  (tSeq (tFor (iList K (tVar 0)) (gName 4) (tIfS (tB (tNotN (tVar 4))) (tDrop (tCall (sp_law_put K a) [] E0 (tCons (tVar 3) (tCons (tVar 1) (tCons (tVar 4) tNil))))) tNext))
  (tRet (tVar 3))))
abbrev N_law_written : List Str := ["row", "rule", "name", "count"]
def t_law_written (K : PySem.W.Frag) (a : Ad) (E : XK) : TS :=
  (tSeq (tAsg (tOp rAddI (tOp rSubI (tCB (rLenL K) (tCons (tVar 0) tNil)) (tBM K "list" (rCntV K) (tVar 0) (tCons (tC .non) tNil))) (tC (.int 1))) (gName 3))
  (tSeq (tIfS (tTest (tOp rNe (tCall (sp_law_size K a) [] E0 (tCons (tVar 3) tNil)) (tCB (rLenL K) (tCons (tVar 0) tNil)))) (tAsg (tCall (sp_law_moved K a) [] E0 (tCons (tVar 0) (tCons (tVar 1) (tCons (tCall (sp_law_size K a) [] E0 (tCons (tVar 3) tNil)) tNil)))) (gName 0)) tNext)
  (tSeq (tDrop (tCall (sp_law_put K a) [] E0 (tCons (tVar 0) (tCons (tVar 1) (tCons (tVar 2) tNil)))))
  (tRet (tVar 0)))))
abbrev N_law_dropped : List Str := ["row", "rule", "name", "count"]
def t_law_dropped (K : PySem.W.Frag) (a : Ad) (E : XK) : TS :=
  (tSeq (tDrop (tCall (sp_law_take K a) [] E0 (tCons (tVar 0) (tCons (tVar 2) tNil))))
  (tSeq (tAsg (tOp rSubI (tCB (rLenL K) (tCons (tVar 0) tNil)) (tBM K "list" (rCntV K) (tVar 0) (tCons (tC .non) tNil))) (gName 3))
  (tSeq (tIfS (tTest (tOp rNe (tCall (sp_law_size K a) [] E0 (tCons (tVar 3) tNil)) (tCB (rLenL K) (tCons (tVar 0) tNil)))) (tAsg (tCall (sp_law_moved K a) [] E0 (tCons (tVar 0) (tCons (tVar 1) (tCons (tCall (sp_law_size K a) [] E0 (tCons (tVar 3) tNil)) tNil)))) (gName 0)) tNext)
  (tRet (tVar 0)))))
abbrev N_law_layout : List Str := ["found", "row", "worths", "one", "name"]
def t_law_layout (K : PySem.W.Frag) (a : Ad) (E : XK) : TS :=
  (tSeq (tIfS (tOr (tNot (tB (tCB (rIsi K) (tCons (tVar 0) (tCons (tC (.ty "list")) tNil))))) (tTest (tOp rNe (tCB (rLenL K) (tCons (tVar 0) tNil)) (tCB (rLenL K) (tCons (tVar 1) tNil))))) (tRet (tC (.bl false))) tNext)
  (tSeq (tFor (iZip K (tCons (tVar 0) (tCons (tVar 1) tNil))) (gTup K 2 (gCons (gName 3) (gCons (gName 4) gNil))) (tIfS (tOr (tB (tIsN (tVar 3))) (tB (tIsN (tVar 4)))) (tIfS (tOr (tB (tNotN (tVar 3))) (tB (tNotN (tVar 4)))) (tRet (tC (.bl false))) tNext) (tSeq (tIfS (tOr (tNot (tB (tCB (rIsi K) (tCons (tVar 3) (tCons (tC (.ty "tuple")) tNil))))) (tOr (tTest (tOp rNe (tCB (rLenL K) (tCons (tVar 3) tNil)) (tC (.int 2)))) (tOr (tNot (tB (tCall (sp_law_whole K a) [] E0 (tCons (tOp (rIxT K) (tVar 3) (tC (.int 0))) tNil)))) (tNot (tB (tCall (sp_law_whole K a) [] E0 (tCons (tOp (rIxT K) (tVar 3) (tC (.int 1))) tNil))))))) (tRet (tC (.bl false))) tNext)
  (tIfS (tTest (tOp (rNeD K) (tVar 3) (tTup (tCons (tVar 4) (tCons (tDGet (tVar 2) (tVar 4)) tNil))))) (tRet (tC (.bl false))) tNext))))
  (tRet (tC (.bl true)))))
abbrev N_law_refusal10 : List Str := ["book", "name", "full", "e"]
def ts_law_refusal10 (K : PySem.W.Frag) (a : Ad) (aE : Addr) (cls : Value) (d : Option Addr) : TS :=
  (tRet (tTup (tCons (tCB (rIsX K cls d aE) (tCons (tVar 3) (tCons (tC (.ref a.Full)) tNil))) (tCons (tCB (rIsX K cls d aE) (tCons (tVar 3) (tCons (tC (.ref a.NoCart)) tNil))) (tCons (tCB (rIsX K cls d aE) (tCons (tVar 3) (tCons (tC (.ty "ValueError")) tNil))) tNil)))))
def t_law_refusal10 (K : PySem.W.Frag) (a : Ad) (E : XK) : TS :=
  (tSeq (tTryO K a.YardError 3 (fun W => (tIfS (tB (tVar 2)) (tDrop (tMethW a.B "write" (sp_Book_write K a) (WE W) (tVar 0) (tCons (tVar 1) (tCons (tC (.int 0)) tNil)))) (tDrop (tMethW a.B "drop" (sp_Book_drop K a) (WE W) (tVar 0) (tCons (tVar 1) tNil))))) (ts_law_refusal10 K a))
  (tRet (tTup tNil)))
abbrev N_law_deed10 : List Str := ["book", "row", "rule", "worths", "cell", "name", "was", "found", "gone"]
def t_law_deed10 (K : PySem.W.Frag) (a : Ad) (E : XK) : TS :=
  (tSeq (tIfS (tAnd (tTest (tOp rLtI (tOp rModI (tVar 4) (tC (.int 8))) (tC (.int 5)))) (tOr (tB (tDIn (tVar 5) (tVar 3))) (tTest (tOp rLtI (tCB rLenD (tCons (tVar 3) tNil)) (tC (.int 96)))))) (tSeq (tAsg (tDIn (tVar 5) (tVar 3)) (gName 6))
  (tSeq (sDPut (tVar 3) (tVar 5) (tOp rSubI (tOp rModI (tVar 4) (tOp rPowI (tC (.int 10)) (tC (.int 30)))) (tOp rPowI (tC (.int 10)) (tC (.int 29)))))
  (tSeq (tAsg (tMeth a.B "write" (sp_Book_write K a) [] E0 (tVar 0) (tCons (tVar 5) (tCons (tDGet (tVar 3) (tVar 5)) tNil))) (gName 7))
  (tSeq (tIfS (tOr (tNot (tB (tCB (rIsi K) (tCons (tVar 7) (tCons (tC (.ty "bool")) tNil))))) (tTest (tOp rNe (tVar 7) (tVar 6)))) (tRet (tC .non)) tNext)
  (tSeq (tIfS (tB (tVar 6)) (tRet (tVar 1)) tNext)
  (tRet (tCall (sp_law_written K a) [] E0 (tCons (tVar 1) (tCons (tVar 2) (tCons (tVar 5) tNil)))))))))) tNext)
  (tSeq (tIfS (tAnd (tTest (tOp rEq (tOp rModI (tVar 4) (tC (.int 8))) (tC (.int 7)))) (tB (tDNotIn (tVar 5) (tVar 3)))) (tSeq (tIfS (tTest (tOp (rNeD K) (tCall (sp_law_refusal10 K a) [] E0 (tCons (tVar 0) (tCons (tVar 5) (tCons (tC (.bl false)) tNil)))) (tTup (tCons (tC (.bl false)) (tCons (tC (.bl true)) (tCons (tC (.bl true)) tNil)))))) (tRet (tC .non)) tNext)
  (tRet (tVar 1))) tNext)
  (tSeq (tIfS (tTest (tOp rGtI (tCB rLenD (tCons (tVar 3) tNil)) (tC (.int 0)))) (tSeq (tAsg (tOp (rIxL K) (tCB (rSortedI K) (tCons (tCB rListD (tCons (tVar 3) tNil)) tNil)) (tOp rModI (tOp rDivI (tVar 4) (tC (.int 8))) (tCB rLenD (tCons (tVar 3) tNil)))) (gName 5))
  (tSeq (tAsg (tMeth a.B "drop" (sp_Book_drop K a) [] E0 (tVar 0) (tCons (tVar 5) tNil)) (gName 8))
  (tSeq (tIfS (tOr (tNot (tB (tCall (sp_law_whole K a) [] E0 (tCons (tVar 8) tNil)))) (tTest (tOp rNe (tVar 8) (tDPop1 (tVar 3) (tVar 5))))) (tRet (tC .non)) tNext)
  (tRet (tCall (sp_law_dropped K a) [] E0 (tCons (tVar 1) (tCons (tVar 2) (tCons (tVar 5) tNil)))))))) tNext)
  (tRet (tVar 1)))))
section
variable {K : PySem.W.Frag} {a : Ad} {M H H' H1 H2 H3 : Hp} {σ : L2.St} {D : Ends} {tz : TS} {b p d r w v l : Addr} {rule c s k n : Nat} {row : Row} {W : Tab} {z : Int} {td ty tv tb tn : TE}
theorem BR.stay (B : BR a H b p d r rule row W) (bt : But l H H1) (n1 : b ≠ l) (n2 : d ≠ l) (n3 : p ≠ l) (n4 : r ≠ l) : BR a H1 b p d r rule row W :=
  { B with toBQ := ⟨let ⟨dx, q⟩ := B.B; ⟨dx, bt _ _ n1 q⟩, bt _ _ n2 B.D, B.Y.stay bt n3 n4⟩ }
theorem BR.stayL (B : BR a H b p d r rule row W) (bt : But w H H1) {row2 : Row} (hw : RowAt H w row2) (n : w ≠ r) : BR a H1 b p d r rule row W := by
  refine B.stay bt (fun z => ?_) (fun z => ?_) (fun z => ?_) n.symm
  · obtain ⟨dx, q⟩ := B.B
    unfold RowAt at hw; rw [← z, q] at hw; cases hw
  · have q := B.D
    unfold TabAt at q; unfold RowAt at hw; rw [← z, q] at hw; cases hw
  · obtain ⟨dx, q⟩ := B.Y.y
    unfold RowAt at hw; rw [← z, q] at hw; cases hw
theorem BR.stayD (B : BR a H b p d r rule row W) (bt : But v H H1) {W2 : Tab} (hv : TabAt H v W2) (n : d ≠ v) : BR a H1 b p d r rule row W := by
  refine B.stay bt (fun z => ?_) n (fun z => ?_) (fun z => ?_)
  · obtain ⟨dx, q⟩ := B.B
    unfold TabAt at hv; rw [← z, q] at hv; cases hv
  · obtain ⟨dx, q⟩ := B.Y.y
    unfold TabAt at hv; rw [← z, q] at hv; cases hv
  · have q := B.Y.w
    unfold RowAt at q; unfold TabAt at hv; rw [← z, q] at hv; cases hv
theorem Bx.ex (T : Bx a M H b d w v rule row W) (e : Ex H H1) : Bx a M H1 b d w v rule row W :=
  { T with e := T.e.trans e, bk := let ⟨p, r, h1, h2, h3⟩ := T.bk; ⟨p, r, h1, h2, h3.ex e⟩, hw := T.hw.ex e, hv := T.hv.ex e }
theorem Bx.fresh {q : Addr} {o : HO} (T : Bx a M H b d w v rule row W) (hq : H q = none) (e : Ex H H1) (h : H1 q = some o) : ∃ M', Ex M M' ∧ Bx a M' H1 b d w v rule row W ∧ M' q = some o := by
  obtain ⟨p, r, h1, h2, h3⟩ := T.bk
  have T1 := T.ex e
  have g : ∀ x o', H x = some o' → q ≠ x := fun x o' hx => (ne_some hx hq).symm
  obtain ⟨dxb, hb⟩ := h3.B
  refine ⟨wo H1 [b, d, r, w, v], ex_wo T1.e fun x hx => ?_, { e := wo_ex _ _, mb := wo_none (by simp), md := wo_none (by simp), mw := wo_none (by simp), mv := wo_none (by simp), bk := ⟨p, r, wo_none (by simp), h2, h3.ex e⟩, hw := T1.hw, hv := T1.hv, ne := T.ne }, by rw [wo_get (by simp [g _ _ hb, g _ _ h3.D, g _ _ h3.Y.w, g _ _ T.hw, g _ _ T.hv])]; exact h⟩
  simp at hx
  rcases hx with rfl | rfl | rfl | rfl | rfl
  · exact T.mb
  · exact T.md
  · exact h1
  · exact T.mw
  · exact T.mv
/-- behind a deed upon all three -/
theorem Bx.next (T : Bx a M H b d w v rule row W) {p' r' w' : Addr} {row' : Row} {W' : Tab} (st : ∀ x o, M x = some o → H' x = some o) (hr : M r' = none) (hw : M w' = none) (n : w' ≠ r') (B : BR a H' b p' d r' rule row' W') (W1 : RowAt H' w' row') (T1 : TabAt H' v W') : Bx a M H' b d w' v rule row' W' :=
  { e := st, mb := T.mb, md := T.md, mw := hw, mv := T.mv, bk := ⟨p', r', hr, n, B⟩, hw := W1, hv := T1, ne := T.ne }
theorem r_law_size (vs : List V) (H : Hp) (Q : VK) (E : XK) (h : sp_law_size K a vs H Q E) : Go (t_law_size K a E) N_law_size vs H Q := by
  obtain ⟨c, rfl, k⟩ := h
  refine q_forNLn (el_lst (vs := [nV 4, nV 8, nV 16, nV 32, nV 64]) (ea_cons ev_c (ea_cons ev_c (ea_cons ev_c (ea_cons ev_c (ea_cons ev_c ea_nil))))) (by show 5 ≤ 100000; decide)) (fun q i σ' H' => Ex H H' ∧ H' q = some (.lst [nV 4, nV 8, nV 16, nV 32, nV 64]) ∧ (0 < i → 3 < c) ∧ (1 < i → 6 < c) ∧ (2 < i → 12 < c) ∧ (3 < i → 24 < c) ∧ (4 < i → 48 < c) ∧ ∃ v1, σ' = [some (nV c), v1]) (fun q H2 hq e2 hq2 => ⟨e2, hq2, by omega, by omega, by omega, by omega, by omega, none, rfl⟩) (fun q i σ' H' _ ⟨_, hq, _⟩ => SqL.of hq) (fun q i x σ' H' hi ⟨e, hq, g0, g1, g2, g3, g4, v1, hσ⟩ => ?_) (fun q σ' H' ⟨e, hq, g0, g1, g2, g3, g4, v1, hσ⟩ => ?_)
  · subst hσ
    have go : ∀ (size : Nat), x = nV size → (∀ H2, Ex H H2 → ¬ (4 * c ≤ 3 * size) → (fun q i σ' H' => Ex H H' ∧ H' q = some (.lst [nV 4, nV 8, nV 16, nV 32, nV 64]) ∧ (0 < i → 3 < c) ∧ (1 < i → 6 < c) ∧ (2 < i → 12 < c) ∧ (3 < i → 24 < c) ∧ (4 < i → 48 < c) ∧ ∃ v1, σ' = [some (nV c), v1]) q (i + 1) ([some (nV c), some x] : L2.St) H2 ∨ ¬ H2 q = some (.lst [nV 4, nV 8, nV 16, nV 32, nV 64])) → (4 * c ≤ 3 * size → size = sizeN c) → tIfS (tTest (tOp rLeI (tOp rMulI (tC (.int 4)) (tVar 0)) (tOp rMulI (tC (.int 3)) (tVar 1)))) (tRet (tVar 1)) tNext { nx := (fun q i σ' H' => Ex H H' ∧ H' q = some (.lst [nV 4, nV 8, nV 16, nV 32, nV 64]) ∧ (0 < i → 3 < c) ∧ (1 < i → 6 < c) ∧ (2 < i → 12 < c) ∧ (3 < i → 24 < c) ∧ (4 < i → 48 < c) ∧ ∃ v1, σ' = [some (nV c), v1]) q (i + 1), ct := (fun q i σ' H' => Ex H H' ∧ H' q = some (.lst [nV 4, nV 8, nV 16, nV 32, nV 64]) ∧ (0 < i → 3 < c) ∧ (1 < i → 6 < c) ∧ (2 < i → 12 < c) ∧ (3 < i → 24 < c) ∧ (4 < i → 48 < c) ∧ ∃ v1, σ' = [some (nV c), v1]) q (i + 1), bk := tRet (tC (.int 128)) { nx := fun x H' => Q V.non H', rt := Q }, rt := Q } [some (nV c), some x] H' := fun size hx hno hyes => by
      subst hx
      refine s_when (et_test (ev_op (ev_op ev_c (ev_var (v := nV c) rfl) (rv_mulL (by decide))) (ev_op ev_c (ev_var (v := nV size) rfl) (rv_mulL (by decide))) rv_le)) (fun hb H2 e2 => ?_) (fun hb H2 e2 => ?_)
      · have hb := of_decide_eq_true hb
        rw [hyes (by omega)]
        exact s_ret (ev_var rfl) fun H3 e3 => k H3 ((e.trans e2).trans e3)
      · have hb := of_decide_eq_false hb
        rcases hno H2 (e.trans e2) (by omega) with z | z
        · exact z
        · exact absurd (e2 _ _ hq) z
    match i, hi with
    | 0, hi => cases hi; exact go 4 rfl (fun H2 e2 h => by by_cases q2 : H2 q = some (.lst [nV 4, nV 8, nV 16, nV 32, nV 64]); exact .inl ⟨e2, q2, by omega, by omega, by omega, by omega, by omega, _, rfl⟩; exact .inr q2) (fun h => by unfold sizeN; rw [if_pos (by omega)])
    | 1, hi => cases hi; have := g0 (by omega); exact go 8 rfl (fun H2 e2 h => by by_cases q2 : H2 q = some (.lst [nV 4, nV 8, nV 16, nV 32, nV 64]); exact .inl ⟨e2, q2, by omega, by omega, by omega, by omega, by omega, _, rfl⟩; exact .inr q2) (fun h => by unfold sizeN; rw [if_neg (by omega), if_pos (by omega)])
    | 2, hi => cases hi; have := g1 (by omega); exact go 16 rfl (fun H2 e2 h => by by_cases q2 : H2 q = some (.lst [nV 4, nV 8, nV 16, nV 32, nV 64]); exact .inl ⟨e2, q2, by omega, by omega, by omega, by omega, by omega, _, rfl⟩; exact .inr q2) (fun h => by unfold sizeN; rw [if_neg (by omega), if_neg (by omega), if_pos (by omega)])
    | 3, hi => cases hi; have := g2 (by omega); exact go 32 rfl (fun H2 e2 h => by by_cases q2 : H2 q = some (.lst [nV 4, nV 8, nV 16, nV 32, nV 64]); exact .inl ⟨e2, q2, by omega, by omega, by omega, by omega, by omega, _, rfl⟩; exact .inr q2) (fun h => by unfold sizeN; rw [if_neg (by omega), if_neg (by omega), if_neg (by omega), if_pos (by omega)])
    | 4, hi => cases hi; have := g3 (by omega); exact go 64 rfl (fun H2 e2 h => by by_cases q2 : H2 q = some (.lst [nV 4, nV 8, nV 16, nV 32, nV 64]); exact .inl ⟨e2, q2, by omega, by omega, by omega, by omega, by omega, _, rfl⟩; exact .inr q2) (fun h => by unfold sizeN; rw [if_neg (by omega), if_neg (by omega), if_neg (by omega), if_neg (by omega), if_pos (by omega)])
    | i + 5, hi => simp at hi
  · subst hσ
    have h128 : sizeN c = 128 := by
      have := g4 (by show 4 < 5; decide)
      unfold sizeN
      rw [if_neg (by omega), if_neg (by omega), if_neg (by omega), if_neg (by omega), if_neg (by omega)]
    rw [h128] at k
    exact s_ret ev_c fun H3 e3 => k H3 (e.trans e3)
theorem ev_lsize (h : Ev tn σ H (nV c)) : Ev (tCall (sp_law_size K a) [] E0 (tCons tn tNil)) σ H (nV (sizeN c)) := ev_callE (dvs := []) (ea_cons h ea_nil) fun H1 e1 Q q E => ⟨c, rfl, q⟩
theorem r_law_moved (vs : List V) (H : Hp) (Q : VK) (E : XK) (h : sp_law_moved K a vs H Q E) : Go (t_law_moved K a E) N_law_moved vs H Q := by
  obtain ⟨w, rule, row, m, rfl, W, h2, nd, hlt, hm, hle, k⟩ := h
  refine q_asgL (el_rep (n := (m : Int)) (ev_var rfl) (by omega) (by omega)) fun g H1 hg e1 G1 => ?_
  have G1 : RowAt H1 g (List.replicate (m : Int).toNat none) := G1
  rw [Int.toNat_natCast] at G1
  have R0 : Right rule (List.replicate m none) := right_empty (by omega)
  refine q_forLn (ev_var rfl) (SqL.of (W.ex e1)) (fun i σ' H' => Ex H H' ∧ RowAt H' g (fillN rule (List.replicate m none) (names (row.take i))) ∧ ∃ v4, σ' = [some (.ref w), some (nV rule), some (nV m), some (.ref g), v4]) (fun H2 e2 => ⟨e1.trans e2, G1.ex e2, none, rfl⟩) (fun i σ' H' _ ⟨e, _⟩ => SqL.of (W.ex e)) (fun i x σ' H' hi ⟨e, G, v4, hσ⟩ => ?_) (fun σ' H' ⟨e, G, v4, hσ⟩ => ?_)
  · subst hσ
    obtain ⟨o, ho, rfl⟩ := row_get hi
    have hsucc := names_take_succ ho
    have hall := names_take_le ho
    cases o with
    | none =>
      refine s_when (b := false) (et_is (et_B (ev_notN (ev_var rfl))) (by rfl)) (fun z => by cases z) (fun _ H2 e2 => ⟨e.trans e2, ?_, _, rfl⟩)
      rw [hsucc]
      show RowAt H2 g (fillN rule (List.replicate m none) (names (row.take i) ++ []))
      rw [List.append_nil]
      exact G.ex e2
    | some c =>
      rw [names_cons_some] at hall
      have hnew := newOf_empty m (names row)
      obtain ⟨R1, l1, m1, room1, step1⟩ := fill_step (rule := rule) (row := List.replicate m none) (A := names (row.take i)) (c := c) (B := names (row.drop (i + 1))) R0 (by rw [← hall]; exact nd) (by rw [← hall, hnew, names_empty, List.length_replicate, List.length_nil]; omega)
      have hcn : c ∉ names (fillN rule (List.replicate m none) (names (row.take i))) := by rw [m1, names_empty]; simp
      refine s_when (b := true) (et_is (et_B (ev_notN (ev_var rfl))) (by rfl)) (fun _ H2 e2 => ?_) (fun z => by cases z)
      refine s_lputD (c := c) (ev_var rfl) (ev_var rfl) (ev_var rfl) (G.ex e2) (by rw [l1, List.length_replicate]; exact hm) h2 R1 hcn fun H3 b3 G3 => ⟨ex_but (e.trans e2) hg b3, ?_, _, rfl⟩
      rw [hsucc]
      show RowAt H3 g (fillN rule (List.replicate m none) (names (row.take i) ++ [c]))
      rw [step1, if_neg hcn]
      exact G3
  · subst hσ
    rw [rowV_len, List.take_length] at G
    exact s_ret (ev_var rfl) fun H3 e3 => k g H3 hg (e.trans e3) (G.ex e3)
theorem el_lmoved {tw tr tm : TE} {m : Nat} (h1 : Ev tw σ H (.ref w)) (hr : Ev tr σ H (nV rule)) (hm : Ev tm σ H (nV m)) (hw : RowAt H w row) (h2 : rule ≤ 2) (nd : (names row).Nodup) (hlt : (names row).length < m) (hm2 : m ≤ 200) (hle : row.length ≤ 200) : EvL (tCall (sp_law_moved K a) [] E0 (tCons tw (tCons tr (tCons tm tNil)))) σ H (rowV (fillN rule (List.replicate m none) (names row))) :=
  el_callE (ea_cons h1 (ea_cons hr (ea_cons hm ea_nil))) fun H1 e1 Q q E => ⟨w, rule, row, m, rfl, hw.ex e1, h2, nd, hlt, hm2, hle, q⟩
theorem ev_namesN {tw : TE} (h : Ev tw σ H (.ref w)) (hw : RowAt H w row) : Ev (tOp rSubI (tCB (rLenL K) (tCons tw tNil)) (tBM K "list" (rCntV K) tw (tCons (tC .non) tNil))) σ H (nV (names row).length) := by
  have hl := ev_len' (K := K) h (SqL.of hw)
  rw [rowV_len] at hl
  have hle := count_names row
  have hc := names_le row
  exact int_is (ev_op hl (ev_count h hw) rv_sub) (by omega)
theorem r_law_written (vs : List V) (H : Hp) (Q : VK) (E : XK) (h : sp_law_written K a vs H Q E) : Go (t_law_written K a E) N_law_written vs H Q := by
  obtain ⟨w, rule, row, c, rfl, W, R, h2, hc, h96, hle, k⟩ := h
  refine q_asg (v := nV ((names row).length + 1)) (int_is (ev_op (ev_namesN (ev_var rfl) W) ev_c rv_add) (by omega)) fun H1 e1 => ?_
  have hsz := size_ok (show (names row).length + 1 ≤ 96 by omega)
  have W1 := W.ex e1
  have hlen : Ev (tCB (rLenL K) (tCons (tVar 0) tNil)) [some (.ref w), some (nV rule), some (nV c), some (nV ((names row).length + 1))] H1 (nV row.length) := by
    have := ev_len' (K := K) (σ := [some (.ref w), some (nV rule), some (nV c), some (nV ((names row).length + 1))]) (ta := tVar 0) (ev_var rfl) (SqL.of W1)
    rw [rowV_len] at this
    exact this
  obtain ⟨fl, fr, fp⟩ := fit_ok (k := (names row).length + 1) R (by omega) (by omega)
  have hcf : c ∉ names (fitR rule row ((names row).length + 1)) := fun h => hc (fp.mem_iff.mp h)
  refine q_when (et_test (ev_op (ev_lsize (ev_var rfl)) hlen rv_neI)) (fun hb H2 e2 => ?_) (fun hb H2 e2 => ?_)
  · have hne : sizeN ((names row).length + 1) ≠ row.length := fun z => by rw [z] at hb; simp at hb
    have hfit : fitR rule row ((names row).length + 1) = fillN rule (List.replicate (sizeN ((names row).length + 1)) none) (names row) := by unfold fitR; rw [if_neg hne]
    refine s_asgL (el_lmoved (ev_var rfl) (ev_var rfl) (ev_lsize (ev_var rfl)) (W1.ex e2) h2 R.nd (by omega) (by omega) hle) fun g H3 hg e3 hg3 => ?_
    have G3 : RowAt H3 g (fitR rule row ((names row).length + 1)) := by rw [hfit]; exact hg3
    refine q_lputD (c := c) (ev_var rfl) (ev_var rfl) (ev_var rfl) G3 (by omega) h2 fr hcf fun H4 b4 G4 => ?_
    refine s_ret (ev_var rfl) fun H5 e5 => k g H5 (fun x o hx h => ?_) (.inr (fresh_back (e1.trans e2) hg)) (G4.ex e5)
    have h3 := ((e1.trans e2).trans e3) _ _ h
    have ng : x ≠ g := fun q => by
      have := (e1.trans e2) _ _ h
      rw [q, hg] at this; cases this
    exact e5 _ _ (b4 _ _ ng h3)
  · have heq : sizeN ((names row).length + 1) = row.length := by
      have : decide ((sizeN ((names row).length + 1) : Int) = (row.length : Int)) = true := by simpa using hb
      have := of_decide_eq_true this
      omega
    have hfit : fitR rule row ((names row).length + 1) = row := by unfold fitR; rw [if_pos heq]
    rw [hfit] at k fl fr hcf
    refine q_lputD (c := c) (ev_var rfl) (ev_var rfl) (ev_var rfl) (W1.ex e2) hle h2 R hc fun H4 b4 G4 => ?_
    exact s_ret (ev_var rfl) fun H5 e5 => k w H5 (fun x o hx h => e5 _ _ (b4 _ _ hx ((e1.trans e2) _ _ h))) (.inl rfl) (G4.ex e5)
theorem r_law_dropped (vs : List V) (H : Hp) (Q : VK) (E : XK) (h : sp_law_dropped K a vs H Q E) : Go (t_law_dropped K a E) N_law_dropped vs H Q := by
  obtain ⟨w, rule, row, c, s, rfl, W, R, h2, hs, h96, hle, k⟩ := h
  obtain ⟨tl, tp, tr⟩ := takeR_ok R hs
  have htl := tp.length_eq
  rw [List.length_cons] at htl
  refine q_ltakeD (ev_var rfl) (ev_var rfl) W hle R hs fun H1 b1 W1 => ?_
  have hk : (names (takeR row s).1).length = (names row).length - 1 := by omega
  rw [← hk] at k
  have hle' : (takeR row s).1.length ≤ 200 := by omega
  have h95 : (names (takeR row s).1).length ≤ 95 := by omega
  generalize (takeR row s).1 = row1 at *
  refine q_asg (ev_namesN (ev_var rfl) W1) fun H2 e2 => ?_
  have W2 := W1.ex e2
  have hsz := size_ok (show (names row1).length ≤ 96 by omega)
  have hlen : Ev (tCB (rLenL K) (tCons (tVar 0) tNil)) [some (.ref w), some (nV rule), some (nV c), some (nV (names row1).length)] H2 (nV row1.length) := by
    have := ev_len' (K := K) (σ := [some (.ref w), some (nV rule), some (nV c), some (nV (names row1).length)]) (ta := tVar 0) (ev_var rfl) (SqL.of W2)
    rw [rowV_len] at this
    exact this
  refine q_when (et_test (ev_op (ev_lsize (ev_var rfl)) hlen rv_neI)) (fun hb H3 e3 => ?_) (fun hb H3 e3 => ?_)
  · have hne : sizeN (names row1).length ≠ row1.length := fun z => by rw [z] at hb; simp at hb
    have hfit : fitR rule row1 (names row1).length = fillN rule (List.replicate (sizeN (names row1).length) none) (names row1) := by unfold fitR; rw [if_neg hne]
    refine s_asgL (el_lmoved (ev_var rfl) (ev_var rfl) (ev_lsize (ev_var rfl)) (W2.ex e3) h2 tr.nd (by omega) (by omega) hle') fun g H4 hg e4 hg4 => ?_
    refine s_ret (ev_var rfl) fun H5 e5 => k g H5 (fun x o hx h => (e2.trans (e3.trans (e4.trans e5))) _ _ (b1 _ _ hx h)) ?_ ?_
    · by_cases q : g = w
      · exact .inl q
      · exact .inr (b1.free q (fresh_back (e2.trans e3) hg))
    · rw [hfit]
      exact e5 _ _ hg4
  · have heq : sizeN (names row1).length = row1.length := by
      have : decide ((sizeN (names row1).length : Int) = (row1.length : Int)) = true := by simpa using hb
      have := of_decide_eq_true this
      omega
    have hfit : fitR rule row1 (names row1).length = row1 := by unfold fitR; rw [if_pos heq]
    rw [hfit] at k
    exact s_ret (ev_var rfl) fun H5 e5 => k w H5 (fun x o hx h => (e2.trans (e3.trans e5)) _ _ (b1 _ _ hx h)) (.inl rfl) ((W2.ex e3).ex e5)
theorem q_zip {tf tw : TE} {tu : TS} {g : TG} {xs ys : List V} (h1 : Ev tf σ H (.ref l)) (h2 : Ev tw σ H (.ref w)) (hx : H l = some (.lst xs)) (hy : H w = some (.lst ys)) (hl : xs.length = ys.length) (Pv : Nat → L2.St → Hp → Prop) (h0 : ∀ H1, Ex H H1 → Pv 0 σ H1) (hq : ∀ i σ' H', Pv i σ' H' → SqL K H' l xs ∧ SqL K H' w ys)
    (hs : ∀ (i : Nat) (x y : V) (T : Addr) (σ' : L2.St) (H' : Hp), xs[i]? = some x → ys[i]? = some y → Pv i σ' H' → H' T = none → g (.ref T) σ' (upd H' T (.tup [x, y])) fun σ2 H2 => tu { D with nx := Pv (i + 1), ct := Pv (i + 1), bk := tz D } σ2 H2) (hd : ∀ σ' H', Pv xs.length σ' H' → tz D σ' H') : tSeq (tFor (iZip K (tCons tf (tCons tw tNil))) g tu) tz D σ H :=
  h1 H (Ex.refl H) _ fun H1 e1 => h2 H1 e1 _ fun H2 e2 => ⟨l, w, xs, ys, rfl, SqL.of ((e1.trans e2) _ _ hx), SqL.of ((e1.trans e2) _ _ hy), RZ.for_zipL (D := { D with nx := tz D }) hl Pv (h0 H2 (e1.trans e2)) hq hs hd⟩
theorem Lay.at_ : ∀ {xs : List V} {row : Row} {i : Nat} {x : V} {o : Option Nat}, Lay H W xs row → xs[i]? = some x → row[i]? = some o → (o = none ∧ x = .non) ∨ ∃ c t z, o = some c ∧ x = .ref t ∧ H t = some (.tup [nV c, .int z]) ∧ valW W c = some z
  | x :: xs, none :: row, 0, _, _, h, h1, h2 => by cases h1; cases h2; exact .inl ⟨rfl, h.1⟩
  | x :: xs, some c :: row, 0, _, _, h, h1, h2 => by cases h1; cases h2; obtain ⟨t, z, q1, q2, q3⟩ := h.1; exact .inr ⟨c, t, z, rfl, q1, q2, q3⟩
  | x :: xs, none :: row, i + 1, _, _, h, h1, h2 => Lay.at_ h.2 h1 h2
  | x :: xs, some c :: row, i + 1, _, _, h, h1, h2 => Lay.at_ h.2 h1 h2
  | [], _, i, _, _, h, h1, h2 => by simp at h1
def dI (z : Int) : PyData := .int z
theorem eqv_dI (x y : Int) : PyData.eqv (dI x) (dI y) = decide (x = y) := by
  show PyData.eqv (.int x) (.int y) = _
  rw [PyData.eqv]
  by_cases h : x = y
  · subst h; simp
  · simp [h]
theorem lay_dI (z : Int) : (dI z).canLay0 = true ∧ (dI z).depth ≤ 5 := ⟨rfl, Nat.zero_le _⟩
theorem ev_whole2 {tc : TE} {i : Int} (h : Ev tc σ H (.int i)) : Ev (tCall (sp_law_whole K a) [] E0 (tCons tc tNil)) σ H (.bl true) := ev_callE (dvs := []) (ea_cons h ea_nil) fun H1 e1 Q q E => ⟨_, rfl, rfl, q⟩
theorem r_law_layout (vs : List V) (H : Hp) (Q : VK) (E : XK) (h : sp_law_layout K a vs H Q E) : Go (t_law_layout K a E) N_law_layout vs H Q := by
  obtain ⟨l, w, v, xs, row, W, rfl, hl, L, hw, hv, k⟩ := h
  have hxl := L.len
  have hlr := ev_len' (K := K) (σ := [some (.ref l), some (.ref w), some (.ref v), none, none]) (ta := tVar 1) (ev_var rfl) (SqL.of hw)
  rw [rowV_len] at hlr
  refine q_when (et_or (et_not (et_B (ev_isi (b := true) (ev_var rfl) ev_c (.ty _) (fun H1 e1 => .base (.lst (e1 _ _ hl))) (kit_ty (by decide +kernel))))) (fun _ => et_test (ev_op (ev_len' (ev_var rfl) (SqL.of hl)) hlr rv_neI))) (fun hb => by simp [hxl] at hb) (fun _ H1 e1 => ?_)
  refine q_zip (ev_var rfl) (ev_var rfl) (e1 _ _ hl) (e1 _ _ hw) (by rw [hxl, rowV_len]) (fun i σ' H' => Ex H H' ∧ ∃ v3 v4, σ' = [some (.ref l), some (.ref w), some (.ref v), v3, v4]) (fun H2 e2 => ⟨e1.trans e2, none, none, rfl⟩) (fun i σ' H' ⟨e, _⟩ => ⟨SqL.of (e _ _ hl), SqL.of (e _ _ hw)⟩) (fun i x y T σ' H' hx hy ⟨e, v3, v4, hσ⟩ hT => ?_) (fun σ' H' ⟨e, v3, v4, hσ⟩ => ?_)
  · subst hσ
    obtain ⟨o, ho, rfl⟩ := row_get hy
    have eT : Ex H (upd H' T (.tup [x, oV o])) := e.trans (Ex.new hT)
    refine ⟨T, [x, oV o], rfl, SqT.of upd_same, rfl, x, _, rfl, oV o, _, rfl, rfl, ?_⟩
    generalize upd H' T (.tup [x, oV o]) = H2 at *
    rcases L.at_ hx ho with ⟨rfl, rfl⟩ | ⟨c, t, z, rfl, rfl, ht, hz⟩
    · refine s_if (b := true) (et_is (et_or (b := true) (et_B (ev_isN (ev_var rfl))) fun z => by cases z) rfl) (fun _ H3 e3 => ?_) (fun z => by cases z)
      exact s_when (b := false) (et_is (et_or (b := false) (et_B (ev_notN (ev_var (v := .non) rfl))) fun _ => et_B (ev_notN (ev_var (v := .non) rfl))) rfl) (fun z => by cases z) (fun _ H4 e4 => ⟨(eT.trans e3).trans e4, _, _, rfl⟩)
    · have ht2 := eT _ _ ht
      refine s_if (b := false) (et_is (et_or (b := false) (et_B (ev_isN (ev_var (v := .ref t) rfl))) fun _ => et_B (ev_isN (ev_var (v := nV c) rfl))) rfl) (fun z => by cases z) (fun _ H3 e3 => ?_)
      have ht3 := e3 _ _ ht2
      have hv3 := hv.ex (eT.trans e3)
      refine q_when (et_is (b := false) (et_or (et_not (et_B (ev_isi (b := true) (ev_var rfl) ev_c (.ty _) (fun H1 e1 => .base (.tup (e1 _ _ ht3))) (kit_ty (by decide +kernel))))) fun _ => et_or (et_test (ev_op (ev_lenT (ev_var rfl) (SqT.of ht3)) ev_c rv_neI)) fun _ => et_or (et_not (et_B (ev_whole2 (i := (c : Int)) (ev_op (ev_var rfl) ev_c (rv_ixT (SqT.of ht3) (atI_nat (j := 0) rfl)))))) fun _ => et_not (et_B (ev_whole2 (i := z) (ev_op (ev_var rfl) ev_c (rv_ixT (SqT.of ht3) (atI_nat (j := 1) rfl)))))) rfl) (fun z => by cases z) (fun _ H4 e4 => ?_)
      refine s_when (b := false) (et_test fun H5 e5 Q q => ?_) (fun z => by cases z) (fun _ H5 e5 => ⟨((eT.trans e3).trans e4).trans e5, _, _, rfl⟩)
      refine ev_var (v := .ref t) (i := 3) rfl H5 (Ex.refl H5) _ fun H6 e6 => ?_
      refine eu_tup (vs := [nV c, .int z]) (ea_cons (ev_var rfl) (ea_cons (ev_dGet (ev_var rfl) (ev_var rfl) (hv3.ex ((e4.trans e5).trans e6)) hz) ea_nil)) (by show 2 ≤ 100000; decide) H6 (Ex.refl H6) _ fun u H7 hu e7 hu7 => ?_
      have ht7 := (e4.trans (e5.trans (e6.trans e7))) _ _ ht3
      refine ⟨.tuple ([(c : Int), z].map dI), .tuple ([(c : Int), z].map dI), .tup (SqT.of ht7) (.cons (.int _) (.cons (.int _) .nil)), .tup (SqT.of hu7) (.cons (.int _) (.cons (.int _) .nil)), shaped_tup lay_dI _, shaped_tup lay_dI _, ?_⟩
      rw [PyData.eqv, eqv_all eqv_dI, decide_eq_true rfl]
      exact q H7 (e6.trans e7)
  · subst hσ
    exact s_ret ev_c fun H3 e3 => k H3 (e.trans e3)
theorem r_law_refusal10 (xF : XFc K a a.Full) (xN : XFc K a a.NoCart) (ff : IsX K a.Full a.Full true) (fn : IsX K a.Full a.NoCart false) (nf : IsX K a.NoCart a.Full false) (nn : IsX K a.NoCart a.NoCart true) (vs : List V) (H : Hp) (Q : VK) (E : XK) (h : sp_law_refusal10 K a vs H Q E) : Go (t_law_refusal10 K a E) N_law_refusal10 vs H Q := by
  obtain ⟨b, p, d, r, rule, row, W, c, full, rfl, B, hc, hfull, k⟩ := h
  have suite : ∀ (D : Addr) (b1 b2 : Bool) (H' : Hp) (X : XFc K a D), IsX K D a.Full b1 → IsX K D a.NoCart b2 → Ex H H' → RetU [.bl b1, .bl b2, .bl true] H Q →
      WE (wAs K (.ref a.YardError) 3 (ts_law_refusal10 K a) (fun _ _ _ _ => False) { nx := fun σ' H' => tRet (tTup tNil) { nx := fun _ H' => Q .non H', rt := Q } σ' H', rt := Q }) [some (.ref b), some (nV c), some (.bl full), none] (.ref D) none H' := by
    intro D b1 b2 H' X i1 i2 e1 kk
    refine ⟨true, X.ye, fun _ aE haE => ?_, fun z => nomatch z⟩
    refine s_retU (eu_tup (ea_cons (ev_isX rfl X.ex (fun u z => z) i1) (ea_cons (ev_isX rfl X.ex (fun u z => z) i2) (ea_cons (ev_isX rfl X.ex (fun u z => z) X.ve) ea_nil))) (by show 3 ≤ 100000; decide)) fun q H2 hq e2 h2 => ?_
    exact kk q H2 (fresh_back e1 hq) (e1.trans e2) h2
  obtain ⟨dx, hb⟩ := B.B
  cases full with
  | true =>
    refine ⟨_, rfl, true, rfl, ?_⟩
    refine ⟨_, rfl, b, dx, _, rfl, hb, bf_no _ _ (by decide +kernel) (by decide +kernel), _, rfl, b, p, d, r, rule, row, W, c, 0, rfl, B, fun _ _ H' e1 => suite a.Full true false H' xF ff fn e1 k, fun z => ?_⟩
    rcases z with z | z
    · exact absurd z hc
    · have := hfull rfl; omega
  | false =>
    refine ⟨_, rfl, false, rfl, ?_⟩
    refine ⟨_, rfl, b, dx, _, rfl, hb, bf_no _ _ (by decide +kernel) (by decide +kernel), _, rfl, b, p, d, r, rule, row, W, c, rfl, B, fun _ H' e1 => suite a.NoCart false true H' xN nf nn e1 k, fun s z hs hz => ?_⟩
    exact absurd (B.mem.mp (mem_names.mpr ⟨s, hs⟩)) hc
end
end SY

namespace SY
open PySem L2 Evl
section
variable {K : PySem.W.Frag} {a : Ad} {M H H' H1 H2 H3 : Hp} {σ : L2.St} {D : Ends} {tz : TS} {b p d r w v l : Addr} {rule c s k n : Nat} {row : Row} {W : Tab} {z : Int} {td ty tv tb tn : TE}
theorem q_bm {sp : Sp} {m : Str} {args : TA} {vs : List V} {E : XK} {i : Nat} (hb : Ev tb σ H (.ref b)) (B : BookAt a H b p d) (hm1 : ¬ m = "yard") (hm2 : ¬ m = "worths") (ha : EvA args σ H vs) (k : ∀ H1, Ex H H1 → sp (.ref b :: vs) H1 (fun v H' => tz D (σ.set i (some v)) H') E) : tSeq (tAsg (tMeth a.B m sp [] E tb args) (gName i)) tz D σ H :=
  w_bm (Q := fun v H' => tz D (σ.set i (some v)) H') hb B hm1 hm2 ha k
theorem q_bmD {sp : Sp} {m : Str} {args : TA} {vs : List V} {E : XK} (hb : Ev tb σ H (.ref b)) (B : BookAt a H b p d) (hm1 : ¬ m = "yard") (hm2 : ¬ m = "worths") (ha : EvA args σ H vs) (k : ∀ H1, Ex H H1 → sp (.ref b :: vs) H1 (fun _ H' => tz D σ H') E) : tSeq (tDrop (tMeth a.B m sp [] E tb args)) tz D σ H :=
  w_bm (Q := fun _ H' => tz D σ H') hb B hm1 hm2 ha k
theorem f_write : ¬ (("write" : Str) = "yard") ∧ ¬ (("write" : Str) = "worths") := by decide +kernel
theorem f_drop : ¬ (("drop" : Str) = "yard") ∧ ¬ (("drop" : Str) = "worths") := by decide +kernel
theorem f_worth : ¬ (("worth" : Str) = "yard") ∧ ¬ (("worth" : Str) = "worths") := by decide +kernel
theorem f_layout : ¬ (("layout" : Str) = "yard") ∧ ¬ (("layout" : Str) = "worths") := by decide +kernel
theorem f_bnames : ¬ (("names" : Str) = "yard") ∧ ¬ (("names" : Str) = "worths") := by decide +kernel
theorem f_many : ¬ (("how_many" : Str) = "yard") ∧ ¬ (("how_many" : Str) = "worths") := by decide +kernel
theorem u_refusal10 {full : Bool} (B : BR a H b p d r rule row W) (hc : c ∉ keysW W) (hf : full = true → W.length = 96) : SpU (sp_law_refusal10 K a) [.ref b, nV c, .bl full] H [.bl full, .bl (!full), .bl true] := fun H1 e1 Q q E => ⟨b, p, d, r, rule, row, W, c, full, rfl, B.ex e1, hc, hf, q⟩
theorem Bx.apart (T : Bx a M H b d w v rule row W) : w ≠ b ∧ w ≠ d ∧ v ≠ b ∧ w ≠ v ∧ ∀ q A, RowAt H q A → v ≠ q := by
  obtain ⟨p, r, h1, h2, B⟩ := T.bk
  obtain ⟨dx, hb⟩ := B.B
  have hw := T.hw
  have hv := T.hv
  have hd := B.D
  unfold RowAt at hw
  unfold TabAt at hv hd
  refine ⟨fun z => ?_, fun z => ?_, fun z => ?_, fun z => ?_, fun q A hq z => ?_⟩
  · rw [z, hb] at hw; cases hw
  · rw [z, hd] at hw; cases hw
  · rw [z, hb] at hv; cases hv
  · rw [z, hv] at hw; cases hw
  · unfold RowAt at hq; rw [← z, hv] at hq; cases hq
/-- both written: the dict, then the book, then the row -/
theorem Bx.wrote (T : Bx a M H b d w v rule row W) {p r : Addr} (hr : M r = none) (nwr : w ≠ r) (B : BR a H b p d r rule row W) (b1 : But v H H1) (T1 : TabAt H1 v (putW W c z)) (bt : Bt b d r H1 H2) {p' r' : Addr} (hr' : r' = r ∨ H1 r' = none) (B2 : BR a H2 b p' d r' rule (writeR rule row W c) (putW W c z)) :
    (c ∈ keysW W → Bx a M H2 b d w v rule row (putW W c z)) ∧ (c ∉ keysW W → RowAt H2 w row ∧ ∀ w' H3, But w H2 H3 → (w' = w ∨ H2 w' = none) → RowAt H3 w' (putR rule (fitR rule row (W.length + 1)) c).1 → Bx a M H3 b d w' v rule (putR rule (fitR rule row (W.length + 1)) c).1 (putW W c z)) := by
  obtain ⟨n1, n2, n3, n4, n5⟩ := T.apart
  have nvr := n5 _ _ B.Y.w
  have nM : ∀ {x y : Addr} {o : HO}, M y = none → M x = some o → x ≠ y := fun h1 h2 q => by rw [q, h1] at h2; cases h2
  have st1 : ∀ x o, M x = some o → H1 x = some o := fun x o h => b1 _ _ (nM T.mv h) (T.e _ _ h)
  have st2 : ∀ x o, M x = some o → H2 x = some o := fun x o h => bt _ _ (nM T.mb h) (nM T.md h) (nM hr h) (st1 _ _ h)
  have hw1 : RowAt H1 w row := b1 _ _ n4 T.hw
  have hw2 : RowAt H2 w row := bt _ _ n1 n2 nwr hw1
  have hv2 : TabAt H2 v (putW W c z) := bt _ _ n3 T.ne.symm nvr T1
  have mr' : M r' = none := by
    rcases hr' with q | q
    · rw [q]; exact hr
    · cases hm : M r' with
      | none => rfl
      | some o => rw [st1 _ _ hm] at q; cases q
  have nwr' : w ≠ r' := by
    rcases hr' with q | q
    · rw [q]; exact nwr
    · exact fun z => by rw [← z, show H1 w = _ from hw1] at q; cases q
  refine ⟨fun hc => ?_, fun hc => ⟨hw2, fun w' H3 b3 hw' W3 => ?_⟩⟩
  · unfold writeR at B2
    rw [if_pos hc] at B2
    exact T.next st2 mr' T.mw nwr' B2 hw2 hv2
  · unfold writeR at B2
    rw [if_neg hc] at B2
    have B3 := B2.stayL b3 hw2 nwr'
    refine T.next (fun x o h => b3 _ _ (nM T.mw h) (st2 _ _ h)) mr' ?_ ?_ B3 W3 (b3 _ _ n4.symm hv2)
    · rcases hw' with q | q
      · rw [q]; exact T.mw
      · cases hm : M w' with
        | none => rfl
        | some o => rw [st2 _ _ hm] at q; cases q
    · rcases hw' with q | q
      · rw [q]; exact nwr'
      · exact fun z => by rw [z, show H2 r' = _ from B2.Y.w] at q; cases q
theorem Bx.dropped (T : Bx a M H b d w v rule row W) {p r : Addr} (hr : M r = none) (nwr : w ≠ r) (B : BR a H b p d r rule row W) (bt : Bt b d r H H1) {p' r' : Addr} (hr' : r' = r ∨ H r' = none) (B1 : BR a H1 b p' d r' rule (fitR rule (takeR row s).1 (W.length - 1)) (dropW W c)) :
    TabAt H1 v W ∧ ∀ H2, But v H1 H2 → TabAt H2 v (dropW W c) → RowAt H2 w row ∧ ∀ w' H3, But w H2 H3 → (w' = w ∨ H2 w' = none) → RowAt H3 w' (fitR rule (takeR row s).1 (W.length - 1)) → Bx a M H3 b d w' v rule (fitR rule (takeR row s).1 (W.length - 1)) (dropW W c) := by
  obtain ⟨n1, n2, n3, n4, n5⟩ := T.apart
  have nvr := n5 _ _ B.Y.w
  have nM : ∀ {x y : Addr} {o : HO}, M y = none → M x = some o → x ≠ y := fun h1 h2 q => by rw [q, h1] at h2; cases h2
  have st1 : ∀ x o, M x = some o → H1 x = some o := fun x o h => bt _ _ (nM T.mb h) (nM T.md h) (nM hr h) (T.e _ _ h)
  have hw1 : RowAt H1 w row := bt _ _ n1 n2 nwr T.hw
  have hv1 : TabAt H1 v W := bt _ _ n3 T.ne.symm nvr T.hv
  have mr' : M r' = none := by
    rcases hr' with q | q
    · rw [q]; exact hr
    · cases hm : M r' with
      | none => rfl
      | some o => rw [T.e _ _ hm] at q; cases q
  have nwr' : w ≠ r' := by
    rcases hr' with q | q
    · rw [q]; exact nwr
    · exact fun z => by rw [← z, show H w = _ from T.hw] at q; cases q
  refine ⟨hv1, fun H2 b2 T2 => ?_⟩
  have st2 : ∀ x o, M x = some o → H2 x = some o := fun x o h => b2 _ _ (nM T.mv h) (st1 _ _ h)
  have hw2 : RowAt H2 w row := b2 _ _ n4 hw1
  have B2 := B1.stayD b2 hv1 T.ne
  refine ⟨hw2, fun w' H3 b3 hw' W3 => ?_⟩
  have B3 := B2.stayL b3 hw2 nwr'
  refine T.next (fun x o h => b3 _ _ (nM T.mw h) (st2 _ _ h)) mr' ?_ ?_ B3 W3 (b3 _ _ n4.symm T2)
  · rcases hw' with q | q
    · rw [q]; exact T.mw
    · cases hm : M w' with
      | none => rfl
      | some o => rw [st2 _ _ hm] at q; cases q
  · rcases hw' with q | q
    · rw [q]; exact nwr'
    · exact fun z => by rw [z, show H2 r' = _ from B2.Y.w] at q; cases q
/-- sorted(list(worths))[i] -/
theorem ev_pickD {ti : TE} {i : Nat} (hd : Ev td σ H (.ref d)) (T : TabAt H d W) (hi : ∀ H1, Ex H H1 → Ev ti σ H1 (nV i)) (hlt : i < W.length) : ∃ c, c ∈ keysW W ∧ Ev (tOp (rIxL K) (tCB (rSortedI K) (tCons (tCB rListD (tCons td tNil)) tNil)) ti) σ H (nV c) := by
  have hl : (srt (keysW W)).length = W.length := by rw [(srt_perm _).length_eq, keys_len]
  have hg : (srt (keysW W))[i]? = some ((srt (keysW W))[i]'(by omega)) := List.getElem?_eq_getElem _
  refine ⟨_, (srt_perm _).mem_iff.mp (List.getElem_mem (show i < (srt (keysW W)).length by omega)), ev_opL1 (el_sorted (el_listD hd T)) hi fun p H1 hp e1 => rv_ixL (SqL.of hp) (atI_nat (by rw [List.getElem?_map, hg]; rfl))⟩
theorem t_opR {ro : R2} {ta tc : TE} {x : V} {Q : Bool → Hp → Prop} (h : Ev ta σ H x) (k : ∀ H1, Ex H H1 → tc σ H1 fun y H2 => ro x y H2 fun v H3 => ∃ c, v = .bl c ∧ Q c H3) : tTest (tOp ro ta tc) σ H Q := h H (Ex.refl H) _ k
theorem r_law_deed10 (vs : List V) (H : Hp) (Q : VK) (E : XK) (h : sp_law_deed10 K a vs H Q E) : Go (t_law_deed10 K a E) N_law_deed10 vs H Q := by
  obtain ⟨M, b, d, w, v, rule, row, W, cell, c, rfl, h2, T, k⟩ := h
  obtain ⟨p, r, hr, nwr, B⟩ := T.bk
  have hm := B.most
  refine q_when (et_and (et_test (ev_op (ev_op (ev_var rfl) ev_c (rv_mod (by decide))) ev_c rv_lt)) fun _ => et_or (et_B (ev_dIn (ev_var rfl) (ev_var rfl) T.hv)) fun _ => et_test (ev_op (ev_lenD (ev_var rfl) T.hv) ev_c rv_lt)) (fun hb H1 e1 => ?_) (fun _ H1 e1 => ?_)
  · have hbc : c ∈ keysW W ∨ W.length < 96 := by
      simp only [Bool.and_eq_true, Bool.or_eq_true, decide_eq_true_eq] at hb
      rcases hb.2 with q | q
      · exact .inl q
      · exact .inr (by omega)
    refine q_asg (ev_dIn (ev_var rfl) (ev_var rfl) (T.hv.ex e1)) fun H2 e2 => ?_
    have T2 := T.ex (e1.trans e2)
    have B2 := B.ex (e1.trans e2)
    refine q_dPut (z := cell % 10 ^ 30 - 10 ^ 29) (ev_var rfl) (ev_var rfl) (ev_op (ev_op (ev_var rfl) (ev_op ev_c ev_c (rv_pow10 (j := 30) (by decide))) (rv_mod (by decide))) (ev_op ev_c ev_c (rv_pow10 (j := 29) (by decide))) rv_sub) T2.hv (by omega) fun H3 b3 V3 => ?_
    generalize cell % 10 ^ 30 - 10 ^ 29 = z at *
    have B3 := B2.stayD b3 T2.hv T.ne
    refine q_bm (ev_var rfl) B3.B f_write.1 f_write.2 (ea_cons (ev_var rfl) (ea_cons (ev_dGet (ev_var rfl) (ev_var rfl) V3 (by rw [val_put, if_pos rfl])) ea_nil)) fun H4 e4 => ⟨b, p, d, r, rule, row, W, c, z, rfl, B3.ex e4, fun hc hl => ?_, fun _ p' r' H5 bt hp' hr' B5 => ?_⟩
    · rcases hbc with q | q
      · exact absurd q hc
      · omega
    have wr := Bx.wrote (c := c) (z := z) (H1 := H4) (H2 := H5) T2 hr nwr B2 (b3.trans (But.of e4)) (V3.ex e4) bt hr' B5
    refine q_when (et_or (et_not (et_B (ev_isi (b := true) (ev_var rfl) ev_c (.ty _) (fun _ _ => .base (.bl _)) (kit_ty (by decide +kernel))))) fun _ => et_test (ev_op (ev_var rfl) (ev_var rfl) (rv_ne rfl))) (fun hb => by simp at hb) (fun _ H6 e6 => ?_)
    refine q_when (et_B (ev_var rfl)) (fun hb H7 e7 => ?_) (fun hb H7 e7 => ?_)
    · exact s_ret (ev_var rfl) fun H8 e8 => k _ _ _ _ ((wr.1 (of_decide_eq_true hb)).ex (e6.trans (e7.trans e8)))
    · have hc : c ∉ keysW W := of_decide_eq_false hb
      have hlt : W.length < 96 := hbc.resolve_left hc
      obtain ⟨W5, nx⟩ := wr.2 hc
      have hcount := B.count
      refine w_callA (ea_cons (ev_var rfl) (ea_cons (ev_var rfl) (ea_cons (ev_var rfl) ea_nil))) fun H8 e8 => ⟨w, rule, row, c, rfl, W5.ex (e6.trans (e7.trans e8)), B.ok, h2, fun q => hc (B.mem.mp q), by omega, B.Y.le, fun w' H9 b9 hw' W9 => ?_⟩
      rw [hcount] at W9
      exact k _ _ _ _ (nx w' H9 (But.ofEx (e6.trans (e7.trans e8)) b9) (hw'.imp id (fresh_back (e6.trans (e7.trans e8)))) W9)
  · have T1 := T.ex e1
    refine q_when (et_and (et_test (ev_op (ev_op (ev_var rfl) ev_c (rv_mod (by decide))) ev_c rv_eqI)) fun _ => et_B (ev_dNotIn (ev_var rfl) (ev_var rfl) T1.hv)) (fun hb H2 e2 => ?_) (fun _ H2 e2 => ?_)
    · have hc : c ∉ keysW W := by
        simp only [Bool.and_eq_true, Bool.not_eq_true', decide_eq_false_iff_not] at hb
        exact hb.2
      refine q_when (et_ne3 (eu_callE (ea_cons (ev_var rfl) (ea_cons (ev_var rfl) (ea_cons ev_c ea_nil))) (u_refusal10 (full := false) (B.ex (e1.trans e2)) hc nofun))) (fun hb => by cases hb) (fun _ H3 e3 => ?_)
      exact s_ret (ev_var rfl) fun H4 e4 => k _ _ _ _ (T1.ex (e2.trans (e3.trans e4)))
    · have T2 := T1.ex e2
      refine q_when (et_test (ev_op (ev_lenD (ev_var rfl) T2.hv) ev_c rv_gt)) (fun hb H3 e3 => ?_) (fun _ H3 e3 => s_ret (ev_var rfl) fun H4 e4 => k _ _ _ _ (T2.ex (e3.trans e4)))
      have hpos : 0 < W.length := by have := of_decide_eq_true hb; omega
      have T3 := T2.ex e3
      have i0 := Int.emod_nonneg (cell / 8) (show ((W.length : Nat) : Int) ≠ 0 by omega)
      have i1 := Int.emod_lt_of_pos (cell / 8) (show (0 : Int) < ((W.length : Nat) : Int) by omega)
      obtain ⟨c', hc', hev⟩ := ev_pickD (K := K) (σ := [some (.ref b), some (.ref w), some (nV rule), some (.ref v), some (.int cell), some (nV c), none, none, none]) (td := tVar 3) (ti := tOp rModI (tOp rDivI (tVar 4) (tC (.int 8))) (tCB rLenD (tCons (tVar 3) tNil))) (i := (cell / 8 % (W.length : Int)).toNat) (ev_var rfl) T3.hv (fun H4 e4 => ev_nat (ev_op (ev_op (ev_var rfl) ev_c (rv_div (by decide))) (ev_lenD (ev_var rfl) (T3.hv.ex e4)) (rv_mod (by omega))) i0) (by omega)
      refine q_asg hev fun H4 e4 => ?_
      have T4 := T3.ex e4
      have B4 := B.ex ((e1.trans e2).trans (e3.trans e4))
      refine q_bm (ev_var rfl) B4.B f_drop.1 f_drop.2 (ea_cons (ev_var rfl) ea_nil) fun H5 e5 => ⟨b, p, d, r, rule, row, W, c', rfl, B4.ex e5, fun hc => absurd hc' hc, fun s z hs hz p' r' H6 bt hp' hr' B6 => ?_⟩
      obtain ⟨V6, nx⟩ := Bx.dropped (s := s) (c := c') (T4.ex e5) hr nwr (B4.ex e5) bt hr' B6
      refine q_guard ((et_not (et_B (ev_whole2 (i := z) (ev_var rfl)))) H6 (Ex.refl H6) _ fun H7 e7 => ?_)
      refine if_ff ?_
      refine t_opR (x := .int z) (ev_var rfl) fun H8 e8 => ?_
      refine w_dPop (td := tVar 3) (ty := tVar 5) (ev_var rfl) (ev_var rfl) (V6.ex (e7.trans e8)) hz fun H9 b9 V9 => ?_
      refine rv_neI (i := z) (j := z) H9 (Ex.refl H9) _ fun H10 e10 => ⟨_, rfl, ?_⟩
      rw [decide_eq_true rfl]
      refine if_ff ?_
      obtain ⟨W10, nx2⟩ := nx H10 ((But.ofEx (e7.trans e8) b9).trans (But.of e10)) (V9.ex e10)
      have hcount := B.count
      refine w_callA (ea_cons (ev_var rfl) (ea_cons (ev_var rfl) (ea_cons (ev_var rfl) ea_nil))) fun H11 e11 => ⟨w, rule, row, c', s, rfl, W10.ex e11, B.ok, h2, hs, by omega, B.Y.le, fun w' H12 b12 hw' W12 => ?_⟩
      rw [hcount] at W12
      exact k _ _ _ _ (nx2 w' H12 (But.ofEx e11 b12) (hw'.imp id (fresh_back e11)) W12)
end
end SY

/-! a set of a list of whole numbers, sorted -/
namespace SY
open PySem PySem.Spec PyProof.Rows L2
/-- the object of a set without members -/
def emS (w : World) : Obj := { cls := .type "set", dict := none, data := .set #[] 0 (.fresh 0 0 (!w.params.followText "set-order")) }
section
variable {P : Program} {w : World} {A : Around} {E : Value → Shared → Prop} {s : Shared} {l : Addr} {items : Array Value} {ns : List Int}
/-- what the list's members leave behind -/
def Left (w : World) (s : Shared) (ns : List Int) (s2 : Shared) : Prop := ∃ h' tk c, s2 = { s with heap := h', toks := tk } ∧ SetR w h' s.heap.objs.size (fun j => decide (j ∈ ns)) c ∧ c ≤ ns.length ∧ ∀ b o, s.heap.get? b = some o → h'.get? b = some o
/-- set.__init__ over a list -/
theorem init_list (hd : A.handled = none) (hl : s.heap.IsList l items) (hi : IntsAre items.toList ns) (hb : ns.length + 1 < scanBound) :
    codeAny (model P w) A (.call (.builtin "set.__init__") ⟨[.ref s.heap.objs.size, .ref l], []⟩) (wants (fun r s2 => r = .none ∧ Left w s ns s2) E) { s with heap := s.heap.push (emS w) } := by
  have len : items.size = ns.length := by
    have := IntsAre.length hi
    rwa [Array.length_toList] at this
  have at0 : (s.heap.push (emS w)).get? s.heap.objs.size = some (emS w) := Heap.get?_push_size _ rfl
  have ty0 : Shared.TypeIs { s with heap := s.heap.push (emS w) } (.ref s.heap.objs.size) "set" := ⟨_, at0, rfl⟩
  refine codeAny_call_builtin F.called_set.init.plain F.entry_set_init (check_set_init_1 ty0 ?_)
  obtain ⟨⟨oc, od, ob, os⟩, ol, e1, nl, e2⟩ := hl
  simp only at e1 e2
  subst e1
  subst e2
  have ol1 : (s.heap.push (emS w)).get? l = some ⟨.type "list", od, .seq items nl, os⟩ := Heap.get?_push_of_some _ ol
  have sub1 := F.sub_list_set
  have sub2 := F.sub_list_frozenset
  have nodict : (Value.type "list" == Value.type "dict") = false := by decide
  have isl : (s.heap.push (emS w)).IsList l items := ⟨_, ol1, rfl, nl, rfl⟩
  unfold Builtin.«set.__init__» noKeywords Builtin.Frozenset.updateFrom
  generalize hIt : pyIter = It
  wp_walk
  subst hIt
  refine wpAny_pyIter_list isl (wpAny_bind (wpAny_runValue ?_))
  have below : l < s.heap.objs.size := Heap.lt_size ol
  have sz1 : (s.heap.push (emS w)).objs.size = s.heap.objs.size + 1 := Heap.size_push ..
  have quiet : A.in1.in1.handled = none := by simp [hd]
  have apart : l ≠ (s.heap.push (emS w)).objs.size := fun q => by
    rw [sz1] at q
    exact Nat.ne_of_lt (Nat.lt_succ_of_lt below) q
  have away : s.heap.objs.size ∉ [(s.heap.push (emS w)).objs.size, l] := by
    rw [sz1]
    intro q
    rcases List.mem_cons.mp q with q | q
    · exact Nat.ne_of_lt (Nat.lt_succ_self _) q
    · exact Nat.ne_of_gt below (List.mem_singleton.mp q)
  have vals : ∀ (i : Nat) (v : Value), items[i]? = some v → ∃ k t, ns[i]? = some k ∧ v = .int k t := fun i v hv => by
    have lt : i < ns.length := by
      rw [← len]
      exact (Array.getElem?_eq_some_iff.mp hv).1
    obtain ⟨t, q⟩ := IntsAre.int_at hi i v (by rwa [Array.getElem?_toList])
    exact ⟨_, t, List.getElem?_eq_getElem lt, by rw [q, List.getD_eq_getElem?_getD, List.getElem?_eq_getElem lt]; rfl⟩
  have turns := (Walks.list (prog := P) (w := w) quiet _ l apart items).toS
  refine set_update_ints turns s.heap.objs.size away ns len hb vals (items.size - 0) 0 _ (by omega) (Nat.zero_le _) ?start ⟨0, Nat.le_refl 0, setR_new_at ?young⟩ fun s2 c moved hc hset => ?_
  case start => exact ⟨⟨_, Heap.get?_push_size _ rfl, rfl, rfl⟩, isl.push _⟩
  case young => exact Heap.get?_push_of_some _ at0
  obtain ⟨h2, g2, d2, tk2, os2⟩ := s2
  obtain rfl : g2 = s.gens := moved.gens
  obtain rfl : d2 = s.drawn := moved.drawn
  obtain rfl : os2 = s.os := moved.os
  refine wpAny_pure (wpAny_pure ⟨rfl, h2, tk2, c, rfl, hset, by omega, fun b o q => ?_⟩)
  have lb := Heap.lt_size q
  refine moved.heap b o ?_ (Heap.get?_push_of_some _ (Heap.get?_push_of_some _ q))
  rw [sz1]
  intro z
  rcases List.mem_cons.mp z with z | z
  · exact Nat.ne_of_lt lb z
  · exact Nat.ne_of_lt (Nat.lt_succ_of_lt lb) (List.mem_singleton.mp z)
/-- set(xs), xs a list of whole numbers -/
theorem setOf_list {Q : Value → Shared → Prop} (hd : A.handled = none) (hl : s.heap.IsList l items) (hi : IntsAre items.toList ns) (hb : ns.length + 1 < scanBound) (k : ∀ s2, Left w s ns s2 → Q (.ref s.heap.objs.size) s2) :
    wpAny (model P w) A (call (.type "set") [.ref l]) Q E s := by
  obtain ⟨mc, mt, mro⟩ := F.called_set.mro
  have made := F.called_set.made
  have subk := F.called_set.sub
  have nt := F.called_set.notType
  have cc := F.called_set.canCreate
  have tc := F.typeCall_set_1 (.ref l)
  refine wpAny_call (codeAny_of_tree ?_)
  show wpAny (model P w) _ (callAny (Value.type "set") _) _ _ s
  refine wpAny_pure ⟨Code.quiet_builtin _ (by decide +kernel), codeAny_builtin F.entry_type_call ?_⟩
  rw [Around.under_plain (weight_type_call_type "set" [.ref l] []) rfl]
  repeat any_goals first | assumption | wp_step
  refine codeAny_mono (code_set_led1 (.ref l) (E := E) (Q₁ := fun x s1 => x = .ref s.heap.objs.size ∧ s1 = { s with heap := s.heap.push (emS w) }) ⟨rfl, rfl⟩) fun out s1 got => ?_
  cases out with
  | error e => exact got
  | ok fl =>
    cases fl with
    | ret x =>
      obtain ⟨rfl, rfl⟩ := got
      have at0 : (s.heap.push (emS w)).get? s.heap.objs.size = some (emS w) := Heap.get?_push_size _ rfl
      have ty0 : Shared.TypeIs { s with heap := s.heap.push (emS w) } (.ref s.heap.objs.size) "set" := ⟨_, at0, rfl⟩
      have look := F.called_set.init.lookup
      have bind := F.called_set.init.bind (.ref s.heap.objs.size)
      repeat any_goals first | assumption | wp_step
      refine codeAny_mono (init_list (E := E) (by simp [hd]) hl hi hb) fun out2 s2 got2 => ?_
      cases out2 with
      | error e => exact got2
      | ok fl2 =>
        cases fl2 with
        | ret r =>
          obtain ⟨rfl, left⟩ := got2
          repeat any_goals first | assumption | wp_step
          exact k _ left
        | _ => exact got2.elim
    | _ => exact got.elim
end
end SY

namespace SY
open PySem PySem.Spec PyProof.Rows L2 Evl
section
variable {X : Cx}
/-- a reading with room for what follows -/
def tSome (te : TE) : TE := fun σ H Q => ∃ R : VK, te σ H R ∧ ∀ x H1, R x H1 → Q x H1
theorem pe_some {e : Expr} {te : TE} (he : PE X e te) : PE X e (tSome te) :=
  ⟨fun pins s σ H Q I ⟨R, h1, h2⟩ => thn (he.run pins s σ H R I h1) fun v s1 ⟨x, H1, I1, r1, q1⟩ => ⟨x, H1, I1, r1, h2 _ _ q1⟩⟩
/-- set(xs), xs a list of whole numbers -/
def rSetOf (K : PySem.W.Frag) (w : World) : List V → Hp → VK → Prop := fun xs H Q => ∃ (l : Addr) (ns : List Int), xs = [.ref l] ∧ SqL K H l (ns.map V.int) ∧ ns.length ≤ 1000 ∧
  ∀ p c, H p = none → (∀ ds : List Int, ds.Nodup → (∀ k, k ∈ ds ↔ k ∈ ns) → c = ds.length) → Q (.ref p) (upd H p (SetO w p (fun j => decide (j ∈ ns)) c))
theorem cr_setOf (hc : X.calm = true) : CallR X (.type "set") (rSetOf X.K X.w) := by
  intro pins s σ H xs us Q I r h
  obtain ⟨l, ns, rfl, hq, hn, q⟩ := h
  obtain ⟨u, rfl, ru⟩ := vals1 r
  cases ru
  obtain ⟨its, rv, pl, hz⟩ := I.list hq
  refine setOf_list (I.ok.hd hc) pl.isList (ns := ns) (by simpa using rv.ints) (by unfold scanBound; omega) fun s2 ⟨h', tk, c, e, R, hcl, keep⟩ => ?_
  subst e
  refine ⟨.ref _, upd H s.heap.objs.size (SetO X.w s.heap.objs.size (fun j => decide (j ∈ ns)) c), I.laid (t' := tk) keep (Nat.le_refl _) (setO_new R), rfl, q _ c (I.hok.fresh (Nat.le_refl _)) fun ds nd hm => ?_⟩
  obtain ⟨o, es, ep, t, ho, hex, hdt, g, nd2, hm2, hb, hf, hsz, hr, hl⟩ := R
  have hp : (es.toList.map keyOf).Perm ds := (List.perm_ext_iff_of_nodup nd2 nd).mpr fun k => by rw [← hm2 k, decide_eq_true_eq, hm k]
  have := hp.length_eq
  rw [List.length_map, Array.length_toList] at this
  omega
/-- sorted(set(xs)), fewer than 64 members -/
def tSortSet (K : PySem.W.Frag) (te : TE) : TE := fun σ H Q => te σ H fun x H1 => ∃ (l : Addr) (ns : List Int), x = .ref l ∧ SqL K H1 l (ns.map V.int) ∧ ns.length ≤ 1000 ∧ (∃ ds : List Int, ds.Nodup ∧ (∀ k, k ∈ ds ↔ k ∈ ns) ∧ ds.length < 64) ∧
  ∀ (ms : List Int) p H2, ms.Pairwise (· < ·) → (∀ k, k ∈ ms ↔ k ∈ ns) → H1 p = none → Ex H1 H2 → H2 p = some (.lst (ms.map V.int)) → Q (.ref p) H2
theorem pe_sortSet {e : Expr} {te : TE} {p p2 q q2 : Pos} (hc : X.calm = true) (hg : Gl X "sorted") (hm : X.mg "sorted" = none) (hg2 : Gl X "set") (hm2 : X.mg "set" = none) (he : PE X e te)
    (na : starEach [e] X.env = (false, eval e X.env) :: starEach [] X.env := by rfl) : PE X (.Call (.Name "sorted" p) [.Call (.Name "set" p2) [e] [] q] [] q2) (tSortSet X.K te) :=
  ⟨fun pins s σ H Q I h => (pe_callB (cr_sortedSet hc) hg hm (by decide +kernel) (pa_cons (pe_callTy (cr_setOf hc) hg2 hm2 (by decide +kernel) (pa_cons (pe_some he) pa_nil (hs := na)) (he := na)) pa_nil)).run pins s σ H Q I
    ⟨_, h, fun x H1 ⟨l, ns, ex, hq, hn, ⟨ds, nd, hm, h64⟩, k⟩ => ⟨l, ns, by rw [ex], hq, hn, fun p c hp hcount => ⟨p, _, c, rfl, upd_same, by rw [hcount ds nd hm]; exact h64, fun ms p2 hs hmem hlen hp2 => by
      have e1 : Ex H1 (upd H1 p (SetO X.w p (fun j => decide (j ∈ ns)) c)) := Ex.new hp
      exact k ms p2 _ hs (fun j => by rw [hmem j, decide_eq_true_eq]) (fresh_back e1 hp2) (e1.trans (Ex.new hp2)) upd_same⟩⟩⟩⟩
end
section
variable {K : PySem.W.Frag} {σ : L2.St} {H : Hp} {te td : TE}
theorem nd_int {ds : List Nat} (nd : ds.Nodup) : (ds.map Int.ofNat).Nodup := List.pairwise_map.mpr (nd.imp fun z w => z (Int.ofNat.inj w))
theorem nat_ints (xs : List Nat) : xs.map nV = (xs.map Int.ofNat).map V.int := by rw [List.map_map]; rfl
theorem el_sortSet {xs ds : List Nat} (h : EvL te σ H (xs.map nV)) (nd : ds.Nodup) (hm : ∀ c, c ∈ ds ↔ c ∈ xs) (h64 : ds.length < 64) (hl : xs.length ≤ 1000) : EvL (tSortSet K te) σ H ((srt ds).map nV) := fun H1 e Q q =>
  h H1 e _ fun l H2 hl2 e2 hx => ⟨l, xs.map Int.ofNat, rfl, SqL.of (by rw [hx, nat_ints]), by rw [List.length_map]; exact hl, ⟨ds.map Int.ofNat, nd_int nd, fun k => by
    simp only [List.mem_map]
    exact ⟨fun ⟨c, hc, e⟩ => ⟨c, (hm c).mp hc, e⟩, fun ⟨c, hc, e⟩ => ⟨c, (hm c).mpr hc, e⟩⟩, by rw [List.length_map]; exact h64⟩, fun ms p H3 hs hmem hp e3 h3 => by
    have ndm : ms.Nodup := hs.imp fun {a b} z w => by omega
    have hperm : ms.Perm (ds.map Int.ofNat) := (List.perm_ext_iff_of_nodup ndm (nd_int nd)).mpr fun k => by
      rw [hmem k]
      simp only [List.mem_map]
      exact ⟨fun ⟨c, hc, e⟩ => ⟨c, (hm c).mpr hc, e⟩, fun ⟨c, hc, e⟩ => ⟨c, (hm c).mp hc, e⟩⟩
    have := srt_uniq hperm (hs.imp fun z => Int.le_of_lt z)
    exact q p H3 (fresh_back e2 hp) (e2.trans e3) (by rw [h3, nat_ints, this])⟩
/-- [k for k in d if k not in d1] -/
theorem el_keysNot {W1 W2 : Tab} {d1 d2 : Addr} {j : Nat} {t1 : TE} (hd : ∀ H', Ev td σ H' (.ref d2)) (h1 : ∀ x H', Ev t1 ((wipe σ [j]).set j (some x)) H' (.ref d1)) (hv : ∀ x H', Ev (tVar j) ((wipe σ [j]).set j (some x)) H' x) (T1 : TabAt H d1 W1) (T2 : TabAt H d2 W2) (n : d1 ≠ d2) (hz : W2.length ≤ 1000) :
    EvL (tLockE (tLc (iKeys td) (gName j) (tB (tDNotIn (tVar j) t1)) (tVar j) [j])) σ H (((keysW W2).filter fun c => decide (c ∉ keysW W1)).map nV) := fun H1 e Q q => by
  have T1' := T1.ex e
  have T2' := T2.ex e
  refine ⟨d2, .dK (tabK W2), T2', trivial, fun od => ?_⟩
  refine hd _ _ (Ex.refl _) _ fun H2 e2 => ⟨d2, od, rfl, .inl ⟨tabK W2, e2 _ _ upd_same, fun Dl hD => ?_⟩⟩
  have hfz : H2 d2 = some (.frz od (.dK (tabK W2))) := e2 _ _ upd_same
  have hT1 : TabAt H2 d1 W1 := e2 _ _ (by rw [upd_ne n]; exact T1')
  have nD : Dl ≠ d2 := fun z => by rw [z, hfz] at hD; cases hD
  let f : Nat → Bool := fun i => decide ((keysW W2).getD i 0 ∉ keysW W1)
  let v : Nat → V := fun i => nV ((keysW W2).getD i 0)
  refine lc_it walk_keys (Cw H2 f v Dl) ⟨hD, Ex.new hD, upd_same⟩ (fun i H' _ p => p.2.1 _ _ hfz) (fun i x H' H'' hi p y => ?_) (fun H' p => ?_)
  · obtain ⟨rfl, k, u, hk, rfl⟩ := y
    obtain ⟨c, hc, rfl⟩ : ∃ c, (keysW W2)[i]? = some c ∧ k = keyN c := by
      unfold tabK at hk
      rw [List.getElem?_map] at hk
      cases z : W2[i]? with
      | none => rw [z] at hk; cases hk
      | some pr =>
        rw [z] at hk
        have := Option.some.inj hk
        refine ⟨pr.1, by unfold keysW; rw [List.getElem?_map, z]; rfl, (congrArg Prod.fst this).symm⟩
    have hg : (keysW W2).getD i 0 = c := by rw [List.getD_eq_getElem?_getD, hc]; rfl
    rw [tab_len] at hi
    refine ⟨?_, ?_⟩
    · show (((σ.set j none).set j (some (nV c))).set j none) = σ.set j none
      rw [List.set_set, List.set_set]
    · refine cw_turn p (by omega) (et_is (et_B (ev_dNotIn (c := c) (hv (nV c) H2) (h1 _ H2) hT1)) ?_) (fun _ => ?_)
      · show (!decide (c ∈ keysW W1)) = decide ((keysW W2).getD i 0 ∉ keysW W1)
        rw [hg]
        by_cases z : c ∈ keysW W1
        · simp [z]
        · simp [z]
      · show Ev _ _ H2 (nV ((keysW W2).getD i 0))
        rw [hg]
        exact hv (nV c) H2
  · refine ⟨p.2.1 _ _ hfz, ?_⟩
    have hnD : H1 Dl = none := by
      have := fresh_back e2 hD
      rw [upd_ne nD] at this
      exact this
    refine q Dl _ hnD (fun x o hx => ?_) ?_
    · by_cases z : x = d2
      · subst z
        rw [show H1 x = _ from T2'] at hx
        rw [upd_same]; exact hx
      · rw [upd_ne z]
        exact p.2.1 _ _ (e2 _ _ (by rw [upd_ne z]; exact hx))
    · rw [upd_ne nD, p.2.2, tab_len]
      have := given_opt (fun c => if c ∉ keysW W1 then some c else none) nV (keysW W2) f v (fun i c hc => by
        have hg : (keysW W2).getD i 0 = c := by rw [List.getD_eq_getElem?_getD, hc]; rfl
        refine ⟨?_, fun y hy => ?_⟩
        · show decide ((keysW W2).getD i 0 ∉ keysW W1) = _
          rw [hg]
          by_cases z : c ∈ keysW W1
          · simp [z]
          · simp [z]
        · show nV ((keysW W2).getD i 0) = nV y
          rw [hg]
          by_cases z : c ∈ keysW W1
          · simp [z] at hy
          · simp [z] at hy; rw [hy])
      rw [keys_len] at this
      rw [this]
      congr 2
      congr 1
      generalize keysW W2 = L
      induction L with
      | nil => rfl
      | cons c r ih =>
        rw [List.filterMap_cons, List.filter_cons]
        by_cases z : c ∈ keysW W1
        · rw [if_neg (by simp [z]), if_neg (by simp [z])]; exact ih
        · rw [if_pos z, if_pos (by simp [z]), ih]
end
end SY

namespace SY
open PySem L2 Evl
/-! ### two books: the names whose worths are unlike -/
abbrev Dif := Nat × Option Int × Option Int
def difOf (W1 W2 : Tab) (c : Nat) : Option Dif := if valW W1 c = valW W2 c then none else some (c, valW W1 c, valW W2 c)
def allK (W1 W2 : Tab) : List Nat := keysW W1 ++ (keysW W2).filter fun c => decide (c ∉ keysW W1)
def difs (W1 W2 : Tab) : List Dif := (srt (allK W1 W2)).filterMap (difOf W1 W2)
theorem allK_mem {W1 W2 : Tab} {c : Nat} : c ∈ allK W1 W2 ↔ c ∈ keysW W1 ∨ c ∈ keysW W2 := by
  unfold allK
  rw [List.mem_append, List.mem_filter, decide_eq_true_eq]
  by_cases h : c ∈ keysW W1
  · exact ⟨fun _ => .inl h, fun _ => .inl h⟩
  · exact ⟨fun z => z.imp id fun z => z.1, fun z => z.imp id fun z => ⟨z, h⟩⟩
theorem allK_nd {W1 W2 : Tab} (h1 : (keysW W1).Nodup) (h2 : (keysW W2).Nodup) : (allK W1 W2).Nodup := by
  unfold allK
  rw [List.nodup_append]
  refine ⟨h1, h2.filter _, fun x hx y hy z => ?_⟩
  subst z
  have := (List.mem_filter.mp hy).2
  rw [decide_eq_true_eq] at this
  exact this hx
theorem allK_len (W1 W2 : Tab) : (allK W1 W2).length ≤ W1.length + W2.length := by
  unfold allK
  rw [List.length_append, keys_len]
  have := List.length_filter_le (fun c => decide (c ∉ keysW W1)) (keysW W2)
  rw [keys_len] at this
  omega
theorem val_off {W1 W2 : Tab} {c : Nat} (h : c ∉ allK W1 W2) : valW W1 c = valW W2 c := by
  rw [allK_mem] at h
  rw [val_no fun z => h (.inl z), val_no fun z => h (.inr z)]
theorem difs_nil {W1 W2 : Tab} : difs W1 W2 = [] ↔ ∀ c, valW W1 c = valW W2 c := by
  unfold difs
  rw [List.filterMap_eq_nil_iff]
  constructor
  · intro h c
    by_cases hc : c ∈ allK W1 W2
    · have := h c ((srt_perm _).mem_iff.mpr hc)
      unfold difOf at this
      split at this
      · assumption
      · cases this
    · exact val_off hc
  · intro h c _
    unfold difOf
    rw [if_pos (h c)]
theorem difs_sym {W1 W2 : Tab} : difs W1 W2 = [] ↔ difs W2 W1 = [] := by
  rw [difs_nil, difs_nil]
  exact ⟨fun h c => (h c).symm, fun h c => (h c).symm⟩
theorem filterMap_one {α β : Type} {f : α → Option β} {c : α} {x : β} : ∀ {L : List α}, L.Nodup → c ∈ L → (∀ j, j ≠ c → f j = none) → f c = some x → L.filterMap f = [x]
  | [], _, h, _, _ => by cases h
  | y :: r, nd, h, hn, hx => by
    obtain ⟨n1, n2⟩ := List.nodup_cons.mp nd
    by_cases e : y = c
    · subst e
      rw [List.filterMap_cons, hx]
      have : r.filterMap f = [] := List.filterMap_eq_nil_iff.mpr fun j hj => hn j fun z => n1 (z ▸ hj)
      show x :: r.filterMap f = [x]
      rw [this]
    · rw [List.filterMap_cons, hn y e]
      exact filterMap_one n2 ((List.mem_cons.mp h).resolve_left fun z => e z.symm) hn hx
theorem difs_one {W1 W2 : Tab} {c : Nat} (n1 : (keysW W1).Nodup) (n2 : (keysW W2).Nodup) (h : ∀ j, j ≠ c → valW W1 j = valW W2 j) (hc : valW W1 c ≠ valW W2 c) : difs W1 W2 = [(c, valW W1 c, valW W2 c)] := by
  refine filterMap_one (c := c) ((srt_perm _).nodup_iff.mpr (allK_nd n1 n2)) ((srt_perm _).mem_iff.mpr ?_) (fun j hj => ?_) ?_
  · by_cases z : c ∈ allK W1 W2
    · exact z
    · exact absurd (val_off z) hc
  · unfold difOf
    rw [if_pos (h j hj)]
  · unfold difOf
    rw [if_neg hc]
theorem zO_inj {x y : Option Int} : zO x = zO y ↔ x = y := by
  cases x with
  | none =>
    cases y with
    | none => exact ⟨fun _ => rfl, fun _ => rfl⟩
    | some j => exact ⟨nofun, nofun⟩
  | some i =>
    cases y with
    | none => exact ⟨nofun, nofun⟩
    | some j => exact ⟨fun h => by rw [V.int.inj h], fun h => by rw [h]⟩
theorem scal_zz (x y : Option Int) : scal (zO x) (zO y) = true := by cases x <;> cases y <;> rfl
/-! ### the tuples told -/
def Trips (H : Hp) : List Addr → List Dif → Prop := Paired fun t x => H t = some (.tup [nV x.1, zO x.2.1, zO x.2.2])
theorem Trips.ex {H H' : Hp} : ∀ {ts : List Addr} {xs : List Dif}, Trips H ts xs → Ex H H' → Trips H' ts xs
  | _, _, .nil, _ => .nil
  | _, _, .cons h t, e => .cons (e _ _ h) (Trips.ex t e)
theorem Trips.but {H H' : Hp} {r : Addr} (nr : ∀ xs, H r ≠ some (.tup xs)) : ∀ {ts : List Addr} {xs : List Dif}, Trips H ts xs → But r H H' → Trips H' ts xs
  | _, _, .nil, _ => .nil
  | _, _, .cons (a := t) h tl, e => .cons (e _ _ (fun q => nr _ (q ▸ h)) h) (Trips.but nr tl e)
theorem Trips.app {H : Hp} {t : Addr} {x : Dif} (h : H t = some (.tup [nV x.1, zO x.2.1, zO x.2.2])) : ∀ {ts : List Addr} {xs : List Dif}, Trips H ts xs → Trips H (ts ++ [t]) (xs ++ [x])
  | _, _, .nil => .cons h .nil
  | _, _, .cons h' tl => .cons h' (Trips.app h tl)
theorem Trips.get {H : Hp} : ∀ {ts : List Addr} {xs : List Dif} {i : Nat} {t : Addr}, Trips H ts xs → ts[i]? = some t → ∃ x, xs[i]? = some x ∧ H t = some (.tup [nV x.1, zO x.2.1, zO x.2.2])
  | _, _, _, _, .nil, e => by simp at e
  | _, _, 0, _, .cons r _, e => by simp at e; subst e; exact ⟨_, rfl, r⟩
  | _, _, i + 1, _, .cons _ tl, e => Trips.get (i := i) tl (by simpa using e)
def DifsAt (H : Hp) (l : Addr) (xs : List Dif) : Prop := ∃ ts, H l = some (.lst (ts.map V.ref)) ∧ Trips H ts xs
theorem DifsAt.ex {H H' : Hp} {l : Addr} {xs : List Dif} (h : DifsAt H l xs) (e : Ex H H') : DifsAt H' l xs := let ⟨ts, h1, h2⟩ := h; ⟨ts, e _ _ h1, h2.ex e⟩
def dZ : Option Int → PyData
  | none => .none
  | some z => .int z
def dF (x : Dif) : PyData := .tuple [.int (x.1 : Int), dZ x.2.1, dZ x.2.2]
theorem eqv_dZ (o p : Option Int) : PyData.eqv (dZ o) (dZ p) = decide (o = p) := by
  cases o with
  | none => cases p <;> simp [dZ, PyData.eqv]
  | some i =>
    cases p with
    | none => simp [dZ, PyData.eqv]
    | some j =>
      show PyData.eqv (dI i) (dI j) = _
      rw [eqv_dI]
      by_cases h : i = j
      · subst h; simp
      · simp [h]
theorem eqv_dF (x y : Dif) : PyData.eqv (dF x) (dF y) = decide (x = y) := by
  obtain ⟨x1, x2, x3⟩ := x
  obtain ⟨y1, y2, y3⟩ := y
  show PyData.eqv (.tuple [.int (x1 : Int), dZ x2, dZ x3]) (.tuple [.int (y1 : Int), dZ y2, dZ y3]) = _
  rw [PyData.eqv, PyData.eqvAll, PyData.eqvAll, PyData.eqvAll, PyData.eqvAll, eqv_int, eqv_dZ, eqv_dZ]
  by_cases h1 : x1 = y1 <;> by_cases h2 : x2 = y2 <;> by_cases h3 : x3 = y3 <;> simp [h1, h2, h3]
theorem lay_dF (x : Dif) : (dF x).canLay0 = true ∧ (dF x).depth ≤ 5 := by
  obtain ⟨c, y, z⟩ := x
  cases y <;> cases z <;> exact ⟨rfl, (by decide : max 0 (max 0 (max 0 0)) + 1 ≤ 5)⟩
section
variable {K : PySem.W.Frag} {a : Ad} {M H H' H1 H2 H3 : Hp} {σ : L2.St} {D : Ends} {tz : TS} {b p d r b1 p1 d1 r1 b2 p2 d2 r2 w v l m : Addr} {rule rule1 rule2 c s k n : Nat} {row row1 row2 : Row} {W W1 W2 : Tab} {z : Int} {ta tc td ty tv tb tn t1 t2 : TE} {xs ys : List Dif}
theorem dp_zO : ∀ x : Option Int, Dp K H (zO x) (dZ x)
  | none => .non
  | some z => .int z
theorem dp_trips : ∀ {ts : List Addr} {xs : List Dif}, Trips H ts xs → DpAll K H (ts.map V.ref) (xs.map dF)
  | _, _, .nil => .nil
  | _, _, .cons h t => .cons (.tup (SqT.of h) (.cons (.int _) (.cons (dp_zO _) (.cons (dp_zO _) .nil)))) (dp_trips t)
theorem rv_eqDifs (h1 : DifsAt H l xs) (h2 : DifsAt H m ys) : RV (rEqD K) (.ref l) (.ref m) H (.bl (decide (xs = ys))) := fun H1 e1 Q q => by
  obtain ⟨ts, h1, T1⟩ := h1
  obtain ⟨us, h2, T2⟩ := h2
  refine ⟨_, _, .lst (SqL.of (e1 _ _ h1)) (dp_trips (T1.ex e1)), .lst (SqL.of (e1 _ _ h2)) (dp_trips (T2.ex e1)), shaped_list lay_dF xs, shaped_list lay_dF ys, ?_⟩
  rw [PyData.eqv, eqv_all eqv_dF]
  exact q H1 (Ex.refl H1)
theorem rv_neDifs (h1 : DifsAt H l xs) (h2 : DifsAt H m ys) : RV (rNeD K) (.ref l) (.ref m) H (.bl (!decide (xs = ys))) := fun H1 e1 Q q => by
  obtain ⟨ts, h1, T1⟩ := h1
  obtain ⟨us, h2, T2⟩ := h2
  refine ⟨_, _, .lst (SqL.of (e1 _ _ h1)) (dp_trips (T1.ex e1)), .lst (SqL.of (e1 _ _ h2)) (dp_trips (T2.ex e1)), shaped_list lay_dF xs, shaped_list lay_dF ys, ?_⟩
  rw [PyData.eqv, eqv_all eqv_dF]
  exact q H1 (Ex.refl H1)
/-- a new list of such tuples -/
def EvD (te : TE) (σ : L2.St) (H : Hp) (xs : List Dif) : Prop := ∀ H1, Ex H H1 → ∀ Q : VK, (∀ p H2, H1 p = none → Ex H1 H2 → DifsAt H2 p xs → Q (.ref p) H2) → te σ H1 Q
theorem EvD.mono (e : Ex H H') (h : EvD ta σ H xs) : EvD ta σ H' xs := fun H1 a Q q => h H1 (e.trans a) Q q
theorem ev_eqNilD (h : EvD ta σ H xs) : Ev (tOp (rEqD K) ta (tLst tNil)) σ H (.bl (decide (xs = []))) := fun H1 e Q q =>
  h H1 e _ fun p H2 hp e2 hd => el_lst (σ := σ) (H := H2) ea_nil (by decide) H2 (Ex.refl _) _ fun m H3 hm e3 h3 => rv_eqDifs (hd.ex e3) ⟨[], h3, .nil⟩ H3 (Ex.refl _) Q fun H4 e4 => q H4 ((e2.trans e3).trans e4)
theorem ev_eqNilV (h : Ev ta σ H (.ref l)) (hd : DifsAt H l xs) : Ev (tOp (rEqD K) ta (tLst tNil)) σ H (.bl (decide (xs = []))) := fun H1 e Q q =>
  h H1 e _ fun H2 e2 => el_lst (σ := σ) (H := H2) ea_nil (by decide) H2 (Ex.refl _) _ fun m H3 hm e3 h3 => rv_eqDifs (hd.ex ((e.trans e2).trans e3)) ⟨[], h3, .nil⟩ H3 (Ex.refl _) Q fun H4 e4 => q H4 ((e2.trans e3).trans e4)
theorem ev_neDV (h : EvD ta σ H xs) (h2 : Ev tb σ H (.ref m)) (hd : DifsAt H m ys) : Ev (tOp (rNeD K) ta tb) σ H (.bl (!decide (xs = ys))) := fun H1 e Q q =>
  h H1 e _ fun p H2 hp e2 hx => h2 H2 (e.trans e2) _ fun H3 e3 => rv_neDifs (hx.ex e3) (hd.ex ((e.trans e2).trans e3)) H3 (Ex.refl _) Q fun H4 e4 => q H4 ((e2.trans e3).trans e4)
theorem q_asgD {i : Nat} (h : EvD ta σ H xs) (k : ∀ p H1, H p = none → Ex H H1 → DifsAt H1 p xs → tz D (σ.set i (some (.ref p))) H1) : tSeq (tAsg ta (gName i)) tz D σ H := h H (Ex.refl H) _ fun p H1 hp e h1 => k p H1 hp e h1
/-! ### changes, alike -/
theorem el_bnames (B : BR a H b p d r rule row W) (hb : Ev tb σ H (.ref b)) : EvL (tMeth a.B "names" (sp_Book_names K a) [] E0 tb tNil) σ H ((srt (keysW W)).map nV) :=
  let ⟨_, hp⟩ := B.B
  el_meth hb hp (bf_no _ _ f_bnames.1 f_bnames.2) ea_nil fun H1 e1 Q q E => ⟨b, p, d, r, rule, row, W, rfl, B.ex e1, q⟩
theorem ev_worthB (B : BQ a H b p d r rule row W) (hb : Ev tb σ H (.ref b)) (hn : Ev tn σ H (nV c)) : Ev (tMeth a.B "worth" (sp_Book_worth K a) [] E0 tb (tCons tn tNil)) σ H (zO (valW W c)) :=
  let ⟨_, hp⟩ := B.B
  ev_meth hb hp (bf_no _ _ f_worth.1 f_worth.2) (ea_cons hn ea_nil) fun H1 e1 Q q E => ⟨b, p, d, r, rule, row, W, c, rfl, B.ex e1, q⟩
end
def sp_changes (K : PySem.W.Frag) (a : Ad) : Sp := fun vs H Q _ => ∃ (b1 p1 d1 r1 b2 p2 d2 r2 : Addr) (rule1 rule2 : Nat) (row1 row2 : Row) (W1 W2 : Tab), vs = [.ref b1, .ref b2] ∧ BR a H b1 p1 d1 r1 rule1 row1 W1 ∧ BR a H b2 p2 d2 r2 rule2 row2 W2 ∧ (allK W1 W2).length < 64 ∧
  ∀ l H', H l = none → Ex H H' → DifsAt H' l (difs W1 W2) → Q (.ref l) H'
def sp_alike (K : PySem.W.Frag) (a : Ad) : Sp := fun vs H Q _ => ∃ (b1 p1 d1 r1 b2 p2 d2 r2 : Addr) (rule1 rule2 : Nat) (row1 row2 : Row) (W1 W2 : Tab), vs = [.ref b1, .ref b2] ∧ BR a H b1 p1 d1 r1 rule1 row1 W1 ∧ BR a H b2 p2 d2 r2 rule2 row2 W2 ∧ (allK W1 W2).length < 64 ∧
  RetV (.bl (decide (difs W1 W2 = []))) H Q
abbrev N_changes : List Str := ["one", "other", "found", "name"]
def t_changes (K : PySem.W.Frag) (a : Ad) (E : XK) : TS :=
  (tSeq (tAsg (tLst tNil) (gName 2))
  (tSeq (tFor (iList K (tSortSet K (tOp rCat (tMeth a.B "names" (sp_Book_names K a) [] E0 (tVar 0) tNil) (tMeth a.B "names" (sp_Book_names K a) [] E0 (tVar 1) tNil)))) (gName 3) (tIfS (tTest (tOp rNe (tMeth a.B "worth" (sp_Book_worth K a) [] E0 (tVar 0) (tCons (tVar 3) tNil)) (tMeth a.B "worth" (sp_Book_worth K a) [] E0 (tVar 1) (tCons (tVar 3) tNil)))) (tDrop (tBM K "list" rAppend (tVar 2) (tCons (tTup (tCons (tVar 3) (tCons (tMeth a.B "worth" (sp_Book_worth K a) [] E0 (tVar 0) (tCons (tVar 3) tNil)) (tCons (tMeth a.B "worth" (sp_Book_worth K a) [] E0 (tVar 1) (tCons (tVar 3) tNil)) tNil)))) tNil))) tNext))
  (tRet (tVar 2))))
abbrev N_alike : List Str := ["one", "other"]
def t_alike (K : PySem.W.Frag) (a : Ad) (E : XK) : TS :=
  (tRet (tOp (rEqD K) (tCall (sp_changes K a) [] E0 (tCons (tVar 0) (tCons (tVar 1) tNil))) (tLst tNil)))
section
variable {K : PySem.W.Frag} {a : Ad} {M H H' H1 H2 H3 : Hp} {σ : L2.St} {D : Ends} {tz : TS} {b p d r b1 p1 d1 r1 b2 p2 d2 r2 w v l m : Addr} {rule rule1 rule2 c s k n : Nat} {row row1 row2 : Row} {W W1 W2 : Tab} {z : Int} {ta tc td ty tv tb tn t1 t2 : TE} {xs ys : List Dif}
theorem difs_next {L : List Nat} {i c : Nat} (hc : L[i]? = some c) : (L.take (i + 1)).filterMap (difOf W1 W2) = (L.take i).filterMap (difOf W1 W2) ++ (difOf W1 W2 c).toList := by
  rw [take_next hc, List.filterMap_append]
  congr 1
theorem r_changes (vs : List V) (H : Hp) (Q : VK) (E : XK) (h : sp_changes K a vs H Q E) : Go (t_changes K a E) N_changes vs H Q := by
  obtain ⟨b1, p1, d1, r1, b2, p2, d2, r2, rule1, rule2, row1, row2, W1, W2, rfl, B1, B2, h64, k⟩ := h
  refine q_asgL (el_lst ea_nil (by decide)) fun l H1 hl e1 hl1 => ?_
  have C1 := B1.ex e1
  have C2 := B2.ex e1
  have m1 := B1.most
  have m2 := B2.most
  have hl1' : (srt (keysW W1)).length = W1.length := by rw [(srt_perm _).length_eq, keys_len]
  have hl2' : (srt (keysW W2)).length = W2.length := by rw [(srt_perm _).length_eq, keys_len]
  have hcat : EvL (tOp rCat (tMeth a.B "names" (sp_Book_names K a) [] E0 (tVar 0) tNil) (tMeth a.B "names" (sp_Book_names K a) [] E0 (tVar 1) tNil)) [some (.ref b1), some (.ref b2), some (.ref l), none] H1 ((srt (keysW W1) ++ srt (keysW W2)).map nV) := by
    rw [List.map_append]
    exact el_cat (el_bnames C1 (ev_var rfl)) (el_bnames C2 (ev_var rfl)) (by rw [List.length_map, List.length_map]; omega)
  have hsrt := el_sortSet (K := K) hcat (allK_nd B1.nd B2.nd) (fun c => by rw [allK_mem, List.mem_append, (srt_perm _).mem_iff, (srt_perm _).mem_iff]) h64 (by rw [List.length_append]; omega)
  have hL : (srt (allK W1 W2)).length < 64 := by rw [(srt_perm _).length_eq]; exact h64
  refine q_forNLn hsrt (fun q i σ' H' => Ex H H' ∧ H' q = some (.lst ((srt (allK W1 W2)).map nV)) ∧ q ≠ l ∧ ∃ ts v3, H' l = some (.lst (ts.map V.ref)) ∧ Trips H' ts (((srt (allK W1 W2)).take i).filterMap (difOf W1 W2)) ∧ σ' = [some (.ref b1), some (.ref b2), some (.ref l), v3]) (fun q H2 hq e2 hq2 => ⟨e1.trans e2, hq2, (ne_some hl1 hq).symm, [], none, e2 _ _ hl1, .nil, rfl⟩) (fun q i σ' H' _ ⟨_, hq, _⟩ => SqL.of hq) (fun q i x σ' H' hi ⟨e, hq, nq, ts, v3, hl', T, hσ⟩ => ?_) (fun q σ' H' ⟨e, hq, nq, ts, v3, hl', T, hσ⟩ => ?_)
  · subst hσ
    obtain ⟨c, hc, rfl⟩ := nats_get hi
    have hnext := difs_next (W1 := W1) (W2 := W2) hc
    have wb1 : ∀ {H'}, Ex H H' → Ev (tMeth a.B "worth" (sp_Book_worth K a) [] E0 (tVar 0) (tCons (tVar 3) tNil)) [some (.ref b1), some (.ref b2), some (.ref l), some (nV c)] H' (zO (valW W1 c)) := fun e => ev_worthB (B1.ex e).toBQ (ev_var rfl) (ev_var rfl)
    have wb2 : ∀ {H'}, Ex H H' → Ev (tMeth a.B "worth" (sp_Book_worth K a) [] E0 (tVar 1) (tCons (tVar 3) tNil)) [some (.ref b1), some (.ref b2), some (.ref l), some (nV c)] H' (zO (valW W2 c)) := fun e => ev_worthB (B2.ex e).toBQ (ev_var rfl) (ev_var rfl)
    refine s_when (et_test (ev_op (wb1 e) (wb2 e) (rv_ne (scal_zz _ _)))) (fun hb H2 e2 => ?_) (fun hb H2 e2 => ?_)
    · have hne : valW W1 c ≠ valW W2 c := fun z => by rw [z] at hb; simp at hb
      have hd : difOf W1 W2 c = some (c, valW W1 c, valW W2 c) := by unfold difOf; rw [if_neg hne]
      rw [hd] at hnext
      have hlt : ts.length < 64 := by
        rw [Paired.length T]
        have := List.length_filterMap_le (difOf W1 W2) ((srt (allK W1 W2)).take i)
        have : ((srt (allK W1 W2)).take i).length ≤ (srt (allK W1 W2)).length := by rw [List.length_take]; omega
        omega
      have e02 := e.trans e2
      refine s_appU (ys := [nV c, zO (valW W1 c), zO (valW W2 c)]) (e2 _ _ hl') (ev_var rfl) (eu_tup (ea_cons (ev_var rfl) (ea_cons (wb1 e02) (ea_cons (wb2 e02) ea_nil))) (by show 3 ≤ 100000; decide)) (by rw [List.length_map]; omega) fun t H3 ht e3 ht3 => ?_
      have e23 := e2.trans e3
      have nlt : t ≠ l := (ne_some (e2 _ _ hl') ht).symm
      refine ⟨Ex.mut (e.trans e23) hl, by rw [upd_ne nq]; exact e23 _ _ hq, nq, ts ++ [t], _, by rw [upd_same, List.map_append]; rfl, ?_, rfl⟩
      rw [hnext]
      exact Trips.app (x := (c, valW W1 c, valW W2 c)) (by rw [upd_ne nlt]; exact ht3) ((T.ex e23).but (fun xs z => by rw [e23 _ _ hl'] at z; cases z) But.upd)
    · have heq : valW W1 c = valW W2 c := by
        have : decide (zO (valW W1 c) = zO (valW W2 c)) = true := by simpa using hb
        exact zO_inj.mp (of_decide_eq_true this)
      have hd : difOf W1 W2 c = none := by unfold difOf; rw [if_pos heq]
      rw [hd] at hnext
      refine ⟨e.trans e2, e2 _ _ hq, nq, ts, _, e2 _ _ hl', ?_, rfl⟩
      rw [hnext]
      show Trips H2 ts (_ ++ [])
      rw [List.append_nil]
      exact T.ex e2
  · subst hσ
    rw [List.length_map, List.take_length] at T
    exact s_ret (ev_var rfl) fun H3 e3 => k l H3 hl (e.trans e3) ⟨ts, e3 _ _ hl', T.ex e3⟩
theorem ed_changes (B1 : BR a H b1 p1 d1 r1 rule1 row1 W1) (B2 : BR a H b2 p2 d2 r2 rule2 row2 W2) (h64 : (allK W1 W2).length < 64) (h1 : Ev t1 σ H (.ref b1)) (h2 : Ev t2 σ H (.ref b2)) : EvD (tCall (sp_changes K a) [] E0 (tCons t1 (tCons t2 tNil))) σ H (difs W1 W2) := fun H1 e Q q =>
  w_callA (ea_cons (h1.mono e) (ea_cons (h2.mono e) ea_nil)) fun H2 e2 => ⟨b1, p1, d1, r1, b2, p2, d2, r2, rule1, rule2, row1, row2, W1, W2, rfl, B1.ex (e.trans e2), B2.ex (e.trans e2), h64, fun l H3 hl e3 hd => q l H3 (fresh_back e2 hl) (e2.trans e3) hd⟩
theorem r_alike (vs : List V) (H : Hp) (Q : VK) (E : XK) (h : sp_alike K a vs H Q E) : Go (t_alike K a E) N_alike vs H Q := by
  obtain ⟨b1, p1, d1, r1, b2, p2, d2, r2, rule1, rule2, row1, row2, W1, W2, rfl, B1, B2, h64, k⟩ := h
  exact s_ret (ev_eqNilD (ed_changes B1 B2 h64 (ev_var rfl) (ev_var rfl))) k
theorem ev_alikeB (B1 : BR a H b1 p1 d1 r1 rule1 row1 W1) (B2 : BR a H b2 p2 d2 r2 rule2 row2 W2) (h64 : (allK W1 W2).length < 64) (h1 : Ev t1 σ H (.ref b1)) (h2 : Ev t2 σ H (.ref b2)) : Ev (tCall (sp_alike K a) [] E0 (tCons t1 (tCons t2 tNil))) σ H (.bl (decide (difs W1 W2 = []))) :=
  ev_callE (dvs := []) (ea_cons h1 (ea_cons h2 ea_nil)) fun H1 e1 Q q E => ⟨b1, p1, d1, r1, b2, p2, d2, r2, rule1, rule2, row1, row2, W1, W2, rfl, B1.ex e1, B2.ex e1, h64, q⟩
end
end SY

namespace SY
open PySem L2 Evl
/-! ### a book of which only its names and worths are told -/
structure Bk (a : Ad) (M H : Hp) (b d : Addr) (rule : Nat) (W : Tab) : Prop where
  e : Ex M H
  mb : M b = none
  md : M d = none
  bk : ∃ p r row, M r = none ∧ BR a H b p d r rule row W
/-- the same, g apart: it is written at, too -/
structure Bg (a : Ad) (M H : Hp) (b d g : Addr) (rule : Nat) (W : Tab) : Prop where
  e : Ex M H
  mb : M b = none
  md : M d = none
  mg : M g = none
  bg : b ≠ g
  dg : d ≠ g
  bk : ∃ p r row, M r = none ∧ r ≠ g ∧ BR a H b p d r rule row W
theorem key_val {W : Tab} {c : Nat} : c ∈ keysW W ↔ (valW W c).isSome = true := by rw [val_isSome, decide_eq_true_eq]
theorem key_alike {W W' : Tab} (h : ∀ c, valW W' c = valW W c) {c : Nat} : c ∈ keysW W' ↔ c ∈ keysW W := by rw [key_val, key_val, h]
theorem drop_len_le (W : Tab) (c : Nat) : (dropW W c).length ≤ W.length := List.length_filter_le _ _
theorem put_len_le (W : Tab) (c : Nat) (z : Int) : (putW W c z).length ≤ W.length + 1 := by
  rw [put_len]; split <;> omega
theorem len_sub : ∀ {l m : List Nat}, l.Nodup → (∀ c, c ∈ l → c ∈ m) → l.length ≤ m.length
  | [], _, _, _ => Nat.zero_le _
  | x :: l, m, nd, h => by
    obtain ⟨n1, n2⟩ := List.nodup_cons.mp nd
    have hx := h x (List.mem_cons_self ..)
    have ih := len_sub (l := l) (m := m.erase x) n2 fun c hc => by
      have hne : c ≠ x := fun z => n1 (z ▸ hc)
      exact (List.mem_erase_of_ne hne).mpr (h c (List.mem_cons_of_mem _ hc))
    have := List.length_erase_of_mem hx
    have : 0 < m.length := List.length_pos_of_mem hx
    rw [List.length_cons]
    omega
section
variable {K : PySem.W.Frag} {a : Ad} {M H H' H1 H2 H3 : Hp} {σ : L2.St} {D : Ends} {tz : TS} {b p d r b2 p2 d2 r2 g w v l m : Addr} {rule rule1 rule2 c s k n j : Nat} {row row1 row2 : Row} {W W1 W2 : Tab} {z : Int} {ta tc td ty tv tb tn tl ti tw t1 t2 : TE} {Q : VK} {E : XK}
theorem BR.keep (B : BR a H b p d r rule row W) (h : ∀ x o, (x = b ∨ x = p ∨ x = d ∨ x = r) → H x = some o → H' x = some o) : BR a H' b p d r rule row W :=
  { B with toBQ := ⟨let ⟨dx, q⟩ := B.B; ⟨dx, h _ _ (.inl rfl) q⟩, h _ _ (.inr (.inr (.inl rfl))) B.D, let ⟨dx, q⟩ := B.Y.y; ⟨⟨dx, h _ _ (.inr (.inl rfl)) q⟩, h _ _ (.inr (.inr (.inr rfl))) B.Y.w, B.Y.le⟩⟩ }
theorem bp_ne (B : BookAt a H b p d) {q r' : Addr} {n rule : Nat} (Y : YardAt a H q r' n rule) : b ≠ q := fun z => by
  obtain ⟨dx, q1⟩ := B
  obtain ⟨dx2, q2⟩ := Y
  rw [← z, q1] at q2
  have q2 := Option.some.inj q2
  unfold bf yf at q2
  injection q2 with _ _ q3
  have := congrArg List.length q3
  cases this
theorem Bk.ex (T : Bk a M H b d rule W) (e : Ex H H') : Bk a M H' b d rule W := { T with e := T.e.trans e, bk := let ⟨p, r, row, h1, h2⟩ := T.bk; ⟨p, r, row, h1, h2.ex e⟩ }
theorem Bg.ex (T : Bg a M H b d g rule W) (e : Ex H H') : Bg a M H' b d g rule W := { T with e := T.e.trans e, bk := let ⟨p, r, row, h1, h2, h3⟩ := T.bk; ⟨p, r, row, h1, h2, h3.ex e⟩ }
theorem Bg.toBk (T : Bg a M H b d g rule W) : Bk a M H b d rule W := ⟨T.e, T.mb, T.md, let ⟨p, r, row, h1, _, h3⟩ := T.bk; ⟨p, r, row, h1, h3⟩⟩
/-- g a new address -/
theorem Bk.withG (T : Bk a M H b d rule W) (hg : H g = none) (e : Ex H H') : Bg a M H' b d g rule W := by
  obtain ⟨p, r, row, h1, B⟩ := T.bk
  obtain ⟨dx, hb⟩ := B.B
  exact ⟨T.e.trans e, T.mb, T.md, fresh_back T.e hg, ne_some hb hg, ne_some B.D hg, p, r, row, h1, ne_some B.Y.w hg, B.ex e⟩
theorem Bk.withL (T : Bk a M H b d rule W) {x : Addr} {o : HO} (hx : H x = none) (e : Ex H H') (h : H' x = some o) : ∃ M', Ex M M' ∧ Bk a M' H' b d rule W ∧ M' x = some o := by
  obtain ⟨p, r, row, h1, B⟩ := T.bk
  obtain ⟨dx, hb⟩ := B.B
  refine ⟨wo H' [b, d, r], ex_wo (T.e.trans e) fun y hy => ?_, ⟨wo_ex _ _, wo_none (by simp), wo_none (by simp), p, r, row, wo_none (by simp), B.ex e⟩, by rw [wo_get (by simp [(ne_some hb hx).symm, (ne_some B.D hx).symm, (ne_some B.Y.w hx).symm])]; exact h⟩
  simp at hy
  rcases hy with rfl | rfl | rfl
  · exact T.mb
  · exact T.md
  · exact h1
theorem Bg.withL (T : Bg a M H b d g rule W) {x : Addr} {o og : HO} (hg : H g = some og) (hx : H x = none) (e : Ex H H') (h : H' x = some o) : ∃ M', Ex M M' ∧ Bg a M' H' b d g rule W ∧ M' x = some o := by
  obtain ⟨p, r, row, h1, h2, B⟩ := T.bk
  obtain ⟨dx, hb⟩ := B.B
  refine ⟨wo H' [b, d, r, g], ex_wo (T.e.trans e) fun y hy => ?_, ⟨wo_ex _ _, wo_none (by simp), wo_none (by simp), wo_none (by simp), T.bg, T.dg, p, r, row, wo_none (by simp), h2, B.ex e⟩, by rw [wo_get (by simp [(ne_some hb hx).symm, (ne_some B.D hx).symm, (ne_some B.Y.w hx).symm, (ne_some hg hx).symm])]; exact h⟩
  simp at hy
  rcases hy with rfl | rfl | rfl | rfl
  · exact T.mb
  · exact T.md
  · exact h1
  · exact T.mg
/-- g is written at -/
theorem Bg.stay (T : Bg a M H b d g rule W) (hg : ∀ C dx fs, H g ≠ some (.ins C dx fs)) (bt : But g H H1) : Bg a M H1 b d g rule W := by
  obtain ⟨p, r, row, h1, h2, B⟩ := T.bk
  refine { T with e := ex_but T.e T.mg bt, bk := ⟨p, r, row, h1, h2, B.stay bt T.bg T.dg (fun z => ?_) h2⟩ }
  obtain ⟨dx, q⟩ := B.Y.y
  exact hg _ _ _ (z ▸ q)
theorem Bk.wrote (T : Bk a M H b d rule W) (B : BR a H b p d r rule row W) (hr : M r = none) (bt : Bt b d r H H1) {p' r' : Addr} {row' : Row} {W' : Tab} (hr' : r' = r ∨ H r' = none) (B1 : BR a H1 b p' d r' rule row' W') : Bk a M H1 b d rule W' :=
  ⟨fun x o h => bt x o (fun z => by rw [z, T.mb] at h; cases h) (fun z => by rw [z, T.md] at h; cases h) (fun z => by rw [z, hr] at h; cases h) (T.e _ _ h), T.mb, T.md, p', r', row', by
    rcases hr' with q | q
    · rw [q]; exact hr
    · exact fresh_back T.e q, B1⟩
theorem Bg.wrote (T : Bg a M H b d g rule W) (B : BR a H b p d r rule row W) (hr : M r = none) (nr : r ≠ g) (hg : H g = some o) (bt : Bt b d r H H1) {p' r' : Addr} {row' : Row} {W' : Tab} (hr' : r' = r ∨ H r' = none) (B1 : BR a H1 b p' d r' rule row' W') : Bg a M H1 b d g rule W' ∧ H1 g = some o := by
  have T1 := T.toBk.wrote B hr bt hr' B1
  refine ⟨⟨T1.e, T.mb, T.md, T.mg, T.bg, T.dg, p', r', row', ?_, ?_, B1⟩, bt _ _ T.bg.symm T.dg.symm nr.symm hg⟩
  · rcases hr' with q | q
    · rw [q]; exact hr
    · exact fresh_back T.e q
  · rcases hr' with q | q
    · rw [q]; exact nr
    · exact (ne_some hg q).symm
theorem w_bwriteK (T : Bk a M H b d rule W) (hb : Ev tb σ H (.ref b)) (hn : Ev tn σ H (nV c)) (hv : Ev tv σ H (.int z)) (hc : c ∈ keysW W ∨ W.length < 96) (k : ∀ H1, Bk a M H1 b d rule (putW W c z) → Q (.bl (decide (c ∈ keysW W))) H1) :
    tMeth a.B "write" (sp_Book_write K a) [] E tb (tCons tn (tCons tv tNil)) σ H Q := by
  obtain ⟨p, r, row, hr, B⟩ := T.bk
  refine w_bm hb B.B f_write.1 f_write.2 (ea_cons hn (ea_cons hv ea_nil)) fun H1 e1 => ⟨b, p, d, r, rule, row, W, c, z, rfl, B.ex e1, fun hn hl => ?_, fun _ p' r' H2 bt hp' hr' B2 => k H2 ((T.ex e1).wrote (B.ex e1) hr bt hr' B2)⟩
  rcases hc with q | q
  · exact absurd q hn
  · omega
theorem w_bwriteG {o : HO} (T : Bg a M H b d g rule W) (hg : H g = some o) (hb : Ev tb σ H (.ref b)) (hn : Ev tn σ H (nV c)) (hv : Ev tv σ H (.int z)) (hc : c ∈ keysW W ∨ W.length < 96) (k : ∀ H1, Bg a M H1 b d g rule (putW W c z) → H1 g = some o → Q (.bl (decide (c ∈ keysW W))) H1) :
    tMeth a.B "write" (sp_Book_write K a) [] E tb (tCons tn (tCons tv tNil)) σ H Q := by
  obtain ⟨p, r, row, hr, nr, B⟩ := T.bk
  refine w_bm hb B.B f_write.1 f_write.2 (ea_cons hn (ea_cons hv ea_nil)) fun H1 e1 => ⟨b, p, d, r, rule, row, W, c, z, rfl, B.ex e1, fun hn hl => ?_, fun _ p' r' H2 bt hp' hr' B2 => ?_⟩
  · rcases hc with q | q
    · exact absurd q hn
    · omega
  · obtain ⟨T2, hg2⟩ := (T.ex e1).wrote (B.ex e1) hr nr (e1 _ _ hg) bt hr' B2
    exact k H2 T2 hg2
theorem w_bdropK (T : Bk a M H b d rule W) (hb : Ev tb σ H (.ref b)) (hn : Ev tn σ H (nV c)) (hc : c ∈ keysW W) (k : ∀ z H1, Bk a M H1 b d rule (dropW W c) → Q (.int z) H1) :
    tMeth a.B "drop" (sp_Book_drop K a) [] E tb (tCons tn tNil) σ H Q := by
  obtain ⟨p, r, row, hr, B⟩ := T.bk
  refine w_bm hb B.B f_drop.1 f_drop.2 (ea_cons hn ea_nil) fun H1 e1 => ⟨b, p, d, r, rule, row, W, c, rfl, B.ex e1, fun q => absurd hc q, fun s z hs hz p' r' H2 bt hp' hr' B2 => k z H2 ((T.ex e1).wrote (B.ex e1) hr bt hr' B2)⟩
/-- the call proper -/
theorem go_drop {o : HO} (T : Bg a M H b d g rule W) (hg : H g = some o) (hc : c ∈ keysW W) (k : ∀ z H1, Bg a M H1 b d g rule (dropW W c) → H1 g = some o → Q (.int z) H1) : sp_Book_drop K a [.ref b, nV c] H Q E := by
  obtain ⟨p, r, row, hr, nr, B⟩ := T.bk
  refine ⟨b, p, d, r, rule, row, W, c, rfl, B, fun q => absurd hc q, fun s z hs hz p' r' H2 bt hp' hr' B2 => ?_⟩
  obtain ⟨T2, hg2⟩ := T.wrote B hr nr hg bt hr' B2
  exact k z H2 T2 hg2
theorem w_bdropG {o : HO} (T : Bg a M H b d g rule W) (hg : H g = some o) (hb : Ev tb σ H (.ref b)) (hn : Ev tn σ H (nV c)) (hc : c ∈ keysW W) (k : ∀ z H1, Bg a M H1 b d g rule (dropW W c) → H1 g = some o → Q (.int z) H1) :
    tMeth a.B "drop" (sp_Book_drop K a) [] E tb (tCons tn tNil) σ H Q := by
  obtain ⟨p, r, row, hr, nr, B⟩ := T.bk
  exact w_bm hb B.B f_drop.1 f_drop.2 (ea_cons hn ea_nil) fun H1 e1 => go_drop (T.ex e1) (e1 _ _ hg) hc k
/-- book.drop(guests.pop(j)) -/
theorem s_bdropPop {xs : List Nat} (T : Bg a M H b d g rule W) (hb : Ev tb σ H (.ref b)) (gl : Ev tl σ H (.ref g)) (hl : H g = some (.lst (xs.map nV))) (gi : Ev ti σ H (nV j)) (hj : xs[j]? = some c) (hz : xs.length ≤ 100000) (hc : c ∈ keysW W)
    (k : ∀ H1, Bg a M H1 b d g rule (dropW W c) → H1 g = some (.lst ((xs.eraseIdx j).map nV)) → D.nx σ H1) : tDrop (tMeth a.B "drop" (sp_Book_drop K a) [] E tb (tCons (tBM K "list" rPopAt tl (tCons ti tNil)) tNil)) D σ H := by
  refine hb H (Ex.refl H) _ fun H1 e1 => ?_
  have T1 := T.ex e1
  obtain ⟨p, r, row, hr, nr, B⟩ := T1.bk
  obtain ⟨dx, hp⟩ := B.B
  refine ⟨b, dx, _, rfl, hp, bf_no _ _ f_drop.1 f_drop.2, ?_⟩
  refine w_pop (Q := fun v H2 => sp_Book_drop K a (.ref b :: ([v] ++ [])) H2 (fun _ H3 => D.nx σ H3) E) (gl.mono e1) (e1 _ _ hl) (gi.mono e1) hj hz fun H2 b2 h2 => ?_
  have T2 := T1.stay (fun C dx fs z => by rw [e1 _ _ hl] at z; cases z) b2
  exact go_drop T2 h2 hc fun z H3 T3 h3 => k H3 T3 h3
/-- for c in g: book.drop(c) -/
theorem s_bdropAll {ns : List Nat} (T : Bg a M H b d g rule W) (gl : Ev tl σ H (.ref g)) (hg : H g = some (.lst (ns.map nV))) (nd : ns.Nodup) (dj : ∀ c, c ∈ ns → c ∈ keysW W) (hj : j < σ.length) (gb : ∀ v H', Ev tb (σ.set j v) H' (.ref b))
    (k : ∀ W' v H', Bk a M H' b d rule W' → (∀ c, valW W' c = if c ∈ ns then none else valW W c) → D.nx (σ.set j v) H') : tFor (iList K tl) (gName j) (tDrop (tMeth a.B "drop" (sp_Book_drop K a) [] E tb (tCons (tVar j) tNil))) D σ H := by
  refine q_forLn (D := D) (tz := fun D σ H => D.nx σ H) gl (SqL.of hg) (fun i σ' H' => ∃ (W' : Tab) (v : Option V), Bg a M H' b d g rule W' ∧ H' g = some (.lst (ns.map nV)) ∧ (∀ c, valW W' c = if c ∈ ns.take i then none else valW W c) ∧ σ' = σ.set j v) (fun H1 e1 => ?_) (fun i σ' H' _ ⟨W', v, _, h, _⟩ => SqL.of h) (fun i x σ' H' hi ⟨W', v, T', hg', hv, hσ⟩ => ?_) (fun σ' H' ⟨W', v, T', hg', hv, hσ⟩ => ?_)
  · obtain ⟨v, hv⟩ := set_any σ j
    exact ⟨W, v, T.ex e1, e1 _ _ hg, fun c => by simp, hv⟩
  · subst hσ
    obtain ⟨c, hc, rfl⟩ := nats_get hi
    have hcm := List.mem_of_getElem? hc
    have hsp := take_mid hc
    have hnt : c ∉ ns.take i := fun z => by
      rw [hsp] at nd
      exact absurd rfl ((List.nodup_append.mp nd).2.2 c z c (List.mem_cons_self ..))
    have hcn : c ∈ keysW W' := by
      rw [key_val, hv, if_neg hnt, ← key_val]
      exact dj c hcm
    rw [List.set_set]
    refine w_bdropG (Q := fun _ H1 => _) T' hg' (gb _ _) (ev_var (List.getElem?_set_self hj)) hcn fun z H2 T2 hg2 => ⟨_, _, T2, hg2, fun e => ?_, rfl⟩
    rw [val_drop, hv, take_next hc]
    by_cases q : e = c
    · subst q
      rw [if_pos rfl, if_pos (by simp)]
    · rw [if_neg q]
      by_cases q2 : e ∈ ns.take i
      · rw [if_pos q2, if_pos (List.mem_append_left _ q2)]
      · rw [if_neg q2, if_neg (fun z => (List.mem_append.mp z).elim q2 fun z => q (List.mem_singleton.mp z))]
  · subst hσ
    rw [List.length_map, List.take_length] at hv
    exact k W' v H' T'.toBk hv
/-! ### making books and dicts -/
theorem w_mkBook {tr : TE} (hr : Ev tr σ H (nV rule)) (k : ∀ b p d r H1, H b = none → H p = none → H d = none → H r = none → Ex H H1 → BR a H1 b p d r rule (List.replicate 4 none) [] → Q (.ref b) H1) : tMake a.B (sp_Book__init_ K a) [] E0 (tCons tr tNil) σ H Q := by
  refine hr H (Ex.refl H) _ fun H2 e2 => ?_
  intro x dx hx hdx hne
  have ex1 : Ex H2 (upd (upd H2 dx (.own x)) x (.ins a.B dx [])) := (Ex.new hdx).trans (Ex.new (by rw [upd_ne (Ne.symm hne)]; exact hx))
  refine ⟨x, dx, rule, rfl, upd_same, fun p d r H3 hp hd hr b3 B3 => ⟨rfl, ?_⟩⟩
  have e13 : Ex H H3 := ex_but (e2.trans ex1) (fresh_back e2 hx) b3
  exact k x p d r H3 (fresh_back e2 hx) (fresh_back (e2.trans ex1) hp) (fresh_back (e2.trans ex1) hd) (fresh_back (e2.trans ex1) hr) e13 B3
theorem q_mkBook {i : Nat} {tr : TE} (hr : Ev tr σ H (nV rule)) (k : ∀ b d H1, H b = none → Ex H H1 → Bk a H H1 b d rule [] → tz D (σ.set i (some (.ref b))) H1) : tSeq (tAsg (tMake a.B (sp_Book__init_ K a) [] E0 (tCons tr tNil)) (gName i)) tz D σ H :=
  w_mkBook (Q := fun v H1 => tz D (σ.set i (some v)) H1) hr fun b p d r H1 hb hp hd hr e B => k b d H1 hb e ⟨e, hb, hd, p, r, _, hr, B⟩
theorem q_mkDict {i : Nat} (k : ∀ v H1, H v = none → Ex H H1 → TabAt H1 v [] → tz D (σ.set i (some (.ref v))) H1) : tSeq (tAsg tDNewK (gName i)) tz D σ H := fun v hv => k v _ hv (Ex.new hv) upd_same
end
/-! ### a deed upon a book and a plain dict -/
def deedW (W : Tab) (c : Nat) (z : Int) (drops : Bool) : Tab := if drops = true ∧ c ∈ keysW W then dropW W c else putW W c z
theorem deed_len (W : Tab) (c : Nat) (z : Int) (drops : Bool) : (deedW W c z drops).length ≤ W.length + 1 := by
  unfold deedW
  split
  · have := drop_len_le W c; omega
  · exact put_len_le W c z
def sp_law_deed12 (K : PySem.W.Frag) (a : Ad) : Sp := fun vs H Q _ => ∃ (M : Hp) (b d v : Addr) (rule : Nat) (W : Tab) (c : Nat) (z : Int) (drops : Bool), vs = [.ref b, .ref v, nV c, .int z, .bl drops] ∧ Bg a M H b d v rule W ∧ TabAt H v W ∧ W.length < 96 ∧
  ∀ H', Bg a M H' b d v rule (deedW W c z drops) → TabAt H' v (deedW W c z drops) → Q .non H'
abbrev N_law_deed12 : List Str := ["book", "worths", "name", "worth", "drops"]
def t_law_deed12 (K : PySem.W.Frag) (a : Ad) (E : XK) : TS :=
  (tIfS (tAnd (tB (tVar 4)) (tB (tDIn (tVar 2) (tVar 1)))) (tSeq (tDrop (tMeth a.B "drop" (sp_Book_drop K a) [] E0 (tVar 0) (tCons (tVar 2) tNil)))
  (tDrop (tDPop1 (tVar 1) (tVar 2)))) (tSeq (tDrop (tMeth a.B "write" (sp_Book_write K a) [] E0 (tVar 0) (tCons (tVar 2) (tCons (tVar 3) tNil))))
  (sDPut (tVar 1) (tVar 2) (tVar 3))))
theorem tab_nins {H : Hp} {v : Addr} {W : Tab} (h : TabAt H v W) : ∀ C dx fs, H v ≠ some (.ins C dx fs) := fun C dx fs z => by unfold TabAt at h; rw [h] at z; cases z
section
variable {K : PySem.W.Frag} {a : Ad}
theorem r_law_deed12 (vs : List V) (H : Hp) (Q : VK) (E : XK) (h : sp_law_deed12 K a vs H Q E) : Go (t_law_deed12 K a E) N_law_deed12 vs H Q := by
  obtain ⟨M, b, d, v, rule, W, c, z, drops, rfl, T, hv, hlt, k⟩ := h
  refine s_if (et_and (et_B (ev_var (v := .bl drops) rfl)) fun _ => et_B (ev_dIn (ev_var rfl) (ev_var rfl) hv)) (fun hb H1 e1 => ?_) (fun hb H1 e1 => ?_)
  · have hb' : drops = true ∧ c ∈ keysW W := by simpa using hb
    have hd : deedW W c z drops = dropW W c := by unfold deedW; rw [if_pos hb']
    rw [hd] at k
    obtain ⟨zz, hz⟩ := val_in hb'.2
    refine w_bdropG (Q := fun _ H2 => _) (T.ex e1) (hv.ex e1) (ev_var rfl) (ev_var rfl) hb'.2 fun _ H2 T2 hv2 => ?_
    refine w_dPop (Q := fun _ H3 => _) (ev_var rfl) (ev_var rfl) (show TabAt H2 v W from hv2) hz fun H3 b3 T3 => ?_
    exact k H3 (T2.stay (tab_nins hv2) b3) T3
  · have hb' : ¬ (drops = true ∧ c ∈ keysW W) := by simpa using hb
    have hd : deedW W c z drops = putW W c z := by unfold deedW; rw [if_neg hb']
    rw [hd] at k
    refine w_bwriteG (Q := fun _ H2 => _) (T.ex e1) (hv.ex e1) (ev_var rfl) (ev_var rfl) (ev_var rfl) (.inr hlt) fun H2 T2 hv2 => ?_
    refine s_dPut (ev_var rfl) (ev_var rfl) (ev_var rfl) (show TabAt H2 v W from hv2) (by omega) fun H3 b3 T3 => ?_
    exact k H3 (T2.stay (tab_nins hv2) b3) T3
end
end SY

namespace SY
open PySem L2 Evl
def sp_law_other_way11 (K : PySem.W.Frag) (a : Ad) : Sp := fun vs H Q _ => ∃ (M : Hp) (b d l1 v l2 : Addr) (rule : Nat) (W : Tab) (ms st : List Nat) (cell : Int), vs = [.ref b, .ref l1, .ref v, .ref l2, .int cell] ∧ Bk a M H b d rule [] ∧ M l1 = some (.lst (ms.map nV)) ∧ TabAt M v W ∧ M l2 = some (.lst (st.map nV)) ∧ ms.Nodup ∧ st.Nodup ∧ (∀ c, c ∈ st → c ∉ ms) ∧ (∀ c, c ∈ ms → c ∈ keysW W) ∧ ms.length + st.length ≤ 90 ∧
  ∀ W' H', Bk a M H' b d rule W' → (∀ c, valW W' c = if c ∈ ms then valW W c else none) → Q .non H'
def sp_law_taken11 (K : PySem.W.Frag) (a : Ad) : Sp := fun vs H Q _ => ∃ (b p d r : Addr) (rule : Nat) (row : Row) (W : Tab), vs = [.ref b] ∧ BR a H b p d r rule row W ∧ RetL ((row.map (·.isSome)).map V.bl) H Q
abbrev sp_law_k11 (K : PySem.W.Frag) (a : Ad) : Sp := spLaw K
abbrev N_law_other_way11 : List Str := ["book", "names", "worths", "strangers", "cell", "guests", "at", "name", "guest"]
def t_law_other_way11 (K : PySem.W.Frag) (a : Ad) (E : XK) : TS :=
  (tSeq (tAsg (tLst tNil) (gName 5))
  (tSeq (tFor (iEnum K (tCons (tVar 1) tNil)) (gTup K 2 (gCons (gName 6) (gCons (gName 7) gNil))) (tSeq (tAsg (tOp rModI (tOp rAddI (tOp rMulI (tVar 4) (tC (.int 48271))) (tC (.int 11))) (tC (.int 2147483647))) (gName 4))
  (tCut (tIfS (tTest (tOp rLtI (tVar 6) (tCB (rLenL K) (tCons (tVar 3) tNil)))) (tSeq (tDrop (tMeth a.B "write" (sp_Book_write K a) [] E0 (tVar 0) (tCons (tOp (rIxL K) (tVar 3) (tVar 6)) (tCons (tVar 6) tNil))))
  (tDrop (tBM K "list" rAppend (tVar 5) (tCons (tOp (rIxL K) (tVar 3) (tVar 6)) tNil)))) tNext)
  (tCut (tIfS (tTest (tOp rEq (tOp rModI (tVar 4) (tC (.int 4))) (tC (.int 1)))) (tDrop (tMeth a.B "write" (sp_Book_write K a) [] E0 (tVar 0) (tCons (tVar 7) (tCons (tVar 4) tNil)))) tNext)
  (tCut (tIfS (tAnd (tTest (tOp (rNeD K) (tVar 5) (tLst tNil))) (tTest (tOp rEq (tOp rModI (tVar 4) (tC (.int 3))) (tC (.int 1))))) (tDrop (tMeth a.B "drop" (sp_Book_drop K a) [] E0 (tVar 0) (tCons (tBM K "list" rPopAt (tVar 5) (tCons (tOp rModI (tOp rDivI (tVar 4) (tC (.int 3))) (tCB (rLenL K) (tCons (tVar 5) tNil))) tNil)) tNil))) tNext)
  (tDrop (tMeth a.B "write" (sp_Book_write K a) [] E0 (tVar 0) (tCons (tVar 7) (tCons (tDGet (tVar 2) (tVar 7)) tNil)))))))))
  (tFor (iList K (tVar 5)) (gName 8) (tDrop (tMeth a.B "drop" (sp_Book_drop K a) [] E0 (tVar 0) (tCons (tVar 8) tNil))))))
abbrev N_law_taken11 : List Str := ["book", "spot"]
def t_law_taken11 (K : PySem.W.Frag) (a : Ad) (E : XK) : TS :=
  (tRet (tLc (iList K (tMeth a.B "layout" (sp_Book_layout K a) [] E0 (tVar 0) tNil)) (gName 1) tYes (tNotN (tVar 1)) [1]))
abbrev N_law_k11 : List Str := ["script", "rule", "bound", "worths", "one", "at", "cell", "name", "names", "strangers", "other", "order", "due", "count"]
def t_law_k11 (K : PySem.W.Frag) (a : Ad) (E : XK) : TS :=
  (tSeq (tAsg (tOp rModI (tCall (sp_law_cell K a) [] E0 (tCons (tVar 0) (tCons (tC (.int 0)) tNil))) (tC (.int 3))) (gName 1))
  (tSeq (tAsg (tC (.int 60)) (gName 2))
  (tCut (tIfS (tTest (tOp rEq (tOp rModI (tOp rDivI (tCall (sp_law_cell K a) [] E0 (tCons (tVar 0) (tCons (tC (.int 0)) tNil))) (tC (.int 3))) (tC (.int 3))) (tC (.int 1)))) (tAsg (tOp rPowI (tC (.int 10)) (tC (.int 30))) (gName 2)) tNext)
  (tSeq (tAsg tDNewK (gName 3))
  (tSeq (tAsg (tMake a.B (sp_Book__init_ K a) [] E0 (tCons (tVar 1) tNil)) (gName 4))
  (tSeq (tFor (iEnum K (tCons (tSl (rSlL K) (tVar 0) (tPart (tC (.int 4))) (tPart (tC (.int 44)))) tNil)) (gTup K 2 (gCons (gName 5) (gCons (gName 6) gNil))) (tSeq (tAsg (tOp rModI (tOp rDivI (tVar 6) (tC (.int 3))) (tVar 2)) (gName 7))
  (tIfS (tB (tDNotIn (tVar 7) (tVar 3))) (tSeq (sDPut (tVar 3) (tVar 7) (tOp rAddI (tOp rSubI (tOp rModI (tVar 6) (tOp rPowI (tC (.int 10)) (tC (.int 20)))) (tOp rPowI (tC (.int 10)) (tC (.int 19)))) (tVar 5)))
  (tDrop (tMeth a.B "write" (sp_Book_write K a) [] E0 (tVar 4) (tCons (tVar 7) (tCons (tDGet (tVar 3) (tVar 7)) tNil))))) tNext)))
  (tSeq (tAsg (tCB rListD (tCons (tVar 3) tNil)) (gName 8))
  (tSeq (tAsg (tLst tNil) (gName 9))
  (tSeq (tFor (iList K (tSl (rSlL K) (tVar 0) (tPart (tC (.int 44))) (tPart (tC (.int 63))))) (gName 6) (tIfS (tAnd (tB (tDNotIn (tOp rModI (tVar 6) (tVar 2)) (tVar 3))) (tTest (tOp (rIn K true) (tOp rModI (tVar 6) (tVar 2)) (tVar 9)))) (tDrop (tBM K "list" rAppend (tVar 9) (tCons (tOp rModI (tVar 6) (tVar 2)) tNil))) tNext))
  (tSeq (tAsg (tMake a.B (sp_Book__init_ K a) [] E0 (tCons (tVar 1) tNil)) (gName 10))
  (tSeq (tAsg (tCall (sp_law_mixed K a) [] E0 (tCons (tOp rModI (tCall (sp_law_cell K a) [] E0 (tCons (tVar 0) (tCons (tC (.int 1)) tNil))) (tOp rPowI (tC (.int 10)) (tC (.int 9)))) (tCons (tVar 8) tNil))) (gName 11))
  (tSeq (tDrop (tCall (sp_law_other_way11 K a) [] E0 (tCons (tVar 10) (tCons (tVar 11) (tCons (tVar 3) (tCons (tVar 9) (tCons (tOp rModI (tCall (sp_law_cell K a) [] E0 (tCons (tVar 0) (tCons (tC (.int 2)) tNil))) (tOp rPowI (tC (.int 10)) (tC (.int 9)))) tNil)))))))
  (tSeq (tAsg (tLst tNil) (gName 12))
  (tSeq (tAsg (tCB (rLenL K) (tCons (tVar 8) tNil)) (gName 13))
  (tCut (tIfS (tAnd (tTest (tOp rEq (tOp rModI (tCall (sp_law_cell K a) [] E0 (tCons (tVar 0) (tCons (tC (.int 3)) tNil))) (tC (.int 4))) (tC (.int 1)))) (tTest (tOp rGtI (tVar 13) (tC (.int 0))))) (tSeq (tAsg (tOp (rIxL K) (tVar 8) (tOp rModI (tOp rDivI (tCall (sp_law_cell K a) [] E0 (tCons (tVar 0) (tCons (tC (.int 3)) tNil))) (tC (.int 4))) (tVar 13))) (gName 7))
  (tSeq (tDrop (tMeth a.B "write" (sp_Book_write K a) [] E0 (tVar 10) (tCons (tVar 7) (tCons (tOp rAddI (tDGet (tVar 3) (tVar 7)) (tC (.int 1))) tNil))))
  (tAsg (tLst (tCons (tTup (tCons (tVar 7) (tCons (tDGet (tVar 3) (tVar 7)) (tCons (tOp rAddI (tDGet (tVar 3) (tVar 7)) (tC (.int 1))) tNil)))) tNil)) (gName 12)))) tNext)
  (tCut (tIfS (tAnd (tTest (tOp rEq (tOp rModI (tCall (sp_law_cell K a) [] E0 (tCons (tVar 0) (tCons (tC (.int 3)) tNil))) (tC (.int 4))) (tC (.int 2)))) (tTest (tOp rGtI (tVar 13) (tC (.int 0))))) (tSeq (tAsg (tOp (rIxL K) (tVar 8) (tOp rModI (tOp rDivI (tCall (sp_law_cell K a) [] E0 (tCons (tVar 0) (tCons (tC (.int 3)) tNil))) (tC (.int 4))) (tVar 13))) (gName 7))
  (tSeq (tDrop (tMeth a.B "drop" (sp_Book_drop K a) [] E0 (tVar 10) (tCons (tVar 7) tNil)))
  (tSeq (tAsg (tLst (tCons (tTup (tCons (tVar 7) (tCons (tDGet (tVar 3) (tVar 7)) (tCons (tC .non) tNil)))) tNil)) (gName 12))
  (tAsg (tOp rSubI (tVar 13) (tC (.int 1))) (gName 13))))) tNext)
  (tSeq (tIfS (tOr (tTest (tOp rNe (tCB (rLenL K) (tCons (tMeth a.B "layout" (sp_Book_layout K a) [] E0 (tVar 4) tNil) tNil)) (tCall (sp_law_size K a) [] E0 (tCons (tCB (rLenL K) (tCons (tVar 8) tNil)) tNil)))) (tTest (tOp rNe (tCB (rLenL K) (tCons (tMeth a.B "layout" (sp_Book_layout K a) [] E0 (tVar 10) tNil) tNil)) (tCall (sp_law_size K a) [] E0 (tCons (tVar 13) tNil))))) (tRet (tC (.bl false))) tNext)
  (tSeq (tIfS (tAnd (tTest (tOp rGtI (tVar 1) (tC (.int 0)))) (tTest (tOp rNe (tOp (rEqD K) (tMeth a.B "layout" (sp_Book_layout K a) [] E0 (tVar 4) tNil) (tMeth a.B "layout" (sp_Book_layout K a) [] E0 (tVar 10) tNil)) (tOp (rEqD K) (tVar 12) (tLst tNil))))) (tRet (tC (.bl false))) tNext)
  (tSeq (tIfS (tOr (tAnd (tTest (tOp rEq (tVar 13) (tCB (rLenL K) (tCons (tVar 8) tNil)))) (tTest (tOp (rNeD K) (tCall (sp_law_taken11 K a) [] E0 (tCons (tVar 4) tNil)) (tCall (sp_law_taken11 K a) [] E0 (tCons (tVar 10) tNil))))) (tTest (tOp (rNeD K) (tCall (sp_changes K a) [] E0 (tCons (tVar 4) (tCons (tVar 10) tNil))) (tVar 12)))) (tRet (tC (.bl false))) tNext)
  (tRet (tAndV (tCall (sp_law_truth K a) [] E0 (tCons (tCall (sp_alike K a) [] E0 (tCons (tVar 4) (tCons (tVar 10) tNil))) (tCons (tOp (rEqD K) (tVar 12) (tLst tNil)) tNil))) (tCall (sp_law_truth K a) [] E0 (tCons (tCall (sp_alike K a) [] E0 (tCons (tVar 10) (tCons (tVar 4) tNil))) (tCons (tOp (rEqD K) (tVar 12) (tLst tNil)) tNil))))))))))))))))))))))))
/-! ### layouts of books, as data -/
def layW (W : Tab) (row : Row) : List (Option (Nat × Int)) := row.map fun o => o.map fun c => (c, (valW W c).getD 0)
def dL : Option (Nat × Int) → PyData
  | none => .none
  | some x => .tuple [.int (x.1 : Int), .int x.2]
theorem eqv_dL (x y : Option (Nat × Int)) : PyData.eqv (dL x) (dL y) = decide (x = y) := by
  cases x with
  | none => cases y <;> simp [dL, PyData.eqv]
  | some x =>
    cases y with
    | none => simp [dL, PyData.eqv]
    | some y =>
      obtain ⟨x1, x2⟩ := x
      obtain ⟨y1, y2⟩ := y
      show PyData.eqv (.tuple [.int (x1 : Int), dI x2]) (.tuple [.int (y1 : Int), dI y2]) = _
      rw [PyData.eqv, PyData.eqvAll, PyData.eqvAll, PyData.eqvAll, eqv_int, eqv_dI]
      by_cases h1 : x1 = y1 <;> by_cases h2 : x2 = y2 <;> simp [h1, h2]
theorem lay_dL (x : Option (Nat × Int)) : (dL x).canLay0 = true ∧ (dL x).depth ≤ 5 := by
  cases x with
  | none => exact ⟨rfl, Nat.zero_le _⟩
  | some x => exact ⟨rfl, (by decide : max 0 (max 0 0) + 1 ≤ 5)⟩
theorem layW_get {W : Tab} {row : Row} {s : Nat} : (layW W row)[s]? = row[s]?.map fun o => o.map fun c => (c, (valW W c).getD 0) := by
  unfold layW
  rw [List.getElem?_map]
theorem lay_diff {W1 W2 : Tab} {row1 row2 : Row} {c : Nat} (h : layW W1 row1 = layW W2 row2) (hc : c ∈ names row1) (h1 : ∀ c, c ∈ names row1 → c ∈ keysW W1) (h2 : ∀ c, c ∈ names row2 → c ∈ keysW W2) : valW W1 c = valW W2 c := by
  obtain ⟨s, hs⟩ := mem_names.mp hc
  have e1 := layW_get (W := W1) (row := row1) (s := s)
  rw [hs, h, layW_get] at e1
  obtain ⟨z1, hz1⟩ := val_in (h1 c hc)
  cases h3 : row2[s]? with
  | none => rw [h3] at e1; cases e1
  | some o =>
    rw [h3] at e1
    have e1 := Option.some.inj e1
    cases o with
    | none => cases e1
    | some c' =>
      have e1 := Option.some.inj e1
      have e2 : c' = c := congrArg Prod.fst e1
      have e3 : (valW W2 c').getD 0 = (valW W1 c).getD 0 := congrArg Prod.snd e1
      subst e2
      obtain ⟨z2, hz2⟩ := val_in (h2 c' (mem_names.mpr ⟨s, h3⟩))
      rw [hz1, hz2] at e3 ⊢
      have : z2 = z1 := e3
      rw [this]
theorem lay_same {W1 W2 : Tab} {row : Row} (h : ∀ c, valW W1 c = valW W2 c) : layW W1 row = layW W2 row := by
  unfold layW
  exact List.map_congr_left fun o _ => by
    cases o with
    | none => rfl
    | some c => show some (c, (valW W1 c).getD 0) = some (c, (valW W2 c).getD 0); rw [h]
theorem keys_put_mem {W : Tab} {c j : Nat} {z : Int} : j ∈ keysW (putW W c z) ↔ j = c ∨ j ∈ keysW W := by
  rw [key_val, val_put, key_val]
  by_cases h : j = c
  · rw [if_pos h]; simp [h]
  · rw [if_neg h]; simp [h]
section
variable {K : PySem.W.Frag} {a : Ad} {M H H' H1 H2 H3 : Hp} {σ : L2.St} {D : Ends} {tz : TS} {b p d r b1 p1 d1 r1 b2 p2 d2 r2 g w v l m : Addr} {rule rule1 rule2 c s k n i j : Nat} {row row1 row2 : Row} {W W1 W2 : Tab} {z : Int} {ta tc td ty tv tb tn tl ti tw t1 t2 te : TE} {Q : VK} {E : XK} {t : TT} {vs : List Nat}
theorem dp_lay : ∀ {xs : List V} {row : Row}, Lay H W xs row → DpAll K H xs ((layW W row).map dL)
  | [], [], _ => .nil
  | x :: xs, none :: row, h => by obtain ⟨rfl, h2⟩ := h; exact .cons .non (dp_lay h2)
  | x :: xs, some c :: row, h => by
    obtain ⟨⟨t, z, rfl, ht, hz⟩, h2⟩ := h
    show DpAll K H (.ref t :: xs) (.tuple [.int (c : Int), .int ((valW W c).getD 0)] :: (layW W row).map dL)
    rw [hz]
    exact .cons (.tup (SqT.of ht) (.cons (.int _) (.cons (.int _) .nil))) (dp_lay h2)
theorem w_layout (B : BR a H b p d r rule row W) (hb : Ev tb σ H (.ref b)) (k : ∀ l xs H1, H l = none → Ex H H1 → H1 l = some (.lst xs) → Lay H1 W xs row → Q (.ref l) H1) : tMeth a.B "layout" (sp_Book_layout K a) [] E tb tNil σ H Q :=
  w_bm hb B.B f_layout.1 f_layout.2 ea_nil fun H1 e1 => ⟨b, p, d, r, rule, row, W, rfl, (B.ex e1).toBQ, fun c hc => B.mem.mp hc, fun l xs H2 hl e2 h2 L => k l xs H2 (fresh_back e1 hl) (e1.trans e2) h2 L⟩
theorem ev_lenLay (B : BR a H b p d r rule row W) (hb : Ev tb σ H (.ref b)) : Ev (tCB (rLenL K) (tCons (tMeth a.B "layout" (sp_Book_layout K a) [] E tb tNil) tNil)) σ H (nV (sizeN W.length)) := fun H1 e Q q =>
  w_layout (Q := fun x H2 => rLenL K [x] H2 Q) (B.ex e) (hb.mono e) fun l xs H2 hl e2 h2 L => ⟨l, xs, rfl, Or.inl (SqL.of h2), by
    rw [L.len, B.len]
    exact q H2 e2⟩
theorem ev_eqLay (B1 : BR a H b1 p1 d1 r1 rule1 row1 W1) (B2 : BR a H b2 p2 d2 r2 rule2 row2 W2) (h1 : Ev t1 σ H (.ref b1)) (h2 : Ev t2 σ H (.ref b2)) : Ev (tOp (rEqD K) (tMeth a.B "layout" (sp_Book_layout K a) [] E t1 tNil) (tMeth a.B "layout" (sp_Book_layout K a) [] E t2 tNil)) σ H (.bl (decide (layW W1 row1 = layW W2 row2))) := fun H1 e Q q =>
  w_layout (Q := fun x H2 => tMeth a.B "layout" (sp_Book_layout K a) [] E t2 tNil σ H2 fun y H3 => rEqD K x y H3 Q) (B1.ex e) (h1.mono e) fun l xs H2 hl e2 hx L =>
    w_layout (Q := fun y H3 => rEqD K (.ref l) y H3 Q) (B2.ex (e.trans e2)) (h2.mono (e.trans e2)) fun m ys H3 hm e3 hy L2 => ⟨_, _, .lst (SqL.of (e3 _ _ hx)) (dp_lay (L.ex e3)), .lst (SqL.of hy) (dp_lay L2), shaped_list lay_dL _, shaped_list lay_dL _, by
      rw [PyData.eqv, eqv_all eqv_dL]
      exact q H3 (e2.trans e3)⟩
theorem w_lcOf (h : tl σ H fun x H1 => tLc (iList K (tC x)) (gName j) t te vs σ H1 Q) : tLc (iList K tl) (gName j) t te vs σ H Q := h
theorem r_law_taken11 (vs : List V) (H : Hp) (Q : VK) (E : XK) (h : sp_law_taken11 K a vs H Q E) : Go (t_law_taken11 K a E) N_law_taken11 vs H Q := by
  obtain ⟨b, p, d, r, rule, row, W, rfl, B, k⟩ := h
  have hle := B.Y.le
  refine w_lcOf (Q := fun x H1 => Q x H1) ?_
  refine w_layout (Q := fun x H1 => tLc (iList K (tC x)) (gName 1) tYes (tNotN (tVar 1)) [1] [some (.ref b), none] H1 fun x H1 => Q x H1) B (ev_var rfl) fun l xs H2 hl e2 h2 L => ?_
  have hxl := L.len
  refine el_lcL (K := K) (te := tNotN (tVar 1)) (t := tYes) (vs := [1]) (j := 1) (σ := [some (.ref b), none]) (H := H2) (fun i => true) (fun i => .bl (row.getD i none).isSome) (ev_c (v := .ref l)) (SqL.of h2) (by omega) (fun x => rfl) (fun i x H1 e1 hi => fun H2 e2 Q q => q H2 (Ex.refl H2)) (fun i x H1 e1 hi hf => ?_) H2 (Ex.refl H2) _ fun q H3 hq e3 h3 => ?_
  · have hil : i < row.length := by have := (List.getElem?_eq_some_iff.mp hi).1; omega
    have ho := List.getElem?_eq_getElem hil
    have hg : row.getD i none = row[i] := by rw [List.getD_eq_getElem?_getD, ho]; rfl
    rw [hg]
    rcases L.at_ hi ho with ⟨q, rfl⟩ | ⟨c, t, z, q, rfl, _, _⟩
    · rw [q]; exact bl_is (ev_notN (ev_var (v := .non) rfl)) rfl
    · rw [q]; exact bl_is (ev_notN (ev_var (v := .ref t) rfl)) rfl
  · refine k q H3 (fresh_back e2 hq) (e2.trans e3) ?_
    have hgiv : given row.length (fun _ => true) (fun i => V.bl (row.getD i none).isSome) = (row.map (·.isSome)).map V.bl := by
      have := given_opt (α := Option Nat) (fun o => some o.isSome) V.bl row (fun i => true) (fun i => V.bl (row.getD i none).isSome) (fun i x hi => ⟨rfl, fun y hy => by
        have : row.getD i none = x := by rw [List.getD_eq_getElem?_getD, hi]; rfl
        rw [this, Option.some.inj hy]⟩)
      rw [this]
      congr 1
      exact congrFun List.filterMap_eq_map' row
    rw [h3, hxl, hgiv]
theorem el_taken (B : BR a H b p d r rule row W) (hb : Ev tb σ H (.ref b)) : EvL (tCall (sp_law_taken11 K a) [] E0 (tCons tb tNil)) σ H ((row.map (·.isSome)).map V.bl) :=
  el_callE (ea_cons hb ea_nil) fun H1 e1 Q q E => ⟨b, p, d, r, rule, row, W, rfl, B.ex e1, q⟩
theorem Bg.nd (T : Bg a M H b d g rule W) : (keysW W).Nodup := let ⟨_, _, _, _, _, B⟩ := T.bk; B.nd
theorem Bk.nd (T : Bk a M H b d rule W) : (keysW W).Nodup := let ⟨_, _, _, _, B⟩ := T.bk; B.nd
theorem lst_nins {xs : List V} (h : H g = some (.lst xs)) : ∀ C dx fs, H g ≠ some (.ins C dx fs) := fun C dx fs z => by rw [h] at z; cases z
theorem r_law_other_way11 (vs : List V) (H : Hp) (Q : VK) (E : XK) (h : sp_law_other_way11 K a vs H Q E) : Go (t_law_other_way11 K a E) N_law_other_way11 vs H Q := by
  obtain ⟨M, b, d, l1, v, l2, rule, W, ms, st, cell, rfl, T, m1, mv, m2, ndm, nds, dj, hin, hlen, k⟩ := h
  refine q_asgL (el_lst ea_nil (by decide)) fun g H1 hg e1 hg1 => ?_
  have T1 := T.withG hg e1
  let St0 : Int → Option V → Option V → L2.St := fun z v6 v7 => [some (.ref b), some (.ref l1), some (.ref v), some (.ref l2), some (.int z), some (.ref g), v6, v7, none]
  refine q_forE (ev_var rfl) (fun i σ' H' => ∃ (Wt : Tab) (acc : List Nat) (z : Int) (v6 v7 : Option V), Bg a M H' b d g rule Wt ∧ H' g = some (.lst (acc.map nV)) ∧ acc.Nodup ∧ (∀ c, c ∈ acc → c ∈ st.take i) ∧ (∀ c, c ∈ keysW Wt ↔ c ∈ ms.take i ∨ c ∈ acc) ∧ (∀ c, c ∈ ms.take i → valW Wt c = valW W c) ∧ σ' = St0 z v6 v7) (fun H2 e2 => ⟨[], [], cell, none, none, T1.ex e2, e2 _ _ hg1, List.nodup_nil, fun c hc => (by cases hc), fun c => (by simp [keysW]), fun c hc => (by simp at hc), rfl⟩) (SqL.of (T1.e _ _ m1)) (fun i σ' H' _ ⟨Wt, acc, z, v6, v7, T, _⟩ => SqL.of (T.e _ _ m1)) (fun i x σ' H' H2 hi ⟨Wt, acc, z, v6, v7, T, hga, nd, hsub, hk, hval, hσ⟩ e2 => ?_) (fun σ' H' ⟨Wt, acc, z, v6, v7, T, hga, nd, hsub, hk, hval, hσ⟩ => ?_)
  · subst hσ
    obtain ⟨c, hc, rfl⟩ := nats_get hi
    have hil := (List.getElem?_eq_some_iff.mp hc).1
    have hcm := List.mem_of_getElem? hc
    have hct : c ∉ ms.take i := fun z => by
      rw [take_mid hc] at ndm
      exact (List.nodup_append.mp ndm).2.2 c z c (List.mem_cons_self ..) rfl
    obtain ⟨zc, hzc⟩ := val_in (hin c hcm)
    refine q_asg (ev_lcg (ev_var rfl)) fun H3 e3 => ?_
    generalize (z * 48271 + 11) % 2147483647 = z2
    have T := T.ex (e2.trans e3)
    have hga := (e2.trans e3) _ _ hga
    let Md : Nat → L2.St → Hp → Prop := fun t σ' H' => ∃ (Wt : Tab) (acc : List Nat), Bg a M H' b d g rule Wt ∧ H' g = some (.lst (acc.map nV)) ∧ acc.Nodup ∧ (∀ c, c ∈ acc → c ∈ st.take t) ∧ (∀ e, e ∈ keysW Wt → e ∈ ms.take i ∨ e ∈ acc ∨ e = c) ∧ (∀ e, e ∈ ms.take i ∨ e ∈ acc → e ∈ keysW Wt) ∧ (∀ e, e ∈ ms.take i → valW Wt e = valW W e) ∧ σ' = St0 z2 (some (nV i)) (some (nV c))
    have hmono : ∀ c, c ∈ st.take i → c ∈ st.take (i + 1) := fun c h => (List.take_subset_take_left st (Nat.le_succ i)) h
    have small : ∀ (Wt : Tab) (acc : List Nat) (t : Nat), (keysW Wt).Nodup → (∀ c, c ∈ acc → c ∈ st.take t) → (∀ e, e ∈ keysW Wt → e ∈ ms.take i ∨ e ∈ acc ∨ e = c) → Wt.length < 96 := fun Wt acc t n1 h1 h2 => by
      have := len_sub (l := keysW Wt) (m := ms ++ st) n1 fun e he => by
        rcases h2 e he with q | q | q
        · exact List.mem_append_left _ (List.mem_of_mem_take q)
        · exact List.mem_append_right _ (List.mem_of_mem_take (h1 e q))
        · exact List.mem_append_left _ (q ▸ hcm)
      rw [keys_len, List.length_append] at this
      omega
    have hk1 : ∀ e, e ∈ keysW Wt → e ∈ ms.take i ∨ e ∈ acc ∨ e = c := fun e he => ((hk e).mp he).imp id .inl
    have hk2 : ∀ e, e ∈ ms.take i ∨ e ∈ acc → e ∈ keysW Wt := fun e he => (hk e).mpr he
    refine q_cut (M := Md (i + 1)) ?_ fun σ4 H4 ⟨W4, acc4, T4, hg4, nd4, hsub4, hk4, hk4', hval4, hσ⟩ => ?_
    · refine s_when (et_test (ev_op (ev_var rfl) (ev_lenN' (ev_var rfl) (T.e _ _ m2)) rv_lt)) (fun hb H4 e4 => ?_) (fun hb H4 e4 => ⟨Wt, acc, T.ex e4, e4 _ _ hga, nd, fun c h => hmono c (hsub c h), hk1, hk2, hval, rfl⟩)
      have his : i < st.length := by have := of_decide_eq_true hb; omega
      have hd := List.getElem?_eq_getElem his
      generalize st[i] = e at hd
      have hdm := List.mem_of_getElem? hd
      have hdn : e ∉ st.take i := fun z => by
        have hsp := take_mid hd
        rw [hsp] at nds
        exact (List.nodup_append.mp nds).2.2 e z e (List.mem_cons_self ..) rfl
      have T4 := T.ex e4
      have evd : ∀ {H'}, Ex M H' → Ev (tOp (rIxL K) (tVar 3) (tVar 6)) (St0 z2 (some (nV i)) (some (nV c))) H' (nV e) := fun {H'} ex => ev_op (ev_var rfl) (ev_var rfl) (rv_ixL (SqL.of (ex _ _ m2)) (atI_nat (by rw [List.getElem?_map, hd]; rfl)))
      refine w_bwriteG (Q := fun _ H5 => _) (z := (i : Int)) T4 (e4 _ _ hga) (ev_var rfl) (evd T4.e) (ev_var rfl) (.inr (small Wt acc i T.nd hsub hk1)) fun H5 T5 hg5 => ?_
      refine s_app (v := nV e) hg5 (ev_var rfl) (evd T5.e) (by rw [List.length_map]; have := len_sub nd (fun c hc => List.mem_of_mem_take (hsub c hc)); omega) fun H6 e6 => ⟨_, acc ++ [e], (T5.ex e6).stay (lst_nins (e6 _ _ hg5)) But.upd, by rw [upd_same, List.map_append]; rfl, ?_, fun c hc => ?_, fun x hx => ?_, fun x hx => ?_, fun x hx => ?_, rfl⟩
      · rw [List.nodup_append]
        refine ⟨nd, by simp, fun x hx y hy q => ?_⟩
        simp at hy
        subst hy
        exact hdn (hsub _ (q ▸ hx))
      · rcases List.mem_append.mp hc with q | q
        · exact hmono c (hsub c q)
        · simp at q
          subst q
          rw [take_next hd]; simp
      · rcases keys_put_mem.mp hx with q | q
        · exact .inr (.inl (by rw [q]; simp))
        · rcases hk1 x q with q | q | q
          · exact .inl q
          · exact .inr (.inl (List.mem_append_left _ q))
          · exact .inr (.inr q)
      · rw [keys_put_mem]
        rcases hx with q | q
        · exact .inr (hk2 x (.inl q))
        · rcases List.mem_append.mp q with q | q
          · exact .inr (hk2 x (.inr q))
          · exact .inl (by simpa using q)
      · rw [val_put, if_neg (show ¬ x = e from fun q => dj e hdm (q ▸ List.mem_of_mem_take hx))]
        exact hval x hx
    subst hσ
    refine q_cut (M := Md (i + 1)) ?_ fun σ5 H5 ⟨W5, acc5, T5, hg5, nd5, hsub5, hk5, hk5', hval5, hσ⟩ => ?_
    · refine s_when (et_test (ev_op (ev_op (ev_var rfl) ev_c (rv_mod (by decide))) ev_c rv_eqI)) (fun hb H5 e5 => ?_) (fun hb H5 e5 => ⟨W4, acc4, T4.ex e5, e5 _ _ hg4, nd4, hsub4, hk4, hk4', hval4, rfl⟩)
      refine w_bwriteG (Q := fun _ H5 => _) (z := z2) (T4.ex e5) (e5 _ _ hg4) (ev_var rfl) (ev_var rfl) (ev_var rfl) (.inr (small W4 acc4 (i + 1) T4.nd hsub4 hk4)) fun H6 T6 hg6 => ⟨_, acc4, T6, hg6, nd4, hsub4, fun x hx => ?_, fun x hx => ?_, fun x hx => ?_, rfl⟩
      · rcases keys_put_mem.mp hx with q | q
        · exact .inr (.inr q)
        · exact hk4 x q
      · exact keys_put_mem.mpr (.inr (hk4' x hx))
      · rw [val_put, if_neg (show ¬ x = c from fun q => hct (q ▸ hx))]
        exact hval4 x hx
    subst hσ
    refine q_cut (M := Md (i + 1)) ?_ fun σ6 H6 ⟨W6, acc6, T6, hg6, nd6, hsub6, hk6, hk6', hval6, hσ⟩ => ?_
    · refine s_when (et_and (et_neNil (ev_var rfl) hg5) fun _ => et_test (ev_op (ev_op (ev_var rfl) ev_c (rv_mod (by decide))) ev_c rv_eqI)) (fun hb H6 e6 => ?_) (fun hb H6 e6 => ⟨W5, acc5, T5.ex e6, e6 _ _ hg5, nd5, hsub5, hk5, hk5', hval5, rfl⟩)
      have h0 : 0 < acc5.length := by cases acc5 with | nil => simp at hb | cons x r => exact Nat.succ_pos _
      have hj := idx_lt (z2 / 3) h0
      have hgj := List.getElem?_eq_getElem hj
      generalize hjj : (z2 / 3 % (acc5.length : Int)).toNat = jj at *
      generalize acc5[jj] = e at hgj
      have hem := List.mem_of_getElem? hgj
      have hest := List.mem_of_mem_take (hsub5 e hem)
      have hep := erase_perm hgj
      have hnd := hep.nodup_iff.mpr nd5
      have evi := ev_idx (K := K) (σ := St0 z2 (some (nV i)) (some (nV c))) (H := H6) (tc := tOp rDivI (tVar 4) (tC (.int 3))) (tl := tVar 5) (z := z2 / 3) (ev_op (ev_var rfl) ev_c (rv_div (by decide))) (ev_var rfl) (e6 _ _ hg5) h0
      rw [hjj] at evi
      have hl5 : acc5.length ≤ 100000 := by have := len_sub nd5 (fun c hc => List.mem_of_mem_take (hsub5 c hc)); omega
      refine s_bdropPop (T5.ex e6) (ev_var rfl) (ev_var rfl) (e6 _ _ hg5) evi hgj hl5 (hk5' e (.inr hem)) fun H7 T7 hg7 => ⟨_, _, T7, hg7, (List.nodup_cons.mp hnd).2, fun x hx => hsub5 x (hep.mem_iff.mp (List.mem_cons_of_mem _ hx)), fun x hx => ?_, fun x hx => ?_, fun x hx => ?_, rfl⟩
      · obtain ⟨q1, q2⟩ := keys_drop_mem.mp hx
        rcases hk5 x q1 with q | q | q
        · exact .inl q
        · exact .inr (.inl ((List.mem_cons.mp (hep.mem_iff.mpr q)).resolve_left q2))
        · exact .inr (.inr q)
      · refine keys_drop_mem.mpr ?_
        rcases hx with q | q
        · exact ⟨hk5' x (.inl q), fun z => dj e hest (z ▸ List.mem_of_mem_take q)⟩
        · exact ⟨hk5' x (.inr (hep.mem_iff.mp (List.mem_cons_of_mem _ q))), fun z => (List.nodup_cons.mp hnd).1 (z ▸ q)⟩
      · rw [val_drop, if_neg (show ¬ x = e from fun z => dj e hest (z ▸ List.mem_of_mem_take hx))]
        exact hval5 x hx
    subst hσ
    refine w_bwriteG (Q := fun _ H7 => _) (z := zc) T6 hg6 (ev_var rfl) (ev_var rfl) (ev_dGet (ev_var rfl) (ev_var rfl) (mv.ex T6.e) hzc) (.inr (small W6 acc6 (i + 1) T6.nd hsub6 hk6)) fun H7 T7 hg7 => ⟨_, acc6, z2, _, _, T7, hg7, nd6, hsub6, fun x => ?_, fun x hx => ?_, rfl⟩
    · rw [keys_put_mem, take_next hc, List.mem_append, List.mem_singleton]
      constructor
      · rintro (q | q)
        · exact .inl (.inr q)
        · rcases hk6 x q with q | q | q
          · exact .inl (.inl q)
          · exact .inr q
          · exact .inl (.inr q)
      · rintro ((q | q) | q)
        · exact .inr (hk6' x (.inl q))
        · exact .inl q
        · exact .inr (hk6' x (.inr q))
    · rw [take_next hc, List.mem_append, List.mem_singleton] at hx
      rw [val_put]
      by_cases q : x = c
      · rw [if_pos q, q, hzc]
      · rw [if_neg q]
        exact hval6 x (hx.resolve_right q)
  · subst hσ
    rw [List.length_map, List.take_length] at hk hval
    refine s_bdropAll T (ev_var rfl) hga nd (fun c hc => (hk c).mpr (.inr hc)) (Nat.le_of_ble_eq_true rfl) (fun _ _ => ev_var rfl) fun W' v' H2 T2 hv2 => k W' H2 T2 fun c => ?_
    rw [hv2]
    by_cases q : c ∈ ms
    · rw [if_pos q, if_neg (fun z => dj c (List.mem_of_mem_take (hsub c z)) q)]
      exact hval c q
    · rw [if_neg q]
      by_cases q2 : c ∈ acc
      · rw [if_pos q2]
      · rw [if_neg q2]
        exact val_no fun z => ((hk c).mp z).elim q q2
/-! ### the law -/
theorem Bk.toG {M0 : Hp} {o : HO} (T : Bk a M H b d rule W) (hg : M g = some o) (e : Ex M0 M) (mg : M0 g = none) : Bg a M0 H b d g rule W := by
  obtain ⟨p, r, row, h1, B⟩ := T.bk
  exact ⟨e.trans T.e, fresh_back e T.mb, fresh_back e T.md, mg, (ne_some hg T.mb).symm, (ne_some hg T.md).symm, p, r, row, fresh_back e h1, (ne_some hg h1).symm, B⟩
theorem q_asgP {te : TE} {i : Nat} {P : List Nat → Prop} (h : EvP te σ H P) (k : ∀ ms, P ms → ∀ p H1, H p = none → Ex H H1 → H1 p = some (.lst (ms.map nV)) → tz D (σ.set i (some (.ref p))) H1) : tSeq (tAsg te (gName i)) tz D σ H :=
  h H (Ex.refl H) _ fun ms hP p H1 hp e h1 => k ms hP p H1 hp e h1
theorem q_asgLU {te : TE} {i : Nat} {ys : List V} (h : EvU te σ H ys) (k : ∀ t l H1, H l = none → Ex H H1 → H1 t = some (.tup ys) → H1 l = some (.lst [.ref t]) → tz D (σ.set i (some (.ref l))) H1) : tSeq (tAsg (tLst (tCons te tNil)) (gName i)) tz D σ H :=
  h H (Ex.refl H) _ fun t H1 ht e1 h1 => ⟨sz_of (by show 1 ≤ 100000; decide), fun l hl => k t l _ (fresh_back e1 hl) (e1.trans (Ex.new hl)) ((Ex.new hl) _ _ h1) upd_same⟩
theorem s_asgLU {te : TE} {i : Nat} {ys : List V} (h : EvU te σ H ys) (k : ∀ t l H1, H l = none → Ex H H1 → H1 t = some (.tup ys) → H1 l = some (.lst [.ref t]) → D.nx (σ.set i (some (.ref l))) H1) : tAsg (tLst (tCons te tNil)) (gName i) D σ H :=
  h H (Ex.refl H) _ fun t H1 ht e1 h1 => ⟨sz_of (by show 1 ≤ 100000; decide), fun l hl => k t l _ (fresh_back e1 hl) (e1.trans (Ex.new hl)) ((Ex.new hl) _ _ h1) upd_same⟩
/-- what the second book is to the first, and what is due -/
structure Fine (W W2 : Tab) (due : List Dif) (cnt : Nat) : Prop where
  dif : difs W W2 = due
  sub : ∀ c, c ∈ keysW W2 → c ∈ keysW W
  num : W2.length = cnt
  all : cnt = W.length → ∀ c, c ∈ keysW W → c ∈ keysW W2
  one : due ≠ [] → ∃ c, c ∈ keysW W ∧ valW W c ≠ valW W2 c
theorem len_alike {W W2 : Tab} (n1 : (keysW W).Nodup) (n2 : (keysW W2).Nodup) (h : ∀ c, c ∈ keysW W2 ↔ c ∈ keysW W) : W2.length = W.length := by
  have := (nodup_len n2 n1 h).length_eq
  rw [keys_len, keys_len] at this
  exact this
theorem Fine.same {W W2 : Tab} (n1 : (keysW W).Nodup) (n2 : (keysW W2).Nodup) (h : ∀ c, valW W2 c = valW W c) : Fine W W2 [] W.length :=
  ⟨difs_nil.mpr fun c => (h c).symm, fun c hc => (key_alike h).mp hc, len_alike n1 n2 fun c => key_alike h, fun _ c hc => (key_alike h).mpr hc, fun z => absurd rfl z⟩
theorem Fine.turned {W W2 : Tab} {c : Nat} {z : Int} (n1 : (keysW W).Nodup) (n2 : (keysW W2).Nodup) (h : ∀ c, valW W2 c = valW W c) (hz : valW W c = some z) : Fine W (putW W2 c (z + 1)) [(c, some z, some (z + 1))] W.length := by
  have hc : c ∈ keysW W := by rw [key_val, hz]; rfl
  have hv : valW (putW W2 c (z + 1)) c = some (z + 1) := by rw [val_put, if_pos rfl]
  have hne : valW W c ≠ valW (putW W2 c (z + 1)) c := by
    rw [hz, hv]
    intro q
    have := Option.some.inj q
    omega
  have hk : ∀ e, e ∈ keysW (putW W2 c (z + 1)) ↔ e ∈ keysW W := fun e => by
    rw [keys_put_mem, key_alike h]
    exact ⟨fun q => q.elim (fun q => q ▸ hc) id, .inr⟩
  refine ⟨?_, fun e he => (hk e).mp he, len_alike n1 (put_nd c _ n2) hk, fun _ e he => (hk e).mpr he, fun _ => ⟨c, hc, hne⟩⟩
  rw [difs_one n1 (put_nd c _ n2) (fun j hj => by rw [val_put, if_neg hj, h]) hne, hz, hv]
theorem Fine.dropped {W W2 : Tab} {c : Nat} {z : Int} (n1 : (keysW W).Nodup) (n2 : (keysW W2).Nodup) (h : ∀ c, valW W2 c = valW W c) (hz : valW W c = some z) : Fine W (dropW W2 c) [(c, some z, none)] (W.length - 1) := by
  have hc : c ∈ keysW W := by rw [key_val, hz]; rfl
  have hv : valW (dropW W2 c) c = none := by rw [val_drop, if_pos rfl]
  have hne : valW W c ≠ valW (dropW W2 c) c := by rw [hz, hv]; nofun
  have hl := drop_len n2 ((key_alike h).mpr hc)
  have hl2 := len_alike n1 n2 fun c => key_alike h
  refine ⟨?_, fun e he => (key_alike h).mp (keys_drop_mem.mp he).1, by omega, fun q => by omega, fun _ => ⟨c, hc, hne⟩⟩
  rw [difs_one n1 (drop_nd c n2) (fun j hj => by rw [val_drop, if_neg hj, h]) hne, hz, hv]
theorem Fine.few {W W2 : Tab} {due : List Dif} {cnt : Nat} (F : Fine W W2 due cnt) (n1 : (keysW W).Nodup) (n2 : (keysW W2).Nodup) : (allK W W2).length ≤ W.length ∧ (allK W2 W).length ≤ W.length := by
  have h1 := len_sub (allK_nd n1 n2) (m := keysW W) fun c hc => (allK_mem.mp hc).elim id (F.sub c)
  have h2 := len_sub (allK_nd n2 n1) (m := keysW W) fun c hc => (allK_mem.mp hc).elim (F.sub c) id
  rw [keys_len] at h1 h2
  exact ⟨h1, h2⟩
theorem Fine.perm {W W2 : Tab} {due : List Dif} {cnt : Nat} (F : Fine W W2 due cnt) (n1 : (keysW W).Nodup) (n2 : (keysW W2).Nodup) (h : cnt = W.length) : (keysW W).Perm (keysW W2) := nodup_len n1 n2 fun c => ⟨F.all h c, F.sub c⟩
theorem Fine.lay {H2 : Hp} {W W2 : Tab} {due : List Dif} {cnt : Nat} (F : Fine W W2 due cnt) (B1 : BR a H b1 p1 d1 r1 rule row1 W) (B2 : BR a H2 b2 p2 d2 r2 rule row2 W2) (hr : rule ≠ 0) : (layW W row1 = layW W2 row2 ↔ due = []) := by
  constructor
  · intro h
    by_cases q : due = []
    · exact q
    · obtain ⟨c, hc, hne⟩ := F.one q
      exact absurd (lay_diff h (B1.mem.mpr hc) (fun c hc => B1.mem.mp hc) (fun c hc => B2.mem.mp hc)) hne
  · intro q
    have hv := difs_nil.mp (F.dif.trans q)
    have hk : ∀ c, c ∈ keysW W ↔ c ∈ keysW W2 := fun c => by rw [key_val, key_val, hv]
    have hp := nodup_len B1.nd B2.nd hk
    have hl : W.length = W2.length := by rw [← keys_len, hp.length_eq, keys_len]
    have : row1 = row2 := same_row hr B1.ok B2.ok (by rw [B1.len, B2.len, hl]) (B1.perm.trans (hp.trans B2.perm.symm))
    rw [this]
    exact lay_same hv
theorem Fine.taken {H2 : Hp} {W W2 : Tab} {due : List Dif} {cnt : Nat} (F : Fine W W2 due cnt) (B1 : BR a H b1 p1 d1 r1 rule row1 W) (B2 : BR a H2 b2 p2 d2 r2 rule row2 W2) (h : cnt = W.length) : row1.map (·.isSome) = row2.map (·.isSome) := by
  have hp := F.perm B1.nd B2.nd h
  exact isSome_of (taken_alike B1.ok B2.ok (by rw [B1.len, B2.len, F.num, h]) (B1.perm.trans (hp.trans B2.perm.symm)))
theorem r_law_k11 (vs : List V) (H : Hp) (Q : VK) (E : XK) (h : sp_law_k11 K a vs H Q E) : Go (t_law_k11 K a E) N_law_k11 vs H Q := by
  obtain ⟨s, ns, rfl, hS, hlen, k⟩ := h
  have hS : Ints K H s ns := hS
  have hr2 := rule_le (cellAt ns 0)
  refine q_asg (ev_rule3 0 rfl (ev_var rfl) hS) fun H1 e1 => ?_
  generalize (cellAt ns 0 % 3).toNat = rule at *
  refine q_asg (v := .int 60) ev_c fun H2 e2 => ?_
  have e02 := e1.trans e2
  let St : Int → Option V → Option V → Option V → Option V → Option V → Option V → Option V → Option V → Option V → Option V → Option V → L2.St := fun bd v3 v4 v5 v6 v7 v8 v9 v10 v11 v12 v13 => [some (.ref s), some (nV rule), some (.int bd), v3, v4, v5, v6, v7, v8, v9, v10, v11, v12, v13]
  refine q_cut (M := fun σ' H' => Ex H2 H' ∧ ∃ bd : Int, 0 < bd ∧ σ' = St bd none none none none none none none none none none none) ?_ fun σ3 H3 ⟨e3, bd, hbd, hσ⟩ => ?_
  · exact s_when (et_test (ev_op (ev_op (ev_op (ev_cell 0 rfl (ev_var rfl) (hS.ex e02)) ev_c (rv_div (by decide))) ev_c (rv_mod (by decide))) ev_c rv_eqI)) (fun _ H6 e6 => s_asg (ev_op ev_c ev_c (rv_pow10 (j := 30) (by decide))) fun H7 e7 => ⟨e6.trans e7, _, by decide, rfl⟩) (fun _ H6 e6 => ⟨e6, 60, by decide, rfl⟩)
  subst hσ
  have e03 := e02.trans e3
  refine q_mkDict fun v H4 hv e4 V4 => ?_
  refine q_mkBook (ev_var rfl) fun b d H5 hb e5 T5 => ?_
  have T5 : Bg a H3 H5 b d v rule [] := T5.toG V4 e4 hv
  have V5 := V4.ex e5
  -- the first book
  refine s_forEL (el_sub 4 44 rfl rfl (ev_var rfl) (hS.ex (e03.trans (e4.trans e5)))) fun q H6 hq e6 hq6 => ?_
  obtain ⟨M6, eM6, T6, mq6⟩ := T5.withL V5 hq e6 hq6
  have V6 := V5.ex e6
  refine q_forE ev_c (fun i σ' H' => ∃ (W : Tab) (v5 v6 v7 : Option V), Bg a M6 H' b d v rule W ∧ TabAt H' v W ∧ W.length ≤ i ∧ σ' = St bd (some (.ref v)) (some (.ref b)) v5 v6 v7 none none none none none none) (fun H7 e7 => ⟨[], none, none, none, T6.ex e7, V6.ex e7, Nat.le_refl 0, rfl⟩) (SqL.of hq6) (fun i σ' H' _ ⟨W, v5, v6, v7, T, _⟩ => SqL.of (T.e _ _ mq6)) (fun i x σ' H' H7 hi ⟨W, v5, v6, v7, T, V, hW, hσ⟩ e7 => ?_) (fun σ7 H7 ⟨W, v5, v6, v7, T7, V7, hW, hσ⟩ => ?_)
  · subst hσ
    obtain ⟨cell, hcell, rfl⟩ : ∃ z, (subL ns 4 44)[i]? = some z ∧ x = .int z := by
      rw [List.getElem?_map] at hi
      cases q : (subL ns 4 44)[i]? with
      | none => rw [q] at hi; cases hi
      | some z => rw [q] at hi; exact ⟨z, rfl, (Option.some.inj hi).symm⟩
    have hi40 : i < 40 := by
      have h1 := (List.getElem?_eq_some_iff.mp hcell).1
      have h2 := subL_len ns 4 44
      omega
    have c0 := Int.emod_nonneg (cell / 3) (show bd ≠ 0 by omega)
    refine q_asg (v := nV (cell / 3 % bd).toNat) (ev_nat (ev_op (ev_op (ev_var rfl) ev_c (rv_div (by decide))) (ev_var rfl) (rv_mod hbd)) c0) fun H8 e8 => ?_
    generalize (cell / 3 % bd).toNat = c at *
    have T := T.ex (e7.trans e8)
    have V := V.ex (e7.trans e8)
    refine s_when (et_B (ev_dNotIn (ev_var rfl) (ev_var rfl) V)) (fun hb H9 e9 => ?_) (fun hb H9 e9 => ⟨W, _, _, _, T.ex e9, V.ex e9, by omega, rfl⟩)
    have hc : c ∉ keysW W := by simpa using hb
    have V9 := V.ex e9
    refine q_dPut (z := cell % 10 ^ 20 - 10 ^ 19 + (i : Int)) (ev_var rfl) (ev_var rfl) (ev_op (ev_op (ev_op (ev_var rfl) (ev_op ev_c ev_c (rv_pow10 (j := 20) (by decide))) (rv_mod (by decide))) (ev_op ev_c ev_c (rv_pow10 (j := 19) (by decide))) rv_sub) (ev_var rfl) rv_add) V9 (by omega) fun H10 b10 V10 => ?_
    generalize cell % 10 ^ 20 - 10 ^ 19 + (i : Int) = z at *
    have T10 := (T.ex e9).stay (tab_nins V9) b10
    refine w_bwriteG (Q := fun _ H11 => _) (z := z) T10 V10 (ev_var rfl) (ev_var rfl) (ev_dGet (ev_var rfl) (ev_var rfl) V10 (by rw [val_put, if_pos rfl])) (.inr (by omega)) fun H11 T11 V11 => ⟨_, _, _, _, T11, V11, ?_, rfl⟩
    have := put_len_le W c z
    omega
  subst hσ
  have hW40 : W.length ≤ 40 := by
    rw [List.length_map] at hW
    have := subL_len ns 4 44
    omega
  have ndW := T7.nd
  obtain ⟨p, r, row, _, _, B7⟩ := T7.bk
  have hS7 : Ints K H7 s ns := hS.ex ((e03.trans eM6).trans T7.e)
  clear T7 mq6
  -- names, strangers
  refine q_asgL (el_listD (ev_var rfl) V7) fun nm H8 hnm e8 hnm8 => ?_
  refine q_asgL (el_lst ea_nil (by decide)) fun sl H9 hsl e9 hsl9 => ?_
  have e79 := e8.trans e9
  have keep : ∀ {H'}, Ex H8 H' → TabAt H' v W ∧ Ints K H' s ns ∧ H' nm = some (.lst ((keysW W).map nV)) ∧ BR a H' b p d r rule row W := fun {H'} e => ⟨V7.ex (e8.trans e), hS7.ex (e8.trans e), e _ _ hnm8, B7.ex (e8.trans e)⟩
  refine q_forI (el_sub 44 63 rfl rfl (ev_var rfl) (keep e9).2.1) (fun q i σ' H' => ∃ (st : List Nat) (v6 : Option V), Ex H8 H' ∧ q ≠ sl ∧ H' q = some (.lst ((subL ns 44 63).map V.int)) ∧ H' sl = some (.lst (st.map nV)) ∧ st.Nodup ∧ st.length ≤ i ∧ (∀ c, c ∈ st → c ∉ keysW W) ∧ σ' = St bd (some (.ref v)) (some (.ref b)) v5 v6 v7 (some (.ref nm)) (some (.ref sl)) none none none none) (fun q H10 hq e10 hq10 => ⟨[], v6, e9.trans e10, (ne_some hsl9 hq).symm, hq10, e10 _ _ hsl9, List.nodup_nil, Nat.le_refl 0, fun c hc => (by cases hc), rfl⟩) (fun q i σ' H' ⟨st, v6, _, _, hq, _⟩ => hq) (fun q i cell σ' H' hi ⟨st, v6, e, nq, hq, hst, nd, hl, hdj, hσ⟩ => ?_) (fun q σ10 H10 ⟨st, v6, e10, _, _, hst10, nds, hlst, hdj, hσ⟩ => ?_)
  · subst hσ
    have hi19 : i < 19 := by
      have h1 := (List.getElem?_eq_some_iff.mp hi).1
      have h2 := subL_len ns 44 63
      omega
    have c0 := Int.emod_nonneg cell (show bd ≠ 0 by omega)
    have evn : ∀ {H'}, Ev (tOp rModI (tVar 6) (tVar 2)) (St bd (some (.ref v)) (some (.ref b)) v5 (some (.int cell)) v7 (some (.ref nm)) (some (.ref sl)) none none none none) H' (nV (cell % bd).toNat) := fun {H'} => ev_nat (ev_op (ev_var rfl) (ev_var rfl) (rv_mod hbd)) c0
    generalize (cell % bd).toNat = c at *
    refine s_when (et_and (et_B (ev_dNotIn evn (ev_var rfl) (keep e).1)) fun _ => et_test (ev_niNats evn (ev_var rfl) hst)) (fun hb H11 e11 => ?_) (fun hb H11 e11 => ⟨st, _, e.trans e11, nq, e11 _ _ hq, e11 _ _ hst, nd, by omega, hdj, rfl⟩)
    have hb : c ∉ keysW W ∧ c ∉ st := by simpa using hb
    refine s_app (v := nV c) (e11 _ _ hst) (ev_var rfl) evn (lt_sz (by rw [List.length_map]; omega)) fun H12 e12 => ⟨st ++ [c], _, Ex.mut (e.trans (e11.trans e12)) hsl, nq, by rw [upd_ne nq]; exact (e11.trans e12) _ _ hq, by rw [upd_same, List.map_append]; rfl, nd_snoc nd hb.2, by rw [List.length_append]; show st.length + 1 ≤ _; omega, fun x hx => ?_, rfl⟩
    rcases List.mem_append.mp hx with q | q
    · exact hdj x q
    · rw [List.mem_singleton.mp q]; exact hb.1
  subst hσ
  have hl19 : st.length ≤ 19 := by have := subL_len ns 44 63; omega
  -- the other book
  refine q_mkBook (ev_var rfl) fun b2 d2 H11 hb2 e11 T11 => ?_
  obtain ⟨V11, S11, n11, _⟩ := keep (e10.trans e11)
  refine q_asgP (ep_mixed (cell := cellAt ns 1 % 10 ^ (9 : Int).toNat) (ev_op (ev_cell 1 rfl (ev_var rfl) S11) (ev_op ev_c ev_c (rv_pow10 (j := 9) (by decide))) (rv_mod (by decide))) (ev_var rfl) n11 (by rw [keys_len]; omega)) fun ms hms l1 H12 hl1 e12 hl12 => ?_
  obtain ⟨M12, eM12, T12, ml1⟩ := T11.withL hl1 e12 hl12
  obtain ⟨VM, SM, nM, BM⟩ := keep (e10.trans eM12)
  have stM := eM12 _ _ hst10
  have msl : ms.length = W.length := by rw [hms.length_eq, keys_len]
  refine w_callA (Q := fun _ H13 => _) (ea_cons (ev_var rfl) (ea_cons (ev_var rfl) (ea_cons (ev_var rfl) (ea_cons (ev_var rfl) (ea_cons (ev_op (ev_cell 2 rfl (ev_var rfl) (SM.ex T12.e)) (ev_op ev_c ev_c (rv_pow10 (j := 9) (by decide))) (rv_mod (by decide))) ea_nil))))) fun H13 e13 => ⟨M12, b2, d2, l1, v, sl, rule, W, ms, st, _, rfl, T12.ex e13, ml1, VM, stM, hms.nodup_iff.mpr ndW, nds, fun c hc z => hdj c hc (hms.mem_iff.mp z), fun c hc => hms.mem_iff.mp hc, by omega, fun W2 H14 T14 hval => ?_⟩
  have hval : ∀ c, valW W2 c = valW W c := fun c => by
    rw [hval]
    by_cases q : c ∈ ms
    · rw [if_pos q]
    · rw [if_neg q, val_no fun z => q (hms.mem_iff.mpr z)]
  clear T12 T11
  generalize M12 = M at *
  refine q_asgL (el_lst ea_nil (by decide)) fun l12 H15 hl15 e15 h15 => ?_
  have T15 := T14.ex e15
  have hcount : ∀ {v5 v6 v7 v10 v11 v12 v13 : Option V} {H' : Hp}, Ex M H' → Ev (tCB (rLenL K) (tCons (tVar 8) tNil)) (St bd (some (.ref v)) (some (.ref b)) v5 v6 v7 (some (.ref nm)) (some (.ref sl)) v10 v11 v12 v13) H' (nV W.length) := fun {v5 v6 v7 v10 v11 v12 v13 H'} e => by
    have := ev_lenN' (K := K) (σ := St bd (some (.ref v)) (some (.ref b)) v5 v6 v7 (some (.ref nm)) (some (.ref sl)) v10 v11 v12 v13) (tl := tVar 8) (ev_var rfl) (e _ _ nM)
    rw [keys_len] at this
    exact this
  refine q_asg (hcount T15.e) fun H16 e16 => ?_
  have T16 := T15.ex e16
  have D16 : DifsAt H16 l12 [] := ⟨[], e16 _ _ h15, .nil⟩
  let S2 : Option V → Addr → Nat → L2.St := fun v7 l12 cnt => St bd (some (.ref v)) (some (.ref b)) v5 v6 v7 (some (.ref nm)) (some (.ref sl)) (some (.ref b2)) (some (.ref l1)) (some (.ref l12)) (some (nV cnt))
  have pick : ∀ {v7 : Option V} {l12 : Addr} {H' : Hp} (z : Int), 0 < W.length → Ex M H' → Ev (tVar 0) (S2 v7 l12 W.length) H' (.ref s) → ∃ c zc, valW W c = some zc ∧ Ev (tOp (rIxL K) (tVar 8) (tOp rModI (tOp rDivI (tCall (sp_law_cell K a) [] E0 (tCons (tVar 0) (tCons (tC (.int 3)) tNil))) (tC (.int 4))) (tVar 13))) (S2 v7 l12 W.length) H' (nV c) := fun {v7 l12 H'} z h0 e g0 => by
    have i0 := Int.emod_nonneg (cellAt ns 3 / 4) (show ((W.length : Nat) : Int) ≠ 0 by omega)
    have i1 := Int.emod_lt_of_pos (cellAt ns 3 / 4) (show (0 : Int) < ((W.length : Nat) : Int) by omega)
    have hj : (cellAt ns 3 / 4 % (W.length : Int)).toNat < (keysW W).length := by rw [keys_len]; omega
    have hg := List.getElem?_eq_getElem hj
    obtain ⟨zc, hzc⟩ := val_in (List.getElem_mem hj)
    refine ⟨_, zc, hzc, ev_op (ev_var rfl) (ev_nat (ev_op (ev_op (ev_cell 3 rfl g0 (SM.ex e)) ev_c (rv_div (by decide))) (ev_var rfl) (rv_mod (by omega))) i0) (rv_ixL (SqL.of (e _ _ nM)) (atI_nat (by rw [List.getElem?_map, hg]; rfl)))⟩
  refine q_cut (M := fun σ' H' => ∃ (W3 : Tab) (due : List Dif) (l12 : Addr) (v7 : Option V), Bk a M H' b2 d2 rule W3 ∧ DifsAt H' l12 due ∧ Fine W W3 due W.length ∧ (cellAt ns 3 % 4 ≠ 1 → ∀ c, valW W3 c = valW W c) ∧ σ' = S2 v7 l12 W.length) ?_ fun σ17 H17 ⟨W3, due3, l3, v73, T17, D17, F17, hno, hσ⟩ => ?_
  · refine s_when (et_and (et_test (ev_op (ev_op (ev_cell 3 rfl (ev_var rfl) (SM.ex T16.e)) ev_c (rv_mod (by decide))) ev_c rv_eqI)) fun _ => et_test (ev_op (ev_var rfl) ev_c rv_gt)) (fun hb H17 e17 => ?_) (fun hb H17 e17 => ⟨W2, [], l12, v7, T16.ex e17, D16.ex e17, Fine.same ndW T16.nd hval, fun _ => hval, rfl⟩)
    have hb : cellAt ns 3 % 4 = 1 ∧ 0 < W.length := by
      simp only [Bool.and_eq_true, decide_eq_true_eq] at hb
      exact ⟨hb.1, by omega⟩
    have T17 := T16.ex e17
    obtain ⟨c, zc, hzc, hev⟩ := pick (v7 := v7) (l12 := l12) 0 hb.2 T17.e (ev_var rfl)
    refine q_asg hev fun H18 e18 => ?_
    have T18 := T17.ex e18
    refine w_bwriteK (Q := fun _ H19 => _) (z := zc + 1) T18 (ev_var rfl) (ev_var rfl) (ev_op (ev_dGet (ev_var rfl) (ev_var rfl) (VM.ex T18.e) hzc) ev_c rv_add) (.inl (by rw [key_val, hval, hzc]; rfl)) fun H19 T19 => ?_
    refine s_asgLU (ys := [nV c, .int zc, .int (zc + 1)]) (eu_tup (ea_cons (ev_var rfl) (ea_cons (ev_dGet (ev_var rfl) (ev_var rfl) (VM.ex T19.e) hzc) (ea_cons (ev_op (ev_dGet (ev_var rfl) (ev_var rfl) (VM.ex T19.e) hzc) ev_c rv_add) ea_nil))) (by show 3 ≤ 100000; decide)) fun t l H20 hl20 e20 ht hl => ?_
    exact ⟨_, [(c, some zc, some (zc + 1))], l, _, T19.ex e20, ⟨[t], hl, .cons ht .nil⟩, Fine.turned ndW T16.nd hval hzc, fun q => absurd hb.1 q, rfl⟩
  subst hσ
  refine q_cut (M := fun σ' H' => ∃ (W3 : Tab) (due : List Dif) (l12 : Addr) (v7 : Option V) (cnt : Nat), Bk a M H' b2 d2 rule W3 ∧ DifsAt H' l12 due ∧ Fine W W3 due cnt ∧ σ' = S2 v7 l12 cnt) ?_ fun σ18 H18 ⟨W4, due, l4, v74, cnt, T18, D18, F, hσ⟩ => ?_
  · refine s_when (et_and (et_test (ev_op (ev_op (ev_cell 3 rfl (ev_var rfl) (SM.ex T17.e)) ev_c (rv_mod (by decide))) ev_c rv_eqI)) fun _ => et_test (ev_op (ev_var rfl) ev_c rv_gt)) (fun hb H18 e18 => ?_) (fun hb H18 e18 => ⟨W3, due3, l3, v73, W.length, T17.ex e18, D17.ex e18, F17, rfl⟩)
    have hb : cellAt ns 3 % 4 = 2 ∧ 0 < W.length := by
      simp only [Bool.and_eq_true, decide_eq_true_eq] at hb
      exact ⟨hb.1, by omega⟩
    have hv3 := hno (by omega)
    have T18 := T17.ex e18
    obtain ⟨c, zc, hzc, hev⟩ := pick (v7 := v73) (l12 := l3) 0 hb.2 T18.e (ev_var rfl)
    refine q_asg hev fun H19 e19 => ?_
    have T19 := T18.ex e19
    refine w_bdropK (Q := fun _ H20 => _) T19 (ev_var rfl) (ev_var rfl) (by rw [key_val, hv3, hzc]; rfl) fun _ H20 T20 => ?_
    refine q_asgLU (ys := [nV c, .int zc, .non]) (eu_tup (ea_cons (ev_var rfl) (ea_cons (ev_dGet (ev_var rfl) (ev_var rfl) (VM.ex T20.e) hzc) (ea_cons ev_c ea_nil))) (by show 3 ≤ 100000; decide)) fun t l H21 hl21 e21 ht hl => ?_
    refine s_asg (v := nV (W.length - 1)) (int_is (ev_op (ev_var (v := nV W.length) rfl) ev_c rv_sub) (by omega)) fun H22 e22 => ?_
    exact ⟨_, [(c, some zc, none)], l, _, _, T20.ex (e21.trans e22), DifsAt.ex ⟨[t], hl, .cons ht .nil⟩ e22, Fine.dropped ndW T17.nd hv3 hzc, rfl⟩
  subst hσ
  have B1 := BM.ex T18.e
  obtain ⟨p2, r2, row2, _, B2⟩ := T18.bk
  have eM := T18.e
  clear T18 T17 T16 T15 T14
  obtain ⟨few1, few2⟩ := F.few ndW B2.nd
  have h64 : (allK W W4).length < 64 := by omega
  have h64' : (allK W4 W).length < 64 := by omega
  refine q_when (et_or (et_test (ev_op (ev_lenLay B1 (ev_var rfl)) (ev_lsize (hcount eM)) rv_neI)) fun _ => et_test (ev_op (ev_lenLay B2 (ev_var rfl)) (ev_lsize (ev_var rfl)) rv_neI)) (fun hb => by simp [F.num] at hb) (fun _ H19 e19 => ?_)
  refine q_when (et_and (et_test (ev_op (ev_var rfl) ev_c rv_gt)) fun _ => et_test (ev_op (ev_eqLay (B1.ex e19) (B2.ex e19) (ev_var rfl) (ev_var rfl)) (ev_eqNilV (ev_var rfl) (D18.ex e19)) (rv_ne rfl))) (fun hb => ?_) (fun _ H20 e20 => ?_)
  · exfalso
    simp only [Bool.and_eq_true, decide_eq_true_eq] at hb
    have hL := F.lay B1 B2 (by omega)
    have : decide (layW W row = layW W4 row2) = decide (due = []) := decide_eq_decide.mpr hL
    rw [this] at hb
    simp at hb
  have e1820 := e19.trans e20
  refine q_when (et_or (et_and (et_test (ev_op (ev_var rfl) (hcount (eM.trans e1820)) rv_eqI)) fun _ => et_neBoolsL (el_taken (B1.ex e1820) (ev_var rfl)) (el_taken (B2.ex e1820) (ev_var rfl))) fun _ => et_test (ev_neDV (ed_changes (B1.ex e1820) (B2.ex e1820) h64 (ev_var rfl) (ev_var rfl)) (ev_var rfl) (D18.ex e1820))) (fun hb => ?_) (fun _ H21 e21 => ?_)
  · exfalso
    rw [F.dif, decide_eq_true rfl, Bool.not_true, Bool.or_false, Bool.and_eq_true] at hb
    have h1 := of_decide_eq_true hb.1
    have := F.taken B1 B2 (by omega)
    rw [this] at hb
    simp at hb
  have e1821 := e1820.trans e21
  have hd1 : decide (difs W W4 = []) = decide (due = []) := by rw [F.dif]
  have hd2 : decide (difs W4 W = []) = decide (due = []) := by rw [← F.dif]; exact decide_eq_decide.mpr difs_sym
  refine s_ret (bl_is (ev_andV (a := true) (b := true) (bl_is (ev_callE (dvs := []) (ea_cons (ev_alikeB (B1.ex e1821) (B2.ex e1821) h64 (ev_var rfl) (ev_var rfl)) (ea_cons (ev_eqNilV (ev_var rfl) (D18.ex e1821)) ea_nil)) v_truth) (by rw [hd1]; simp)) fun _ => bl_is (ev_callE (dvs := []) (ea_cons (ev_alikeB (B2.ex e1821) (B1.ex e1821) h64' (ev_var rfl) (ev_var rfl)) (ea_cons (ev_eqNilV (ev_var rfl) (D18.ex e1821)) ea_nil)) v_truth) (by rw [hd2]; simp)) rfl) fun H22 _ => k H22
end
end SY

namespace SY
open PySem L2 Evl
def topS (i : Nat) : Stmt := PySem.Challenge.pw_stallyard_k11_whole_books_stand_alike.main.body.getD i (.Pass ⟨0, 0, 0, 0⟩)
abbrev s_way : Stmt := topS 7
abbrev s_keeps : Stmt := topS 8
abbrev s_Yard__init_ : Stmt := inClass (topS 11) 0
abbrev s_Yard_goes_on : Stmt := inClass (topS 11) 1
abbrev s_Yard_looked : Stmt := inClass (topS 11) 2
abbrev s_Yard_where : Stmt := inClass (topS 11) 3
abbrev s_Yard_put : Stmt := inClass (topS 11) 4
abbrev s_Yard_heir : Stmt := inClass (topS 11) 5
abbrev s_Yard_take : Stmt := inClass (topS 11) 6
abbrev s_Yard_stalls : Stmt := inClass (topS 11) 7
abbrev s_Yard_names : Stmt := inClass (topS 11) 8
abbrev s_Yard_how_many : Stmt := inClass (topS 11) 9
abbrev s_filled : Stmt := topS 13
abbrev s_moved : Stmt := topS 14
abbrev s_size_for : Stmt := topS 17
abbrev s_Book__init_ : Stmt := inClass (topS 18) 0
abbrev s_Book_fit : Stmt := inClass (topS 18) 1
abbrev s_Book_write : Stmt := inClass (topS 18) 2
abbrev s_Book_worth : Stmt := inClass (topS 18) 3
abbrev s_Book_drop : Stmt := inClass (topS 18) 4
abbrev s_Book_layout : Stmt := inClass (topS 18) 6
abbrev s_Book_names : Stmt := inClass (topS 18) 7
abbrev s_alike : Stmt := topS 19
abbrev s_changes : Stmt := topS 20
abbrev s_law_cell : Stmt := topS 22
abbrev s_law_mixed : Stmt := topS 24
abbrev s_law_size : Stmt := topS 25
abbrev s_law_other_way11 : Stmt := topS 26
abbrev s_law_taken11 : Stmt := topS 27
abbrev s_law_truth : Stmt := topS 28
abbrev s_law_k11 : Stmt := topS 29
theorem sc_way : FnScope N_way ["name", "at", "many"] (defScope s_way) := ⟨rfl, rfl, rfl, by decide +kernel, rfl, by decide +kernel, by decide +kernel⟩
theorem sc_keeps : FnScope N_keeps ["rule", "one", "other", "at", "many"] (defScope s_keeps) := ⟨rfl, rfl, rfl, by decide +kernel, rfl, by decide +kernel, by decide +kernel⟩
theorem sc_Yard__init_ : FnScope N_Yard__init_ ["self", "many", "rule"] (defScope s_Yard__init_) := ⟨rfl, rfl, rfl, by decide +kernel, rfl, by decide +kernel, by decide +kernel⟩
theorem sc_Yard_goes_on : FnScope N_Yard_goes_on ["self", "name", "at"] (defScope s_Yard_goes_on) := ⟨rfl, rfl, rfl, by decide +kernel, rfl, by decide +kernel, by decide +kernel⟩
theorem sc_Yard_looked : FnScope N_Yard_looked ["self", "name"] (defScope s_Yard_looked) := ⟨rfl, rfl, rfl, by decide +kernel, rfl, by decide +kernel, by decide +kernel⟩
theorem sc_Yard_where : FnScope N_Yard_where ["self", "name"] (defScope s_Yard_where) := ⟨rfl, rfl, rfl, by decide +kernel, rfl, by decide +kernel, by decide +kernel⟩
theorem sc_Yard_put : FnScope N_Yard_put ["self", "name"] (defScope s_Yard_put) := ⟨rfl, rfl, rfl, by decide +kernel, rfl, by decide +kernel, by decide +kernel⟩
theorem sc_Yard_heir : FnScope N_Yard_heir ["self", "gap"] (defScope s_Yard_heir) := ⟨rfl, rfl, rfl, by decide +kernel, rfl, by decide +kernel, by decide +kernel⟩
theorem sc_Yard_take : FnScope N_Yard_take ["self", "name"] (defScope s_Yard_take) := ⟨rfl, rfl, rfl, by decide +kernel, rfl, by decide +kernel, by decide +kernel⟩
theorem sc_Yard_stalls : FnScope N_Yard_stalls ["self"] (defScope s_Yard_stalls) := ⟨rfl, rfl, rfl, by decide +kernel, rfl, by decide +kernel, by decide +kernel⟩
theorem sc_Yard_names : FnScope N_Yard_names ["self"] (defScope s_Yard_names) := ⟨rfl, rfl, rfl, by decide +kernel, rfl, by decide +kernel, by decide +kernel⟩
theorem sc_Yard_how_many : FnScope N_Yard_how_many ["self"] (defScope s_Yard_how_many) := ⟨rfl, rfl, rfl, by decide +kernel, rfl, by decide +kernel, by decide +kernel⟩
theorem sc_filled : FnScope N_filled ["yard", "names"] (defScope s_filled) := ⟨rfl, rfl, rfl, by decide +kernel, rfl, by decide +kernel, by decide +kernel⟩
theorem sc_moved : FnScope N_moved ["yard", "many"] (defScope s_moved) := ⟨rfl, rfl, rfl, by decide +kernel, rfl, by decide +kernel, by decide +kernel⟩
theorem sc_size_for : FnScope N_size_for ["count"] (defScope s_size_for) := ⟨rfl, rfl, rfl, by decide +kernel, rfl, by decide +kernel, by decide +kernel⟩
theorem sc_Book__init_ : FnScope N_Book__init_ ["self", "rule"] (defScope s_Book__init_) := ⟨rfl, rfl, rfl, by decide +kernel, rfl, by decide +kernel, by decide +kernel⟩
theorem sc_Book_fit : FnScope N_Book_fit ["self", "count"] (defScope s_Book_fit) := ⟨rfl, rfl, rfl, by decide +kernel, rfl, by decide +kernel, by decide +kernel⟩
theorem sc_Book_write : FnScope N_Book_write ["self", "name", "worth"] (defScope s_Book_write) := ⟨rfl, rfl, rfl, by decide +kernel, rfl, by decide +kernel, by decide +kernel⟩
theorem sc_Book_worth : FnScope N_Book_worth ["self", "name"] (defScope s_Book_worth) := ⟨rfl, rfl, rfl, by decide +kernel, rfl, by decide +kernel, by decide +kernel⟩
theorem sc_Book_drop : FnScope N_Book_drop ["self", "name"] (defScope s_Book_drop) := ⟨rfl, rfl, rfl, by decide +kernel, rfl, by decide +kernel, by decide +kernel⟩
theorem sc_Book_layout : FnScope N_Book_layout ["self"] (defScope s_Book_layout) := ⟨rfl, rfl, rfl, by decide +kernel, rfl, by decide +kernel, by decide +kernel⟩
theorem sc_Book_names : FnScope N_Book_names ["self"] (defScope s_Book_names) := ⟨rfl, rfl, rfl, by decide +kernel, rfl, by decide +kernel, by decide +kernel⟩
theorem sc_alike : FnScope N_alike ["one", "other"] (defScope s_alike) := ⟨rfl, rfl, rfl, by decide +kernel, rfl, by decide +kernel, by decide +kernel⟩
theorem sc_changes : FnScope N_changes ["one", "other"] (defScope s_changes) := ⟨rfl, rfl, rfl, by decide +kernel, rfl, by decide +kernel, by decide +kernel⟩
theorem sc_law_cell : FnScope N_law_cell ["script", "k"] (defScope s_law_cell) := ⟨rfl, rfl, rfl, by decide +kernel, rfl, by decide +kernel, by decide +kernel⟩
theorem sc_law_mixed : FnScope N_law_mixed ["cell", "row"] (defScope s_law_mixed) := ⟨rfl, rfl, rfl, by decide +kernel, rfl, by decide +kernel, by decide +kernel⟩
theorem sc_law_size : FnScope N_law_size ["count"] (defScope s_law_size) := ⟨rfl, rfl, rfl, by decide +kernel, rfl, by decide +kernel, by decide +kernel⟩
theorem sc_law_other_way11 : FnScope N_law_other_way11 ["book", "names", "worths", "strangers", "cell"] (defScope s_law_other_way11) := ⟨rfl, rfl, rfl, by decide +kernel, rfl, by decide +kernel, by decide +kernel⟩
theorem sc_law_taken11 : FnScope N_law_taken11 ["book"] (defScope s_law_taken11) := ⟨rfl, rfl, rfl, by decide +kernel, rfl, by decide +kernel, by decide +kernel⟩
theorem sc_law_truth : FnScope N_law_truth ["found", "due"] (defScope s_law_truth) := ⟨rfl, rfl, rfl, by decide +kernel, rfl, by decide +kernel, by decide +kernel⟩
theorem sc_law_k11 : FnScope N_law_k11 ["script"] (defScope s_law_k11) := ⟨rfl, rfl, rfl, by decide +kernel, rfl, by decide +kernel, by decide +kernel⟩
structure Lk (K : PySem.W.Frag) (mg : Str → Option Value) (a : Ad) where
  f_way : Addr
  fd_way : FuncData
  F_way : Fun K "way" "way" s_way f_way fd_way
  b_way : Binds K fd_way ["name", "at", "many"] []
  m_way : mg "way" = some (.ref f_way)
  f_keeps : Addr
  fd_keeps : FuncData
  F_keeps : Fun K "keeps" "keeps" s_keeps f_keeps fd_keeps
  b_keeps : Binds K fd_keeps ["rule", "one", "other", "at", "many"] []
  m_keeps : mg "keeps" = some (.ref f_keeps)
  f_Yard__init_ : Addr
  fd_Yard__init_ : FuncData
  F_Yard__init_ : Fun K "__init__" "Yard.__init__" s_Yard__init_ f_Yard__init_ fd_Yard__init_
  b_Yard__init_ : Binds K fd_Yard__init_ ["self", "many", "rule"] []
  f_Yard_goes_on : Addr
  fd_Yard_goes_on : FuncData
  F_Yard_goes_on : Fun K "goes_on" "Yard.goes_on" s_Yard_goes_on f_Yard_goes_on fd_Yard_goes_on
  b_Yard_goes_on : Binds K fd_Yard_goes_on ["self", "name", "at"] []
  h_Yard_goes_on : Meth K a.Y "goes_on" f_Yard_goes_on
  f_Yard_looked : Addr
  fd_Yard_looked : FuncData
  F_Yard_looked : Fun K "looked" "Yard.looked" s_Yard_looked f_Yard_looked fd_Yard_looked
  b_Yard_looked : Binds K fd_Yard_looked ["self", "name"] []
  h_Yard_looked : Meth K a.Y "looked" f_Yard_looked
  f_Yard_where : Addr
  fd_Yard_where : FuncData
  F_Yard_where : Fun K "where" "Yard.where" s_Yard_where f_Yard_where fd_Yard_where
  b_Yard_where : Binds K fd_Yard_where ["self", "name"] []
  h_Yard_where : Meth K a.Y "where" f_Yard_where
  f_Yard_put : Addr
  fd_Yard_put : FuncData
  F_Yard_put : Fun K "put" "Yard.put" s_Yard_put f_Yard_put fd_Yard_put
  b_Yard_put : Binds K fd_Yard_put ["self", "name"] []
  h_Yard_put : Meth K a.Y "put" f_Yard_put
  f_Yard_heir : Addr
  fd_Yard_heir : FuncData
  F_Yard_heir : Fun K "heir" "Yard.heir" s_Yard_heir f_Yard_heir fd_Yard_heir
  b_Yard_heir : Binds K fd_Yard_heir ["self", "gap"] []
  h_Yard_heir : Meth K a.Y "heir" f_Yard_heir
  f_Yard_take : Addr
  fd_Yard_take : FuncData
  F_Yard_take : Fun K "take" "Yard.take" s_Yard_take f_Yard_take fd_Yard_take
  b_Yard_take : Binds K fd_Yard_take ["self", "name"] []
  h_Yard_take : Meth K a.Y "take" f_Yard_take
  f_Yard_stalls : Addr
  fd_Yard_stalls : FuncData
  F_Yard_stalls : Fun K "stalls" "Yard.stalls" s_Yard_stalls f_Yard_stalls fd_Yard_stalls
  b_Yard_stalls : Binds K fd_Yard_stalls ["self"] []
  h_Yard_stalls : Meth K a.Y "stalls" f_Yard_stalls
  f_Yard_names : Addr
  fd_Yard_names : FuncData
  F_Yard_names : Fun K "names" "Yard.names" s_Yard_names f_Yard_names fd_Yard_names
  b_Yard_names : Binds K fd_Yard_names ["self"] []
  h_Yard_names : Meth K a.Y "names" f_Yard_names
  f_Yard_how_many : Addr
  fd_Yard_how_many : FuncData
  F_Yard_how_many : Fun K "how_many" "Yard.how_many" s_Yard_how_many f_Yard_how_many fd_Yard_how_many
  b_Yard_how_many : Binds K fd_Yard_how_many ["self"] []
  h_Yard_how_many : Meth K a.Y "how_many" f_Yard_how_many
  f_filled : Addr
  fd_filled : FuncData
  F_filled : Fun K "filled" "filled" s_filled f_filled fd_filled
  b_filled : Binds K fd_filled ["yard", "names"] []
  m_filled : mg "filled" = some (.ref f_filled)
  f_moved : Addr
  fd_moved : FuncData
  F_moved : Fun K "moved" "moved" s_moved f_moved fd_moved
  b_moved : Binds K fd_moved ["yard", "many"] []
  m_moved : mg "moved" = some (.ref f_moved)
  f_size_for : Addr
  fd_size_for : FuncData
  F_size_for : Fun K "size_for" "size_for" s_size_for f_size_for fd_size_for
  b_size_for : Binds K fd_size_for ["count"] []
  m_size_for : mg "size_for" = some (.ref f_size_for)
  f_Book__init_ : Addr
  fd_Book__init_ : FuncData
  F_Book__init_ : Fun K "__init__" "Book.__init__" s_Book__init_ f_Book__init_ fd_Book__init_
  b_Book__init_ : Binds K fd_Book__init_ ["self", "rule"] []
  f_Book_fit : Addr
  fd_Book_fit : FuncData
  F_Book_fit : Fun K "fit" "Book.fit" s_Book_fit f_Book_fit fd_Book_fit
  b_Book_fit : Binds K fd_Book_fit ["self", "count"] []
  h_Book_fit : Meth K a.B "fit" f_Book_fit
  f_Book_write : Addr
  fd_Book_write : FuncData
  F_Book_write : Fun K "write" "Book.write" s_Book_write f_Book_write fd_Book_write
  b_Book_write : Binds K fd_Book_write ["self", "name", "worth"] []
  h_Book_write : Meth K a.B "write" f_Book_write
  f_Book_worth : Addr
  fd_Book_worth : FuncData
  F_Book_worth : Fun K "worth" "Book.worth" s_Book_worth f_Book_worth fd_Book_worth
  b_Book_worth : Binds K fd_Book_worth ["self", "name"] []
  h_Book_worth : Meth K a.B "worth" f_Book_worth
  f_Book_drop : Addr
  fd_Book_drop : FuncData
  F_Book_drop : Fun K "drop" "Book.drop" s_Book_drop f_Book_drop fd_Book_drop
  b_Book_drop : Binds K fd_Book_drop ["self", "name"] []
  h_Book_drop : Meth K a.B "drop" f_Book_drop
  f_Book_layout : Addr
  fd_Book_layout : FuncData
  F_Book_layout : Fun K "layout" "Book.layout" s_Book_layout f_Book_layout fd_Book_layout
  b_Book_layout : Binds K fd_Book_layout ["self"] []
  h_Book_layout : Meth K a.B "layout" f_Book_layout
  f_Book_names : Addr
  fd_Book_names : FuncData
  F_Book_names : Fun K "names" "Book.names" s_Book_names f_Book_names fd_Book_names
  b_Book_names : Binds K fd_Book_names ["self"] []
  h_Book_names : Meth K a.B "names" f_Book_names
  f_alike : Addr
  fd_alike : FuncData
  F_alike : Fun K "alike" "alike" s_alike f_alike fd_alike
  b_alike : Binds K fd_alike ["one", "other"] []
  m_alike : mg "alike" = some (.ref f_alike)
  f_changes : Addr
  fd_changes : FuncData
  F_changes : Fun K "changes" "changes" s_changes f_changes fd_changes
  b_changes : Binds K fd_changes ["one", "other"] []
  m_changes : mg "changes" = some (.ref f_changes)
  f_law_cell : Addr
  fd_law_cell : FuncData
  F_law_cell : Fun K "_law_cell" "_law_cell" s_law_cell f_law_cell fd_law_cell
  b_law_cell : Binds K fd_law_cell ["script", "k"] []
  m_law_cell : mg "_law_cell" = some (.ref f_law_cell)
  f_law_mixed : Addr
  fd_law_mixed : FuncData
  F_law_mixed : Fun K "_law_mixed" "_law_mixed" s_law_mixed f_law_mixed fd_law_mixed
  b_law_mixed : Binds K fd_law_mixed ["cell", "row"] []
  m_law_mixed : mg "_law_mixed" = some (.ref f_law_mixed)
  f_law_size : Addr
  fd_law_size : FuncData
  F_law_size : Fun K "_law_size" "_law_size" s_law_size f_law_size fd_law_size
  b_law_size : Binds K fd_law_size ["count"] []
  m_law_size : mg "_law_size" = some (.ref f_law_size)
  f_law_other_way11 : Addr
  fd_law_other_way11 : FuncData
  F_law_other_way11 : Fun K "_law_other_way" "_law_other_way" s_law_other_way11 f_law_other_way11 fd_law_other_way11
  b_law_other_way11 : Binds K fd_law_other_way11 ["book", "names", "worths", "strangers", "cell"] []
  m_law_other_way11 : mg "_law_other_way" = some (.ref f_law_other_way11)
  f_law_taken11 : Addr
  fd_law_taken11 : FuncData
  F_law_taken11 : Fun K "_law_taken" "_law_taken" s_law_taken11 f_law_taken11 fd_law_taken11
  b_law_taken11 : Binds K fd_law_taken11 ["book"] []
  m_law_taken11 : mg "_law_taken" = some (.ref f_law_taken11)
  f_law_truth : Addr
  fd_law_truth : FuncData
  F_law_truth : Fun K "_law_truth" "_law_truth" s_law_truth f_law_truth fd_law_truth
  b_law_truth : Binds K fd_law_truth ["found", "due"] []
  m_law_truth : mg "_law_truth" = some (.ref f_law_truth)
  f_law_k11 : Addr
  fd_law_k11 : FuncData
  F_law_k11 : Fun K "law" "law" s_law_k11 f_law_k11 fd_law_k11
  b_law_k11 : Binds K fd_law_k11 ["script"] []
  g_Yard : mg "Yard" = some (.ref a.Y)
  cl_Yard : Cls K a.Y
  k_Yard : Mk K a.Y f_Yard__init_
  fc_Yard : YFc K a
  g_Book : mg "Book" = some (.ref a.B)
  cl_Book : Cls K a.B
  k_Book : Mk K a.B f_Book__init_
  fc_Book : BFc K a
  x_NoSize : ExO K mg "NoSize" a.NoSize
  x_Here : ExO K mg "Here" a.Here
  x_Full : ExO K mg "Full" a.Full
  x_NoCart : ExO K mg "NoCart" a.NoCart
  n_len : mg "len" = none
  n_isinstance : mg "isinstance" = none
  n_bool : mg "bool" = none
  n_list : mg "list" = none
  n_enumerate : mg "enumerate" = none
  n_sorted : mg "sorted" = none
  n_set : mg "set" = none
  c_MOST : ∃ t, mg "MOST" = some (.int 200 t)
  c_MOST_NAMES : ∃ t, mg "MOST_NAMES" = some (.int 96 t)
section
variable {P : Program} {w : World} {K : PySem.W.Frag} {mg : Str → Option Value} {base : Heap} {a : Ad}
theorem ok_way (L : Lk K mg a) : FnOk P w K mg base CX0 1 L.f_way L.fd_way ["name", "at", "many"] (sp_way K a) :=
  L.F_way.ok sc_way (fun vs H Q E h => by first | (obtain ⟨e, _⟩ := h; rw [e]; rfl) | (obtain ⟨_, e, _⟩ := h; rw [e]; rfl) | (obtain ⟨_, _, e, _⟩ := h; rw [e]; rfl) | (obtain ⟨_, _, _, e, _⟩ := h; rw [e]; rfl) | (obtain ⟨_, _, _, _, e, _⟩ := h; rw [e]; rfl) | (obtain ⟨_, _, _, _, _, e, _⟩ := h; rw [e]; rfl) | (obtain ⟨_, _, _, _, _, _, e, _⟩ := h; rw [e]; rfl) | (obtain ⟨_, _, _, _, _, _, _, e, _⟩ := h; rw [e]; rfl) | (obtain ⟨_, _, _, _, _, _, _, _, e, _⟩ := h; rw [e]; rfl) | (obtain ⟨_, _, _, _, _, _, _, _, _, e, _⟩ := h; rw [e]; rfl) | (obtain ⟨_, _, _, _, _, _, _, _, _, _, e, _⟩ := h; rw [e]; rfl) | (obtain ⟨_, _, _, _, _, _, _, _, _, _, _, e, _⟩ := h; rw [e]; rfl) | (obtain ⟨_, _, _, _, _, _, _, _, _, _, _, _, e, _⟩ := h; rw [e]; rfl) | (obtain ⟨_, _, _, _, _, _, _, _, _, _, _, _, _, e, _⟩ := h; rw [e]; rfl) | (obtain ⟨_, _, _, _, _, _, _, _, _, _, _, _, _, _, e, _⟩ := h; rw [e]; rfl) | (obtain ⟨_, _, _, _, _, _, _, _, _, _, _, _, _, _, _, e, _⟩ := h; rw [e]; rfl) | (obtain ⟨_, _, _, _, _, _, _, _, _, _, _, _, _, _, _, _, e, _⟩ := h; rw [e]; rfl) | (obtain ⟨_, _, _, _, _, _, _, _, _, _, _, _, _, _, _, _, _, e, _⟩ := h; rw [e]; rfl) | (obtain ⟨_, _, _, _, _, _, _, _, _, _, _, _, _, _, _, _, _, _, e, _⟩ := h; rw [e]; rfl)) (fun cdv A outer s H vs Q E hr h => ⟨t_way K a E, (pss_one (ps_ret (pe_op op_mod (pe_op op_sub (pv 1) (pv 0)) (pv 2)))), r_way vs H Q E h⟩)
theorem ok_Yard__init_ (L : Lk K mg a) : FnOk P w K mg base (L2.CX P w) 1 L.f_Yard__init_ L.fd_Yard__init_ ["self", "many", "rule"] (sp_Yard__init_ K a) :=
  L.F_Yard__init_.okX sc_Yard__init_ (fun vs H Q E h => by first | (obtain ⟨e, _⟩ := h; rw [e]; rfl) | (obtain ⟨_, e, _⟩ := h; rw [e]; rfl) | (obtain ⟨_, _, e, _⟩ := h; rw [e]; rfl) | (obtain ⟨_, _, _, e, _⟩ := h; rw [e]; rfl) | (obtain ⟨_, _, _, _, e, _⟩ := h; rw [e]; rfl) | (obtain ⟨_, _, _, _, _, e, _⟩ := h; rw [e]; rfl) | (obtain ⟨_, _, _, _, _, _, e, _⟩ := h; rw [e]; rfl) | (obtain ⟨_, _, _, _, _, _, _, e, _⟩ := h; rw [e]; rfl) | (obtain ⟨_, _, _, _, _, _, _, _, e, _⟩ := h; rw [e]; rfl) | (obtain ⟨_, _, _, _, _, _, _, _, _, e, _⟩ := h; rw [e]; rfl) | (obtain ⟨_, _, _, _, _, _, _, _, _, _, e, _⟩ := h; rw [e]; rfl) | (obtain ⟨_, _, _, _, _, _, _, _, _, _, _, e, _⟩ := h; rw [e]; rfl) | (obtain ⟨_, _, _, _, _, _, _, _, _, _, _, _, e, _⟩ := h; rw [e]; rfl) | (obtain ⟨_, _, _, _, _, _, _, _, _, _, _, _, _, e, _⟩ := h; rw [e]; rfl) | (obtain ⟨_, _, _, _, _, _, _, _, _, _, _, _, _, _, e, _⟩ := h; rw [e]; rfl) | (obtain ⟨_, _, _, _, _, _, _, _, _, _, _, _, _, _, _, e, _⟩ := h; rw [e]; rfl) | (obtain ⟨_, _, _, _, _, _, _, _, _, _, _, _, _, _, _, _, e, _⟩ := h; rw [e]; rfl) | (obtain ⟨_, _, _, _, _, _, _, _, _, _, _, _, _, _, _, _, _, e, _⟩ := h; rw [e]; rfl) | (obtain ⟨_, _, _, _, _, _, _, _, _, _, _, _, _, _, _, _, _, _, e, _⟩ := h; rw [e]; rfl)) (fun cdv A outer s H vs Q E hr h => ⟨t_Yard__init_ K a E, (pss_cons (ps_if (PW.pt (pw_or (pt_cmpR op_lt (pv 1) pe_int (nomark _)) (pw_or1 (pt_cmpR op_gt (pv 1) (pe_globI (by rfl) L.c_MOST) (nomark _))))) (pss_one (ps_raiseO rfl (takes_of rfl rfl rfl rfl) L.x_NoSize (by rfl))) pss_nil)
  (pss_cons (ps_fld (pv 0) (pv 1) rfl)
  (pss_cons (ps_fld (pv 0) (pv 2) rfl)
  (pss_one (ps_fld (pv 0) (pe_op op_rep (pe_lst (pa_cons pe_non pa_nil)) (pv 1)) rfl))))), r_Yard__init_ L.fc_Yard vs H Q E h⟩)
theorem ok_Yard_stalls (L : Lk K mg a) : FnOk P w K mg base CX0 1 L.f_Yard_stalls L.fd_Yard_stalls ["self"] (sp_Yard_stalls K a) :=
  L.F_Yard_stalls.ok sc_Yard_stalls (fun vs H Q E h => by first | (obtain ⟨e, _⟩ := h; rw [e]; rfl) | (obtain ⟨_, e, _⟩ := h; rw [e]; rfl) | (obtain ⟨_, _, e, _⟩ := h; rw [e]; rfl) | (obtain ⟨_, _, _, e, _⟩ := h; rw [e]; rfl) | (obtain ⟨_, _, _, _, e, _⟩ := h; rw [e]; rfl) | (obtain ⟨_, _, _, _, _, e, _⟩ := h; rw [e]; rfl) | (obtain ⟨_, _, _, _, _, _, e, _⟩ := h; rw [e]; rfl) | (obtain ⟨_, _, _, _, _, _, _, e, _⟩ := h; rw [e]; rfl) | (obtain ⟨_, _, _, _, _, _, _, _, e, _⟩ := h; rw [e]; rfl) | (obtain ⟨_, _, _, _, _, _, _, _, _, e, _⟩ := h; rw [e]; rfl) | (obtain ⟨_, _, _, _, _, _, _, _, _, _, e, _⟩ := h; rw [e]; rfl) | (obtain ⟨_, _, _, _, _, _, _, _, _, _, _, e, _⟩ := h; rw [e]; rfl) | (obtain ⟨_, _, _, _, _, _, _, _, _, _, _, _, e, _⟩ := h; rw [e]; rfl) | (obtain ⟨_, _, _, _, _, _, _, _, _, _, _, _, _, e, _⟩ := h; rw [e]; rfl) | (obtain ⟨_, _, _, _, _, _, _, _, _, _, _, _, _, _, e, _⟩ := h; rw [e]; rfl) | (obtain ⟨_, _, _, _, _, _, _, _, _, _, _, _, _, _, _, e, _⟩ := h; rw [e]; rfl) | (obtain ⟨_, _, _, _, _, _, _, _, _, _, _, _, _, _, _, _, e, _⟩ := h; rw [e]; rfl) | (obtain ⟨_, _, _, _, _, _, _, _, _, _, _, _, _, _, _, _, _, e, _⟩ := h; rw [e]; rfl) | (obtain ⟨_, _, _, _, _, _, _, _, _, _, _, _, _, _, _, _, _, _, e, _⟩ := h; rw [e]; rfl)) (fun cdv A outer s H vs Q E hr h => ⟨t_Yard_stalls K a E, (pss_one (ps_ret (pe_callTy call_list_of (by rfl) L.n_list (by decide +kernel) (pa_cons (pe_fld (pv 0) rfl) pa_nil)))), r_Yard_stalls L.fc_Yard vs H Q E h⟩)
theorem ok_Yard_names (L : Lk K mg a) : FnOk P w K mg base CX0 1 L.f_Yard_names L.fd_Yard_names ["self"] (sp_Yard_names K a) :=
  L.F_Yard_names.ok sc_Yard_names (fun vs H Q E h => by first | (obtain ⟨e, _⟩ := h; rw [e]; rfl) | (obtain ⟨_, e, _⟩ := h; rw [e]; rfl) | (obtain ⟨_, _, e, _⟩ := h; rw [e]; rfl) | (obtain ⟨_, _, _, e, _⟩ := h; rw [e]; rfl) | (obtain ⟨_, _, _, _, e, _⟩ := h; rw [e]; rfl) | (obtain ⟨_, _, _, _, _, e, _⟩ := h; rw [e]; rfl) | (obtain ⟨_, _, _, _, _, _, e, _⟩ := h; rw [e]; rfl) | (obtain ⟨_, _, _, _, _, _, _, e, _⟩ := h; rw [e]; rfl) | (obtain ⟨_, _, _, _, _, _, _, _, e, _⟩ := h; rw [e]; rfl) | (obtain ⟨_, _, _, _, _, _, _, _, _, e, _⟩ := h; rw [e]; rfl) | (obtain ⟨_, _, _, _, _, _, _, _, _, _, e, _⟩ := h; rw [e]; rfl) | (obtain ⟨_, _, _, _, _, _, _, _, _, _, _, e, _⟩ := h; rw [e]; rfl) | (obtain ⟨_, _, _, _, _, _, _, _, _, _, _, _, e, _⟩ := h; rw [e]; rfl) | (obtain ⟨_, _, _, _, _, _, _, _, _, _, _, _, _, e, _⟩ := h; rw [e]; rfl) | (obtain ⟨_, _, _, _, _, _, _, _, _, _, _, _, _, _, e, _⟩ := h; rw [e]; rfl) | (obtain ⟨_, _, _, _, _, _, _, _, _, _, _, _, _, _, _, e, _⟩ := h; rw [e]; rfl) | (obtain ⟨_, _, _, _, _, _, _, _, _, _, _, _, _, _, _, _, e, _⟩ := h; rw [e]; rfl) | (obtain ⟨_, _, _, _, _, _, _, _, _, _, _, _, _, _, _, _, _, e, _⟩ := h; rw [e]; rfl) | (obtain ⟨_, _, _, _, _, _, _, _, _, _, _, _, _, _, _, _, _, _, e, _⟩ := h; rw [e]; rfl)) (fun cdv A outer s H vs Q E hr h => ⟨t_Yard_names K a E, (pss_one (ps_ret (pe_callB cr_sortedI (by rfl) L.n_sorted (by decide +kernel) (pa_cons (pe_lc (own := [("name", 1)]) (by rfl) sc_Yard_names.nd (pi_list (pe_fld (pv 0) rfl)) (blkOk_by (own := [("name", 1)]) (N := N_Yard_names) (sc := defScope s_Yard_names) (by decide +kernel)) (fun _ _ _ _ _ => (pg_name (i := 1) sc_Yard_names.nd rfl (Or.inl rfl))) (fun _ _ _ _ _ => (pts_one (pt_cmp (pc_notN (pv 1)) rfl))) (fun _ _ _ _ _ => (pv 1))) pa_nil)))), r_Yard_names L.fc_Yard vs H Q E h⟩)
theorem ok_Yard_how_many (L : Lk K mg a) : FnOk P w K mg base CX0 1 L.f_Yard_how_many L.fd_Yard_how_many ["self"] (sp_Yard_how_many K a) :=
  L.F_Yard_how_many.ok sc_Yard_how_many (fun vs H Q E h => by first | (obtain ⟨e, _⟩ := h; rw [e]; rfl) | (obtain ⟨_, e, _⟩ := h; rw [e]; rfl) | (obtain ⟨_, _, e, _⟩ := h; rw [e]; rfl) | (obtain ⟨_, _, _, e, _⟩ := h; rw [e]; rfl) | (obtain ⟨_, _, _, _, e, _⟩ := h; rw [e]; rfl) | (obtain ⟨_, _, _, _, _, e, _⟩ := h; rw [e]; rfl) | (obtain ⟨_, _, _, _, _, _, e, _⟩ := h; rw [e]; rfl) | (obtain ⟨_, _, _, _, _, _, _, e, _⟩ := h; rw [e]; rfl) | (obtain ⟨_, _, _, _, _, _, _, _, e, _⟩ := h; rw [e]; rfl) | (obtain ⟨_, _, _, _, _, _, _, _, _, e, _⟩ := h; rw [e]; rfl) | (obtain ⟨_, _, _, _, _, _, _, _, _, _, e, _⟩ := h; rw [e]; rfl) | (obtain ⟨_, _, _, _, _, _, _, _, _, _, _, e, _⟩ := h; rw [e]; rfl) | (obtain ⟨_, _, _, _, _, _, _, _, _, _, _, _, e, _⟩ := h; rw [e]; rfl) | (obtain ⟨_, _, _, _, _, _, _, _, _, _, _, _, _, e, _⟩ := h; rw [e]; rfl) | (obtain ⟨_, _, _, _, _, _, _, _, _, _, _, _, _, _, e, _⟩ := h; rw [e]; rfl) | (obtain ⟨_, _, _, _, _, _, _, _, _, _, _, _, _, _, _, e, _⟩ := h; rw [e]; rfl) | (obtain ⟨_, _, _, _, _, _, _, _, _, _, _, _, _, _, _, _, e, _⟩ := h; rw [e]; rfl) | (obtain ⟨_, _, _, _, _, _, _, _, _, _, _, _, _, _, _, _, _, e, _⟩ := h; rw [e]; rfl) | (obtain ⟨_, _, _, _, _, _, _, _, _, _, _, _, _, _, _, _, _, _, e, _⟩ := h; rw [e]; rfl)) (fun cdv A outer s H vs Q E hr h => ⟨t_Yard_how_many K a E, (pss_one (ps_ret (pe_op op_sub (pe_fld (pv 0) rfl) (pe_bm PySem.F.plainAttrs_list PySem.F.slot_list_count PySem.F.type_list_count mt_countV (pe_fld (pv 0) rfl) (pa_cons pe_non pa_nil))))), r_Yard_how_many L.fc_Yard vs H Q E h⟩)
theorem ok_size_for (L : Lk K mg a) : FnOk P w K mg base CX0 1 L.f_size_for L.fd_size_for ["count"] (sp_size_for K a) :=
  L.F_size_for.ok sc_size_for (fun vs H Q E h => by first | (obtain ⟨e, _⟩ := h; rw [e]; rfl) | (obtain ⟨_, e, _⟩ := h; rw [e]; rfl) | (obtain ⟨_, _, e, _⟩ := h; rw [e]; rfl) | (obtain ⟨_, _, _, e, _⟩ := h; rw [e]; rfl) | (obtain ⟨_, _, _, _, e, _⟩ := h; rw [e]; rfl) | (obtain ⟨_, _, _, _, _, e, _⟩ := h; rw [e]; rfl) | (obtain ⟨_, _, _, _, _, _, e, _⟩ := h; rw [e]; rfl) | (obtain ⟨_, _, _, _, _, _, _, e, _⟩ := h; rw [e]; rfl) | (obtain ⟨_, _, _, _, _, _, _, _, e, _⟩ := h; rw [e]; rfl) | (obtain ⟨_, _, _, _, _, _, _, _, _, e, _⟩ := h; rw [e]; rfl) | (obtain ⟨_, _, _, _, _, _, _, _, _, _, e, _⟩ := h; rw [e]; rfl) | (obtain ⟨_, _, _, _, _, _, _, _, _, _, _, e, _⟩ := h; rw [e]; rfl) | (obtain ⟨_, _, _, _, _, _, _, _, _, _, _, _, e, _⟩ := h; rw [e]; rfl) | (obtain ⟨_, _, _, _, _, _, _, _, _, _, _, _, _, e, _⟩ := h; rw [e]; rfl) | (obtain ⟨_, _, _, _, _, _, _, _, _, _, _, _, _, _, e, _⟩ := h; rw [e]; rfl) | (obtain ⟨_, _, _, _, _, _, _, _, _, _, _, _, _, _, _, e, _⟩ := h; rw [e]; rfl) | (obtain ⟨_, _, _, _, _, _, _, _, _, _, _, _, _, _, _, _, e, _⟩ := h; rw [e]; rfl) | (obtain ⟨_, _, _, _, _, _, _, _, _, _, _, _, _, _, _, _, _, e, _⟩ := h; rw [e]; rfl) | (obtain ⟨_, _, _, _, _, _, _, _, _, _, _, _, _, _, _, _, _, _, e, _⟩ := h; rw [e]; rfl)) (fun cdv A outer s H vs Q E hr h => ⟨t_size_for K a E, (pss_cons (ps_set (i := 1) sc_size_for.nd rfl (Or.inl rfl) pe_int)
  (pss_cons (ps_while PassesOwn.never (pt_cmpR op_gt (pe_op op_mul pe_int (pv 0)) (pe_op op_mul pe_int (pv 1)) (nomark _)) (pss_one (ps_set (i := 1) sc_size_for.nd rfl (Or.inl rfl) (pe_op op_mul pe_int (pv 1)))))
  (pss_one (ps_ret (pv 1))))), r_size_for vs H Q E h⟩)
theorem ok_Book_worth (L : Lk K mg a) : FnOk P w K mg base CX0 1 L.f_Book_worth L.fd_Book_worth ["self", "name"] (sp_Book_worth K a) :=
  L.F_Book_worth.ok sc_Book_worth (fun vs H Q E h => by first | (obtain ⟨e, _⟩ := h; rw [e]; rfl) | (obtain ⟨_, e, _⟩ := h; rw [e]; rfl) | (obtain ⟨_, _, e, _⟩ := h; rw [e]; rfl) | (obtain ⟨_, _, _, e, _⟩ := h; rw [e]; rfl) | (obtain ⟨_, _, _, _, e, _⟩ := h; rw [e]; rfl) | (obtain ⟨_, _, _, _, _, e, _⟩ := h; rw [e]; rfl) | (obtain ⟨_, _, _, _, _, _, e, _⟩ := h; rw [e]; rfl) | (obtain ⟨_, _, _, _, _, _, _, e, _⟩ := h; rw [e]; rfl) | (obtain ⟨_, _, _, _, _, _, _, _, e, _⟩ := h; rw [e]; rfl) | (obtain ⟨_, _, _, _, _, _, _, _, _, e, _⟩ := h; rw [e]; rfl) | (obtain ⟨_, _, _, _, _, _, _, _, _, _, e, _⟩ := h; rw [e]; rfl) | (obtain ⟨_, _, _, _, _, _, _, _, _, _, _, e, _⟩ := h; rw [e]; rfl) | (obtain ⟨_, _, _, _, _, _, _, _, _, _, _, _, e, _⟩ := h; rw [e]; rfl) | (obtain ⟨_, _, _, _, _, _, _, _, _, _, _, _, _, e, _⟩ := h; rw [e]; rfl) | (obtain ⟨_, _, _, _, _, _, _, _, _, _, _, _, _, _, e, _⟩ := h; rw [e]; rfl) | (obtain ⟨_, _, _, _, _, _, _, _, _, _, _, _, _, _, _, e, _⟩ := h; rw [e]; rfl) | (obtain ⟨_, _, _, _, _, _, _, _, _, _, _, _, _, _, _, _, e, _⟩ := h; rw [e]; rfl) | (obtain ⟨_, _, _, _, _, _, _, _, _, _, _, _, _, _, _, _, _, e, _⟩ := h; rw [e]; rfl) | (obtain ⟨_, _, _, _, _, _, _, _, _, _, _, _, _, _, _, _, _, _, e, _⟩ := h; rw [e]; rfl)) (fun cdv A outer s H vs Q E hr h => ⟨t_Book_worth K a E, (pss_one (ps_ret (pe_dget1 (hu_of hr) (pe_fld (pv 0) rfl) (pv 1) ⟨rfl, rfl, rfl, rfl⟩))), r_Book_worth L.fc_Book vs H Q E h⟩)
theorem ok_law_cell (L : Lk K mg a) : FnOk P w K mg base CX0 1 L.f_law_cell L.fd_law_cell ["script", "k"] (sp_law_cell K a) :=
  L.F_law_cell.ok sc_law_cell (fun vs H Q E h => by first | (obtain ⟨e, _⟩ := h; rw [e]; rfl) | (obtain ⟨_, e, _⟩ := h; rw [e]; rfl) | (obtain ⟨_, _, e, _⟩ := h; rw [e]; rfl) | (obtain ⟨_, _, _, e, _⟩ := h; rw [e]; rfl) | (obtain ⟨_, _, _, _, e, _⟩ := h; rw [e]; rfl) | (obtain ⟨_, _, _, _, _, e, _⟩ := h; rw [e]; rfl) | (obtain ⟨_, _, _, _, _, _, e, _⟩ := h; rw [e]; rfl) | (obtain ⟨_, _, _, _, _, _, _, e, _⟩ := h; rw [e]; rfl) | (obtain ⟨_, _, _, _, _, _, _, _, e, _⟩ := h; rw [e]; rfl) | (obtain ⟨_, _, _, _, _, _, _, _, _, e, _⟩ := h; rw [e]; rfl) | (obtain ⟨_, _, _, _, _, _, _, _, _, _, e, _⟩ := h; rw [e]; rfl) | (obtain ⟨_, _, _, _, _, _, _, _, _, _, _, e, _⟩ := h; rw [e]; rfl) | (obtain ⟨_, _, _, _, _, _, _, _, _, _, _, _, e, _⟩ := h; rw [e]; rfl) | (obtain ⟨_, _, _, _, _, _, _, _, _, _, _, _, _, e, _⟩ := h; rw [e]; rfl) | (obtain ⟨_, _, _, _, _, _, _, _, _, _, _, _, _, _, e, _⟩ := h; rw [e]; rfl) | (obtain ⟨_, _, _, _, _, _, _, _, _, _, _, _, _, _, _, e, _⟩ := h; rw [e]; rfl) | (obtain ⟨_, _, _, _, _, _, _, _, _, _, _, _, _, _, _, _, e, _⟩ := h; rw [e]; rfl) | (obtain ⟨_, _, _, _, _, _, _, _, _, _, _, _, _, _, _, _, _, e, _⟩ := h; rw [e]; rfl) | (obtain ⟨_, _, _, _, _, _, _, _, _, _, _, _, _, _, _, _, _, _, e, _⟩ := h; rw [e]; rfl)) (fun cdv A outer s H vs Q E hr h => ⟨t_law_cell K a E, (pss_cons (ps_if (pt_cmpR op_lt (pv 1) (pe_callB call_len_seq (by rfl) L.n_len PySem.boot_len (pa_cons (pv 0) pa_nil)) (nomark _)) (pss_one (ps_ret (pe_ix ix_list (pv 0) (pv 1) (fun _ _ => rfl)))) pss_nil)
  (pss_one (ps_ret pe_int))), r_law_cell vs H Q E h⟩)
theorem ok_law_mixed (L : Lk K mg a) : FnOk P w K mg base CX0 1 L.f_law_mixed L.fd_law_mixed ["cell", "row"] (sp_law_mixed K a) :=
  L.F_law_mixed.ok sc_law_mixed (fun vs H Q E h => by first | (obtain ⟨e, _⟩ := h; rw [e]; rfl) | (obtain ⟨_, e, _⟩ := h; rw [e]; rfl) | (obtain ⟨_, _, e, _⟩ := h; rw [e]; rfl) | (obtain ⟨_, _, _, e, _⟩ := h; rw [e]; rfl) | (obtain ⟨_, _, _, _, e, _⟩ := h; rw [e]; rfl) | (obtain ⟨_, _, _, _, _, e, _⟩ := h; rw [e]; rfl) | (obtain ⟨_, _, _, _, _, _, e, _⟩ := h; rw [e]; rfl) | (obtain ⟨_, _, _, _, _, _, _, e, _⟩ := h; rw [e]; rfl) | (obtain ⟨_, _, _, _, _, _, _, _, e, _⟩ := h; rw [e]; rfl) | (obtain ⟨_, _, _, _, _, _, _, _, _, e, _⟩ := h; rw [e]; rfl) | (obtain ⟨_, _, _, _, _, _, _, _, _, _, e, _⟩ := h; rw [e]; rfl) | (obtain ⟨_, _, _, _, _, _, _, _, _, _, _, e, _⟩ := h; rw [e]; rfl) | (obtain ⟨_, _, _, _, _, _, _, _, _, _, _, _, e, _⟩ := h; rw [e]; rfl) | (obtain ⟨_, _, _, _, _, _, _, _, _, _, _, _, _, e, _⟩ := h; rw [e]; rfl) | (obtain ⟨_, _, _, _, _, _, _, _, _, _, _, _, _, _, e, _⟩ := h; rw [e]; rfl) | (obtain ⟨_, _, _, _, _, _, _, _, _, _, _, _, _, _, _, e, _⟩ := h; rw [e]; rfl) | (obtain ⟨_, _, _, _, _, _, _, _, _, _, _, _, _, _, _, _, e, _⟩ := h; rw [e]; rfl) | (obtain ⟨_, _, _, _, _, _, _, _, _, _, _, _, _, _, _, _, _, e, _⟩ := h; rw [e]; rfl) | (obtain ⟨_, _, _, _, _, _, _, _, _, _, _, _, _, _, _, _, _, _, e, _⟩ := h; rw [e]; rfl)) (fun cdv A outer s H vs Q E hr h => ⟨t_law_mixed K a E, (pss_cons (ps_set (i := 2) sc_law_mixed.nd rfl (Or.inl rfl) (pe_callTy call_list_of (by rfl) L.n_list (by decide +kernel) (pa_cons (pv 1) pa_nil)))
  (pss_cons (ps_set (i := 3) sc_law_mixed.nd rfl (Or.inl rfl) (pe_lst pa_nil))
  (pss_cons (ps_while PassesOwn.never (pt_cmpR (op_neD (units64 hr)) (pv 2) (pe_lst pa_nil) (nomark _)) (pss_cons (ps_set (i := 0) sc_law_mixed.nd rfl (Or.inl rfl) (pe_op op_mod (pe_op op_add (pe_op op_mul (pv 0) pe_int) pe_int) pe_int))
  (pss_one (ps_expr (pe_bm PySem.F.plainAttrs_list PySem.F.slot_list_append PySem.F.type_list_append mt_append (pv 3) (pa_cons (pe_bm PySem.F.plainAttrs_list PySem.F.slot_list_pop PySem.F.type_list_pop mt_popAt (pv 2) (pa_cons (pe_op op_mod (pv 0) (pe_callB call_len_seq (by rfl) L.n_len PySem.boot_len (pa_cons (pv 2) pa_nil))) pa_nil)) pa_nil))))))
  (pss_one (ps_ret (pv 3)))))), r_law_mixed vs H Q E h⟩)
theorem ok_law_size (L : Lk K mg a) : FnOk P w K mg base CX0 1 L.f_law_size L.fd_law_size ["count"] (sp_law_size K a) :=
  L.F_law_size.ok sc_law_size (fun vs H Q E h => by first | (obtain ⟨e, _⟩ := h; rw [e]; rfl) | (obtain ⟨_, e, _⟩ := h; rw [e]; rfl) | (obtain ⟨_, _, e, _⟩ := h; rw [e]; rfl) | (obtain ⟨_, _, _, e, _⟩ := h; rw [e]; rfl) | (obtain ⟨_, _, _, _, e, _⟩ := h; rw [e]; rfl) | (obtain ⟨_, _, _, _, _, e, _⟩ := h; rw [e]; rfl) | (obtain ⟨_, _, _, _, _, _, e, _⟩ := h; rw [e]; rfl) | (obtain ⟨_, _, _, _, _, _, _, e, _⟩ := h; rw [e]; rfl) | (obtain ⟨_, _, _, _, _, _, _, _, e, _⟩ := h; rw [e]; rfl) | (obtain ⟨_, _, _, _, _, _, _, _, _, e, _⟩ := h; rw [e]; rfl) | (obtain ⟨_, _, _, _, _, _, _, _, _, _, e, _⟩ := h; rw [e]; rfl) | (obtain ⟨_, _, _, _, _, _, _, _, _, _, _, e, _⟩ := h; rw [e]; rfl) | (obtain ⟨_, _, _, _, _, _, _, _, _, _, _, _, e, _⟩ := h; rw [e]; rfl) | (obtain ⟨_, _, _, _, _, _, _, _, _, _, _, _, _, e, _⟩ := h; rw [e]; rfl) | (obtain ⟨_, _, _, _, _, _, _, _, _, _, _, _, _, _, e, _⟩ := h; rw [e]; rfl) | (obtain ⟨_, _, _, _, _, _, _, _, _, _, _, _, _, _, _, e, _⟩ := h; rw [e]; rfl) | (obtain ⟨_, _, _, _, _, _, _, _, _, _, _, _, _, _, _, _, e, _⟩ := h; rw [e]; rfl) | (obtain ⟨_, _, _, _, _, _, _, _, _, _, _, _, _, _, _, _, _, e, _⟩ := h; rw [e]; rfl) | (obtain ⟨_, _, _, _, _, _, _, _, _, _, _, _, _, _, _, _, _, _, e, _⟩ := h; rw [e]; rfl)) (fun cdv A outer s H vs Q E hr h => ⟨t_law_size K a E, (pss_cons (ps_for PassesOwn.never rfl (pi_list (pe_lst (pa_cons pe_int (pa_cons pe_int (pa_cons pe_int (pa_cons pe_int (pa_cons pe_int pa_nil))))))) (pg_name (i := 1) sc_law_size.nd rfl (Or.inl rfl)) (pss_one (ps_if (pt_cmpR op_le (pe_op op_mul pe_int (pv 0)) (pe_op op_mul pe_int (pv 1)) (nomark _)) (pss_one (ps_ret (pv 1))) pss_nil)))
  (pss_one (ps_ret pe_int))), r_law_size vs H Q E h⟩)
theorem ok_law_truth (L : Lk K mg a) : FnOk P w K mg base CX0 1 L.f_law_truth L.fd_law_truth ["found", "due"] (sp_law_truth K a) :=
  L.F_law_truth.ok sc_law_truth (fun vs H Q E h => by first | (obtain ⟨e, _⟩ := h; rw [e]; rfl) | (obtain ⟨_, e, _⟩ := h; rw [e]; rfl) | (obtain ⟨_, _, e, _⟩ := h; rw [e]; rfl) | (obtain ⟨_, _, _, e, _⟩ := h; rw [e]; rfl) | (obtain ⟨_, _, _, _, e, _⟩ := h; rw [e]; rfl) | (obtain ⟨_, _, _, _, _, e, _⟩ := h; rw [e]; rfl) | (obtain ⟨_, _, _, _, _, _, e, _⟩ := h; rw [e]; rfl) | (obtain ⟨_, _, _, _, _, _, _, e, _⟩ := h; rw [e]; rfl) | (obtain ⟨_, _, _, _, _, _, _, _, e, _⟩ := h; rw [e]; rfl) | (obtain ⟨_, _, _, _, _, _, _, _, _, e, _⟩ := h; rw [e]; rfl) | (obtain ⟨_, _, _, _, _, _, _, _, _, _, e, _⟩ := h; rw [e]; rfl) | (obtain ⟨_, _, _, _, _, _, _, _, _, _, _, e, _⟩ := h; rw [e]; rfl) | (obtain ⟨_, _, _, _, _, _, _, _, _, _, _, _, e, _⟩ := h; rw [e]; rfl) | (obtain ⟨_, _, _, _, _, _, _, _, _, _, _, _, _, e, _⟩ := h; rw [e]; rfl) | (obtain ⟨_, _, _, _, _, _, _, _, _, _, _, _, _, _, e, _⟩ := h; rw [e]; rfl) | (obtain ⟨_, _, _, _, _, _, _, _, _, _, _, _, _, _, _, e, _⟩ := h; rw [e]; rfl) | (obtain ⟨_, _, _, _, _, _, _, _, _, _, _, _, _, _, _, _, e, _⟩ := h; rw [e]; rfl) | (obtain ⟨_, _, _, _, _, _, _, _, _, _, _, _, _, _, _, _, _, e, _⟩ := h; rw [e]; rfl) | (obtain ⟨_, _, _, _, _, _, _, _, _, _, _, _, _, _, _, _, _, _, e, _⟩ := h; rw [e]; rfl)) (fun cdv A outer s H vs Q E hr h => ⟨t_law_truth K a E, (pss_one (ps_ret (pe_and (pe_callB call_isi (by rfl) L.n_isinstance (by decide +kernel) (pa_cons (pv 0) (pa_cons (pe_bltn (v := .ty "bool") (by rfl) L.n_bool (by decide +kernel) rfl) pa_nil))) (pe_one (pe_cmpR op_eq (pv 0) (pv 1) (nomark _)))))), r_law_truth vs H Q E h⟩)
theorem ok_keeps (L : Lk K mg a) : FnOk P w K mg base CX0 2 L.f_keeps L.fd_keeps ["rule", "one", "other", "at", "many"] (sp_keeps K a) :=
  L.F_keeps.ok sc_keeps (fun vs H Q E h => by first | (obtain ⟨e, _⟩ := h; rw [e]; rfl) | (obtain ⟨_, e, _⟩ := h; rw [e]; rfl) | (obtain ⟨_, _, e, _⟩ := h; rw [e]; rfl) | (obtain ⟨_, _, _, e, _⟩ := h; rw [e]; rfl) | (obtain ⟨_, _, _, _, e, _⟩ := h; rw [e]; rfl) | (obtain ⟨_, _, _, _, _, e, _⟩ := h; rw [e]; rfl) | (obtain ⟨_, _, _, _, _, _, e, _⟩ := h; rw [e]; rfl) | (obtain ⟨_, _, _, _, _, _, _, e, _⟩ := h; rw [e]; rfl) | (obtain ⟨_, _, _, _, _, _, _, _, e, _⟩ := h; rw [e]; rfl) | (obtain ⟨_, _, _, _, _, _, _, _, _, e, _⟩ := h; rw [e]; rfl) | (obtain ⟨_, _, _, _, _, _, _, _, _, _, e, _⟩ := h; rw [e]; rfl) | (obtain ⟨_, _, _, _, _, _, _, _, _, _, _, e, _⟩ := h; rw [e]; rfl) | (obtain ⟨_, _, _, _, _, _, _, _, _, _, _, _, e, _⟩ := h; rw [e]; rfl) | (obtain ⟨_, _, _, _, _, _, _, _, _, _, _, _, _, e, _⟩ := h; rw [e]; rfl) | (obtain ⟨_, _, _, _, _, _, _, _, _, _, _, _, _, _, e, _⟩ := h; rw [e]; rfl) | (obtain ⟨_, _, _, _, _, _, _, _, _, _, _, _, _, _, _, e, _⟩ := h; rw [e]; rfl) | (obtain ⟨_, _, _, _, _, _, _, _, _, _, _, _, _, _, _, _, e, _⟩ := h; rw [e]; rfl) | (obtain ⟨_, _, _, _, _, _, _, _, _, _, _, _, _, _, _, _, _, e, _⟩ := h; rw [e]; rfl) | (obtain ⟨_, _, _, _, _, _, _, _, _, _, _, _, _, _, _, _, _, _, e, _⟩ := h; rw [e]; rfl)) (fun cdv A outer s H vs Q E hr h => ⟨t_keeps K a E, (pss_cons (ps_if (pt_cmpR op_eq (pv 0) pe_int (nomark _)) (pss_one (ps_ret pe_bl)) pss_nil)
  (pss_cons (ps_if (pt_cmpR op_eq (pv 0) pe_int (nomark _)) (pss_cons (ps_set (i := 5) sc_keeps.nd rfl (Or.inl rfl) (pe_call (ok_way L) (hr.mono (by decide)) (by rfl) L.m_way L.F_way.kp L.b_way .nil pass0 (pa_cons (pv 1) (pa_cons (pv 3) (pa_cons (pv 4) pa_nil)))))
  (pss_cons (ps_set (i := 6) sc_keeps.nd rfl (Or.inl rfl) (pe_call (ok_way L) (hr.mono (by decide)) (by rfl) L.m_way L.F_way.kp L.b_way .nil pass0 (pa_cons (pv 2) (pa_cons (pv 3) (pa_cons (pv 4) pa_nil)))))
  (pss_one (ps_if (pt_cmpR op_ne (pv 5) (pv 6) (nomark _)) (pss_one (ps_ret (pe_cmpR op_gt (pv 5) (pv 6) (nomark _)))) pss_nil)))) pss_nil)
  (pss_one (ps_ret (pe_cmpR op_lt (pv 1) (pv 2) (nomark _)))))), r_keeps vs H Q E h⟩)
theorem ok_Yard_heir (L : Lk K mg a) : FnOk P w K mg base CX0 2 L.f_Yard_heir L.fd_Yard_heir ["self", "gap"] (sp_Yard_heir K a) :=
  L.F_Yard_heir.ok sc_Yard_heir (fun vs H Q E h => by first | (obtain ⟨e, _⟩ := h; rw [e]; rfl) | (obtain ⟨_, e, _⟩ := h; rw [e]; rfl) | (obtain ⟨_, _, e, _⟩ := h; rw [e]; rfl) | (obtain ⟨_, _, _, e, _⟩ := h; rw [e]; rfl) | (obtain ⟨_, _, _, _, e, _⟩ := h; rw [e]; rfl) | (obtain ⟨_, _, _, _, _, e, _⟩ := h; rw [e]; rfl) | (obtain ⟨_, _, _, _, _, _, e, _⟩ := h; rw [e]; rfl) | (obtain ⟨_, _, _, _, _, _, _, e, _⟩ := h; rw [e]; rfl) | (obtain ⟨_, _, _, _, _, _, _, _, e, _⟩ := h; rw [e]; rfl) | (obtain ⟨_, _, _, _, _, _, _, _, _, e, _⟩ := h; rw [e]; rfl) | (obtain ⟨_, _, _, _, _, _, _, _, _, _, e, _⟩ := h; rw [e]; rfl) | (obtain ⟨_, _, _, _, _, _, _, _, _, _, _, e, _⟩ := h; rw [e]; rfl) | (obtain ⟨_, _, _, _, _, _, _, _, _, _, _, _, e, _⟩ := h; rw [e]; rfl) | (obtain ⟨_, _, _, _, _, _, _, _, _, _, _, _, _, e, _⟩ := h; rw [e]; rfl) | (obtain ⟨_, _, _, _, _, _, _, _, _, _, _, _, _, _, e, _⟩ := h; rw [e]; rfl) | (obtain ⟨_, _, _, _, _, _, _, _, _, _, _, _, _, _, _, e, _⟩ := h; rw [e]; rfl) | (obtain ⟨_, _, _, _, _, _, _, _, _, _, _, _, _, _, _, _, e, _⟩ := h; rw [e]; rfl) | (obtain ⟨_, _, _, _, _, _, _, _, _, _, _, _, _, _, _, _, _, e, _⟩ := h; rw [e]; rfl) | (obtain ⟨_, _, _, _, _, _, _, _, _, _, _, _, _, _, _, _, _, _, e, _⟩ := h; rw [e]; rfl)) (fun cdv A outer s H vs Q E hr h => ⟨t_Yard_heir K a E, (pss_cons (ps_set (i := 2) sc_Yard_heir.nd rfl (Or.inl rfl) (pe_op op_mod (pe_op op_add (pv 1) pe_int) (pe_fld (pv 0) rfl)))
  (pss_cons (ps_while PassesOwn.never (pt_cmp (pc_notN (pe_ix ix_list (pe_fld (pv 0) rfl) (pv 2) (fun _ _ => rfl))) rfl) (pss_cons (ps_if (pt_cmpR op_lt (pe_call (ok_way L) (hr.mono (by decide)) (by rfl) L.m_way L.F_way.kp L.b_way .nil pass0 (pa_cons (pe_ix ix_list (pe_fld (pv 0) rfl) (pv 2) (fun _ _ => rfl)) (pa_cons (pv 1) (pa_cons (pe_fld (pv 0) rfl) pa_nil)))) (pe_call (ok_way L) (hr.mono (by decide)) (by rfl) L.m_way L.F_way.kp L.b_way .nil pass0 (pa_cons (pe_ix ix_list (pe_fld (pv 0) rfl) (pv 2) (fun _ _ => rfl)) (pa_cons (pv 2) (pa_cons (pe_fld (pv 0) rfl) pa_nil)))) (nomark _)) (pss_one (ps_ret (pv 2))) pss_nil)
  (pss_one (ps_set (i := 2) sc_Yard_heir.nd rfl (Or.inl rfl) (pe_op op_mod (pe_op op_add (pv 2) pe_int) (pe_fld (pv 0) rfl))))))
  (pss_one (ps_ret pe_non)))), r_Yard_heir L.fc_Yard vs H Q E h⟩)
theorem ok_Book_layout (L : Lk K mg a) : FnOk P w K mg base CX0 2 L.f_Book_layout L.fd_Book_layout ["self"] (sp_Book_layout K a) :=
  L.F_Book_layout.ok sc_Book_layout (fun vs H Q E h => by first | (obtain ⟨e, _⟩ := h; rw [e]; rfl) | (obtain ⟨_, e, _⟩ := h; rw [e]; rfl) | (obtain ⟨_, _, e, _⟩ := h; rw [e]; rfl) | (obtain ⟨_, _, _, e, _⟩ := h; rw [e]; rfl) | (obtain ⟨_, _, _, _, e, _⟩ := h; rw [e]; rfl) | (obtain ⟨_, _, _, _, _, e, _⟩ := h; rw [e]; rfl) | (obtain ⟨_, _, _, _, _, _, e, _⟩ := h; rw [e]; rfl) | (obtain ⟨_, _, _, _, _, _, _, e, _⟩ := h; rw [e]; rfl) | (obtain ⟨_, _, _, _, _, _, _, _, e, _⟩ := h; rw [e]; rfl) | (obtain ⟨_, _, _, _, _, _, _, _, _, e, _⟩ := h; rw [e]; rfl) | (obtain ⟨_, _, _, _, _, _, _, _, _, _, e, _⟩ := h; rw [e]; rfl) | (obtain ⟨_, _, _, _, _, _, _, _, _, _, _, e, _⟩ := h; rw [e]; rfl) | (obtain ⟨_, _, _, _, _, _, _, _, _, _, _, _, e, _⟩ := h; rw [e]; rfl) | (obtain ⟨_, _, _, _, _, _, _, _, _, _, _, _, _, e, _⟩ := h; rw [e]; rfl) | (obtain ⟨_, _, _, _, _, _, _, _, _, _, _, _, _, _, e, _⟩ := h; rw [e]; rfl) | (obtain ⟨_, _, _, _, _, _, _, _, _, _, _, _, _, _, _, e, _⟩ := h; rw [e]; rfl) | (obtain ⟨_, _, _, _, _, _, _, _, _, _, _, _, _, _, _, _, e, _⟩ := h; rw [e]; rfl) | (obtain ⟨_, _, _, _, _, _, _, _, _, _, _, _, _, _, _, _, _, e, _⟩ := h; rw [e]; rfl) | (obtain ⟨_, _, _, _, _, _, _, _, _, _, _, _, _, _, _, _, _, _, e, _⟩ := h; rw [e]; rfl)) (fun cdv A outer s H vs Q E hr h => ⟨t_Book_layout K a E, (pss_cons (ps_set (i := 1) sc_Book_layout.nd rfl (Or.inl rfl) (pe_lst pa_nil))
  (pss_cons (ps_for PassesOwn.never rfl (pi_list (pe_meth0 (pe_fld (pv 0) rfl) L.cl_Yard L.h_Yard_stalls (ok_Yard_stalls L) (hr.mono (by decide)) L.b_Yard_stalls .nil pass0 )) (pg_name (i := 2) sc_Book_layout.nd rfl (Or.inl rfl)) (pss_one (ps_if (pt_cmp (pc_isN (pv 2)) rfl) (pss_one (ps_expr (pe_bm PySem.F.plainAttrs_list PySem.F.slot_list_append PySem.F.type_list_append mt_append (pv 1) (pa_cons pe_non pa_nil)))) (pss_one (ps_expr (pe_bm PySem.F.plainAttrs_list PySem.F.slot_list_append PySem.F.type_list_append mt_append (pv 1) (pa_cons (pe_tup (pa_cons (pv 2) (pa_cons (pe_dget (hu_of hr) (pe_fld (pv 0) rfl) (pv 2) (fun _ _ => rfl)) pa_nil))) pa_nil)))))))
  (pss_one (ps_ret (pv 1))))), r_Book_layout L.fc_Book vs H Q E h⟩)
theorem ok_Book_names (L : Lk K mg a) : FnOk P w K mg base CX0 2 L.f_Book_names L.fd_Book_names ["self"] (sp_Book_names K a) :=
  L.F_Book_names.ok sc_Book_names (fun vs H Q E h => by first | (obtain ⟨e, _⟩ := h; rw [e]; rfl) | (obtain ⟨_, e, _⟩ := h; rw [e]; rfl) | (obtain ⟨_, _, e, _⟩ := h; rw [e]; rfl) | (obtain ⟨_, _, _, e, _⟩ := h; rw [e]; rfl) | (obtain ⟨_, _, _, _, e, _⟩ := h; rw [e]; rfl) | (obtain ⟨_, _, _, _, _, e, _⟩ := h; rw [e]; rfl) | (obtain ⟨_, _, _, _, _, _, e, _⟩ := h; rw [e]; rfl) | (obtain ⟨_, _, _, _, _, _, _, e, _⟩ := h; rw [e]; rfl) | (obtain ⟨_, _, _, _, _, _, _, _, e, _⟩ := h; rw [e]; rfl) | (obtain ⟨_, _, _, _, _, _, _, _, _, e, _⟩ := h; rw [e]; rfl) | (obtain ⟨_, _, _, _, _, _, _, _, _, _, e, _⟩ := h; rw [e]; rfl) | (obtain ⟨_, _, _, _, _, _, _, _, _, _, _, e, _⟩ := h; rw [e]; rfl) | (obtain ⟨_, _, _, _, _, _, _, _, _, _, _, _, e, _⟩ := h; rw [e]; rfl) | (obtain ⟨_, _, _, _, _, _, _, _, _, _, _, _, _, e, _⟩ := h; rw [e]; rfl) | (obtain ⟨_, _, _, _, _, _, _, _, _, _, _, _, _, _, e, _⟩ := h; rw [e]; rfl) | (obtain ⟨_, _, _, _, _, _, _, _, _, _, _, _, _, _, _, e, _⟩ := h; rw [e]; rfl) | (obtain ⟨_, _, _, _, _, _, _, _, _, _, _, _, _, _, _, _, e, _⟩ := h; rw [e]; rfl) | (obtain ⟨_, _, _, _, _, _, _, _, _, _, _, _, _, _, _, _, _, e, _⟩ := h; rw [e]; rfl) | (obtain ⟨_, _, _, _, _, _, _, _, _, _, _, _, _, _, _, _, _, _, e, _⟩ := h; rw [e]; rfl)) (fun cdv A outer s H vs Q E hr h => ⟨t_Book_names K a E, (pss_one (ps_ret (pe_meth0 (pe_fld (pv 0) rfl) L.cl_Yard L.h_Yard_names (ok_Yard_names L) (hr.mono (by decide)) L.b_Yard_names .nil pass0 ))), r_Book_names L.fc_Book vs H Q E h⟩)
theorem ok_Yard_goes_on (L : Lk K mg a) : FnOk P w K mg base CX0 3 L.f_Yard_goes_on L.fd_Yard_goes_on ["self", "name", "at"] (sp_Yard_goes_on K a) :=
  L.F_Yard_goes_on.ok sc_Yard_goes_on (fun vs H Q E h => by first | (obtain ⟨e, _⟩ := h; rw [e]; rfl) | (obtain ⟨_, e, _⟩ := h; rw [e]; rfl) | (obtain ⟨_, _, e, _⟩ := h; rw [e]; rfl) | (obtain ⟨_, _, _, e, _⟩ := h; rw [e]; rfl) | (obtain ⟨_, _, _, _, e, _⟩ := h; rw [e]; rfl) | (obtain ⟨_, _, _, _, _, e, _⟩ := h; rw [e]; rfl) | (obtain ⟨_, _, _, _, _, _, e, _⟩ := h; rw [e]; rfl) | (obtain ⟨_, _, _, _, _, _, _, e, _⟩ := h; rw [e]; rfl) | (obtain ⟨_, _, _, _, _, _, _, _, e, _⟩ := h; rw [e]; rfl) | (obtain ⟨_, _, _, _, _, _, _, _, _, e, _⟩ := h; rw [e]; rfl) | (obtain ⟨_, _, _, _, _, _, _, _, _, _, e, _⟩ := h; rw [e]; rfl) | (obtain ⟨_, _, _, _, _, _, _, _, _, _, _, e, _⟩ := h; rw [e]; rfl) | (obtain ⟨_, _, _, _, _, _, _, _, _, _, _, _, e, _⟩ := h; rw [e]; rfl) | (obtain ⟨_, _, _, _, _, _, _, _, _, _, _, _, _, e, _⟩ := h; rw [e]; rfl) | (obtain ⟨_, _, _, _, _, _, _, _, _, _, _, _, _, _, e, _⟩ := h; rw [e]; rfl) | (obtain ⟨_, _, _, _, _, _, _, _, _, _, _, _, _, _, _, e, _⟩ := h; rw [e]; rfl) | (obtain ⟨_, _, _, _, _, _, _, _, _, _, _, _, _, _, _, _, e, _⟩ := h; rw [e]; rfl) | (obtain ⟨_, _, _, _, _, _, _, _, _, _, _, _, _, _, _, _, _, e, _⟩ := h; rw [e]; rfl) | (obtain ⟨_, _, _, _, _, _, _, _, _, _, _, _, _, _, _, _, _, _, e, _⟩ := h; rw [e]; rfl)) (fun cdv A outer s H vs Q E hr h => ⟨t_Yard_goes_on K a E, (pss_cons (ps_set (i := 3) sc_Yard_goes_on.nd rfl (Or.inl rfl) (pe_ix ix_list (pe_fld (pv 0) rfl) (pv 2) (fun _ _ => rfl)))
  (pss_cons (ps_if (PW.pt (pw_or (pt_cmp (pc_isN (pv 3)) rfl) (pw_or1 (pt_cmpR op_eq (pv 3) (pv 1) (nomark _))))) (pss_one (ps_ret pe_bl)) pss_nil)
  (pss_one (ps_ret (pe_call (ok_keeps L) (hr.mono (by decide)) (by rfl) L.m_keeps L.F_keeps.kp L.b_keeps .nil pass0 (pa_cons (pe_fld (pv 0) rfl) (pa_cons (pv 3) (pa_cons (pv 1) (pa_cons (pv 2) (pa_cons (pe_fld (pv 0) rfl) pa_nil)))))))))), r_Yard_goes_on L.fc_Yard vs H Q E h⟩)
theorem ok_Book__init_ (L : Lk K mg a) : FnOk P w K mg base CX0 3 L.f_Book__init_ L.fd_Book__init_ ["self", "rule"] (sp_Book__init_ K a) :=
  L.F_Book__init_.ok sc_Book__init_ (fun vs H Q E h => by first | (obtain ⟨e, _⟩ := h; rw [e]; rfl) | (obtain ⟨_, e, _⟩ := h; rw [e]; rfl) | (obtain ⟨_, _, e, _⟩ := h; rw [e]; rfl) | (obtain ⟨_, _, _, e, _⟩ := h; rw [e]; rfl) | (obtain ⟨_, _, _, _, e, _⟩ := h; rw [e]; rfl) | (obtain ⟨_, _, _, _, _, e, _⟩ := h; rw [e]; rfl) | (obtain ⟨_, _, _, _, _, _, e, _⟩ := h; rw [e]; rfl) | (obtain ⟨_, _, _, _, _, _, _, e, _⟩ := h; rw [e]; rfl) | (obtain ⟨_, _, _, _, _, _, _, _, e, _⟩ := h; rw [e]; rfl) | (obtain ⟨_, _, _, _, _, _, _, _, _, e, _⟩ := h; rw [e]; rfl) | (obtain ⟨_, _, _, _, _, _, _, _, _, _, e, _⟩ := h; rw [e]; rfl) | (obtain ⟨_, _, _, _, _, _, _, _, _, _, _, e, _⟩ := h; rw [e]; rfl) | (obtain ⟨_, _, _, _, _, _, _, _, _, _, _, _, e, _⟩ := h; rw [e]; rfl) | (obtain ⟨_, _, _, _, _, _, _, _, _, _, _, _, _, e, _⟩ := h; rw [e]; rfl) | (obtain ⟨_, _, _, _, _, _, _, _, _, _, _, _, _, _, e, _⟩ := h; rw [e]; rfl) | (obtain ⟨_, _, _, _, _, _, _, _, _, _, _, _, _, _, _, e, _⟩ := h; rw [e]; rfl) | (obtain ⟨_, _, _, _, _, _, _, _, _, _, _, _, _, _, _, _, e, _⟩ := h; rw [e]; rfl) | (obtain ⟨_, _, _, _, _, _, _, _, _, _, _, _, _, _, _, _, _, e, _⟩ := h; rw [e]; rfl) | (obtain ⟨_, _, _, _, _, _, _, _, _, _, _, _, _, _, _, _, _, _, e, _⟩ := h; rw [e]; rfl)) (fun cdv A outer s H vs Q E hr h => ⟨t_Book__init_ K a E, (pss_cons (ps_fld (pv 0) (pe_make L.k_Yard (ok_Yard__init_ L) (hr.mono (by decide)) (by rfl) L.g_Yard L.b_Yard__init_ .nil passL (pa_cons pe_int (pa_cons (pv 1) pa_nil))) rfl)
  (pss_one (ps_fld (pv 0) pe_dnewK rfl))), r_Book__init_ L.fc_Book vs H Q E h⟩)
theorem ok_changes (L : Lk K mg a) : FnOk P w K mg base CX0 3 L.f_changes L.fd_changes ["one", "other"] (sp_changes K a) :=
  L.F_changes.ok sc_changes (fun vs H Q E h => by first | (obtain ⟨e, _⟩ := h; rw [e]; rfl) | (obtain ⟨_, e, _⟩ := h; rw [e]; rfl) | (obtain ⟨_, _, e, _⟩ := h; rw [e]; rfl) | (obtain ⟨_, _, _, e, _⟩ := h; rw [e]; rfl) | (obtain ⟨_, _, _, _, e, _⟩ := h; rw [e]; rfl) | (obtain ⟨_, _, _, _, _, e, _⟩ := h; rw [e]; rfl) | (obtain ⟨_, _, _, _, _, _, e, _⟩ := h; rw [e]; rfl) | (obtain ⟨_, _, _, _, _, _, _, e, _⟩ := h; rw [e]; rfl) | (obtain ⟨_, _, _, _, _, _, _, _, e, _⟩ := h; rw [e]; rfl) | (obtain ⟨_, _, _, _, _, _, _, _, _, e, _⟩ := h; rw [e]; rfl) | (obtain ⟨_, _, _, _, _, _, _, _, _, _, e, _⟩ := h; rw [e]; rfl) | (obtain ⟨_, _, _, _, _, _, _, _, _, _, _, e, _⟩ := h; rw [e]; rfl) | (obtain ⟨_, _, _, _, _, _, _, _, _, _, _, _, e, _⟩ := h; rw [e]; rfl) | (obtain ⟨_, _, _, _, _, _, _, _, _, _, _, _, _, e, _⟩ := h; rw [e]; rfl) | (obtain ⟨_, _, _, _, _, _, _, _, _, _, _, _, _, _, e, _⟩ := h; rw [e]; rfl) | (obtain ⟨_, _, _, _, _, _, _, _, _, _, _, _, _, _, _, e, _⟩ := h; rw [e]; rfl) | (obtain ⟨_, _, _, _, _, _, _, _, _, _, _, _, _, _, _, _, e, _⟩ := h; rw [e]; rfl) | (obtain ⟨_, _, _, _, _, _, _, _, _, _, _, _, _, _, _, _, _, e, _⟩ := h; rw [e]; rfl) | (obtain ⟨_, _, _, _, _, _, _, _, _, _, _, _, _, _, _, _, _, _, e, _⟩ := h; rw [e]; rfl)) (fun cdv A outer s H vs Q E hr h => ⟨t_changes K a E, (pss_cons (ps_set (i := 2) sc_changes.nd rfl (Or.inl rfl) (pe_lst pa_nil))
  (pss_cons (ps_for PassesOwn.never rfl (pi_list (pe_sortSet rfl (by rfl) L.n_sorted (by rfl) L.n_set (pe_op op_cat (pe_meth0 (pv 0) L.cl_Book L.h_Book_names (ok_Book_names L) (hr.mono (by decide)) L.b_Book_names .nil pass0 ) (pe_meth0 (pv 1) L.cl_Book L.h_Book_names (ok_Book_names L) (hr.mono (by decide)) L.b_Book_names .nil pass0 )))) (pg_name (i := 3) sc_changes.nd rfl (Or.inl rfl)) (pss_one (ps_if (pt_cmpR op_ne (pe_meth (pv 0) L.cl_Book L.h_Book_worth (ok_Book_worth L) (hr.mono (by decide)) L.b_Book_worth .nil pass0 (pa_cons (pv 3) pa_nil)) (pe_meth (pv 1) L.cl_Book L.h_Book_worth (ok_Book_worth L) (hr.mono (by decide)) L.b_Book_worth .nil pass0 (pa_cons (pv 3) pa_nil)) (nomark _)) (pss_one (ps_expr (pe_bm PySem.F.plainAttrs_list PySem.F.slot_list_append PySem.F.type_list_append mt_append (pv 2) (pa_cons (pe_tup (pa_cons (pv 3) (pa_cons (pe_meth (pv 0) L.cl_Book L.h_Book_worth (ok_Book_worth L) (hr.mono (by decide)) L.b_Book_worth .nil pass0 (pa_cons (pv 3) pa_nil)) (pa_cons (pe_meth (pv 1) L.cl_Book L.h_Book_worth (ok_Book_worth L) (hr.mono (by decide)) L.b_Book_worth .nil pass0 (pa_cons (pv 3) pa_nil)) pa_nil)))) pa_nil)))) pss_nil)))
  (pss_one (ps_ret (pv 2))))), r_changes vs H Q E h⟩)
theorem ok_law_taken11 (L : Lk K mg a) : FnOk P w K mg base CX0 3 L.f_law_taken11 L.fd_law_taken11 ["book"] (sp_law_taken11 K a) :=
  L.F_law_taken11.ok sc_law_taken11 (fun vs H Q E h => by first | (obtain ⟨e, _⟩ := h; rw [e]; rfl) | (obtain ⟨_, e, _⟩ := h; rw [e]; rfl) | (obtain ⟨_, _, e, _⟩ := h; rw [e]; rfl) | (obtain ⟨_, _, _, e, _⟩ := h; rw [e]; rfl) | (obtain ⟨_, _, _, _, e, _⟩ := h; rw [e]; rfl) | (obtain ⟨_, _, _, _, _, e, _⟩ := h; rw [e]; rfl) | (obtain ⟨_, _, _, _, _, _, e, _⟩ := h; rw [e]; rfl) | (obtain ⟨_, _, _, _, _, _, _, e, _⟩ := h; rw [e]; rfl) | (obtain ⟨_, _, _, _, _, _, _, _, e, _⟩ := h; rw [e]; rfl) | (obtain ⟨_, _, _, _, _, _, _, _, _, e, _⟩ := h; rw [e]; rfl) | (obtain ⟨_, _, _, _, _, _, _, _, _, _, e, _⟩ := h; rw [e]; rfl) | (obtain ⟨_, _, _, _, _, _, _, _, _, _, _, e, _⟩ := h; rw [e]; rfl) | (obtain ⟨_, _, _, _, _, _, _, _, _, _, _, _, e, _⟩ := h; rw [e]; rfl) | (obtain ⟨_, _, _, _, _, _, _, _, _, _, _, _, _, e, _⟩ := h; rw [e]; rfl) | (obtain ⟨_, _, _, _, _, _, _, _, _, _, _, _, _, _, e, _⟩ := h; rw [e]; rfl) | (obtain ⟨_, _, _, _, _, _, _, _, _, _, _, _, _, _, _, e, _⟩ := h; rw [e]; rfl) | (obtain ⟨_, _, _, _, _, _, _, _, _, _, _, _, _, _, _, _, e, _⟩ := h; rw [e]; rfl) | (obtain ⟨_, _, _, _, _, _, _, _, _, _, _, _, _, _, _, _, _, e, _⟩ := h; rw [e]; rfl) | (obtain ⟨_, _, _, _, _, _, _, _, _, _, _, _, _, _, _, _, _, _, e, _⟩ := h; rw [e]; rfl)) (fun cdv A outer s H vs Q E hr h => ⟨t_law_taken11 K a E, (pss_one (ps_ret (pe_lc (own := [("spot", 1)]) (by rfl) sc_law_taken11.nd (pi_list (pe_meth0 (pv 0) L.cl_Book L.h_Book_layout (ok_Book_layout L) (hr.mono (by decide)) L.b_Book_layout .nil pass0 )) (blkOk_by (own := [("spot", 1)]) (N := N_law_taken11) (sc := defScope s_law_taken11) (by decide +kernel)) (fun _ _ _ _ _ => (pg_name (i := 1) sc_law_taken11.nd rfl (Or.inl rfl))) (fun _ _ _ _ _ => pts_nil) (fun _ _ _ _ _ => (pe_cmp (pc_notN (pv 1)) rfl))))), r_law_taken11 vs H Q E h⟩)
theorem ok_Yard_looked (L : Lk K mg a) : FnOk P w K mg base CX0 4 L.f_Yard_looked L.fd_Yard_looked ["self", "name"] (sp_Yard_looked K a) :=
  L.F_Yard_looked.ok sc_Yard_looked (fun vs H Q E h => by first | (obtain ⟨e, _⟩ := h; rw [e]; rfl) | (obtain ⟨_, e, _⟩ := h; rw [e]; rfl) | (obtain ⟨_, _, e, _⟩ := h; rw [e]; rfl) | (obtain ⟨_, _, _, e, _⟩ := h; rw [e]; rfl) | (obtain ⟨_, _, _, _, e, _⟩ := h; rw [e]; rfl) | (obtain ⟨_, _, _, _, _, e, _⟩ := h; rw [e]; rfl) | (obtain ⟨_, _, _, _, _, _, e, _⟩ := h; rw [e]; rfl) | (obtain ⟨_, _, _, _, _, _, _, e, _⟩ := h; rw [e]; rfl) | (obtain ⟨_, _, _, _, _, _, _, _, e, _⟩ := h; rw [e]; rfl) | (obtain ⟨_, _, _, _, _, _, _, _, _, e, _⟩ := h; rw [e]; rfl) | (obtain ⟨_, _, _, _, _, _, _, _, _, _, e, _⟩ := h; rw [e]; rfl) | (obtain ⟨_, _, _, _, _, _, _, _, _, _, _, e, _⟩ := h; rw [e]; rfl) | (obtain ⟨_, _, _, _, _, _, _, _, _, _, _, _, e, _⟩ := h; rw [e]; rfl) | (obtain ⟨_, _, _, _, _, _, _, _, _, _, _, _, _, e, _⟩ := h; rw [e]; rfl) | (obtain ⟨_, _, _, _, _, _, _, _, _, _, _, _, _, _, e, _⟩ := h; rw [e]; rfl) | (obtain ⟨_, _, _, _, _, _, _, _, _, _, _, _, _, _, _, e, _⟩ := h; rw [e]; rfl) | (obtain ⟨_, _, _, _, _, _, _, _, _, _, _, _, _, _, _, _, e, _⟩ := h; rw [e]; rfl) | (obtain ⟨_, _, _, _, _, _, _, _, _, _, _, _, _, _, _, _, _, e, _⟩ := h; rw [e]; rfl) | (obtain ⟨_, _, _, _, _, _, _, _, _, _, _, _, _, _, _, _, _, _, e, _⟩ := h; rw [e]; rfl)) (fun cdv A outer s H vs Q E hr h => ⟨t_Yard_looked K a E, (pss_cons (ps_set (i := 2) sc_Yard_looked.nd rfl (Or.inl rfl) (pe_op op_mod (pv 1) (pe_fld (pv 0) rfl)))
  (pss_cons (ps_set (i := 3) sc_Yard_looked.nd rfl (Or.inl rfl) (pe_lst (pa_cons (pv 2) pa_nil)))
  (pss_cons (ps_while PassesOwn.never (pt_val (pe_meth (pv 0) L.cl_Yard L.h_Yard_goes_on (ok_Yard_goes_on L) (hr.mono (by decide)) L.b_Yard_goes_on .nil pass0 (pa_cons (pv 1) (pa_cons (pv 2) pa_nil)))) (pss_cons (ps_set (i := 2) sc_Yard_looked.nd rfl (Or.inl rfl) (pe_op op_mod (pe_op op_add (pv 2) pe_int) (pe_fld (pv 0) rfl)))
  (pss_one (ps_expr (pe_bm PySem.F.plainAttrs_list PySem.F.slot_list_append PySem.F.type_list_append mt_append (pv 3) (pa_cons (pv 2) pa_nil))))))
  (pss_one (ps_ret (pv 3)))))), r_Yard_looked L.fc_Yard vs H Q E h⟩)
theorem ok_alike (L : Lk K mg a) : FnOk P w K mg base CX0 4 L.f_alike L.fd_alike ["one", "other"] (sp_alike K a) :=
  L.F_alike.ok sc_alike (fun vs H Q E h => by first | (obtain ⟨e, _⟩ := h; rw [e]; rfl) | (obtain ⟨_, e, _⟩ := h; rw [e]; rfl) | (obtain ⟨_, _, e, _⟩ := h; rw [e]; rfl) | (obtain ⟨_, _, _, e, _⟩ := h; rw [e]; rfl) | (obtain ⟨_, _, _, _, e, _⟩ := h; rw [e]; rfl) | (obtain ⟨_, _, _, _, _, e, _⟩ := h; rw [e]; rfl) | (obtain ⟨_, _, _, _, _, _, e, _⟩ := h; rw [e]; rfl) | (obtain ⟨_, _, _, _, _, _, _, e, _⟩ := h; rw [e]; rfl) | (obtain ⟨_, _, _, _, _, _, _, _, e, _⟩ := h; rw [e]; rfl) | (obtain ⟨_, _, _, _, _, _, _, _, _, e, _⟩ := h; rw [e]; rfl) | (obtain ⟨_, _, _, _, _, _, _, _, _, _, e, _⟩ := h; rw [e]; rfl) | (obtain ⟨_, _, _, _, _, _, _, _, _, _, _, e, _⟩ := h; rw [e]; rfl) | (obtain ⟨_, _, _, _, _, _, _, _, _, _, _, _, e, _⟩ := h; rw [e]; rfl) | (obtain ⟨_, _, _, _, _, _, _, _, _, _, _, _, _, e, _⟩ := h; rw [e]; rfl) | (obtain ⟨_, _, _, _, _, _, _, _, _, _, _, _, _, _, e, _⟩ := h; rw [e]; rfl) | (obtain ⟨_, _, _, _, _, _, _, _, _, _, _, _, _, _, _, e, _⟩ := h; rw [e]; rfl) | (obtain ⟨_, _, _, _, _, _, _, _, _, _, _, _, _, _, _, _, e, _⟩ := h; rw [e]; rfl) | (obtain ⟨_, _, _, _, _, _, _, _, _, _, _, _, _, _, _, _, _, e, _⟩ := h; rw [e]; rfl) | (obtain ⟨_, _, _, _, _, _, _, _, _, _, _, _, _, _, _, _, _, _, e, _⟩ := h; rw [e]; rfl)) (fun cdv A outer s H vs Q E hr h => ⟨t_alike K a E, (pss_one (ps_ret (pe_cmpR (op_eqD (units64 hr)) (pe_call (ok_changes L) (hr.mono (by decide)) (by rfl) L.m_changes L.F_changes.kp L.b_changes .nil pass0 (pa_cons (pv 0) (pa_cons (pv 1) pa_nil))) (pe_lst pa_nil) (nomark _)))), r_alike vs H Q E h⟩)
theorem ok_Yard_where (L : Lk K mg a) : FnOk P w K mg base CX0 5 L.f_Yard_where L.fd_Yard_where ["self", "name"] (sp_Yard_where K a) :=
  L.F_Yard_where.ok sc_Yard_where (fun vs H Q E h => by first | (obtain ⟨e, _⟩ := h; rw [e]; rfl) | (obtain ⟨_, e, _⟩ := h; rw [e]; rfl) | (obtain ⟨_, _, e, _⟩ := h; rw [e]; rfl) | (obtain ⟨_, _, _, e, _⟩ := h; rw [e]; rfl) | (obtain ⟨_, _, _, _, e, _⟩ := h; rw [e]; rfl) | (obtain ⟨_, _, _, _, _, e, _⟩ := h; rw [e]; rfl) | (obtain ⟨_, _, _, _, _, _, e, _⟩ := h; rw [e]; rfl) | (obtain ⟨_, _, _, _, _, _, _, e, _⟩ := h; rw [e]; rfl) | (obtain ⟨_, _, _, _, _, _, _, _, e, _⟩ := h; rw [e]; rfl) | (obtain ⟨_, _, _, _, _, _, _, _, _, e, _⟩ := h; rw [e]; rfl) | (obtain ⟨_, _, _, _, _, _, _, _, _, _, e, _⟩ := h; rw [e]; rfl) | (obtain ⟨_, _, _, _, _, _, _, _, _, _, _, e, _⟩ := h; rw [e]; rfl) | (obtain ⟨_, _, _, _, _, _, _, _, _, _, _, _, e, _⟩ := h; rw [e]; rfl) | (obtain ⟨_, _, _, _, _, _, _, _, _, _, _, _, _, e, _⟩ := h; rw [e]; rfl) | (obtain ⟨_, _, _, _, _, _, _, _, _, _, _, _, _, _, e, _⟩ := h; rw [e]; rfl) | (obtain ⟨_, _, _, _, _, _, _, _, _, _, _, _, _, _, _, e, _⟩ := h; rw [e]; rfl) | (obtain ⟨_, _, _, _, _, _, _, _, _, _, _, _, _, _, _, _, e, _⟩ := h; rw [e]; rfl) | (obtain ⟨_, _, _, _, _, _, _, _, _, _, _, _, _, _, _, _, _, e, _⟩ := h; rw [e]; rfl) | (obtain ⟨_, _, _, _, _, _, _, _, _, _, _, _, _, _, _, _, _, _, e, _⟩ := h; rw [e]; rfl)) (fun cdv A outer s H vs Q E hr h => ⟨t_Yard_where K a E, (pss_cons (ps_set (i := 2) sc_Yard_where.nd rfl (Or.inl rfl) (pe_ix ix_list (pe_meth (pv 0) L.cl_Yard L.h_Yard_looked (ok_Yard_looked L) (hr.mono (by decide)) L.b_Yard_looked .nil pass0 (pa_cons (pv 1) pa_nil)) (pe_un un_neg pe_int) (fun _ _ => rfl)))
  (pss_cons (ps_if (pt_cmpR op_eq (pe_ix ix_list (pe_fld (pv 0) rfl) (pv 2) (fun _ _ => rfl)) (pv 1) (nomark _)) (pss_one (ps_ret (pv 2))) pss_nil)
  (pss_one (ps_ret pe_non)))), r_Yard_where L.fc_Yard vs H Q E h⟩)
theorem ok_Yard_put (L : Lk K mg a) : FnOk P w K mg base (L2.CX P w) 6 L.f_Yard_put L.fd_Yard_put ["self", "name"] (sp_Yard_put K a) :=
  L.F_Yard_put.okX sc_Yard_put (fun vs H Q E h => by first | (obtain ⟨e, _⟩ := h; rw [e]; rfl) | (obtain ⟨_, e, _⟩ := h; rw [e]; rfl) | (obtain ⟨_, _, e, _⟩ := h; rw [e]; rfl) | (obtain ⟨_, _, _, e, _⟩ := h; rw [e]; rfl) | (obtain ⟨_, _, _, _, e, _⟩ := h; rw [e]; rfl) | (obtain ⟨_, _, _, _, _, e, _⟩ := h; rw [e]; rfl) | (obtain ⟨_, _, _, _, _, _, e, _⟩ := h; rw [e]; rfl) | (obtain ⟨_, _, _, _, _, _, _, e, _⟩ := h; rw [e]; rfl) | (obtain ⟨_, _, _, _, _, _, _, _, e, _⟩ := h; rw [e]; rfl) | (obtain ⟨_, _, _, _, _, _, _, _, _, e, _⟩ := h; rw [e]; rfl) | (obtain ⟨_, _, _, _, _, _, _, _, _, _, e, _⟩ := h; rw [e]; rfl) | (obtain ⟨_, _, _, _, _, _, _, _, _, _, _, e, _⟩ := h; rw [e]; rfl) | (obtain ⟨_, _, _, _, _, _, _, _, _, _, _, _, e, _⟩ := h; rw [e]; rfl) | (obtain ⟨_, _, _, _, _, _, _, _, _, _, _, _, _, e, _⟩ := h; rw [e]; rfl) | (obtain ⟨_, _, _, _, _, _, _, _, _, _, _, _, _, _, e, _⟩ := h; rw [e]; rfl) | (obtain ⟨_, _, _, _, _, _, _, _, _, _, _, _, _, _, _, e, _⟩ := h; rw [e]; rfl) | (obtain ⟨_, _, _, _, _, _, _, _, _, _, _, _, _, _, _, _, e, _⟩ := h; rw [e]; rfl) | (obtain ⟨_, _, _, _, _, _, _, _, _, _, _, _, _, _, _, _, _, e, _⟩ := h; rw [e]; rfl) | (obtain ⟨_, _, _, _, _, _, _, _, _, _, _, _, _, _, _, _, _, _, e, _⟩ := h; rw [e]; rfl)) (fun cdv A outer s H vs Q E hr h => ⟨t_Yard_put K a E, (pss_cons (ps_if (pt_cmp (pc_notN (pe_meth (pv 0) L.cl_Yard L.h_Yard_where (ok_Yard_where L) (hr.mono (by decide)) L.b_Yard_where .nil pass0 (pa_cons (pv 1) pa_nil))) rfl) (pss_one (ps_raiseO rfl (takes_of rfl rfl rfl rfl) L.x_Here (by rfl))) pss_nil)
  (pss_cons (ps_if (pt_cmpR op_ge (pe_meth0 (pv 0) L.cl_Yard L.h_Yard_how_many (ok_Yard_how_many L) (hr.mono (by decide)) L.b_Yard_how_many .nil pass0 ) (pe_op op_sub (pe_fld (pv 0) rfl) pe_int) (nomark _)) (pss_one (ps_raiseO rfl (takes_of rfl rfl rfl rfl) L.x_Full (by rfl))) pss_nil)
  (pss_cons (ps_set (i := 2) sc_Yard_put.nd rfl (Or.inl rfl) (pe_lst pa_nil))
  (pss_cons (ps_set (i := 3) sc_Yard_put.nd rfl (Or.inl rfl) (pe_op op_mod (pv 1) (pe_fld (pv 0) rfl)))
  (pss_cons (ps_while (passes_of rfl) (pt_cmp (pc_notN (pe_ix ix_list (pe_fld (pv 0) rfl) (pv 3) (fun _ _ => rfl))) rfl) (pss_cons (ps_set (i := 4) sc_Yard_put.nd rfl (Or.inl rfl) (pe_ix ix_list (pe_fld (pv 0) rfl) (pv 3) (fun _ _ => rfl)))
  (pss_cons (ps_if (pt_not (pt_val (pe_call (ok_keeps L) (hr.mono (by decide)) (by rfl) L.m_keeps L.F_keeps.kp L.b_keeps .nil pass0 (pa_cons (pe_fld (pv 0) rfl) (pa_cons (pv 4) (pa_cons (pv 1) (pa_cons (pv 3) (pa_cons (pe_fld (pv 0) rfl) pa_nil)))))))) (pss_cons (ps_asg (pv 1) (pg_sub (pe_fld (pv 0) rfl) (pv 3) set_list))
  (pss_cons (ps_expr (pe_bm PySem.F.plainAttrs_list PySem.F.slot_list_append PySem.F.type_list_append mt_append (pv 2) (pa_cons (pe_tup (pa_cons (pv 1) (pa_cons (pv 3) pa_nil))) pa_nil)))
  (pss_one (ps_set (i := 1) sc_Yard_put.nd rfl (Or.inl rfl) (pv 4))))) pss_nil)
  (pss_one (ps_set (i := 3) sc_Yard_put.nd rfl (Or.inl rfl) (pe_op op_mod (pe_op op_add (pv 3) pe_int) (pe_fld (pv 0) rfl)))))))
  (pss_cons (ps_asg (pv 1) (pg_sub (pe_fld (pv 0) rfl) (pv 3) set_list))
  (pss_cons (ps_expr (pe_bm PySem.F.plainAttrs_list PySem.F.slot_list_append PySem.F.type_list_append mt_append (pv 2) (pa_cons (pe_tup (pa_cons (pv 1) (pa_cons (pv 3) pa_nil))) pa_nil)))
  (pss_one (ps_ret (pv 2)))))))))), r_Yard_put L.fc_Yard vs H Q E h⟩)
theorem ok_Yard_take (L : Lk K mg a) : FnOk P w K mg base (L2.CX P w) 6 L.f_Yard_take L.fd_Yard_take ["self", "name"] (sp_Yard_take K a) :=
  L.F_Yard_take.okX sc_Yard_take (fun vs H Q E h => by first | (obtain ⟨e, _⟩ := h; rw [e]; rfl) | (obtain ⟨_, e, _⟩ := h; rw [e]; rfl) | (obtain ⟨_, _, e, _⟩ := h; rw [e]; rfl) | (obtain ⟨_, _, _, e, _⟩ := h; rw [e]; rfl) | (obtain ⟨_, _, _, _, e, _⟩ := h; rw [e]; rfl) | (obtain ⟨_, _, _, _, _, e, _⟩ := h; rw [e]; rfl) | (obtain ⟨_, _, _, _, _, _, e, _⟩ := h; rw [e]; rfl) | (obtain ⟨_, _, _, _, _, _, _, e, _⟩ := h; rw [e]; rfl) | (obtain ⟨_, _, _, _, _, _, _, _, e, _⟩ := h; rw [e]; rfl) | (obtain ⟨_, _, _, _, _, _, _, _, _, e, _⟩ := h; rw [e]; rfl) | (obtain ⟨_, _, _, _, _, _, _, _, _, _, e, _⟩ := h; rw [e]; rfl) | (obtain ⟨_, _, _, _, _, _, _, _, _, _, _, e, _⟩ := h; rw [e]; rfl) | (obtain ⟨_, _, _, _, _, _, _, _, _, _, _, _, e, _⟩ := h; rw [e]; rfl) | (obtain ⟨_, _, _, _, _, _, _, _, _, _, _, _, _, e, _⟩ := h; rw [e]; rfl) | (obtain ⟨_, _, _, _, _, _, _, _, _, _, _, _, _, _, e, _⟩ := h; rw [e]; rfl) | (obtain ⟨_, _, _, _, _, _, _, _, _, _, _, _, _, _, _, e, _⟩ := h; rw [e]; rfl) | (obtain ⟨_, _, _, _, _, _, _, _, _, _, _, _, _, _, _, _, e, _⟩ := h; rw [e]; rfl) | (obtain ⟨_, _, _, _, _, _, _, _, _, _, _, _, _, _, _, _, _, e, _⟩ := h; rw [e]; rfl) | (obtain ⟨_, _, _, _, _, _, _, _, _, _, _, _, _, _, _, _, _, _, e, _⟩ := h; rw [e]; rfl)) (fun cdv A outer s H vs Q E hr h => ⟨t_Yard_take K a E, (pss_cons (ps_set (i := 2) sc_Yard_take.nd rfl (Or.inl rfl) (pe_meth (pv 0) L.cl_Yard L.h_Yard_where (ok_Yard_where L) (hr.mono (by decide)) L.b_Yard_where .nil pass0 (pa_cons (pv 1) pa_nil)))
  (pss_cons (ps_if (pt_cmp (pc_isN (pv 2)) rfl) (pss_one (ps_raiseO rfl (takes_of rfl rfl rfl rfl) L.x_NoCart (by rfl))) pss_nil)
  (pss_cons (ps_set (i := 3) sc_Yard_take.nd rfl (Or.inl rfl) (pe_lst pa_nil))
  (pss_cons (ps_while (passes_of rfl) (pt_cmp (pc_notN (pv 2)) rfl) (pss_cons (ps_asg pe_non (pg_sub (pe_fld (pv 0) rfl) (pv 2) set_list))
  (pss_cons (ps_set (i := 4) sc_Yard_take.nd rfl (Or.inl rfl) (pe_meth (pv 0) L.cl_Yard L.h_Yard_heir (ok_Yard_heir L) (hr.mono (by decide)) L.b_Yard_heir .nil pass0 (pa_cons (pv 2) pa_nil)))
  (pss_cons (ps_if (pt_cmp (pc_notN (pv 4)) rfl) (pss_cons (ps_asg (pe_ix ix_list (pe_fld (pv 0) rfl) (pv 4) (fun _ _ => rfl)) (pg_sub (pe_fld (pv 0) rfl) (pv 2) set_list))
  (pss_one (ps_expr (pe_bm PySem.F.plainAttrs_list PySem.F.slot_list_append PySem.F.type_list_append mt_append (pv 3) (pa_cons (pe_tup (pa_cons (pe_ix ix_list (pe_fld (pv 0) rfl) (pv 4) (fun _ _ => rfl)) (pa_cons (pv 2) pa_nil))) pa_nil))))) pss_nil)
  (pss_one (ps_set (i := 2) sc_Yard_take.nd rfl (Or.inl rfl) (pv 4)))))))
  (pss_one (ps_ret (pv 3))))))), r_Yard_take L.fc_Yard vs H Q E h⟩)
theorem ok_filled (L : Lk K mg a) : FnOk P w K mg base CX0 7 L.f_filled L.fd_filled ["yard", "names"] (sp_filled K a) :=
  L.F_filled.ok sc_filled (fun vs H Q E h => by first | (obtain ⟨e, _⟩ := h; rw [e]; rfl) | (obtain ⟨_, e, _⟩ := h; rw [e]; rfl) | (obtain ⟨_, _, e, _⟩ := h; rw [e]; rfl) | (obtain ⟨_, _, _, e, _⟩ := h; rw [e]; rfl) | (obtain ⟨_, _, _, _, e, _⟩ := h; rw [e]; rfl) | (obtain ⟨_, _, _, _, _, e, _⟩ := h; rw [e]; rfl) | (obtain ⟨_, _, _, _, _, _, e, _⟩ := h; rw [e]; rfl) | (obtain ⟨_, _, _, _, _, _, _, e, _⟩ := h; rw [e]; rfl) | (obtain ⟨_, _, _, _, _, _, _, _, e, _⟩ := h; rw [e]; rfl) | (obtain ⟨_, _, _, _, _, _, _, _, _, e, _⟩ := h; rw [e]; rfl) | (obtain ⟨_, _, _, _, _, _, _, _, _, _, e, _⟩ := h; rw [e]; rfl) | (obtain ⟨_, _, _, _, _, _, _, _, _, _, _, e, _⟩ := h; rw [e]; rfl) | (obtain ⟨_, _, _, _, _, _, _, _, _, _, _, _, e, _⟩ := h; rw [e]; rfl) | (obtain ⟨_, _, _, _, _, _, _, _, _, _, _, _, _, e, _⟩ := h; rw [e]; rfl) | (obtain ⟨_, _, _, _, _, _, _, _, _, _, _, _, _, _, e, _⟩ := h; rw [e]; rfl) | (obtain ⟨_, _, _, _, _, _, _, _, _, _, _, _, _, _, _, e, _⟩ := h; rw [e]; rfl) | (obtain ⟨_, _, _, _, _, _, _, _, _, _, _, _, _, _, _, _, e, _⟩ := h; rw [e]; rfl) | (obtain ⟨_, _, _, _, _, _, _, _, _, _, _, _, _, _, _, _, _, e, _⟩ := h; rw [e]; rfl) | (obtain ⟨_, _, _, _, _, _, _, _, _, _, _, _, _, _, _, _, _, _, e, _⟩ := h; rw [e]; rfl)) (fun cdv A outer s H vs Q E hr h => ⟨t_filled K a E, (pss_cons (ps_for PassesOwn.never rfl (pi_list (pv 1)) (pg_name (i := 2) sc_filled.nd rfl (Or.inl rfl)) (pss_one (ps_if (PW.pt (pw_and (pt_cmp (pc_notN (pv 2)) rfl) (pw_and1 (pt_cmp (pc_isN (pe_meth (pv 0) L.cl_Yard L.h_Yard_where (ok_Yard_where L) (hr.mono (by decide)) L.b_Yard_where .nil pass0 (pa_cons (pv 2) pa_nil))) rfl)))) (pss_one (ps_expr (pe_meth (pv 0) L.cl_Yard L.h_Yard_put (ok_Yard_put L) (hr.mono (by decide)) L.b_Yard_put .nil passL (pa_cons (pv 2) pa_nil)))) pss_nil)))
  (pss_one (ps_ret (pv 0)))), r_filled vs H Q E h⟩)
theorem ok_moved (L : Lk K mg a) : FnOk P w K mg base (L2.CX P w) 8 L.f_moved L.fd_moved ["yard", "many"] (sp_moved K a) :=
  L.F_moved.okX sc_moved (fun vs H Q E h => by first | (obtain ⟨e, _⟩ := h; rw [e]; rfl) | (obtain ⟨_, e, _⟩ := h; rw [e]; rfl) | (obtain ⟨_, _, e, _⟩ := h; rw [e]; rfl) | (obtain ⟨_, _, _, e, _⟩ := h; rw [e]; rfl) | (obtain ⟨_, _, _, _, e, _⟩ := h; rw [e]; rfl) | (obtain ⟨_, _, _, _, _, e, _⟩ := h; rw [e]; rfl) | (obtain ⟨_, _, _, _, _, _, e, _⟩ := h; rw [e]; rfl) | (obtain ⟨_, _, _, _, _, _, _, e, _⟩ := h; rw [e]; rfl) | (obtain ⟨_, _, _, _, _, _, _, _, e, _⟩ := h; rw [e]; rfl) | (obtain ⟨_, _, _, _, _, _, _, _, _, e, _⟩ := h; rw [e]; rfl) | (obtain ⟨_, _, _, _, _, _, _, _, _, _, e, _⟩ := h; rw [e]; rfl) | (obtain ⟨_, _, _, _, _, _, _, _, _, _, _, e, _⟩ := h; rw [e]; rfl) | (obtain ⟨_, _, _, _, _, _, _, _, _, _, _, _, e, _⟩ := h; rw [e]; rfl) | (obtain ⟨_, _, _, _, _, _, _, _, _, _, _, _, _, e, _⟩ := h; rw [e]; rfl) | (obtain ⟨_, _, _, _, _, _, _, _, _, _, _, _, _, _, e, _⟩ := h; rw [e]; rfl) | (obtain ⟨_, _, _, _, _, _, _, _, _, _, _, _, _, _, _, e, _⟩ := h; rw [e]; rfl) | (obtain ⟨_, _, _, _, _, _, _, _, _, _, _, _, _, _, _, _, e, _⟩ := h; rw [e]; rfl) | (obtain ⟨_, _, _, _, _, _, _, _, _, _, _, _, _, _, _, _, _, e, _⟩ := h; rw [e]; rfl) | (obtain ⟨_, _, _, _, _, _, _, _, _, _, _, _, _, _, _, _, _, _, e, _⟩ := h; rw [e]; rfl)) (fun cdv A outer s H vs Q E hr h => ⟨t_moved K a E, (pss_cons (ps_if (PW.pt (pw_or (pt_cmpR op_lt (pv 1) pe_int (nomark _)) (pw_or1 (pt_cmpR op_gt (pv 1) (pe_globI (by rfl) L.c_MOST) (nomark _))))) (pss_one (ps_raiseO rfl (takes_of rfl rfl rfl rfl) L.x_NoSize (by rfl))) pss_nil)
  (pss_cons (ps_if (pt_cmpR op_gt (pe_meth0 (pv 0) L.cl_Yard L.h_Yard_how_many (ok_Yard_how_many L) (hr.mono (by decide)) L.b_Yard_how_many .nil pass0 ) (pe_op op_sub (pv 1) pe_int) (nomark _)) (pss_one (ps_raiseO rfl (takes_of rfl rfl rfl rfl) L.x_Full (by rfl))) pss_nil)
  (pss_one (ps_ret (pe_call (ok_filled L) (hr.mono (by decide)) (by rfl) L.m_filled L.F_filled.kp L.b_filled .nil pass0 (pa_cons (pe_make L.k_Yard (ok_Yard__init_ L) (hr.mono (by decide)) (by rfl) L.g_Yard L.b_Yard__init_ .nil (passX (takes_of rfl rfl rfl rfl)) (pa_cons (pv 1) (pa_cons (pe_fld (pv 0) rfl) pa_nil))) (pa_cons (pe_meth0 (pv 0) L.cl_Yard L.h_Yard_stalls (ok_Yard_stalls L) (hr.mono (by decide)) L.b_Yard_stalls .nil pass0 ) pa_nil))))))), r_moved L.fc_Yard vs H Q E h⟩)
theorem ok_Book_fit (L : Lk K mg a) : FnOk P w K mg base CX0 9 L.f_Book_fit L.fd_Book_fit ["self", "count"] (sp_Book_fit K a) :=
  L.F_Book_fit.ok sc_Book_fit (fun vs H Q E h => by first | (obtain ⟨e, _⟩ := h; rw [e]; rfl) | (obtain ⟨_, e, _⟩ := h; rw [e]; rfl) | (obtain ⟨_, _, e, _⟩ := h; rw [e]; rfl) | (obtain ⟨_, _, _, e, _⟩ := h; rw [e]; rfl) | (obtain ⟨_, _, _, _, e, _⟩ := h; rw [e]; rfl) | (obtain ⟨_, _, _, _, _, e, _⟩ := h; rw [e]; rfl) | (obtain ⟨_, _, _, _, _, _, e, _⟩ := h; rw [e]; rfl) | (obtain ⟨_, _, _, _, _, _, _, e, _⟩ := h; rw [e]; rfl) | (obtain ⟨_, _, _, _, _, _, _, _, e, _⟩ := h; rw [e]; rfl) | (obtain ⟨_, _, _, _, _, _, _, _, _, e, _⟩ := h; rw [e]; rfl) | (obtain ⟨_, _, _, _, _, _, _, _, _, _, e, _⟩ := h; rw [e]; rfl) | (obtain ⟨_, _, _, _, _, _, _, _, _, _, _, e, _⟩ := h; rw [e]; rfl) | (obtain ⟨_, _, _, _, _, _, _, _, _, _, _, _, e, _⟩ := h; rw [e]; rfl) | (obtain ⟨_, _, _, _, _, _, _, _, _, _, _, _, _, e, _⟩ := h; rw [e]; rfl) | (obtain ⟨_, _, _, _, _, _, _, _, _, _, _, _, _, _, e, _⟩ := h; rw [e]; rfl) | (obtain ⟨_, _, _, _, _, _, _, _, _, _, _, _, _, _, _, e, _⟩ := h; rw [e]; rfl) | (obtain ⟨_, _, _, _, _, _, _, _, _, _, _, _, _, _, _, _, e, _⟩ := h; rw [e]; rfl) | (obtain ⟨_, _, _, _, _, _, _, _, _, _, _, _, _, _, _, _, _, e, _⟩ := h; rw [e]; rfl) | (obtain ⟨_, _, _, _, _, _, _, _, _, _, _, _, _, _, _, _, _, _, e, _⟩ := h; rw [e]; rfl)) (fun cdv A outer s H vs Q E hr h => ⟨t_Book_fit K a E, (pss_one (ps_if (pt_cmpR op_ne (pe_call (ok_size_for L) (hr.mono (by decide)) (by rfl) L.m_size_for L.F_size_for.kp L.b_size_for .nil pass0 (pa_cons (pv 1) pa_nil)) (pe_fld (pe_fld (pv 0) rfl) rfl) (nomark _)) (pss_one (ps_fld (pv 0) (pe_call (ok_moved L) (hr.mono (by decide)) (by rfl) L.m_moved L.F_moved.kp L.b_moved .nil passL (pa_cons (pe_fld (pv 0) rfl) (pa_cons (pe_call (ok_size_for L) (hr.mono (by decide)) (by rfl) L.m_size_for L.F_size_for.kp L.b_size_for .nil pass0 (pa_cons (pv 1) pa_nil)) pa_nil))) rfl)) pss_nil)), r_Book_fit L.fc_Yard L.fc_Book vs H Q E h⟩)
theorem ok_Book_write (L : Lk K mg a) : FnOk P w K mg base (L2.CX P w) 10 L.f_Book_write L.fd_Book_write ["self", "name", "worth"] (sp_Book_write K a) :=
  L.F_Book_write.okX sc_Book_write (fun vs H Q E h => by first | (obtain ⟨e, _⟩ := h; rw [e]; rfl) | (obtain ⟨_, e, _⟩ := h; rw [e]; rfl) | (obtain ⟨_, _, e, _⟩ := h; rw [e]; rfl) | (obtain ⟨_, _, _, e, _⟩ := h; rw [e]; rfl) | (obtain ⟨_, _, _, _, e, _⟩ := h; rw [e]; rfl) | (obtain ⟨_, _, _, _, _, e, _⟩ := h; rw [e]; rfl) | (obtain ⟨_, _, _, _, _, _, e, _⟩ := h; rw [e]; rfl) | (obtain ⟨_, _, _, _, _, _, _, e, _⟩ := h; rw [e]; rfl) | (obtain ⟨_, _, _, _, _, _, _, _, e, _⟩ := h; rw [e]; rfl) | (obtain ⟨_, _, _, _, _, _, _, _, _, e, _⟩ := h; rw [e]; rfl) | (obtain ⟨_, _, _, _, _, _, _, _, _, _, e, _⟩ := h; rw [e]; rfl) | (obtain ⟨_, _, _, _, _, _, _, _, _, _, _, e, _⟩ := h; rw [e]; rfl) | (obtain ⟨_, _, _, _, _, _, _, _, _, _, _, _, e, _⟩ := h; rw [e]; rfl) | (obtain ⟨_, _, _, _, _, _, _, _, _, _, _, _, _, e, _⟩ := h; rw [e]; rfl) | (obtain ⟨_, _, _, _, _, _, _, _, _, _, _, _, _, _, e, _⟩ := h; rw [e]; rfl) | (obtain ⟨_, _, _, _, _, _, _, _, _, _, _, _, _, _, _, e, _⟩ := h; rw [e]; rfl) | (obtain ⟨_, _, _, _, _, _, _, _, _, _, _, _, _, _, _, _, e, _⟩ := h; rw [e]; rfl) | (obtain ⟨_, _, _, _, _, _, _, _, _, _, _, _, _, _, _, _, _, e, _⟩ := h; rw [e]; rfl) | (obtain ⟨_, _, _, _, _, _, _, _, _, _, _, _, _, _, _, _, _, _, e, _⟩ := h; rw [e]; rfl)) (fun cdv A outer s H vs Q E hr h => ⟨t_Book_write K a E, (pss_cons (ps_set (i := 3) sc_Book_write.nd rfl (Or.inl rfl) (pe_cmp (pc_din (hu_of hr) (pv 1) (pe_fld (pv 0) rfl))))
  (pss_cons (ps_if (pt_not (pt_val (pv 3))) (pss_cons (ps_if (pt_cmpR op_eq (pe_callB call_lenD (by rfl) L.n_len PySem.boot_len (pa_cons (pe_fld (pv 0) rfl) pa_nil)) (pe_globI (by rfl) L.c_MOST_NAMES) (nomark _)) (pss_one (ps_raiseO rfl (takes_of rfl rfl rfl rfl) L.x_Full (by rfl))) pss_nil)
  (pss_cons (ps_expr (pe_meth (pv 0) L.cl_Book L.h_Book_fit (ok_Book_fit L) (hr.mono (by decide)) L.b_Book_fit .nil pass0 (pa_cons (pe_op op_add (pe_callB call_lenD (by rfl) L.n_len PySem.boot_len (pa_cons (pe_fld (pv 0) rfl) pa_nil)) pe_int) pa_nil)))
  (pss_one (ps_expr (pe_meth (pe_fld (pv 0) rfl) L.cl_Yard L.h_Yard_put (ok_Yard_put L) (hr.mono (by decide)) L.b_Yard_put .nil (passX (takes_of rfl rfl rfl rfl)) (pa_cons (pv 1) pa_nil)))))) pss_nil)
  (pss_cons (ps_dput (hu_of hr) (pe_fld (pv 0) rfl) (pv 1) (pv 2) rfl)
  (pss_one (ps_ret (pv 3)))))), r_Book_write L.fc_Book vs H Q E h⟩)
theorem ok_Book_drop (L : Lk K mg a) : FnOk P w K mg base (L2.CX P w) 10 L.f_Book_drop L.fd_Book_drop ["self", "name"] (sp_Book_drop K a) :=
  L.F_Book_drop.okX sc_Book_drop (fun vs H Q E h => by first | (obtain ⟨e, _⟩ := h; rw [e]; rfl) | (obtain ⟨_, e, _⟩ := h; rw [e]; rfl) | (obtain ⟨_, _, e, _⟩ := h; rw [e]; rfl) | (obtain ⟨_, _, _, e, _⟩ := h; rw [e]; rfl) | (obtain ⟨_, _, _, _, e, _⟩ := h; rw [e]; rfl) | (obtain ⟨_, _, _, _, _, e, _⟩ := h; rw [e]; rfl) | (obtain ⟨_, _, _, _, _, _, e, _⟩ := h; rw [e]; rfl) | (obtain ⟨_, _, _, _, _, _, _, e, _⟩ := h; rw [e]; rfl) | (obtain ⟨_, _, _, _, _, _, _, _, e, _⟩ := h; rw [e]; rfl) | (obtain ⟨_, _, _, _, _, _, _, _, _, e, _⟩ := h; rw [e]; rfl) | (obtain ⟨_, _, _, _, _, _, _, _, _, _, e, _⟩ := h; rw [e]; rfl) | (obtain ⟨_, _, _, _, _, _, _, _, _, _, _, e, _⟩ := h; rw [e]; rfl) | (obtain ⟨_, _, _, _, _, _, _, _, _, _, _, _, e, _⟩ := h; rw [e]; rfl) | (obtain ⟨_, _, _, _, _, _, _, _, _, _, _, _, _, e, _⟩ := h; rw [e]; rfl) | (obtain ⟨_, _, _, _, _, _, _, _, _, _, _, _, _, _, e, _⟩ := h; rw [e]; rfl) | (obtain ⟨_, _, _, _, _, _, _, _, _, _, _, _, _, _, _, e, _⟩ := h; rw [e]; rfl) | (obtain ⟨_, _, _, _, _, _, _, _, _, _, _, _, _, _, _, _, e, _⟩ := h; rw [e]; rfl) | (obtain ⟨_, _, _, _, _, _, _, _, _, _, _, _, _, _, _, _, _, e, _⟩ := h; rw [e]; rfl) | (obtain ⟨_, _, _, _, _, _, _, _, _, _, _, _, _, _, _, _, _, _, e, _⟩ := h; rw [e]; rfl)) (fun cdv A outer s H vs Q E hr h => ⟨t_Book_drop K a E, (pss_cons (ps_if (pt_cmp (pc_dnotin (hu_of hr) (pv 1) (pe_fld (pv 0) rfl))) (pss_one (ps_raiseO rfl (takes_of rfl rfl rfl rfl) L.x_NoCart (by rfl))) pss_nil)
  (pss_cons (ps_expr (pe_meth (pe_fld (pv 0) rfl) L.cl_Yard L.h_Yard_take (ok_Yard_take L) (hr.mono (by decide)) L.b_Yard_take .nil (passX (takes_of rfl rfl rfl rfl)) (pa_cons (pv 1) pa_nil)))
  (pss_cons (ps_set (i := 2) sc_Book_drop.nd rfl (Or.inl rfl) (pe_dpop1 (pe_fld (pv 0) rfl) (pv 1) ⟨rfl, rfl, rfl, rfl⟩))
  (pss_cons (ps_expr (pe_meth (pv 0) L.cl_Book L.h_Book_fit (ok_Book_fit L) (hr.mono (by decide)) L.b_Book_fit .nil pass0 (pa_cons (pe_callB call_lenD (by rfl) L.n_len PySem.boot_len (pa_cons (pe_fld (pv 0) rfl) pa_nil)) pa_nil)))
  (pss_one (ps_ret (pv 2))))))), r_Book_drop L.fc_Book vs H Q E h⟩)
theorem ok_law_other_way11 (L : Lk K mg a) : FnOk P w K mg base CX0 11 L.f_law_other_way11 L.fd_law_other_way11 ["book", "names", "worths", "strangers", "cell"] (sp_law_other_way11 K a) :=
  L.F_law_other_way11.ok sc_law_other_way11 (fun vs H Q E h => by first | (obtain ⟨e, _⟩ := h; rw [e]; rfl) | (obtain ⟨_, e, _⟩ := h; rw [e]; rfl) | (obtain ⟨_, _, e, _⟩ := h; rw [e]; rfl) | (obtain ⟨_, _, _, e, _⟩ := h; rw [e]; rfl) | (obtain ⟨_, _, _, _, e, _⟩ := h; rw [e]; rfl) | (obtain ⟨_, _, _, _, _, e, _⟩ := h; rw [e]; rfl) | (obtain ⟨_, _, _, _, _, _, e, _⟩ := h; rw [e]; rfl) | (obtain ⟨_, _, _, _, _, _, _, e, _⟩ := h; rw [e]; rfl) | (obtain ⟨_, _, _, _, _, _, _, _, e, _⟩ := h; rw [e]; rfl) | (obtain ⟨_, _, _, _, _, _, _, _, _, e, _⟩ := h; rw [e]; rfl) | (obtain ⟨_, _, _, _, _, _, _, _, _, _, e, _⟩ := h; rw [e]; rfl) | (obtain ⟨_, _, _, _, _, _, _, _, _, _, _, e, _⟩ := h; rw [e]; rfl) | (obtain ⟨_, _, _, _, _, _, _, _, _, _, _, _, e, _⟩ := h; rw [e]; rfl) | (obtain ⟨_, _, _, _, _, _, _, _, _, _, _, _, _, e, _⟩ := h; rw [e]; rfl) | (obtain ⟨_, _, _, _, _, _, _, _, _, _, _, _, _, _, e, _⟩ := h; rw [e]; rfl) | (obtain ⟨_, _, _, _, _, _, _, _, _, _, _, _, _, _, _, e, _⟩ := h; rw [e]; rfl) | (obtain ⟨_, _, _, _, _, _, _, _, _, _, _, _, _, _, _, _, e, _⟩ := h; rw [e]; rfl) | (obtain ⟨_, _, _, _, _, _, _, _, _, _, _, _, _, _, _, _, _, e, _⟩ := h; rw [e]; rfl) | (obtain ⟨_, _, _, _, _, _, _, _, _, _, _, _, _, _, _, _, _, _, e, _⟩ := h; rw [e]; rfl)) (fun cdv A outer s H vs Q E hr h => ⟨t_law_other_way11 K a E, (pss_cons (ps_set (i := 5) sc_law_other_way11.nd rfl (Or.inl rfl) (pe_lst pa_nil))
  (pss_cons (ps_for PassesOwn.never rfl (pi_enum (by rfl) L.n_enumerate (pa_cons (pv 1) pa_nil)) (pg_tup rfl (pgs_cons (pg_name (i := 6) sc_law_other_way11.nd rfl (Or.inl rfl)) (pgs_cons (pg_name (i := 7) sc_law_other_way11.nd rfl (Or.inl rfl)) pgs_nil))) (pss_cons (ps_set (i := 4) sc_law_other_way11.nd rfl (Or.inl rfl) (pe_op op_mod (pe_op op_add (pe_op op_mul (pv 4) pe_int) pe_int) pe_int))
  (Evl.pss_cut (ps_if (pt_cmpR op_lt (pv 6) (pe_callB call_len_seq (by rfl) L.n_len PySem.boot_len (pa_cons (pv 3) pa_nil)) (nomark _)) (pss_cons (ps_expr (pe_meth (pv 0) L.cl_Book L.h_Book_write (ok_Book_write L) (hr.mono (by decide)) L.b_Book_write .nil passL (pa_cons (pe_ix ix_list (pv 3) (pv 6) (fun _ _ => rfl)) (pa_cons (pv 6) pa_nil))))
  (pss_one (ps_expr (pe_bm PySem.F.plainAttrs_list PySem.F.slot_list_append PySem.F.type_list_append mt_append (pv 5) (pa_cons (pe_ix ix_list (pv 3) (pv 6) (fun _ _ => rfl)) pa_nil))))) pss_nil)
  (Evl.pss_cut (ps_if (pt_cmpR op_eq (pe_op op_mod (pv 4) pe_int) pe_int (nomark _)) (pss_one (ps_expr (pe_meth (pv 0) L.cl_Book L.h_Book_write (ok_Book_write L) (hr.mono (by decide)) L.b_Book_write .nil passL (pa_cons (pv 7) (pa_cons (pv 4) pa_nil))))) pss_nil)
  (Evl.pss_cut (ps_if (PW.pt (pw_and (pt_cmpR (op_neD (units64 hr)) (pv 5) (pe_lst pa_nil) (nomark _)) (pw_and1 (pt_cmpR op_eq (pe_op op_mod (pv 4) pe_int) pe_int (nomark _))))) (pss_one (ps_expr (pe_meth (pv 0) L.cl_Book L.h_Book_drop (ok_Book_drop L) (hr.mono (by decide)) L.b_Book_drop .nil passL (pa_cons (pe_bm PySem.F.plainAttrs_list PySem.F.slot_list_pop PySem.F.type_list_pop mt_popAt (pv 5) (pa_cons (pe_op op_mod (pe_op op_fdiv (pv 4) pe_int) (pe_callB call_len_seq (by rfl) L.n_len PySem.boot_len (pa_cons (pv 5) pa_nil))) pa_nil)) pa_nil)))) pss_nil)
  (pss_one (ps_expr (pe_meth (pv 0) L.cl_Book L.h_Book_write (ok_Book_write L) (hr.mono (by decide)) L.b_Book_write .nil passL (pa_cons (pv 7) (pa_cons (pe_dget (hu_of hr) (pv 2) (pv 7) (fun _ _ => rfl)) pa_nil))))))))))
  (pss_one (ps_for PassesOwn.never rfl (pi_list (pv 5)) (pg_name (i := 8) sc_law_other_way11.nd rfl (Or.inl rfl)) (pss_one (ps_expr (pe_meth (pv 0) L.cl_Book L.h_Book_drop (ok_Book_drop L) (hr.mono (by decide)) L.b_Book_drop .nil passL (pa_cons (pv 8) pa_nil)))))))), r_law_other_way11 vs H Q E h⟩)
theorem ok_law_k11 (L : Lk K mg a) : FnOk P w K mg base CX0 12 L.f_law_k11 L.fd_law_k11 ["script"] (sp_law_k11 K a) :=
  L.F_law_k11.ok sc_law_k11 (fun vs H Q E h => by first | (obtain ⟨e, _⟩ := h; rw [e]; rfl) | (obtain ⟨_, e, _⟩ := h; rw [e]; rfl) | (obtain ⟨_, _, e, _⟩ := h; rw [e]; rfl) | (obtain ⟨_, _, _, e, _⟩ := h; rw [e]; rfl) | (obtain ⟨_, _, _, _, e, _⟩ := h; rw [e]; rfl) | (obtain ⟨_, _, _, _, _, e, _⟩ := h; rw [e]; rfl) | (obtain ⟨_, _, _, _, _, _, e, _⟩ := h; rw [e]; rfl) | (obtain ⟨_, _, _, _, _, _, _, e, _⟩ := h; rw [e]; rfl) | (obtain ⟨_, _, _, _, _, _, _, _, e, _⟩ := h; rw [e]; rfl) | (obtain ⟨_, _, _, _, _, _, _, _, _, e, _⟩ := h; rw [e]; rfl) | (obtain ⟨_, _, _, _, _, _, _, _, _, _, e, _⟩ := h; rw [e]; rfl) | (obtain ⟨_, _, _, _, _, _, _, _, _, _, _, e, _⟩ := h; rw [e]; rfl) | (obtain ⟨_, _, _, _, _, _, _, _, _, _, _, _, e, _⟩ := h; rw [e]; rfl) | (obtain ⟨_, _, _, _, _, _, _, _, _, _, _, _, _, e, _⟩ := h; rw [e]; rfl) | (obtain ⟨_, _, _, _, _, _, _, _, _, _, _, _, _, _, e, _⟩ := h; rw [e]; rfl) | (obtain ⟨_, _, _, _, _, _, _, _, _, _, _, _, _, _, _, e, _⟩ := h; rw [e]; rfl) | (obtain ⟨_, _, _, _, _, _, _, _, _, _, _, _, _, _, _, _, e, _⟩ := h; rw [e]; rfl) | (obtain ⟨_, _, _, _, _, _, _, _, _, _, _, _, _, _, _, _, _, e, _⟩ := h; rw [e]; rfl) | (obtain ⟨_, _, _, _, _, _, _, _, _, _, _, _, _, _, _, _, _, _, e, _⟩ := h; rw [e]; rfl)) (fun cdv A outer s H vs Q E hr h => ⟨t_law_k11 K a E, (pss_cons (ps_set (i := 1) sc_law_k11.nd rfl (Or.inl rfl) (pe_op op_mod (pe_call (ok_law_cell L) (hr.mono (by decide)) (by rfl) L.m_law_cell L.F_law_cell.kp L.b_law_cell .nil pass0 (pa_cons (pv 0) (pa_cons pe_int pa_nil))) pe_int))
  (pss_cons (ps_set (i := 2) sc_law_k11.nd rfl (Or.inl rfl) pe_int)
  (Evl.pss_cut (ps_if (pt_cmpR op_eq (pe_op op_mod (pe_op op_fdiv (pe_call (ok_law_cell L) (hr.mono (by decide)) (by rfl) L.m_law_cell L.F_law_cell.kp L.b_law_cell .nil pass0 (pa_cons (pv 0) (pa_cons pe_int pa_nil))) pe_int) pe_int) pe_int (nomark _)) (pss_one (ps_set (i := 2) sc_law_k11.nd rfl (Or.inl rfl) (pe_op op_pow pe_int pe_int))) pss_nil)
  (pss_cons (ps_set (i := 3) sc_law_k11.nd rfl (Or.inl rfl) pe_dnewK)
  (pss_cons (ps_set (i := 4) sc_law_k11.nd rfl (Or.inl rfl) (pe_make L.k_Book (ok_Book__init_ L) (hr.mono (by decide)) (by rfl) L.g_Book L.b_Book__init_ .nil pass0 (pa_cons (pv 1) pa_nil)))
  (pss_cons (ps_for PassesOwn.never rfl (pi_enum (by rfl) L.n_enumerate (pa_cons (pe_slice sl_list (pv 0) (po_some pe_int) (po_some pe_int)) pa_nil)) (pg_tup rfl (pgs_cons (pg_name (i := 5) sc_law_k11.nd rfl (Or.inl rfl)) (pgs_cons (pg_name (i := 6) sc_law_k11.nd rfl (Or.inl rfl)) pgs_nil))) (pss_cons (ps_set (i := 7) sc_law_k11.nd rfl (Or.inl rfl) (pe_op op_mod (pe_op op_fdiv (pv 6) pe_int) (pv 2)))
  (pss_one (ps_if (pt_cmp (pc_dnotin (hu_of hr) (pv 7) (pv 3))) (pss_cons (ps_dput (hu_of hr) (pv 3) (pv 7) (pe_op op_add (pe_op op_sub (pe_op op_mod (pv 6) (pe_op op_pow pe_int pe_int)) (pe_op op_pow pe_int pe_int)) (pv 5)) rfl)
  (pss_one (ps_expr (pe_meth (pv 4) L.cl_Book L.h_Book_write (ok_Book_write L) (hr.mono (by decide)) L.b_Book_write .nil passL (pa_cons (pv 7) (pa_cons (pe_dget (hu_of hr) (pv 3) (pv 7) (fun _ _ => rfl)) pa_nil)))))) pss_nil))))
  (pss_cons (ps_set (i := 8) sc_law_k11.nd rfl (Or.inl rfl) (pe_callTy (call_list_dK rfl) (by rfl) L.n_list (by decide +kernel) (pa_cons (pv 3) pa_nil)))
  (pss_cons (ps_set (i := 9) sc_law_k11.nd rfl (Or.inl rfl) (pe_lst pa_nil))
  (pss_cons (ps_for PassesOwn.never rfl (pi_list (pe_slice sl_list (pv 0) (po_some pe_int) (po_some pe_int))) (pg_name (i := 6) sc_law_k11.nd rfl (Or.inl rfl)) (pss_one (ps_if (PW.pt (pw_and (pt_cmp (pc_dnotin (hu_of hr) (pe_op op_mod (pv 6) (pv 2)) (pv 3))) (pw_and1 (pt_cmpR op_notIn_seq (pe_op op_mod (pv 6) (pv 2)) (pv 9) rfl)))) (pss_one (ps_expr (pe_bm PySem.F.plainAttrs_list PySem.F.slot_list_append PySem.F.type_list_append mt_append (pv 9) (pa_cons (pe_op op_mod (pv 6) (pv 2)) pa_nil)))) pss_nil)))
  (pss_cons (ps_set (i := 10) sc_law_k11.nd rfl (Or.inl rfl) (pe_make L.k_Book (ok_Book__init_ L) (hr.mono (by decide)) (by rfl) L.g_Book L.b_Book__init_ .nil pass0 (pa_cons (pv 1) pa_nil)))
  (pss_cons (ps_set (i := 11) sc_law_k11.nd rfl (Or.inl rfl) (pe_call (ok_law_mixed L) (hr.mono (by decide)) (by rfl) L.m_law_mixed L.F_law_mixed.kp L.b_law_mixed .nil pass0 (pa_cons (pe_op op_mod (pe_call (ok_law_cell L) (hr.mono (by decide)) (by rfl) L.m_law_cell L.F_law_cell.kp L.b_law_cell .nil pass0 (pa_cons (pv 0) (pa_cons pe_int pa_nil))) (pe_op op_pow pe_int pe_int)) (pa_cons (pv 8) pa_nil))))
  (pss_cons (ps_expr (pe_call (ok_law_other_way11 L) (hr.mono (by decide)) (by rfl) L.m_law_other_way11 L.F_law_other_way11.kp L.b_law_other_way11 .nil pass0 (pa_cons (pv 10) (pa_cons (pv 11) (pa_cons (pv 3) (pa_cons (pv 9) (pa_cons (pe_op op_mod (pe_call (ok_law_cell L) (hr.mono (by decide)) (by rfl) L.m_law_cell L.F_law_cell.kp L.b_law_cell .nil pass0 (pa_cons (pv 0) (pa_cons pe_int pa_nil))) (pe_op op_pow pe_int pe_int)) pa_nil)))))))
  (pss_cons (ps_set (i := 12) sc_law_k11.nd rfl (Or.inl rfl) (pe_lst pa_nil))
  (pss_cons (ps_set (i := 13) sc_law_k11.nd rfl (Or.inl rfl) (pe_callB call_len_seq (by rfl) L.n_len PySem.boot_len (pa_cons (pv 8) pa_nil)))
  (Evl.pss_cut (ps_if (PW.pt (pw_and (pt_cmpR op_eq (pe_op op_mod (pe_call (ok_law_cell L) (hr.mono (by decide)) (by rfl) L.m_law_cell L.F_law_cell.kp L.b_law_cell .nil pass0 (pa_cons (pv 0) (pa_cons pe_int pa_nil))) pe_int) pe_int (nomark _)) (pw_and1 (pt_cmpR op_gt (pv 13) pe_int (nomark _))))) (pss_cons (ps_set (i := 7) sc_law_k11.nd rfl (Or.inl rfl) (pe_ix ix_list (pv 8) (pe_op op_mod (pe_op op_fdiv (pe_call (ok_law_cell L) (hr.mono (by decide)) (by rfl) L.m_law_cell L.F_law_cell.kp L.b_law_cell .nil pass0 (pa_cons (pv 0) (pa_cons pe_int pa_nil))) pe_int) (pv 13)) (fun _ _ => rfl)))
  (pss_cons (ps_expr (pe_meth (pv 10) L.cl_Book L.h_Book_write (ok_Book_write L) (hr.mono (by decide)) L.b_Book_write .nil passL (pa_cons (pv 7) (pa_cons (pe_op op_add (pe_dget (hu_of hr) (pv 3) (pv 7) (fun _ _ => rfl)) pe_int) pa_nil))))
  (pss_one (ps_set (i := 12) sc_law_k11.nd rfl (Or.inl rfl) (pe_lst (pa_cons (pe_tup (pa_cons (pv 7) (pa_cons (pe_dget (hu_of hr) (pv 3) (pv 7) (fun _ _ => rfl)) (pa_cons (pe_op op_add (pe_dget (hu_of hr) (pv 3) (pv 7) (fun _ _ => rfl)) pe_int) pa_nil)))) pa_nil)))))) pss_nil)
  (Evl.pss_cut (ps_if (PW.pt (pw_and (pt_cmpR op_eq (pe_op op_mod (pe_call (ok_law_cell L) (hr.mono (by decide)) (by rfl) L.m_law_cell L.F_law_cell.kp L.b_law_cell .nil pass0 (pa_cons (pv 0) (pa_cons pe_int pa_nil))) pe_int) pe_int (nomark _)) (pw_and1 (pt_cmpR op_gt (pv 13) pe_int (nomark _))))) (pss_cons (ps_set (i := 7) sc_law_k11.nd rfl (Or.inl rfl) (pe_ix ix_list (pv 8) (pe_op op_mod (pe_op op_fdiv (pe_call (ok_law_cell L) (hr.mono (by decide)) (by rfl) L.m_law_cell L.F_law_cell.kp L.b_law_cell .nil pass0 (pa_cons (pv 0) (pa_cons pe_int pa_nil))) pe_int) (pv 13)) (fun _ _ => rfl)))
  (pss_cons (ps_expr (pe_meth (pv 10) L.cl_Book L.h_Book_drop (ok_Book_drop L) (hr.mono (by decide)) L.b_Book_drop .nil passL (pa_cons (pv 7) pa_nil)))
  (pss_cons (ps_set (i := 12) sc_law_k11.nd rfl (Or.inl rfl) (pe_lst (pa_cons (pe_tup (pa_cons (pv 7) (pa_cons (pe_dget (hu_of hr) (pv 3) (pv 7) (fun _ _ => rfl)) (pa_cons pe_non pa_nil)))) pa_nil)))
  (pss_one (ps_set (i := 13) sc_law_k11.nd rfl (Or.inl rfl) (pe_op op_sub (pv 13) pe_int)))))) pss_nil)
  (pss_cons (ps_if (PW.pt (pw_or (pt_cmpR op_ne (pe_callB call_len_seq (by rfl) L.n_len PySem.boot_len (pa_cons (pe_meth0 (pv 4) L.cl_Book L.h_Book_layout (ok_Book_layout L) (hr.mono (by decide)) L.b_Book_layout .nil pass0 ) pa_nil)) (pe_call (ok_law_size L) (hr.mono (by decide)) (by rfl) L.m_law_size L.F_law_size.kp L.b_law_size .nil pass0 (pa_cons (pe_callB call_len_seq (by rfl) L.n_len PySem.boot_len (pa_cons (pv 8) pa_nil)) pa_nil)) (nomark _)) (pw_or1 (pt_cmpR op_ne (pe_callB call_len_seq (by rfl) L.n_len PySem.boot_len (pa_cons (pe_meth0 (pv 10) L.cl_Book L.h_Book_layout (ok_Book_layout L) (hr.mono (by decide)) L.b_Book_layout .nil pass0 ) pa_nil)) (pe_call (ok_law_size L) (hr.mono (by decide)) (by rfl) L.m_law_size L.F_law_size.kp L.b_law_size .nil pass0 (pa_cons (pv 13) pa_nil)) (nomark _))))) (pss_one (ps_ret pe_bl)) pss_nil)
  (pss_cons (ps_if (PW.pt (pw_and (pt_cmpR op_gt (pv 1) pe_int (nomark _)) (pw_and1 (pt_cmpR op_ne (pe_cmpR (op_eqD (units64 hr)) (pe_meth0 (pv 4) L.cl_Book L.h_Book_layout (ok_Book_layout L) (hr.mono (by decide)) L.b_Book_layout .nil pass0 ) (pe_meth0 (pv 10) L.cl_Book L.h_Book_layout (ok_Book_layout L) (hr.mono (by decide)) L.b_Book_layout .nil pass0 ) (nomark _)) (pe_cmpR (op_eqD (units64 hr)) (pv 12) (pe_lst pa_nil) (nomark _)) (nomark _))))) (pss_one (ps_ret pe_bl)) pss_nil)
  (pss_cons (ps_if (PW.pt (pw_or (PW.pt (pw_and (pt_cmpR op_eq (pv 13) (pe_callB call_len_seq (by rfl) L.n_len PySem.boot_len (pa_cons (pv 8) pa_nil)) (nomark _)) (pw_and1 (pt_cmpR (op_neD (units64 hr)) (pe_call (ok_law_taken11 L) (hr.mono (by decide)) (by rfl) L.m_law_taken11 L.F_law_taken11.kp L.b_law_taken11 .nil pass0 (pa_cons (pv 4) pa_nil)) (pe_call (ok_law_taken11 L) (hr.mono (by decide)) (by rfl) L.m_law_taken11 L.F_law_taken11.kp L.b_law_taken11 .nil pass0 (pa_cons (pv 10) pa_nil)) (nomark _))))) (pw_or1 (pt_cmpR (op_neD (units64 hr)) (pe_call (ok_changes L) (hr.mono (by decide)) (by rfl) L.m_changes L.F_changes.kp L.b_changes .nil pass0 (pa_cons (pv 4) (pa_cons (pv 10) pa_nil))) (pv 12) (nomark _))))) (pss_one (ps_ret pe_bl)) pss_nil)
  (pss_one (ps_ret (pe_and (pe_call (ok_law_truth L) (hr.mono (by decide)) (by rfl) L.m_law_truth L.F_law_truth.kp L.b_law_truth .nil pass0 (pa_cons (pe_call (ok_alike L) (hr.mono (by decide)) (by rfl) L.m_alike L.F_alike.kp L.b_alike .nil pass0 (pa_cons (pv 4) (pa_cons (pv 10) pa_nil))) (pa_cons (pe_cmpR (op_eqD (units64 hr)) (pv 12) (pe_lst pa_nil) (nomark _)) pa_nil))) (pe_one (pe_call (ok_law_truth L) (hr.mono (by decide)) (by rfl) L.m_law_truth L.F_law_truth.kp L.b_law_truth .nil pass0 (pa_cons (pe_call (ok_alike L) (hr.mono (by decide)) (by rfl) L.m_alike L.F_alike.kp L.b_alike .nil pass0 (pa_cons (pv 10) (pa_cons (pv 4) pa_nil))) (pa_cons (pe_cmpR (op_eqD (units64 hr)) (pv 12) (pe_lst pa_nil) (nomark _)) pa_nil)))))))))))))))))))))))))), r_law_k11 vs H Q E h⟩)
end
theorem all_mk {l : PySem.W.OpenLaw} {w : World} {K : PySem.W.Frag} {h : Heap} {mg : Str → Option Value} {fa C_Yard C_Book C_NoSize C_Here C_Full C_NoCart f0 f1 f2 f3 f4 f5 f6 f7 f8 f9 f10 f11 f12 f13 f14 f15 f16 f17 f18 f19 f20 f21 f22 f23 f24 f25 f26 f27 f28 f29 f30 : Addr} (X : K.In h) (G : h.Ns mainGlobals mg) (hfa : mg "law" = some (.ref fa))
    {od0 an0 od1 an1 od2 an2 od3 an3 od4 an4 od5 an5 od6 an6 od7 an7 od8 an8 od9 an9 od10 an10 od11 an11 od12 an12 od13 an13 od14 an14 od15 an15 od16 an16 od17 an17 od18 an18 od19 an19 od20 an20 od21 an21 od22 an22 od23 an23 od24 an24 od25 an25 od26 an26 od27 an27 od28 an28 od29 an29 od30 an30 : Option Addr} {sl0 sl1 sl2 sl3 sl4 sl5 sl6 sl7 sl8 sl9 sl10 sl11 sl12 sl13 sl14 sl15 sl16 sl17 sl18 sl19 sl20 sl21 sl22 sl23 sl24 sl25 sl26 sl27 sl28 sl29 sl30 : Array (Option Value)} {oc0 kV0 dc0 pm0 cd0 ct0 oc1 kV1 dc1 pm1 cd1 ct1 oc2 kV2 dc2 pm2 cd2 ct2 oc3 kV3 dc3 pm3 cd3 ct3 oc4 kV4 dc4 pm4 cd4 ct4 oc5 kV5 dc5 pm5 cd5 ct5 oc6 kV6 dc6 pm6 cd6 ct6 oc7 kV7 dc7 pm7 cd7 ct7 oc8 kV8 dc8 pm8 cd8 ct8 oc9 kV9 dc9 pm9 cd9 ct9 oc10 kV10 dc10 pm10 cd10 ct10 oc11 kV11 dc11 pm11 cd11 ct11 oc12 kV12 dc12 pm12 cd12 ct12 oc13 kV13 dc13 pm13 cd13 ct13 oc14 kV14 dc14 pm14 cd14 ct14 oc15 kV15 dc15 pm15 cd15 ct15 oc16 kV16 dc16 pm16 cd16 ct16 oc17 kV17 dc17 pm17 cd17 ct17 oc18 kV18 dc18 pm18 cd18 ct18 oc19 kV19 dc19 pm19 cd19 ct19 oc20 kV20 dc20 pm20 cd20 ct20 oc21 kV21 dc21 pm21 cd21 ct21 oc22 kV22 dc22 pm22 cd22 ct22 oc23 kV23 dc23 pm23 cd23 ct23 oc24 kV24 dc24 pm24 cd24 ct24 oc25 kV25 dc25 pm25 cd25 ct25 oc26 kV26 dc26 pm26 cd26 ct26 oc27 kV27 dc27 pm27 cd27 ct27 oc28 kV28 dc28 pm28 cd28 ct28 oc29 kV29 dc29 pm29 cd29 ct29 oc30 kV30 dc30 pm30 cd30 ct30 : Value} {t_MOST t_MOST_NAMES : Tok}
    (a0 : PySem.W.nsIn K mainGlobals "way" = some (some (.ref f0)))
    (l0 : K.lookup f0 = some ⟨oc0, od0, .func (PySem.W.fnOf "way" "way" (defArgs s_way) (defBody s_way) (defScope s_way) .none kV0 dc0 pm0 an0 cd0 ct0), sl0⟩)
    (c0 : PySem.W.codeIn K cd0 "way" = true)
    (k0 : PySem.W.keepIn K (.ref f0) = true)
    (a1 : PySem.W.nsIn K mainGlobals "keeps" = some (some (.ref f1)))
    (l1 : K.lookup f1 = some ⟨oc1, od1, .func (PySem.W.fnOf "keeps" "keeps" (defArgs s_keeps) (defBody s_keeps) (defScope s_keeps) .none kV1 dc1 pm1 an1 cd1 ct1), sl1⟩)
    (c1 : PySem.W.codeIn K cd1 "keeps" = true)
    (k1 : PySem.W.keepIn K (.ref f1) = true)
    (a2 : PySem.W.findIn K (.ref C_Yard) "__init__" = some (some (.ref f2)))
    (i2 : PySem.W.isFn K (.ref f2) = true)
    (l2 : K.lookup f2 = some ⟨oc2, od2, .func (PySem.W.fnOf "__init__" "Yard.__init__" (defArgs s_Yard__init_) (defBody s_Yard__init_) (defScope s_Yard__init_) .none kV2 dc2 pm2 an2 cd2 ct2), sl2⟩)
    (c2 : PySem.W.codeIn K cd2 "Yard.__init__" = true)
    (k2 : PySem.W.keepIn K (.ref f2) = true)
    (a3 : PySem.W.findIn K (.ref C_Yard) "goes_on" = some (some (.ref f3)))
    (i3 : PySem.W.isFn K (.ref f3) = true)
    (l3 : K.lookup f3 = some ⟨oc3, od3, .func (PySem.W.fnOf "goes_on" "Yard.goes_on" (defArgs s_Yard_goes_on) (defBody s_Yard_goes_on) (defScope s_Yard_goes_on) .none kV3 dc3 pm3 an3 cd3 ct3), sl3⟩)
    (c3 : PySem.W.codeIn K cd3 "Yard.goes_on" = true)
    (k3 : PySem.W.keepIn K (.ref f3) = true)
    (a4 : PySem.W.findIn K (.ref C_Yard) "looked" = some (some (.ref f4)))
    (i4 : PySem.W.isFn K (.ref f4) = true)
    (l4 : K.lookup f4 = some ⟨oc4, od4, .func (PySem.W.fnOf "looked" "Yard.looked" (defArgs s_Yard_looked) (defBody s_Yard_looked) (defScope s_Yard_looked) .none kV4 dc4 pm4 an4 cd4 ct4), sl4⟩)
    (c4 : PySem.W.codeIn K cd4 "Yard.looked" = true)
    (k4 : PySem.W.keepIn K (.ref f4) = true)
    (a5 : PySem.W.findIn K (.ref C_Yard) "where" = some (some (.ref f5)))
    (i5 : PySem.W.isFn K (.ref f5) = true)
    (l5 : K.lookup f5 = some ⟨oc5, od5, .func (PySem.W.fnOf "where" "Yard.where" (defArgs s_Yard_where) (defBody s_Yard_where) (defScope s_Yard_where) .none kV5 dc5 pm5 an5 cd5 ct5), sl5⟩)
    (c5 : PySem.W.codeIn K cd5 "Yard.where" = true)
    (k5 : PySem.W.keepIn K (.ref f5) = true)
    (a6 : PySem.W.findIn K (.ref C_Yard) "put" = some (some (.ref f6)))
    (i6 : PySem.W.isFn K (.ref f6) = true)
    (l6 : K.lookup f6 = some ⟨oc6, od6, .func (PySem.W.fnOf "put" "Yard.put" (defArgs s_Yard_put) (defBody s_Yard_put) (defScope s_Yard_put) .none kV6 dc6 pm6 an6 cd6 ct6), sl6⟩)
    (c6 : PySem.W.codeIn K cd6 "Yard.put" = true)
    (k6 : PySem.W.keepIn K (.ref f6) = true)
    (a7 : PySem.W.findIn K (.ref C_Yard) "heir" = some (some (.ref f7)))
    (i7 : PySem.W.isFn K (.ref f7) = true)
    (l7 : K.lookup f7 = some ⟨oc7, od7, .func (PySem.W.fnOf "heir" "Yard.heir" (defArgs s_Yard_heir) (defBody s_Yard_heir) (defScope s_Yard_heir) .none kV7 dc7 pm7 an7 cd7 ct7), sl7⟩)
    (c7 : PySem.W.codeIn K cd7 "Yard.heir" = true)
    (k7 : PySem.W.keepIn K (.ref f7) = true)
    (a8 : PySem.W.findIn K (.ref C_Yard) "take" = some (some (.ref f8)))
    (i8 : PySem.W.isFn K (.ref f8) = true)
    (l8 : K.lookup f8 = some ⟨oc8, od8, .func (PySem.W.fnOf "take" "Yard.take" (defArgs s_Yard_take) (defBody s_Yard_take) (defScope s_Yard_take) .none kV8 dc8 pm8 an8 cd8 ct8), sl8⟩)
    (c8 : PySem.W.codeIn K cd8 "Yard.take" = true)
    (k8 : PySem.W.keepIn K (.ref f8) = true)
    (a9 : PySem.W.findIn K (.ref C_Yard) "stalls" = some (some (.ref f9)))
    (i9 : PySem.W.isFn K (.ref f9) = true)
    (l9 : K.lookup f9 = some ⟨oc9, od9, .func (PySem.W.fnOf "stalls" "Yard.stalls" (defArgs s_Yard_stalls) (defBody s_Yard_stalls) (defScope s_Yard_stalls) .none kV9 dc9 pm9 an9 cd9 ct9), sl9⟩)
    (c9 : PySem.W.codeIn K cd9 "Yard.stalls" = true)
    (k9 : PySem.W.keepIn K (.ref f9) = true)
    (a10 : PySem.W.findIn K (.ref C_Yard) "names" = some (some (.ref f10)))
    (i10 : PySem.W.isFn K (.ref f10) = true)
    (l10 : K.lookup f10 = some ⟨oc10, od10, .func (PySem.W.fnOf "names" "Yard.names" (defArgs s_Yard_names) (defBody s_Yard_names) (defScope s_Yard_names) .none kV10 dc10 pm10 an10 cd10 ct10), sl10⟩)
    (c10 : PySem.W.codeIn K cd10 "Yard.names" = true)
    (k10 : PySem.W.keepIn K (.ref f10) = true)
    (a11 : PySem.W.findIn K (.ref C_Yard) "how_many" = some (some (.ref f11)))
    (i11 : PySem.W.isFn K (.ref f11) = true)
    (l11 : K.lookup f11 = some ⟨oc11, od11, .func (PySem.W.fnOf "how_many" "Yard.how_many" (defArgs s_Yard_how_many) (defBody s_Yard_how_many) (defScope s_Yard_how_many) .none kV11 dc11 pm11 an11 cd11 ct11), sl11⟩)
    (c11 : PySem.W.codeIn K cd11 "Yard.how_many" = true)
    (k11 : PySem.W.keepIn K (.ref f11) = true)
    (a12 : PySem.W.nsIn K mainGlobals "filled" = some (some (.ref f12)))
    (l12 : K.lookup f12 = some ⟨oc12, od12, .func (PySem.W.fnOf "filled" "filled" (defArgs s_filled) (defBody s_filled) (defScope s_filled) .none kV12 dc12 pm12 an12 cd12 ct12), sl12⟩)
    (c12 : PySem.W.codeIn K cd12 "filled" = true)
    (k12 : PySem.W.keepIn K (.ref f12) = true)
    (a13 : PySem.W.nsIn K mainGlobals "moved" = some (some (.ref f13)))
    (l13 : K.lookup f13 = some ⟨oc13, od13, .func (PySem.W.fnOf "moved" "moved" (defArgs s_moved) (defBody s_moved) (defScope s_moved) .none kV13 dc13 pm13 an13 cd13 ct13), sl13⟩)
    (c13 : PySem.W.codeIn K cd13 "moved" = true)
    (k13 : PySem.W.keepIn K (.ref f13) = true)
    (a14 : PySem.W.nsIn K mainGlobals "size_for" = some (some (.ref f14)))
    (l14 : K.lookup f14 = some ⟨oc14, od14, .func (PySem.W.fnOf "size_for" "size_for" (defArgs s_size_for) (defBody s_size_for) (defScope s_size_for) .none kV14 dc14 pm14 an14 cd14 ct14), sl14⟩)
    (c14 : PySem.W.codeIn K cd14 "size_for" = true)
    (k14 : PySem.W.keepIn K (.ref f14) = true)
    (a15 : PySem.W.findIn K (.ref C_Book) "__init__" = some (some (.ref f15)))
    (i15 : PySem.W.isFn K (.ref f15) = true)
    (l15 : K.lookup f15 = some ⟨oc15, od15, .func (PySem.W.fnOf "__init__" "Book.__init__" (defArgs s_Book__init_) (defBody s_Book__init_) (defScope s_Book__init_) .none kV15 dc15 pm15 an15 cd15 ct15), sl15⟩)
    (c15 : PySem.W.codeIn K cd15 "Book.__init__" = true)
    (k15 : PySem.W.keepIn K (.ref f15) = true)
    (a16 : PySem.W.findIn K (.ref C_Book) "fit" = some (some (.ref f16)))
    (i16 : PySem.W.isFn K (.ref f16) = true)
    (l16 : K.lookup f16 = some ⟨oc16, od16, .func (PySem.W.fnOf "fit" "Book.fit" (defArgs s_Book_fit) (defBody s_Book_fit) (defScope s_Book_fit) .none kV16 dc16 pm16 an16 cd16 ct16), sl16⟩)
    (c16 : PySem.W.codeIn K cd16 "Book.fit" = true)
    (k16 : PySem.W.keepIn K (.ref f16) = true)
    (a17 : PySem.W.findIn K (.ref C_Book) "write" = some (some (.ref f17)))
    (i17 : PySem.W.isFn K (.ref f17) = true)
    (l17 : K.lookup f17 = some ⟨oc17, od17, .func (PySem.W.fnOf "write" "Book.write" (defArgs s_Book_write) (defBody s_Book_write) (defScope s_Book_write) .none kV17 dc17 pm17 an17 cd17 ct17), sl17⟩)
    (c17 : PySem.W.codeIn K cd17 "Book.write" = true)
    (k17 : PySem.W.keepIn K (.ref f17) = true)
    (a18 : PySem.W.findIn K (.ref C_Book) "worth" = some (some (.ref f18)))
    (i18 : PySem.W.isFn K (.ref f18) = true)
    (l18 : K.lookup f18 = some ⟨oc18, od18, .func (PySem.W.fnOf "worth" "Book.worth" (defArgs s_Book_worth) (defBody s_Book_worth) (defScope s_Book_worth) .none kV18 dc18 pm18 an18 cd18 ct18), sl18⟩)
    (c18 : PySem.W.codeIn K cd18 "Book.worth" = true)
    (k18 : PySem.W.keepIn K (.ref f18) = true)
    (a19 : PySem.W.findIn K (.ref C_Book) "drop" = some (some (.ref f19)))
    (i19 : PySem.W.isFn K (.ref f19) = true)
    (l19 : K.lookup f19 = some ⟨oc19, od19, .func (PySem.W.fnOf "drop" "Book.drop" (defArgs s_Book_drop) (defBody s_Book_drop) (defScope s_Book_drop) .none kV19 dc19 pm19 an19 cd19 ct19), sl19⟩)
    (c19 : PySem.W.codeIn K cd19 "Book.drop" = true)
    (k19 : PySem.W.keepIn K (.ref f19) = true)
    (a20 : PySem.W.findIn K (.ref C_Book) "layout" = some (some (.ref f20)))
    (i20 : PySem.W.isFn K (.ref f20) = true)
    (l20 : K.lookup f20 = some ⟨oc20, od20, .func (PySem.W.fnOf "layout" "Book.layout" (defArgs s_Book_layout) (defBody s_Book_layout) (defScope s_Book_layout) .none kV20 dc20 pm20 an20 cd20 ct20), sl20⟩)
    (c20 : PySem.W.codeIn K cd20 "Book.layout" = true)
    (k20 : PySem.W.keepIn K (.ref f20) = true)
    (a21 : PySem.W.findIn K (.ref C_Book) "names" = some (some (.ref f21)))
    (i21 : PySem.W.isFn K (.ref f21) = true)
    (l21 : K.lookup f21 = some ⟨oc21, od21, .func (PySem.W.fnOf "names" "Book.names" (defArgs s_Book_names) (defBody s_Book_names) (defScope s_Book_names) .none kV21 dc21 pm21 an21 cd21 ct21), sl21⟩)
    (c21 : PySem.W.codeIn K cd21 "Book.names" = true)
    (k21 : PySem.W.keepIn K (.ref f21) = true)
    (a22 : PySem.W.nsIn K mainGlobals "alike" = some (some (.ref f22)))
    (l22 : K.lookup f22 = some ⟨oc22, od22, .func (PySem.W.fnOf "alike" "alike" (defArgs s_alike) (defBody s_alike) (defScope s_alike) .none kV22 dc22 pm22 an22 cd22 ct22), sl22⟩)
    (c22 : PySem.W.codeIn K cd22 "alike" = true)
    (k22 : PySem.W.keepIn K (.ref f22) = true)
    (a23 : PySem.W.nsIn K mainGlobals "changes" = some (some (.ref f23)))
    (l23 : K.lookup f23 = some ⟨oc23, od23, .func (PySem.W.fnOf "changes" "changes" (defArgs s_changes) (defBody s_changes) (defScope s_changes) .none kV23 dc23 pm23 an23 cd23 ct23), sl23⟩)
    (c23 : PySem.W.codeIn K cd23 "changes" = true)
    (k23 : PySem.W.keepIn K (.ref f23) = true)
    (a24 : PySem.W.nsIn K mainGlobals "_law_cell" = some (some (.ref f24)))
    (l24 : K.lookup f24 = some ⟨oc24, od24, .func (PySem.W.fnOf "_law_cell" "_law_cell" (defArgs s_law_cell) (defBody s_law_cell) (defScope s_law_cell) .none kV24 dc24 pm24 an24 cd24 ct24), sl24⟩)
    (c24 : PySem.W.codeIn K cd24 "_law_cell" = true)
    (k24 : PySem.W.keepIn K (.ref f24) = true)
    (a25 : PySem.W.nsIn K mainGlobals "_law_mixed" = some (some (.ref f25)))
    (l25 : K.lookup f25 = some ⟨oc25, od25, .func (PySem.W.fnOf "_law_mixed" "_law_mixed" (defArgs s_law_mixed) (defBody s_law_mixed) (defScope s_law_mixed) .none kV25 dc25 pm25 an25 cd25 ct25), sl25⟩)
    (c25 : PySem.W.codeIn K cd25 "_law_mixed" = true)
    (k25 : PySem.W.keepIn K (.ref f25) = true)
    (a26 : PySem.W.nsIn K mainGlobals "_law_size" = some (some (.ref f26)))
    (l26 : K.lookup f26 = some ⟨oc26, od26, .func (PySem.W.fnOf "_law_size" "_law_size" (defArgs s_law_size) (defBody s_law_size) (defScope s_law_size) .none kV26 dc26 pm26 an26 cd26 ct26), sl26⟩)
    (c26 : PySem.W.codeIn K cd26 "_law_size" = true)
    (k26 : PySem.W.keepIn K (.ref f26) = true)
    (a27 : PySem.W.nsIn K mainGlobals "_law_other_way" = some (some (.ref f27)))
    (l27 : K.lookup f27 = some ⟨oc27, od27, .func (PySem.W.fnOf "_law_other_way" "_law_other_way" (defArgs s_law_other_way11) (defBody s_law_other_way11) (defScope s_law_other_way11) .none kV27 dc27 pm27 an27 cd27 ct27), sl27⟩)
    (c27 : PySem.W.codeIn K cd27 "_law_other_way" = true)
    (k27 : PySem.W.keepIn K (.ref f27) = true)
    (a28 : PySem.W.nsIn K mainGlobals "_law_taken" = some (some (.ref f28)))
    (l28 : K.lookup f28 = some ⟨oc28, od28, .func (PySem.W.fnOf "_law_taken" "_law_taken" (defArgs s_law_taken11) (defBody s_law_taken11) (defScope s_law_taken11) .none kV28 dc28 pm28 an28 cd28 ct28), sl28⟩)
    (c28 : PySem.W.codeIn K cd28 "_law_taken" = true)
    (k28 : PySem.W.keepIn K (.ref f28) = true)
    (a29 : PySem.W.nsIn K mainGlobals "_law_truth" = some (some (.ref f29)))
    (l29 : K.lookup f29 = some ⟨oc29, od29, .func (PySem.W.fnOf "_law_truth" "_law_truth" (defArgs s_law_truth) (defBody s_law_truth) (defScope s_law_truth) .none kV29 dc29 pm29 an29 cd29 ct29), sl29⟩)
    (c29 : PySem.W.codeIn K cd29 "_law_truth" = true)
    (k29 : PySem.W.keepIn K (.ref f29) = true)
    (a30 : PySem.W.nsIn K mainGlobals "law" = some (some (.ref f30)))
    (l30 : K.lookup f30 = some ⟨oc30, od30, .func (PySem.W.fnOf "law" "law" (defArgs s_law_k11) (defBody s_law_k11) (defScope s_law_k11) .none kV30 dc30 pm30 an30 cd30 ct30), sl30⟩)
    (c30 : PySem.W.codeIn K cd30 "law" = true)
    (k30 : PySem.W.keepIn K (.ref f30) = true)
    (AYard : PySem.W.nsIn K mainGlobals "Yard" = some (some (.ref C_Yard)))
    (pgYard : PySem.W.plainGet K C_Yard Str.empty = true)
    (hdYard : PySem.W.hasDictIn K C_Yard = true)
    (poYard : PySem.W.plainOver K C_Yard = true)
    (saYard : PySem.W.findIn K (.ref C_Yard) "__setattr__" = some (some (.builtin "object.__setattr__")))
    (mkYard : PySem.W.makesIn K C_Yard = true)
    (kcYard : PySem.W.keepIn K (.ref C_Yard) = true)
    (n_manyYard : PySem.W.findIn K (.ref C_Yard) "many" = some none)
    (n_ruleYard : PySem.W.findIn K (.ref C_Yard) "rule" = some none)
    (n_rowYard : PySem.W.findIn K (.ref C_Yard) "row" = some none)
    (ABook : PySem.W.nsIn K mainGlobals "Book" = some (some (.ref C_Book)))
    (pgBook : PySem.W.plainGet K C_Book Str.empty = true)
    (hdBook : PySem.W.hasDictIn K C_Book = true)
    (poBook : PySem.W.plainOver K C_Book = true)
    (saBook : PySem.W.findIn K (.ref C_Book) "__setattr__" = some (some (.builtin "object.__setattr__")))
    (mkBook : PySem.W.makesIn K C_Book = true)
    (kcBook : PySem.W.keepIn K (.ref C_Book) = true)
    (n_yardBook : PySem.W.findIn K (.ref C_Book) "yard" = some none)
    (n_worthsBook : PySem.W.findIn K (.ref C_Book) "worths" = some none)
    (ANoSize : PySem.W.nsIn K mainGlobals "NoSize" = some (some (.ref C_NoSize)))
    (exNoSize : PySem.W.excIn K C_NoSize [.type "ValueError", .type "Exception", .type "BaseException", .type "object"] "ValueError.__new__" = true)
    (kpNoSize : PySem.W.keepIn K (.ref C_NoSize) = true)
    (sbNoSize : PySem.W.subIn K (.ref C_NoSize) (.type "BaseException") = some true)
    (tyNoSize : PySem.W.typeIn K (.ref C_NoSize) = some (.type "type"))
    (AHere : PySem.W.nsIn K mainGlobals "Here" = some (some (.ref C_Here)))
    (exHere : PySem.W.excIn K C_Here [.type "ValueError", .type "Exception", .type "BaseException", .type "object"] "ValueError.__new__" = true)
    (kpHere : PySem.W.keepIn K (.ref C_Here) = true)
    (sbHere : PySem.W.subIn K (.ref C_Here) (.type "BaseException") = some true)
    (tyHere : PySem.W.typeIn K (.ref C_Here) = some (.type "type"))
    (AFull : PySem.W.nsIn K mainGlobals "Full" = some (some (.ref C_Full)))
    (exFull : PySem.W.excIn K C_Full [.type "ValueError", .type "Exception", .type "BaseException", .type "object"] "ValueError.__new__" = true)
    (kpFull : PySem.W.keepIn K (.ref C_Full) = true)
    (sbFull : PySem.W.subIn K (.ref C_Full) (.type "BaseException") = some true)
    (tyFull : PySem.W.typeIn K (.ref C_Full) = some (.type "type"))
    (ANoCart : PySem.W.nsIn K mainGlobals "NoCart" = some (some (.ref C_NoCart)))
    (exNoCart : PySem.W.excIn K C_NoCart [.type "ValueError", .type "Exception", .type "BaseException", .type "object"] "ValueError.__new__" = true)
    (kpNoCart : PySem.W.keepIn K (.ref C_NoCart) = true)
    (sbNoCart : PySem.W.subIn K (.ref C_NoCart) (.type "BaseException") = some true)
    (tyNoCart : PySem.W.typeIn K (.ref C_NoCart) = some (.type "type"))
    (z_len : PySem.W.nsIn K mainGlobals "len" = some none)
    (z_isinstance : PySem.W.nsIn K mainGlobals "isinstance" = some none)
    (z_bool : PySem.W.nsIn K mainGlobals "bool" = some none)
    (z_list : PySem.W.nsIn K mainGlobals "list" = some none)
    (z_enumerate : PySem.W.nsIn K mainGlobals "enumerate" = some none)
    (z_sorted : PySem.W.nsIn K mainGlobals "sorted" = some none)
    (z_set : PySem.W.nsIn K mainGlobals "set" = some none)
    (w_MOST : PySem.W.nsIn K mainGlobals "MOST" = some (some (.int 200 t_MOST)))
    (w_MOST_NAMES : PySem.W.nsIn K mainGlobals "MOST_NAMES" = some (some (.int 96 t_MOST_NAMES)))
    : ∃ fd : FuncData, (∀ (s : Shared) (v : Value), BindsTo s fd ⟨[v], []⟩ [("script", v)]) ∧ ∀ base : Heap, K.In base → base.Ns mainGlobals mg → FnOk l.prog w K mg base CX0 12 fa fd ["script"] (spLaw K) := by
  have e := hfa.symm.trans (PySem.W.mg_of X G a30)
  cases e
  let L : Lk K mg { Y := C_Yard, B := C_Book, YardError := 0, NoSize := C_NoSize, Here := C_Here, Full := C_Full, NoCart := C_NoCart, NotLaid := 0, Unlike := 0, NotRead := 0, WORDS := 0 } :=
    { f_way := f0
      fd_way := _
      F_way := fun_mk (st := s_way) l0 c0 k0
      b_way := ((fun_mk (st := s_way) l0 c0 k0).binds (ps := ["name", "at", "many"]) fun _ _ _ _ _ _ us hl => match us, hl with | [_, _, _], _ => rfl)
      m_way := PySem.W.mg_of X G a0
      f_keeps := f1
      fd_keeps := _
      F_keeps := fun_mk (st := s_keeps) l1 c1 k1
      b_keeps := ((fun_mk (st := s_keeps) l1 c1 k1).binds (ps := ["rule", "one", "other", "at", "many"]) fun _ _ _ _ _ _ us hl => match us, hl with | [_, _, _, _, _], _ => rfl)
      m_keeps := PySem.W.mg_of X G a1
      f_Yard__init_ := f2
      fd_Yard__init_ := _
      F_Yard__init_ := fun_mk (st := s_Yard__init_) l2 c2 k2
      b_Yard__init_ := ((fun_mk (st := s_Yard__init_) l2 c2 k2).binds (ps := ["self", "many", "rule"]) fun _ _ _ _ _ _ us hl => match us, hl with | [_, _, _], _ => rfl)
      f_Yard_goes_on := f3
      fd_Yard_goes_on := _
      F_Yard_goes_on := fun_mk (st := s_Yard_goes_on) l3 c3 k3
      b_Yard_goes_on := ((fun_mk (st := s_Yard_goes_on) l3 c3 k3).binds (ps := ["self", "name", "at"]) fun _ _ _ _ _ _ us hl => match us, hl with | [_, _, _], _ => rfl)
      h_Yard_goes_on := ⟨a3, i3, k3⟩
      f_Yard_looked := f4
      fd_Yard_looked := _
      F_Yard_looked := fun_mk (st := s_Yard_looked) l4 c4 k4
      b_Yard_looked := ((fun_mk (st := s_Yard_looked) l4 c4 k4).binds (ps := ["self", "name"]) fun _ _ _ _ _ _ us hl => match us, hl with | [_, _], _ => rfl)
      h_Yard_looked := ⟨a4, i4, k4⟩
      f_Yard_where := f5
      fd_Yard_where := _
      F_Yard_where := fun_mk (st := s_Yard_where) l5 c5 k5
      b_Yard_where := ((fun_mk (st := s_Yard_where) l5 c5 k5).binds (ps := ["self", "name"]) fun _ _ _ _ _ _ us hl => match us, hl with | [_, _], _ => rfl)
      h_Yard_where := ⟨a5, i5, k5⟩
      f_Yard_put := f6
      fd_Yard_put := _
      F_Yard_put := fun_mk (st := s_Yard_put) l6 c6 k6
      b_Yard_put := ((fun_mk (st := s_Yard_put) l6 c6 k6).binds (ps := ["self", "name"]) fun _ _ _ _ _ _ us hl => match us, hl with | [_, _], _ => rfl)
      h_Yard_put := ⟨a6, i6, k6⟩
      f_Yard_heir := f7
      fd_Yard_heir := _
      F_Yard_heir := fun_mk (st := s_Yard_heir) l7 c7 k7
      b_Yard_heir := ((fun_mk (st := s_Yard_heir) l7 c7 k7).binds (ps := ["self", "gap"]) fun _ _ _ _ _ _ us hl => match us, hl with | [_, _], _ => rfl)
      h_Yard_heir := ⟨a7, i7, k7⟩
      f_Yard_take := f8
      fd_Yard_take := _
      F_Yard_take := fun_mk (st := s_Yard_take) l8 c8 k8
      b_Yard_take := ((fun_mk (st := s_Yard_take) l8 c8 k8).binds (ps := ["self", "name"]) fun _ _ _ _ _ _ us hl => match us, hl with | [_, _], _ => rfl)
      h_Yard_take := ⟨a8, i8, k8⟩
      f_Yard_stalls := f9
      fd_Yard_stalls := _
      F_Yard_stalls := fun_mk (st := s_Yard_stalls) l9 c9 k9
      b_Yard_stalls := ((fun_mk (st := s_Yard_stalls) l9 c9 k9).binds (ps := ["self"]) fun _ _ _ _ _ _ us hl => match us, hl with | [_], _ => rfl)
      h_Yard_stalls := ⟨a9, i9, k9⟩
      f_Yard_names := f10
      fd_Yard_names := _
      F_Yard_names := fun_mk (st := s_Yard_names) l10 c10 k10
      b_Yard_names := ((fun_mk (st := s_Yard_names) l10 c10 k10).binds (ps := ["self"]) fun _ _ _ _ _ _ us hl => match us, hl with | [_], _ => rfl)
      h_Yard_names := ⟨a10, i10, k10⟩
      f_Yard_how_many := f11
      fd_Yard_how_many := _
      F_Yard_how_many := fun_mk (st := s_Yard_how_many) l11 c11 k11
      b_Yard_how_many := ((fun_mk (st := s_Yard_how_many) l11 c11 k11).binds (ps := ["self"]) fun _ _ _ _ _ _ us hl => match us, hl with | [_], _ => rfl)
      h_Yard_how_many := ⟨a11, i11, k11⟩
      f_filled := f12
      fd_filled := _
      F_filled := fun_mk (st := s_filled) l12 c12 k12
      b_filled := ((fun_mk (st := s_filled) l12 c12 k12).binds (ps := ["yard", "names"]) fun _ _ _ _ _ _ us hl => match us, hl with | [_, _], _ => rfl)
      m_filled := PySem.W.mg_of X G a12
      f_moved := f13
      fd_moved := _
      F_moved := fun_mk (st := s_moved) l13 c13 k13
      b_moved := ((fun_mk (st := s_moved) l13 c13 k13).binds (ps := ["yard", "many"]) fun _ _ _ _ _ _ us hl => match us, hl with | [_, _], _ => rfl)
      m_moved := PySem.W.mg_of X G a13
      f_size_for := f14
      fd_size_for := _
      F_size_for := fun_mk (st := s_size_for) l14 c14 k14
      b_size_for := ((fun_mk (st := s_size_for) l14 c14 k14).binds (ps := ["count"]) fun _ _ _ _ _ _ us hl => match us, hl with | [_], _ => rfl)
      m_size_for := PySem.W.mg_of X G a14
      f_Book__init_ := f15
      fd_Book__init_ := _
      F_Book__init_ := fun_mk (st := s_Book__init_) l15 c15 k15
      b_Book__init_ := ((fun_mk (st := s_Book__init_) l15 c15 k15).binds (ps := ["self", "rule"]) fun _ _ _ _ _ _ us hl => match us, hl with | [_, _], _ => rfl)
      f_Book_fit := f16
      fd_Book_fit := _
      F_Book_fit := fun_mk (st := s_Book_fit) l16 c16 k16
      b_Book_fit := ((fun_mk (st := s_Book_fit) l16 c16 k16).binds (ps := ["self", "count"]) fun _ _ _ _ _ _ us hl => match us, hl with | [_, _], _ => rfl)
      h_Book_fit := ⟨a16, i16, k16⟩
      f_Book_write := f17
      fd_Book_write := _
      F_Book_write := fun_mk (st := s_Book_write) l17 c17 k17
      b_Book_write := ((fun_mk (st := s_Book_write) l17 c17 k17).binds (ps := ["self", "name", "worth"]) fun _ _ _ _ _ _ us hl => match us, hl with | [_, _, _], _ => rfl)
      h_Book_write := ⟨a17, i17, k17⟩
      f_Book_worth := f18
      fd_Book_worth := _
      F_Book_worth := fun_mk (st := s_Book_worth) l18 c18 k18
      b_Book_worth := ((fun_mk (st := s_Book_worth) l18 c18 k18).binds (ps := ["self", "name"]) fun _ _ _ _ _ _ us hl => match us, hl with | [_, _], _ => rfl)
      h_Book_worth := ⟨a18, i18, k18⟩
      f_Book_drop := f19
      fd_Book_drop := _
      F_Book_drop := fun_mk (st := s_Book_drop) l19 c19 k19
      b_Book_drop := ((fun_mk (st := s_Book_drop) l19 c19 k19).binds (ps := ["self", "name"]) fun _ _ _ _ _ _ us hl => match us, hl with | [_, _], _ => rfl)
      h_Book_drop := ⟨a19, i19, k19⟩
      f_Book_layout := f20
      fd_Book_layout := _
      F_Book_layout := fun_mk (st := s_Book_layout) l20 c20 k20
      b_Book_layout := ((fun_mk (st := s_Book_layout) l20 c20 k20).binds (ps := ["self"]) fun _ _ _ _ _ _ us hl => match us, hl with | [_], _ => rfl)
      h_Book_layout := ⟨a20, i20, k20⟩
      f_Book_names := f21
      fd_Book_names := _
      F_Book_names := fun_mk (st := s_Book_names) l21 c21 k21
      b_Book_names := ((fun_mk (st := s_Book_names) l21 c21 k21).binds (ps := ["self"]) fun _ _ _ _ _ _ us hl => match us, hl with | [_], _ => rfl)
      h_Book_names := ⟨a21, i21, k21⟩
      f_alike := f22
      fd_alike := _
      F_alike := fun_mk (st := s_alike) l22 c22 k22
      b_alike := ((fun_mk (st := s_alike) l22 c22 k22).binds (ps := ["one", "other"]) fun _ _ _ _ _ _ us hl => match us, hl with | [_, _], _ => rfl)
      m_alike := PySem.W.mg_of X G a22
      f_changes := f23
      fd_changes := _
      F_changes := fun_mk (st := s_changes) l23 c23 k23
      b_changes := ((fun_mk (st := s_changes) l23 c23 k23).binds (ps := ["one", "other"]) fun _ _ _ _ _ _ us hl => match us, hl with | [_, _], _ => rfl)
      m_changes := PySem.W.mg_of X G a23
      f_law_cell := f24
      fd_law_cell := _
      F_law_cell := fun_mk (st := s_law_cell) l24 c24 k24
      b_law_cell := ((fun_mk (st := s_law_cell) l24 c24 k24).binds (ps := ["script", "k"]) fun _ _ _ _ _ _ us hl => match us, hl with | [_, _], _ => rfl)
      m_law_cell := PySem.W.mg_of X G a24
      f_law_mixed := f25
      fd_law_mixed := _
      F_law_mixed := fun_mk (st := s_law_mixed) l25 c25 k25
      b_law_mixed := ((fun_mk (st := s_law_mixed) l25 c25 k25).binds (ps := ["cell", "row"]) fun _ _ _ _ _ _ us hl => match us, hl with | [_, _], _ => rfl)
      m_law_mixed := PySem.W.mg_of X G a25
      f_law_size := f26
      fd_law_size := _
      F_law_size := fun_mk (st := s_law_size) l26 c26 k26
      b_law_size := ((fun_mk (st := s_law_size) l26 c26 k26).binds (ps := ["count"]) fun _ _ _ _ _ _ us hl => match us, hl with | [_], _ => rfl)
      m_law_size := PySem.W.mg_of X G a26
      f_law_other_way11 := f27
      fd_law_other_way11 := _
      F_law_other_way11 := fun_mk (st := s_law_other_way11) l27 c27 k27
      b_law_other_way11 := ((fun_mk (st := s_law_other_way11) l27 c27 k27).binds (ps := ["book", "names", "worths", "strangers", "cell"]) fun _ _ _ _ _ _ us hl => match us, hl with | [_, _, _, _, _], _ => rfl)
      m_law_other_way11 := PySem.W.mg_of X G a27
      f_law_taken11 := f28
      fd_law_taken11 := _
      F_law_taken11 := fun_mk (st := s_law_taken11) l28 c28 k28
      b_law_taken11 := ((fun_mk (st := s_law_taken11) l28 c28 k28).binds (ps := ["book"]) fun _ _ _ _ _ _ us hl => match us, hl with | [_], _ => rfl)
      m_law_taken11 := PySem.W.mg_of X G a28
      f_law_truth := f29
      fd_law_truth := _
      F_law_truth := fun_mk (st := s_law_truth) l29 c29 k29
      b_law_truth := ((fun_mk (st := s_law_truth) l29 c29 k29).binds (ps := ["found", "due"]) fun _ _ _ _ _ _ us hl => match us, hl with | [_, _], _ => rfl)
      m_law_truth := PySem.W.mg_of X G a29
      f_law_k11 := fa
      fd_law_k11 := _
      F_law_k11 := fun_mk (st := s_law_k11) l30 c30 k30
      b_law_k11 := ((fun_mk (st := s_law_k11) l30 c30 k30).binds (ps := ["script"]) fun _ _ _ _ _ _ us hl => match us, hl with | [_], _ => rfl)
      g_Yard := PySem.W.mg_of X G AYard
      cl_Yard := ⟨pgYard, hdYard, poYard, saYard⟩
      k_Yard := ⟨mkYard, a2, i2, kcYard⟩
      fc_Yard := ⟨⟨pgYard, hdYard, poYard, saYard⟩, n_manyYard, n_ruleYard, n_rowYard⟩
      g_Book := PySem.W.mg_of X G ABook
      cl_Book := ⟨pgBook, hdBook, poBook, saBook⟩
      k_Book := ⟨mkBook, a15, i15, kcBook⟩
      fc_Book := ⟨⟨pgBook, hdBook, poBook, saBook⟩, n_yardBook, n_worthsBook⟩
      x_NoSize := ⟨PySem.W.mg_of X G ANoSize, exNoSize, kpNoSize, sbNoSize, tyNoSize⟩
      x_Here := ⟨PySem.W.mg_of X G AHere, exHere, kpHere, sbHere, tyHere⟩
      x_Full := ⟨PySem.W.mg_of X G AFull, exFull, kpFull, sbFull, tyFull⟩
      x_NoCart := ⟨PySem.W.mg_of X G ANoCart, exNoCart, kpNoCart, sbNoCart, tyNoCart⟩
      n_len := PySem.W.mg_none_of X G z_len
      n_isinstance := PySem.W.mg_none_of X G z_isinstance
      n_bool := PySem.W.mg_none_of X G z_bool
      n_list := PySem.W.mg_none_of X G z_list
      n_enumerate := PySem.W.mg_none_of X G z_enumerate
      n_sorted := PySem.W.mg_none_of X G z_sorted
      n_set := PySem.W.mg_none_of X G z_set
      c_MOST := ⟨_, PySem.W.mg_of X G w_MOST⟩
      c_MOST_NAMES := ⟨_, PySem.W.mg_of X G w_MOST_NAMES⟩ }
  exact ⟨L.fd_law_k11, fun s v => .of_eq rfl, fun base _ _ => ok_law_k11 L⟩
theorem walk {l : PySem.W.OpenLaw} {q : Program} {loose : List Str} {XP : (Str → Option Value) → Heap → Prop} {YP : World → Heap → Prop} {d : DefRec} {K : Params → PySem.W.Frag} (hn : l.most = some 63) (hdf : d.params.defaults = [])
    (hY : ∀ (w : World) (h : Heap), YP w h → (K w.params).In h)
    (F : ∀ (w : World) (mg : Str → Option Value) (fa : Addr) (h : Heap), (K w.params).In h → h.Ns mainGlobals mg → mg d.name = some (.ref fa) →
      ∃ fd : FuncData, (∀ (s : Shared) (u : Value), BindsTo s fd ⟨[u], []⟩ [("script", u)]) ∧ ∀ base : Heap, (K w.params).In base → base.Ns mainGlobals mg → FnOk l.prog w (K w.params) mg base CX0 12 fa fd ["script"] (spLaw (K w.params))) :
    PySem.W.WalkO q loose XP YP l.row.toRowW d [] (fun f vs => PySem.call f vs) :=
  L2.walk_of (n := 63) (k := 12) (x := "script") (CX := fun _ => CX0) (sp := fun w => spLaw (K w.params)) hn (by decide) hdf ⟨rfl, by decide, by decide⟩ hY F (fun _ _ a ns hl _ hS => ⟨a, ns, rfl, hS, hl, fun _ => rfl⟩) fun _ _ _ _ _ z => z
end SY
open PySem PySem.W PyProof.Rows
set_option maxRecDepth 100000 in
set_option maxHeartbeats 0 in
theorem PySem.Challenge.cw_stallyard_k11_whole_books_stand_alike_holds : PySem.Challenge.rw_stallyard_k11_whole_books_stand_alike.Holds := by
  w_on; o_law; k_head; (case hw => w_witness2)
  k_fill
  refine SY.walk (l := PySem.Challenge.rw_stallyard_k11_whole_books_stand_alike) rfl rfl (fun w h Y => PySem.W.kIn_of Y) ?F
  case F =>
    intro w mg fa h KX G hmg
    refine' SY.all_mk KX G hmg ?a0 ?l0 ?c0 ?k0 ?a1 ?l1 ?c1 ?k1 ?a2 ?i2 ?l2 ?c2 ?k2 ?a3 ?i3 ?l3 ?c3 ?k3 ?a4 ?i4 ?l4 ?c4 ?k4 ?a5 ?i5 ?l5 ?c5 ?k5 ?a6 ?i6 ?l6 ?c6 ?k6 ?a7 ?i7 ?l7 ?c7 ?k7 ?a8 ?i8 ?l8 ?c8 ?k8 ?a9 ?i9 ?l9 ?c9 ?k9 ?a10 ?i10 ?l10 ?c10 ?k10 ?a11 ?i11 ?l11 ?c11 ?k11 ?a12 ?l12 ?c12 ?k12 ?a13 ?l13 ?c13 ?k13 ?a14 ?l14 ?c14 ?k14 ?a15 ?i15 ?l15 ?c15 ?k15 ?a16 ?i16 ?l16 ?c16 ?k16 ?a17 ?i17 ?l17 ?c17 ?k17 ?a18 ?i18 ?l18 ?c18 ?k18 ?a19 ?i19 ?l19 ?c19 ?k19 ?a20 ?i20 ?l20 ?c20 ?k20 ?a21 ?i21 ?l21 ?c21 ?k21 ?a22 ?l22 ?c22 ?k22 ?a23 ?l23 ?c23 ?k23 ?a24 ?l24 ?c24 ?k24 ?a25 ?l25 ?c25 ?k25 ?a26 ?l26 ?c26 ?k26 ?a27 ?l27 ?c27 ?k27 ?a28 ?l28 ?c28 ?k28 ?a29 ?l29 ?c29 ?k29 ?a30 ?l30 ?c30 ?k30 ?AYard ?pgYard ?hdYard ?poYard ?saYard ?mkYard ?kcYard ?n_manyYard ?n_ruleYard ?n_rowYard ?ABook ?pgBook ?hdBook ?poBook ?saBook ?mkBook ?kcBook ?n_yardBook ?n_worthsBook ?ANoSize ?exNoSize ?kpNoSize ?sbNoSize ?tyNoSize ?AHere ?exHere ?kpHere ?sbHere ?tyHere ?AFull ?exFull ?kpFull ?sbFull ?tyFull ?ANoCart ?exNoCart ?kpNoCart ?sbNoCart ?tyNoCart ?z_len ?z_isinstance ?z_bool ?z_list ?z_enumerate ?z_sorted ?z_set ?w_MOST ?w_MOST_NAMES
    (case AYard => first | k_is | k_exc)
    (case ABook => first | k_is | k_exc)
    (case ANoSize => first | k_is | k_exc)
    (case AHere => first | k_is | k_exc)
    (case AFull => first | k_is | k_exc)
    (case ANoCart => first | k_is | k_exc)
    (case a0 => first | k_is | k_exc)
    (case l0 => first | k_is | k_exc)
    (case c0 => first | k_is | k_exc)
    (case k0 => first | k_is | k_exc)
    (case a1 => first | k_is | k_exc)
    (case l1 => first | k_is | k_exc)
    (case c1 => first | k_is | k_exc)
    (case k1 => first | k_is | k_exc)
    (case a2 => first | k_is | k_exc)
    (case i2 => first | k_is | k_exc)
    (case l2 => first | k_is | k_exc)
    (case c2 => first | k_is | k_exc)
    (case k2 => first | k_is | k_exc)
    (case a3 => first | k_is | k_exc)
    (case i3 => first | k_is | k_exc)
    (case l3 => first | k_is | k_exc)
    (case c3 => first | k_is | k_exc)
    (case k3 => first | k_is | k_exc)
    (case a4 => first | k_is | k_exc)
    (case i4 => first | k_is | k_exc)
    (case l4 => first | k_is | k_exc)
    (case c4 => first | k_is | k_exc)
    (case k4 => first | k_is | k_exc)
    (case a5 => first | k_is | k_exc)
    (case i5 => first | k_is | k_exc)
    (case l5 => first | k_is | k_exc)
    (case c5 => first | k_is | k_exc)
    (case k5 => first | k_is | k_exc)
    (case a6 => first | k_is | k_exc)
    (case i6 => first | k_is | k_exc)
    (case l6 => first | k_is | k_exc)
    (case c6 => first | k_is | k_exc)
    (case k6 => first | k_is | k_exc)
    (case a7 => first | k_is | k_exc)
    (case i7 => first | k_is | k_exc)
    (case l7 => first | k_is | k_exc)
    (case c7 => first | k_is | k_exc)
    (case k7 => first | k_is | k_exc)
    (case a8 => first | k_is | k_exc)
    (case i8 => first | k_is | k_exc)
    (case l8 => first | k_is | k_exc)
    (case c8 => first | k_is | k_exc)
    (case k8 => first | k_is | k_exc)
    (case a9 => first | k_is | k_exc)
    (case i9 => first | k_is | k_exc)
    (case l9 => first | k_is | k_exc)
    (case c9 => first | k_is | k_exc)
    (case k9 => first | k_is | k_exc)
    (case a10 => first | k_is | k_exc)
    (case i10 => first | k_is | k_exc)
    (case l10 => first | k_is | k_exc)
    (case c10 => first | k_is | k_exc)
    (case k10 => first | k_is | k_exc)
    (case a11 => first | k_is | k_exc)
    (case i11 => first | k_is | k_exc)
    (case l11 => first | k_is | k_exc)
    (case c11 => first | k_is | k_exc)
    (case k11 => first | k_is | k_exc)
    (case a12 => first | k_is | k_exc)
    (case l12 => first | k_is | k_exc)
    (case c12 => first | k_is | k_exc)
    (case k12 => first | k_is | k_exc)
    (case a13 => first | k_is | k_exc)
    (case l13 => first | k_is | k_exc)
    (case c13 => first | k_is | k_exc)
    (case k13 => first | k_is | k_exc)
    (case a14 => first | k_is | k_exc)
    (case l14 => first | k_is | k_exc)
    (case c14 => first | k_is | k_exc)
    (case k14 => first | k_is | k_exc)
    (case a15 => first | k_is | k_exc)
    (case i15 => first | k_is | k_exc)
    (case l15 => first | k_is | k_exc)
    (case c15 => first | k_is | k_exc)
    (case k15 => first | k_is | k_exc)
    (case a16 => first | k_is | k_exc)
    (case i16 => first | k_is | k_exc)
    (case l16 => first | k_is | k_exc)
    (case c16 => first | k_is | k_exc)
    (case k16 => first | k_is | k_exc)
    (case a17 => first | k_is | k_exc)
    (case i17 => first | k_is | k_exc)
    (case l17 => first | k_is | k_exc)
    (case c17 => first | k_is | k_exc)
    (case k17 => first | k_is | k_exc)
    (case a18 => first | k_is | k_exc)
    (case i18 => first | k_is | k_exc)
    (case l18 => first | k_is | k_exc)
    (case c18 => first | k_is | k_exc)
    (case k18 => first | k_is | k_exc)
    (case a19 => first | k_is | k_exc)
    (case i19 => first | k_is | k_exc)
    (case l19 => first | k_is | k_exc)
    (case c19 => first | k_is | k_exc)
    (case k19 => first | k_is | k_exc)
    (case a20 => first | k_is | k_exc)
    (case i20 => first | k_is | k_exc)
    (case l20 => first | k_is | k_exc)
    (case c20 => first | k_is | k_exc)
    (case k20 => first | k_is | k_exc)
    (case a21 => first | k_is | k_exc)
    (case i21 => first | k_is | k_exc)
    (case l21 => first | k_is | k_exc)
    (case c21 => first | k_is | k_exc)
    (case k21 => first | k_is | k_exc)
    (case a22 => first | k_is | k_exc)
    (case l22 => first | k_is | k_exc)
    (case c22 => first | k_is | k_exc)
    (case k22 => first | k_is | k_exc)
    (case a23 => first | k_is | k_exc)
    (case l23 => first | k_is | k_exc)
    (case c23 => first | k_is | k_exc)
    (case k23 => first | k_is | k_exc)
    (case a24 => first | k_is | k_exc)
    (case l24 => first | k_is | k_exc)
    (case c24 => first | k_is | k_exc)
    (case k24 => first | k_is | k_exc)
    (case a25 => first | k_is | k_exc)
    (case l25 => first | k_is | k_exc)
    (case c25 => first | k_is | k_exc)
    (case k25 => first | k_is | k_exc)
    (case a26 => first | k_is | k_exc)
    (case l26 => first | k_is | k_exc)
    (case c26 => first | k_is | k_exc)
    (case k26 => first | k_is | k_exc)
    (case a27 => first | k_is | k_exc)
    (case l27 => first | k_is | k_exc)
    (case c27 => first | k_is | k_exc)
    (case k27 => first | k_is | k_exc)
    (case a28 => first | k_is | k_exc)
    (case l28 => first | k_is | k_exc)
    (case c28 => first | k_is | k_exc)
    (case k28 => first | k_is | k_exc)
    (case a29 => first | k_is | k_exc)
    (case l29 => first | k_is | k_exc)
    (case c29 => first | k_is | k_exc)
    (case k29 => first | k_is | k_exc)
    (case a30 => first | k_is | k_exc)
    (case l30 => first | k_is | k_exc)
    (case c30 => first | k_is | k_exc)
    (case k30 => first | k_is | k_exc)
    (case pgYard => first | k_is | k_exc)
    (case hdYard => first | k_is | k_exc)
    (case poYard => first | k_is | k_exc)
    (case saYard => first | k_is | k_exc)
    (case mkYard => first | k_is | k_exc)
    (case kcYard => first | k_is | k_exc)
    (case n_manyYard => first | k_is | k_exc)
    (case n_ruleYard => first | k_is | k_exc)
    (case n_rowYard => first | k_is | k_exc)
    (case pgBook => first | k_is | k_exc)
    (case hdBook => first | k_is | k_exc)
    (case poBook => first | k_is | k_exc)
    (case saBook => first | k_is | k_exc)
    (case mkBook => first | k_is | k_exc)
    (case kcBook => first | k_is | k_exc)
    (case n_yardBook => first | k_is | k_exc)
    (case n_worthsBook => first | k_is | k_exc)
    (case exNoSize => first | k_is | k_exc)
    (case kpNoSize => first | k_is | k_exc)
    (case sbNoSize => first | k_is | k_exc)
    (case tyNoSize => first | k_is | k_exc)
    (case exHere => first | k_is | k_exc)
    (case kpHere => first | k_is | k_exc)
    (case sbHere => first | k_is | k_exc)
    (case tyHere => first | k_is | k_exc)
    (case exFull => first | k_is | k_exc)
    (case kpFull => first | k_is | k_exc)
    (case sbFull => first | k_is | k_exc)
    (case tyFull => first | k_is | k_exc)
    (case exNoCart => first | k_is | k_exc)
    (case kpNoCart => first | k_is | k_exc)
    (case sbNoCart => first | k_is | k_exc)
    (case tyNoCart => first | k_is | k_exc)
    (case z_len => first | k_is | k_exc)
    (case z_isinstance => first | k_is | k_exc)
    (case z_bool => first | k_is | k_exc)
    (case z_list => first | k_is | k_exc)
    (case z_enumerate => first | k_is | k_exc)
    (case z_sorted => first | k_is | k_exc)
    (case z_set => first | k_is | k_exc)
    (case w_MOST => first | k_is | k_exc)
    (case w_MOST_NAMES => first | k_is | k_exc)
